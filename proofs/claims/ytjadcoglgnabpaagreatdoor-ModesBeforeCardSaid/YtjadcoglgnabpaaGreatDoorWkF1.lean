/- Runs of the abstract machine: values of calls. -/
import Derived.Test.YtjadcoglgnabpaaGreatDoorWkKn
import Derived.KernelRfl
namespace Go.Proofs.YtjadcoglgnabpaaGreatDoor
open Go Go.Abs
noncomputable section
set_option maxRecDepth 1000000 in
theorem wkF21 : callV Tryz.prog (wkEv.with wkKn1) 37920 18 [.str 1 48, .str 1 48] wkH 0 = some (.tup [.str 1 48, .int 0 (.ofNat 0)]) := by kernel_rfl
set_option maxRecDepth 1000000 in
theorem wkF22 : callV Tryz.prog (wkEv.with wkKn2) 4040 48 [.agg [.int 0 (.ofNat 0), .str 1 48, .int 0 (.ofNat 3)], .agg [.int 0 (.ofNat 0), .str 1 48, .int 0 (.ofNat 1)]] wkH 0 = some (.int 0 (.negSucc 0)) := by kernel_rfl
set_option maxRecDepth 1000000 in
theorem wkF23 : callV Tryz.prog (wkEv.with wkKn1) 41210 18 [.str 3 3485232, .str 1 48] wkH 0 = some (.tup [.str 3 3485232, .int 0 (.ofNat 0)]) := by kernel_rfl
set_option maxRecDepth 1000000 in
theorem wkF24 : callV Tryz.prog (wkEv.with wkKn2) 4100 48 [.agg [.int 0 (.ofNat 0), .str 1 48, .int 0 (.ofNat 3)], .agg [.int 0 (.ofNat 0), .str 3 3485232, .int 0 (.ofNat 2)]] wkH 0 = some (.int 0 (.ofNat 1)) := by kernel_rfl
set_option maxRecDepth 1000000 in
theorem wkF25 : callV Tryz.prog wkEv 3480 287 [.slcN] wkH 0 = some (.tup [.slcN, .int 0 (.ofNat 0)]) := by kernel_rfl
set_option maxRecDepth 1000000 in
theorem wkF26 : callV Tryz.prog (wkEv.with wkKn1) 17160 17 [.str 1 53] wkH 0 = some (.tup [.str 1 53, .int 0 (.ofNat 0)]) := by kernel_rfl
end
end Go.Proofs.YtjadcoglgnabpaaGreatDoor
