/- Runs of the abstract machine: values of calls. -/
import Derived.Test.YtlhedmifkfipcaaGreatDoorPkKn
import Derived.KernelRfl
namespace Go.Proofs.YtlhedmifkfipcaaGreatDoor
open Go Go.Abs
noncomputable section
set_option maxRecDepth 1000000 in
theorem pkF0 : callV Tryz.prog pkEv 314 32 [.str 9 1816802227596708379489] pkH 24 = some (.bool true) := by kernel_rfl
set_option maxRecDepth 1000000 in
theorem pkF1 : callV Tryz.prog pkEv 202 32 [.str 5 215288062001] pkH 24 = some (.bool true) := by kernel_rfl
set_option maxRecDepth 1000000 in
theorem pkF2 : callV Tryz.prog pkEv 212 48 [.str 1 32] pkH 24 = some (.bool false) := by kernel_rfl
set_option maxRecDepth 1000000 in
theorem pkF3 : callV Tryz.prog pkEv 212 48 [.str 1 43] pkH 24 = some (.bool false) := by kernel_rfl
set_option maxRecDepth 1000000 in
theorem pkF4 : callV Tryz.prog pkEv 138 344 [.str 1 49, .str 2 17765] pkH 24 = some (.bool false) := by kernel_rfl
set_option maxRecDepth 1000000 in
theorem pkF5 : callV Tryz.prog pkEv 202 295 [.str 1 48, .int 0 (.ofNat 20)] pkH 24 = some (.str 20 275106190556405255191281850864241509582293184560) := by kernel_rfl
set_option maxRecDepth 1000000 in
theorem pkF6 : callV Tryz.prog pkEv 202 295 [.str 1 48, .int 0 (.ofNat 50)] pkH 24 = some (.str 50 486070565286947499229349491200566941050297561003147955356359408290004258261993636636168537088025944740875891194870116400) := by kernel_rfl
set_option maxRecDepth 1000000 in
theorem pkF7 : callV Tryz.prog pkEv 220 197 [.str 20 275106190556405255191281850864241509582293184560, .int 1 (.ofNat 48)] pkH 24 = some (.str 0 0) := by kernel_rfl
set_option maxRecDepth 1000000 in
theorem pkF8 : callV Tryz.prog (pkEv.with pkKn1) 2882 106 [.str 1 49] pkH 24 = some (.tup [.str 1 49, .int 0 (.ofNat 0)]) := by kernel_rfl
set_option maxRecDepth 1000000 in
theorem pkF9 : callV Tryz.prog pkEv 138 344 [.str 1 50, .str 2 17765] pkH 24 = some (.bool false) := by kernel_rfl
set_option maxRecDepth 1000000 in
theorem pkF10 : callV Tryz.prog (pkEv.with pkKn1) 2882 106 [.str 1 50] pkH 24 = some (.tup [.str 1 50, .int 0 (.ofNat 0)]) := by kernel_rfl
set_option maxRecDepth 1000000 in
theorem pkF11 : callV Tryz.prog (pkEv.with pkKn1) 2940 338 [.str 1 49] pkH 24 = some (.bool true) := by kernel_rfl
set_option maxRecDepth 1000000 in
theorem pkF12 : callV Tryz.prog (pkEv.with pkKn1) 2940 338 [.str 1 50] pkH 24 = some (.bool true) := by kernel_rfl
set_option maxRecDepth 1000000 in
theorem pkF13 : callV Tryz.prog pkEv 202 32 [.str 5 538975959931] pkH 24 = some (.bool true) := by kernel_rfl
set_option maxRecDepth 1000000 in
theorem pkF14 : callV Tryz.prog pkEv 146 32 [.str 3 8222843] pkH 24 = some (.bool true) := by kernel_rfl
set_option maxRecDepth 1000000 in
theorem pkF15 : callV Tryz.prog pkEv 650 32 [.str 21 183404124577361506190009435316805084728744168484219] pkH 24 = some (.bool true) := by kernel_rfl
set_option maxRecDepth 1000000 in
theorem pkF16 : callV Tryz.prog pkEv 538 32 [.str 17 33091780645102058579210003432259269452141] pkH 24 = some (.bool true) := by kernel_rfl
set_option maxRecDepth 1000000 in
theorem pkF17 : callV Tryz.prog pkEv 220 48 [.str 1 109] pkH 24 = some (.bool true) := by kernel_rfl
set_option maxRecDepth 1000000 in
theorem pkF18 : callV Tryz.prog pkEv 278 48 [.str 2 24929] pkH 24 = some (.bool true) := by kernel_rfl
set_option maxRecDepth 1000000 in
theorem pkF19 : callV Tryz.prog pkEv 278 48 [.str 2 28769] pkH 24 = some (.bool true) := by kernel_rfl
set_option maxRecDepth 1000000 in
theorem pkF20 : callV Tryz.prog pkEv 270 48 [.str 2 8289] pkH 24 = some (.bool false) := by kernel_rfl
set_option maxRecDepth 1000000 in
theorem pkF21 : callV Tryz.prog pkEv 212 48 [.str 1 123] pkH 24 = some (.bool false) := by kernel_rfl
set_option maxRecDepth 1000000 in
theorem pkF22 : callV Tryz.prog pkEv 216 48 [.str 1 58] pkH 24 = some (.bool false) := by kernel_rfl
set_option maxRecDepth 1000000 in
theorem pkF23 : callV Tryz.prog pkEv 212 48 [.str 1 125] pkH 24 = some (.bool false) := by kernel_rfl
set_option maxRecDepth 1000000 in
theorem pkF24 : callV Tryz.prog pkEv 212 48 [.str 1 63] pkH 24 = some (.bool false) := by kernel_rfl
set_option maxRecDepth 1000000 in
theorem pkF25 : callV Tryz.prog pkEv 220 48 [.str 1 97] pkH 24 = some (.bool true) := by kernel_rfl
set_option maxRecDepth 1000000 in
theorem pkF26 : callV Tryz.prog pkEv 538 32 [.str 17 42587733665231551420729706040427110082683] pkH 24 = some (.bool true) := by kernel_rfl
set_option maxRecDepth 1000000 in
theorem pkF27 : callV Tryz.prog pkEv 482 32 [.str 15 204835156696263624249531685375326760] pkH 24 = some (.bool true) := by kernel_rfl
set_option maxRecDepth 1000000 in
theorem pkF28 : callV Tryz.prog (pkEv.with pkKn1) 6902 24 [.str 15 204835156696263624249531685375326760] pkH 24 = some (.tup [.agg [.int 0 (.ofNat 0), .str 0 0, .str 0 0, .int 0 (.ofNat 0), .int 0 (.ofNat 1), .str 4 1931965545, .int 0 (.ofNat 0), .int 0 (.ofNat 0), .str 0 0, .int 0 (.ofNat 0), .int 0 (.ofNat 0), .int 0 (.ofNat 0), .str 0 0, .str 0 0, .slcN, .slcN], .int 0 (.ofNat 0), .int 0 (.ofNat 0)]) := by kernel_rfl
set_option maxRecDepth 1000000 in
theorem pkF29 : callV Tryz.prog pkEv 174 32 [.str 4 1931965545] pkH 24 = some (.bool true) := by kernel_rfl
set_option maxRecDepth 1000000 in
theorem pkF30 : callV Tryz.prog (pkEv.with pkKn1) 220 49 [.agg [.int 0 (.ofNat 0), .str 0 0, .str 0 0, .int 0 (.ofNat 0), .int 0 (.ofNat 1), .str 4 1931965545, .int 0 (.ofNat 0), .int 0 (.ofNat 0), .str 0 0, .int 0 (.ofNat 0), .int 0 (.ofNat 0), .int 0 (.ofNat 0), .str 0 0, .str 0 0, .slcN, .slcN]] pkH 24 = some (.int 0 (.ofNat 0)) := by kernel_rfl
set_option maxRecDepth 1000000 in
theorem pkF31 : callV Tryz.prog (pkEv.with pkKn2) 334 42 [.agg [.int 0 (.ofNat 0), .str 0 0, .str 0 0, .int 0 (.ofNat 0), .int 0 (.ofNat 1), .str 4 1931965545, .int 0 (.ofNat 0), .int 0 (.ofNat 0), .str 0 0, .int 0 (.ofNat 0), .int 0 (.ofNat 0), .int 0 (.ofNat 0), .str 0 0, .str 0 0, .slcN, .slcN]] pkH 24 = some (.tup [.str 6 37877978523938, .int 0 (.ofNat 0)]) := by kernel_rfl
set_option maxRecDepth 1000000 in
theorem pkF32 : callV Tryz.prog pkEv 140 16 [.slcN] pkH 24 = some (.tup [.str 0 0, .int 0 (.ofNat 0)]) := by kernel_rfl
set_option maxRecDepth 1000000 in
theorem pkF33 : callV Tryz.prog pkEv 286 32 [.str 8 9016261959958470779] pkH 24 = some (.bool true) := by kernel_rfl
end
end Go.Proofs.YtlhedmifkfipcaaGreatDoor
