/- Runs of the abstract machine: values of calls. -/
import Derived.Test.YtlhedmifkfipcaaGreatDoorPkKn
import Derived.KernelRfl
namespace Go.Proofs.YtlhedmifkfipcaaGreatDoor
open Go Go.Abs
noncomputable section
set_option maxRecDepth 1000000 in
theorem pkF54 : callV Tryz.prog pkEv 278 48 [.str 2 30049] pkH 24 = some (.bool true) := by kernel_rfl
set_option maxRecDepth 1000000 in
theorem pkF55 : callV Tryz.prog pkEv 278 48 [.str 2 28257] pkH 24 = some (.bool true) := by kernel_rfl
set_option maxRecDepth 1000000 in
theorem pkF56 : callV Tryz.prog pkEv 278 48 [.str 2 25441] pkH 24 = some (.bool true) := by kernel_rfl
set_option maxRecDepth 1000000 in
theorem pkF57 : callV Tryz.prog pkEv 278 48 [.str 2 29793] pkH 24 = some (.bool true) := by kernel_rfl
set_option maxRecDepth 1000000 in
theorem pkF58 : callV Tryz.prog pkEv 278 48 [.str 2 26977] pkH 24 = some (.bool true) := by kernel_rfl
set_option maxRecDepth 1000000 in
theorem pkF59 : callV Tryz.prog pkEv 278 48 [.str 2 28513] pkH 24 = some (.bool true) := by kernel_rfl
set_option maxRecDepth 1000000 in
theorem pkF60 : callV Tryz.prog pkEv 270 48 [.str 2 10337] pkH 24 = some (.bool false) := by kernel_rfl
set_option maxRecDepth 1000000 in
theorem pkF61 : callV Tryz.prog pkEv 212 48 [.str 1 40] pkH 24 = some (.bool false) := by kernel_rfl
set_option maxRecDepth 1000000 in
theorem pkF62 : callV Tryz.prog pkEv 212 48 [.str 1 36] pkH 24 = some (.bool false) := by kernel_rfl
set_option maxRecDepth 1000000 in
theorem pkF63 : callV Tryz.prog pkEv 220 48 [.str 1 120] pkH 24 = some (.bool true) := by kernel_rfl
set_option maxRecDepth 1000000 in
theorem pkF64 : callV Tryz.prog pkEv 270 48 [.str 2 10593] pkH 24 = some (.bool false) := by kernel_rfl
set_option maxRecDepth 1000000 in
theorem pkF65 : callV Tryz.prog pkEv 212 48 [.str 1 41] pkH 24 = some (.bool false) := by kernel_rfl
set_option maxRecDepth 1000000 in
theorem pkF66 : callV Tryz.prog pkEv 706 15 [.str 2 32097] pkH 24 = some (.tup [.slcN, .int 0 (.ofNat 150)]) := by kernel_rfl
set_option maxRecDepth 1000000 in
theorem pkF67 : callV Tryz.prog pkEv 726 15 [.str 2 12667] pkH 24 = some (.tup [.slcN, .int 0 (.ofNat 150)]) := by kernel_rfl
set_option maxRecDepth 1000000 in
theorem pkF68 : callV Tryz.prog pkEv 2460 24 [.str 0 0] pkH 24 = some (.tup [.agg [.int 0 (.ofNat 0), .str 0 0, .str 0 0, .int 0 (.ofNat 0), .int 0 (.ofNat 0), .str 0 0, .int 0 (.ofNat 0), .int 0 (.ofNat 0), .str 0 0, .int 0 (.ofNat 0), .int 0 (.ofNat 0), .int 0 (.ofNat 0), .str 0 0, .str 0 0, .slcN, .slcN], .int 0 (.ofNat 0), .int 0 (.ofNat 150)]) := by kernel_rfl
set_option maxRecDepth 1000000 in
theorem pkF69 : callV Tryz.prog (pkEv.with pkKn1) 644 15 [.str 2 32123] pkH 24 = some (.tup [.slcN, .int 0 (.ofNat 150)]) := by kernel_rfl
set_option maxRecDepth 1000000 in
theorem pkF70 : callV Tryz.prog pkEv 202 32 [.str 5 537594442107] pkH 24 = some (.bool true) := by kernel_rfl
set_option maxRecDepth 1000000 in
theorem pkF71 : callV Tryz.prog pkEv 146 32 [.str 3 2826289] pkH 24 = some (.bool true) := by kernel_rfl
set_option maxRecDepth 1000000 in
theorem pkF72 : callV Tryz.prog (pkEv.with pkKn2) 8610 24 [.str 3 2826289] pkH 24 = some (.tup [.agg [.int 0 (.ofNat 0), .str 0 0, .str 0 0, .int 0 (.ofNat 0), .int 0 (.ofNat 0), .str 0 0, .int 0 (.ofNat 0), .int 0 (.ofNat 0), .str 0 0, .int 0 (.ofNat 0), .int 0 (.ofNat 0), .int 0 (.ofNat 0), .str 0 0, .str 0 0, .slcN, .slcN], .int 0 (.ofNat 3), .int 0 (.ofNat 150)]) := by kernel_rfl
set_option maxRecDepth 1000000 in
theorem pkF73 : callV Tryz.prog (pkEv.with pkKn3) 1592 15 [.str 5 537594442107] pkH 24 = some (.tup [.slcN, .int 0 (.ofNat 150)]) := by kernel_rfl
set_option maxRecDepth 1000000 in
theorem pkF74 : callV Tryz.prog pkEv 146 32 [.str 3 8202107] pkH 24 = some (.bool true) := by kernel_rfl
set_option maxRecDepth 1000000 in
theorem pkF75 : callV Tryz.prog (pkEv.with pkKn1) 696 15 [.str 3 8202107] pkH 24 = some (.tup [.slcN, .int 0 (.ofNat 150)]) := by kernel_rfl
set_option maxRecDepth 1000000 in
theorem pkF76 : callV Tryz.prog pkEv 146 32 [.str 3 8200315] pkH 24 = some (.bool true) := by kernel_rfl
set_option maxRecDepth 1000000 in
theorem pkF77 : callV Tryz.prog pkEv 164 98 [.str 1 32] pkH 24 = some (.tup [.slcN, .int 0 (.ofNat 0), .int 0 (.ofNat 0)]) := by kernel_rfl
set_option maxRecDepth 1000000 in
theorem pkF78 : callV Tryz.prog (pkEv.with pkKn1) 2408 24 [.str 1 32] pkH 24 = some (.tup [.agg [.int 0 (.ofNat 0), .str 0 0, .str 0 0, .int 0 (.ofNat 0), .int 0 (.ofNat 0), .str 0 0, .int 0 (.ofNat 0), .int 0 (.ofNat 0), .str 0 0, .int 0 (.ofNat 0), .int 0 (.ofNat 0), .int 0 (.ofNat 0), .str 0 0, .str 0 0, .slcN, .slcN], .int 0 (.ofNat 1), .int 0 (.ofNat 150)]) := by kernel_rfl
set_option maxRecDepth 1000000 in
theorem pkF79 : callV Tryz.prog (pkEv.with pkKn2) 916 15 [.str 3 8200315] pkH 24 = some (.tup [.slcN, .int 0 (.ofNat 150)]) := by kernel_rfl
set_option maxRecDepth 1000000 in
theorem pkF80 : callV Tryz.prog pkEv 380 15 [.str 1 125] pkH 24 = some (.tup [.slcN, .int 0 (.ofNat 150)]) := by kernel_rfl
set_option maxRecDepth 1000000 in
theorem pkF81 : callV Tryz.prog pkEv 360 15 [.str 1 123] pkH 24 = some (.tup [.slcN, .int 0 (.ofNat 150)]) := by kernel_rfl
set_option maxRecDepth 1000000 in
theorem pkF82 : callV Tryz.prog pkEv 146 32 [.str 3 8092539] pkH 24 = some (.bool true) := by kernel_rfl
set_option maxRecDepth 1000000 in
theorem pkF83 : callV Tryz.prog (pkEv.with pkKn1) 420 15 [.str 3 8092539] pkH 24 = some (.tup [.slcN, .int 0 (.ofNat 150)]) := by kernel_rfl
set_option maxRecDepth 1000000 in
theorem pkF84 : callV Tryz.prog pkEv 174 32 [.str 4 2105356667] pkH 24 = some (.bool true) := by kernel_rfl
end
end Go.Proofs.YtlhedmifkfipcaaGreatDoor
