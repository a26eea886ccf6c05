/- Runs of the abstract machine: values of calls. -/
import Derived.Test.YtlhedmifkfipcaaGreatDoorPkKn
import Derived.KernelRfl
namespace Go.Proofs.YtlhedmifkfipcaaGreatDoor
open Go Go.Abs
noncomputable section
set_option maxRecDepth 1000000 in
theorem pkF34 : callV Tryz.prog (pkEv.with pkKn2) 6034 24 [.str 2 12576] pkH 24 = some (.tup [.agg [.int 0 (.ofNat 0), .str 0 0, .str 0 0, .int 0 (.ofNat 0), .int 0 (.ofNat 3), .str 1 49, .int 0 (.ofNat 0), .int 0 (.ofNat 0), .str 0 0, .int 0 (.ofNat 0), .int 0 (.ofNat 0), .int 0 (.ofNat 0), .str 0 0, .str 0 0, .slcN, .slcN], .int 0 (.ofNat 0), .int 0 (.ofNat 0)]) := by kernel_rfl
set_option maxRecDepth 1000000 in
theorem pkF35 : callV Tryz.prog (pkEv.with pkKn2) 6036 24 [.str 2 8242] pkH 24 = some (.tup [.agg [.int 0 (.ofNat 0), .str 0 0, .str 0 0, .int 0 (.ofNat 0), .int 0 (.ofNat 3), .str 1 50, .int 0 (.ofNat 0), .int 0 (.ofNat 0), .str 0 0, .int 0 (.ofNat 0), .int 0 (.ofNat 0), .int 0 (.ofNat 0), .str 0 0, .str 0 0, .slcN, .slcN], .int 0 (.ofNat 0), .int 0 (.ofNat 0)]) := by kernel_rfl
set_option maxRecDepth 1000000 in
theorem pkF36 : callV Tryz.prog (pkEv.with pkKn2) 232 49 [.agg [.int 0 (.ofNat 0), .str 0 0, .str 0 0, .int 0 (.ofNat 0), .int 0 (.ofNat 3), .str 1 49, .int 0 (.ofNat 0), .int 0 (.ofNat 0), .str 0 0, .int 0 (.ofNat 0), .int 0 (.ofNat 0), .int 0 (.ofNat 0), .str 0 0, .str 0 0, .slcN, .slcN]] pkH 24 = some (.int 0 (.ofNat 0)) := by kernel_rfl
set_option maxRecDepth 1000000 in
theorem pkF37 : callV Tryz.prog (pkEv.with pkKn2) 232 49 [.agg [.int 0 (.ofNat 0), .str 0 0, .str 0 0, .int 0 (.ofNat 0), .int 0 (.ofNat 3), .str 1 50, .int 0 (.ofNat 0), .int 0 (.ofNat 0), .str 0 0, .int 0 (.ofNat 0), .int 0 (.ofNat 0), .int 0 (.ofNat 0), .str 0 0, .str 0 0, .slcN, .slcN]] pkH 24 = some (.int 0 (.ofNat 0)) := by kernel_rfl
set_option maxRecDepth 1000000 in
theorem pkF38 : callV Tryz.prog (pkEv.with pkKn3) 218 42 [.agg [.int 0 (.ofNat 0), .str 0 0, .str 0 0, .int 0 (.ofNat 0), .int 0 (.ofNat 3), .str 1 49, .int 0 (.ofNat 0), .int 0 (.ofNat 0), .str 0 0, .int 0 (.ofNat 0), .int 0 (.ofNat 0), .int 0 (.ofNat 0), .str 0 0, .str 0 0, .slcN, .slcN]] pkH 24 = some (.tup [.str 1 49, .int 0 (.ofNat 0)]) := by kernel_rfl
set_option maxRecDepth 1000000 in
theorem pkF39 : callV Tryz.prog (pkEv.with pkKn3) 218 42 [.agg [.int 0 (.ofNat 0), .str 0 0, .str 0 0, .int 0 (.ofNat 0), .int 0 (.ofNat 3), .str 1 50, .int 0 (.ofNat 0), .int 0 (.ofNat 0), .str 0 0, .int 0 (.ofNat 0), .int 0 (.ofNat 0), .int 0 (.ofNat 0), .str 0 0, .str 0 0, .slcN, .slcN]] pkH 24 = some (.tup [.str 1 50, .int 0 (.ofNat 0)]) := by kernel_rfl
set_option maxRecDepth 1000000 in
theorem pkF40 : callV Tryz.prog pkEv 202 32 [.str 5 537449407099] pkH 24 = some (.bool true) := by kernel_rfl
set_option maxRecDepth 1000000 in
theorem pkF41 : callV Tryz.prog pkEv 146 32 [.str 3 2259746] pkH 24 = some (.bool true) := by kernel_rfl
set_option maxRecDepth 1000000 in
theorem pkF42 : callV Tryz.prog (pkEv.with pkKn1) 5630 24 [.str 3 2259746] pkH 24 = some (.tup [.agg [.int 0 (.ofNat 0), .str 0 0, .str 0 0, .int 0 (.ofNat 0), .int 0 (.ofNat 1), .str 1 123, .int 0 (.ofNat 0), .int 0 (.ofNat 0), .str 0 0, .int 0 (.ofNat 0), .int 0 (.ofNat 0), .int 0 (.ofNat 0), .str 0 0, .str 0 0, .slcN, .slcN], .int 0 (.ofNat 0), .int 0 (.ofNat 0)]) := by kernel_rfl
set_option maxRecDepth 1000000 in
theorem pkF43 : callV Tryz.prog pkEv 258 49 [.agg [.int 0 (.ofNat 0), .str 0 0, .str 0 0, .int 0 (.ofNat 0), .int 0 (.ofNat 1), .str 1 123, .int 0 (.ofNat 0), .int 0 (.ofNat 0), .str 0 0, .int 0 (.ofNat 0), .int 0 (.ofNat 0), .int 0 (.ofNat 0), .str 0 0, .str 0 0, .slcN, .slcN]] pkH 24 = some (.int 0 (.ofNat 0)) := by kernel_rfl
set_option maxRecDepth 1000000 in
theorem pkF44 : callV Tryz.prog (pkEv.with pkKn1) 334 42 [.agg [.int 0 (.ofNat 0), .str 0 0, .str 0 0, .int 0 (.ofNat 0), .int 0 (.ofNat 1), .str 1 123, .int 0 (.ofNat 0), .int 0 (.ofNat 0), .str 0 0, .int 0 (.ofNat 0), .int 0 (.ofNat 0), .int 0 (.ofNat 0), .str 0 0, .str 0 0, .slcN, .slcN]] pkH 24 = some (.tup [.str 3 2259746, .int 0 (.ofNat 0)]) := by kernel_rfl
set_option maxRecDepth 1000000 in
theorem pkF45 : callV Tryz.prog pkEv 230 32 [.str 6 137607432906619] pkH 24 = some (.bool true) := by kernel_rfl
set_option maxRecDepth 1000000 in
theorem pkF46 : callV Tryz.prog pkEv 174 32 [.str 4 658122791] pkH 24 = some (.bool true) := by kernel_rfl
set_option maxRecDepth 1000000 in
theorem pkF47 : callV Tryz.prog (pkEv.with pkKn1) 5796 24 [.str 4 658122791] pkH 24 = some (.tup [.agg [.int 0 (.ofNat 0), .str 0 0, .str 0 0, .int 0 (.ofNat 0), .int 0 (.ofNat 1), .str 2 14888, .int 0 (.ofNat 0), .int 0 (.ofNat 0), .str 0 0, .int 0 (.ofNat 0), .int 0 (.ofNat 0), .int 0 (.ofNat 0), .str 0 0, .str 0 0, .slcN, .slcN], .int 0 (.ofNat 0), .int 0 (.ofNat 0)]) := by kernel_rfl
set_option maxRecDepth 1000000 in
theorem pkF48 : callV Tryz.prog pkEv 132 227 [.agg [.int 0 (.ofNat 1), .str 2 14888]] pkH 24 = some (.bool true) := by kernel_rfl
set_option maxRecDepth 1000000 in
theorem pkF49 : callV Tryz.prog (pkEv.with pkKn1) 206 49 [.agg [.int 0 (.ofNat 0), .str 0 0, .str 0 0, .int 0 (.ofNat 0), .int 0 (.ofNat 1), .str 2 14888, .int 0 (.ofNat 0), .int 0 (.ofNat 0), .str 0 0, .int 0 (.ofNat 0), .int 0 (.ofNat 0), .int 0 (.ofNat 0), .str 0 0, .str 0 0, .slcN, .slcN]] pkH 24 = some (.int 0 (.ofNat 0)) := by kernel_rfl
set_option maxRecDepth 1000000 in
theorem pkF50 : callV Tryz.prog (pkEv.with pkKn2) 334 42 [.agg [.int 0 (.ofNat 0), .str 0 0, .str 0 0, .int 0 (.ofNat 0), .int 0 (.ofNat 1), .str 2 14888, .int 0 (.ofNat 0), .int 0 (.ofNat 0), .str 0 0, .int 0 (.ofNat 0), .int 0 (.ofNat 0), .int 0 (.ofNat 0), .str 0 0, .str 0 0, .slcN, .slcN]] pkH 24 = some (.tup [.str 4 574236706, .int 0 (.ofNat 0)]) := by kernel_rfl
set_option maxRecDepth 1000000 in
theorem pkF51 : callV Tryz.prog pkEv 1182 32 [.str 40 1046131941033435535257819749266834673042523942767239504568270732647578409806458920984290933433979] pkH 24 = some (.bool true) := by kernel_rfl
set_option maxRecDepth 1000000 in
theorem pkF52 : callV Tryz.prog pkEv 1126 32 [.str 38 12380941992885387063967018754816619469422364102656813447526650695840563779806747728091706726] pkH 24 = some (.bool true) := by kernel_rfl
set_option maxRecDepth 1000000 in
theorem pkF53 : callV Tryz.prog pkEv 220 48 [.str 1 102] pkH 24 = some (.bool true) := by kernel_rfl
end
end Go.Proofs.YtlhedmifkfipcaaGreatDoor
