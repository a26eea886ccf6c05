/- Runs of the abstract machine: values of calls. -/
import Derived.Test.YtgiioiohgnfmgaaGreatDoorAcKn
import Derived.KernelRfl
namespace Go.Proofs.YtgiioiohgnfmgaaGreatDoor
open Go Go.Abs
noncomputable section
set_option maxRecDepth 1000000 in
theorem acF14 : callV Tryz.prog (acEv.with acKn2) 5974 32 [.str 1 50] acH 24 = some (.tup [.agg [.int 0 (.ofNat 0), .str 0 0, .str 0 0, .int 0 (.ofNat 0), .int 0 (.ofNat 3), .str 1 50, .int 0 (.ofNat 0), .int 0 (.ofNat 0), .str 0 0, .int 0 (.ofNat 0), .int 0 (.ofNat 0), .int 0 (.ofNat 0), .str 0 0, .str 0 0, .slcN, .slcN], .int 0 (.ofNat 0), .int 0 (.ofNat 0)]) := by kernel_rfl
set_option maxRecDepth 1000000 in
theorem acF15 : callV Tryz.prog acEv 220 47 [.str 1 98] acH 24 = some (.bool true) := by kernel_rfl
set_option maxRecDepth 1000000 in
theorem acF16 : callV Tryz.prog acEv 220 47 [.str 1 99] acH 24 = some (.bool true) := by kernel_rfl
set_option maxRecDepth 1000000 in
theorem acF17 : callV Tryz.prog acEv 258 23 [.agg [.int 0 (.ofNat 0), .str 0 0, .str 0 0, .int 0 (.ofNat 0), .int 0 (.ofNat 1), .str 1 120, .int 0 (.ofNat 0), .int 0 (.ofNat 0), .str 0 0, .int 0 (.ofNat 0), .int 0 (.ofNat 0), .int 0 (.ofNat 0), .str 0 0, .str 0 0, .slcN, .slcN]] acH 24 = some (.int 0 (.ofNat 0)) := by kernel_rfl
set_option maxRecDepth 1000000 in
theorem acF18 : callV Tryz.prog acEv 336 23 [.agg [.int 0 (.ofNat 17), .str 0 0, .str 0 0, .int 0 (.ofNat 0), .int 0 (.ofNat 0), .str 0 0, .int 0 (.ofNat 0), .int 0 (.ofNat 0), .str 0 0, .int 0 (.ofNat 0), .int 0 (.ofNat 0), .int 0 (.ofNat 0), .str 0 0, .str 0 0, .slcN, .slcN]] acH 24 = some (.int 0 (.ofNat 0)) := by kernel_rfl
set_option maxRecDepth 1000000 in
theorem acF19 : callV Tryz.prog (acEv.with acKn1) 336 23 [.agg [.int 0 (.ofNat 17), .str 0 0, .str 0 0, .int 0 (.ofNat 0), .int 0 (.ofNat 0), .str 0 0, .int 0 (.ofNat 0), .int 0 (.ofNat 1), .str 1 97, .int 0 (.ofNat 0), .int 0 (.ofNat 0), .int 0 (.ofNat 0), .str 0 0, .str 0 0, .slcN, .slcN]] acH 24 = some (.int 0 (.ofNat 0)) := by kernel_rfl
set_option maxRecDepth 1000000 in
theorem acF20 : callV Tryz.prog (acEv.with acKn1) 2940 222 [.str 1 50] acH 24 = some (.bool true) := by kernel_rfl
set_option maxRecDepth 1000000 in
theorem acF21 : callV Tryz.prog (acEv.with acKn2) 232 23 [.agg [.int 0 (.ofNat 0), .str 0 0, .str 0 0, .int 0 (.ofNat 0), .int 0 (.ofNat 3), .str 1 50, .int 0 (.ofNat 0), .int 0 (.ofNat 0), .str 0 0, .int 0 (.ofNat 0), .int 0 (.ofNat 0), .int 0 (.ofNat 0), .str 0 0, .str 0 0, .slcN, .slcN]] acH 24 = some (.int 0 (.ofNat 0)) := by kernel_rfl
set_option maxRecDepth 1000000 in
theorem acF22 : callV Tryz.prog acEv 212 47 [.str 1 40] acH 24 = some (.bool false) := by kernel_rfl
set_option maxRecDepth 1000000 in
theorem acF23 : callV Tryz.prog acEv 212 47 [.str 1 41] acH 24 = some (.bool false) := by kernel_rfl
set_option maxRecDepth 1000000 in
theorem acF24 : callV Tryz.prog (acEv.with acKn1) 8490 32 [.str 2 10536] acH 24 = some (.tup [.agg [.int 0 (.ofNat 3), .str 0 0, .str 0 0, .int 0 (.ofNat 0), .int 0 (.ofNat 0), .str 0 0, .int 0 (.ofNat 0), .int 0 (.ofNat 0), .str 0 0, .int 0 (.ofNat 0), .int 0 (.ofNat 0), .int 0 (.ofNat 0), .str 0 0, .str 0 0, .slcN, .slcN], .int 0 (.ofNat 0), .int 0 (.ofNat 0)]) := by kernel_rfl
set_option maxRecDepth 1000000 in
theorem acF25 : callV Tryz.prog (acEv.with acKn1) 6144 32 [.str 1 98] acH 24 = some (.tup [.agg [.int 0 (.ofNat 17), .str 0 0, .str 0 0, .int 0 (.ofNat 0), .int 0 (.ofNat 0), .str 0 0, .int 0 (.ofNat 0), .int 0 (.ofNat 1), .str 1 98, .int 0 (.ofNat 0), .int 0 (.ofNat 0), .int 0 (.ofNat 0), .str 0 0, .str 0 0, .slcN, .slcN], .int 0 (.ofNat 0), .int 0 (.ofNat 0)]) := by kernel_rfl
set_option maxRecDepth 1000000 in
theorem acF26 : callV Tryz.prog acEv 510 84 [.str 16 54712051330661690658178144418278024232] acH 24 = some (.bool true) := by kernel_rfl
set_option maxRecDepth 1000000 in
theorem acF27 : callV Tryz.prog acEv 212 47 [.str 1 36] acH 24 = some (.bool false) := by kernel_rfl
set_option maxRecDepth 1000000 in
theorem acF28 : callV Tryz.prog acEv 220 47 [.str 1 118] acH 24 = some (.bool true) := by kernel_rfl
set_option maxRecDepth 1000000 in
theorem acF29 : callV Tryz.prog acEv 278 47 [.str 2 24929] acH 24 = some (.bool true) := by kernel_rfl
set_option maxRecDepth 1000000 in
theorem acF30 : callV Tryz.prog acEv 278 47 [.str 2 27745] acH 24 = some (.bool true) := by kernel_rfl
set_option maxRecDepth 1000000 in
theorem acF31 : callV Tryz.prog acEv 278 47 [.str 2 30049] acH 24 = some (.bool true) := by kernel_rfl
set_option maxRecDepth 1000000 in
theorem acF32 : callV Tryz.prog acEv 278 47 [.str 2 25953] acH 24 = some (.bool true) := by kernel_rfl
set_option maxRecDepth 1000000 in
theorem acF33 : callV Tryz.prog acEv 270 47 [.str 2 11361] acH 24 = some (.bool false) := by kernel_rfl
set_option maxRecDepth 1000000 in
theorem acF34 : callV Tryz.prog acEv 212 47 [.str 1 44] acH 24 = some (.bool false) := by kernel_rfl
set_option maxRecDepth 1000000 in
theorem acF35 : callV Tryz.prog acEv 220 47 [.str 1 110] acH 24 = some (.bool true) := by kernel_rfl
set_option maxRecDepth 1000000 in
theorem acF36 : callV Tryz.prog acEv 278 47 [.str 2 28001] acH 24 = some (.bool true) := by kernel_rfl
set_option maxRecDepth 1000000 in
theorem acF37 : callV Tryz.prog acEv 270 47 [.str 2 10337] acH 24 = some (.bool false) := by kernel_rfl
set_option maxRecDepth 1000000 in
theorem acF38 : callV Tryz.prog acEv 180 136 [.str 4 1701667182] acH 24 = some (.bool false) := by kernel_rfl
set_option maxRecDepth 1000000 in
theorem acF39 : callV Tryz.prog acEv 286 23 [.agg [.int 0 (.ofNat 3), .str 0 0, .str 0 0, .int 0 (.ofNat 0), .int 0 (.ofNat 0), .str 0 0, .int 0 (.ofNat 0), .int 0 (.ofNat 0), .str 0 0, .int 0 (.ofNat 0), .int 0 (.ofNat 0), .int 0 (.ofNat 0), .str 0 0, .str 0 0, .slcN, .slcN]] acH 24 = some (.int 0 (.ofNat 0)) := by kernel_rfl
set_option maxRecDepth 1000000 in
theorem acF40 : callV Tryz.prog (acEv.with acKn1) 336 23 [.agg [.int 0 (.ofNat 17), .str 0 0, .str 0 0, .int 0 (.ofNat 0), .int 0 (.ofNat 0), .str 0 0, .int 0 (.ofNat 0), .int 0 (.ofNat 1), .str 1 98, .int 0 (.ofNat 0), .int 0 (.ofNat 0), .int 0 (.ofNat 0), .str 0 0, .str 0 0, .slcN, .slcN]] acH 24 = some (.int 0 (.ofNat 0)) := by kernel_rfl
set_option maxRecDepth 1000000 in
theorem acF41 : callV Tryz.prog acEv 202 84 [.str 5 435761734006] acH 24 = some (.bool true) := by kernel_rfl
set_option maxRecDepth 1000000 in
theorem acF42 : callV Tryz.prog acEv 172 87 [.str 5 435761734006] acH 24 = some (.bool true) := by kernel_rfl
set_option maxRecDepth 1000000 in
theorem acF43 : callV Tryz.prog (acEv.with acKn1) 182 47 [.str 5 435761734006] acH 24 = some (.bool true) := by kernel_rfl
set_option maxRecDepth 1000000 in
theorem acF44 : callV Tryz.prog acEv 174 84 [.str 4 1701667182] acH 24 = some (.bool true) := by kernel_rfl
set_option maxRecDepth 1000000 in
theorem acF45 : callV Tryz.prog acEv 150 87 [.str 4 1701667182] acH 24 = some (.bool true) := by kernel_rfl
set_option maxRecDepth 1000000 in
theorem acF46 : callV Tryz.prog (acEv.with acKn1) 174 47 [.str 4 1701667182] acH 24 = some (.bool true) := by kernel_rfl
set_option maxRecDepth 1000000 in
theorem acF47 : callV Tryz.prog acEv 136 381 [.str 6 52980123263342] acH 24 = some (.agg [.str 0 0, .fnN]) := by kernel_rfl
set_option maxRecDepth 1000000 in
theorem acF48 : callV Tryz.prog (acEv.with acKn1) 576 272 [.str 4 1701667182, .int 0 (.ofNat 0)] acH 24 = some (.tup [.agg [.str 0 0, .fnN], .bool false]) := by kernel_rfl
set_option maxRecDepth 1000000 in
theorem acF49 : callV Tryz.prog (acEv.with acKn2) 132 183 [.str 4 1701667182, .int 0 (.ofNat 0)] acH 24 = some (.bool true) := by kernel_rfl
set_option maxRecDepth 1000000 in
theorem acF50 : callV Tryz.prog acEv 136 381 [.str 6 54079634891118] acH 24 = some (.agg [.str 0 0, .fnN]) := by kernel_rfl
set_option maxRecDepth 1000000 in
theorem acF51 : callV Tryz.prog acEv 170 144 [.agg [.int 0 (.ofNat 5), .int 0 (.ofNat 0), .int 0 (.ofNat 2), .str 0 0, .str 1 63]] acH 24 = some (.tup [.str 7 17778177009282926, .int 0 (.ofNat 0)]) := by kernel_rfl
set_option maxRecDepth 1000000 in
theorem acF52 : callV Tryz.prog acEv 138 128 [.str 1 48, .str 2 17765] acH 24 = some (.bool false) := by kernel_rfl
set_option maxRecDepth 1000000 in
theorem acF53 : callV Tryz.prog (acEv.with acKn1) 2592 221 [.str 1 48] acH 24 = some (.tup [.str 1 48, .int 0 (.ofNat 0)]) := by kernel_rfl
end
end Go.Proofs.YtgiioiohgnfmgaaGreatDoor
