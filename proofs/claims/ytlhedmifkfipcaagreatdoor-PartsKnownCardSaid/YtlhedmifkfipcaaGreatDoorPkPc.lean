/- The pieces of a run, put together. -/
import Derived.Test.YtlhedmifkfipcaaGreatDoorPkP0
import Derived.Test.YtlhedmifkfipcaaGreatDoorPkP1
import Derived.Test.YtlhedmifkfipcaaGreatDoorPkP2
import Derived.Test.YtlhedmifkfipcaaGreatDoorPkP3
import Derived.Test.YtlhedmifkfipcaaGreatDoorPkP4
import Derived.Test.YtlhedmifkfipcaaGreatDoorPkP5
namespace Go.Proofs.YtlhedmifkfipcaaGreatDoor
open Go Go.Abs
noncomputable section
theorem pkC5 : Pieces Tryz.prog (pkEv.with pkKn4) pkS4 (.bool true) := .last _ pkR5
theorem pkC4 : Pieces Tryz.prog (pkEv.with pkKn4) pkS3 (.bool true) := .more _ _ pkR4 pkC5
theorem pkC3 : Pieces Tryz.prog (pkEv.with pkKn4) pkS2 (.bool true) := .more _ _ pkR3 pkC4
theorem pkC2 : Pieces Tryz.prog (pkEv.with pkKn4) pkS1 (.bool true) := .more _ _ pkR2 pkC3
theorem pkC1 : Pieces Tryz.prog (pkEv.with pkKn4) pkS0 (.bool true) := .more _ _ pkR1 pkC2
end
end Go.Proofs.YtlhedmifkfipcaaGreatDoor
