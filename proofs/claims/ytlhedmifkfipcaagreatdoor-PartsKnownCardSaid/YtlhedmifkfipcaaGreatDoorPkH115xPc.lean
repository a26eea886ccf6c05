/- The pieces of a run, put together. -/
import Derived.Test.YtlhedmifkfipcaaGreatDoorPkH115xP0
import Derived.Test.YtlhedmifkfipcaaGreatDoorPkH115xP1
namespace Go.Proofs.YtlhedmifkfipcaaGreatDoor
open Go Go.Abs
noncomputable section
theorem pkH115xC1 : Pieces Tryz.prog (pkEv.with pkKn3) pkH115xS0 (.bool true) := .last _ pkH115xR1
end
end Go.Proofs.YtlhedmifkfipcaaGreatDoor
