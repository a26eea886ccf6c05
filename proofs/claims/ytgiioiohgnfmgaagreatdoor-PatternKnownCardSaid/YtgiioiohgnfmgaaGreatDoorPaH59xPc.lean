/- The pieces of a run, put together. -/
import Derived.Test.YtgiioiohgnfmgaaGreatDoorPaH59xP0
import Derived.Test.YtgiioiohgnfmgaaGreatDoorPaH59xP1
import Derived.Test.YtgiioiohgnfmgaaGreatDoorPaH59xP2
import Derived.Test.YtgiioiohgnfmgaaGreatDoorPaH59xP3
namespace Go.Proofs.YtgiioiohgnfmgaaGreatDoor
open Go Go.Abs
noncomputable section
theorem paH59xC3 : Pieces Tryz.prog (paEv.with paKn2) paH59xS2 (.str 1 53) := .last _ paH59xR3
theorem paH59xC2 : Pieces Tryz.prog (paEv.with paKn2) paH59xS1 (.str 1 53) := .more _ _ paH59xR2 paH59xC3
theorem paH59xC1 : Pieces Tryz.prog (paEv.with paKn2) paH59xS0 (.str 1 53) := .more _ _ paH59xR1 paH59xC2
end
end Go.Proofs.YtgiioiohgnfmgaaGreatDoor
