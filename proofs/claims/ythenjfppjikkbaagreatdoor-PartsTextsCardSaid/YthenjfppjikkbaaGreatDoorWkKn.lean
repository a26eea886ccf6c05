/- What the runs of this law look up: calls and their values. -/
import Derived.Test.YthenjfppjikkbaaGreatDoorMd
import Derived.Test.YthenjfppjikkbaaGreatDoorProg
namespace Go.Proofs.YthenjfppjikkbaaGreatDoor
open Go Go.Abs
noncomputable section
def wkL2 : List AV := [.slc 3 0 33 (some 33)]
def wkL3 : List AV := [.str 2 11822, .str 2 12079, .str 2 31868, .str 2 15649, .str 2 15676, .str 2 15420, .str 2 15678, .str 2 15934, .str 2 15674, .str 2 14906, .str 2 15933, .str 1 40, .str 1 41, .str 1 91, .str 1 93, .str 1 123, .str 1 125, .str 1 44, .str 1 46, .str 1 64, .str 1 47, .str 1 124, .str 1 43, .str 1 45, .str 1 42, .str 1 61, .str 1 60, .str 1 62, .str 1 58, .str 1 33, .str 1 63, .str 1 35, .str 1 36]
def wkRows : List LRow := [⟨2, wkL2⟩, ⟨3, wkL3⟩]
def wkH : Heap := laidHeap wkRows
def wkAm : List (FuncId × AExt) := [(153, AExt.astore), (222, AExt.mark0), (223, AExt.acas 2), (224, AExt.mark0), (225, AExt.mark1), (227, AExt.mark1), (228, AExt.aadd 2), (321, AExt.countByte), (88, AExt.aload 7)]
def wkMm : List (TypeId × String × FuncId) := [(190, "Replace", 997)]
def wkEv : Env := envMeth wkMm (envAtoms wkAm (envLies [(113, 3, 0, 63), (63, 2, 0, 63), (65, 5, 3, 63)] (envOf [64] [39] [38, 49, 51] 3)))
def wkKn1 : List (FuncId × List (List AV × AV)) := [(5, [([.str 2 32097], .tup [.slcN, .int 0 (.ofNat 150)])]),
  (7, [([.str 21 67943618126798425643938706482364344974832255597422], .bool true), ([.str 13 3264813215904872976342661738792], .bool true), ([.str 4 540703598], .bool true)]),
  (49, [([.slcN, .slcN], .int 0 (.ofNat 0))]),
  (71, [([.str 1 40], .bool false), ([.str 1 44], .bool false), ([.str 1 41], .bool false)]),
  (171, [([.str 1 49, .str 2 17765], .bool false)]),
  (247, [([.str 3 3485234, .str 2 17765], .int 0 (.negSucc 0))]),
  (447, [([.str 1 48, .int 0 (.ofNat 20)], .str 20 275106190556405255191281850864241509582293184560), ([.str 1 48, .int 0 (.ofNat 50)], .str 50 486070565286947499229349491200566941050297561003147955356359408290004258261993636636168537088025944740875891194870116400), ([.str 1 48, .int 0 (.ofNat 19)], .str 19 1074633556860958028090944729938443396805832752)]),
  (522, [([.str 20 275106190556405255191281850864241509582293184560, .int 1 (.ofNat 48)], .str 0 0), ([.str 20 275106190556405255191281850864241509582293184565, .int 1 (.ofNat 48)], .str 1 53)])]
def wkKn2 : List (FuncId × List (List AV × AV)) := [(5, [([.str 2 32097], .tup [.slcN, .int 0 (.ofNat 150)])]),
  (7, [([.str 21 67943618126798425643938706482364344974832255597422], .bool true), ([.str 13 3264813215904872976342661738792], .bool true), ([.str 4 540703598], .bool true)]),
  (49, [([.slcN, .slcN], .int 0 (.ofNat 0))]),
  (71, [([.str 1 40], .bool false), ([.str 1 44], .bool false), ([.str 1 41], .bool false)]),
  (171, [([.str 1 49, .str 2 17765], .bool false)]),
  (217, [([.str 1 49], .tup [.str 1 49, .int 0 (.ofNat 0)]), ([.str 3 3485234], .tup [.str 3 3485234, .int 0 (.ofNat 0)])]),
  (218, [([.str 1 49], .bool true)]),
  (247, [([.str 3 3485234, .str 2 17765], .int 0 (.negSucc 0))]),
  (447, [([.str 1 48, .int 0 (.ofNat 20)], .str 20 275106190556405255191281850864241509582293184560), ([.str 1 48, .int 0 (.ofNat 50)], .str 50 486070565286947499229349491200566941050297561003147955356359408290004258261993636636168537088025944740875891194870116400), ([.str 1 48, .int 0 (.ofNat 19)], .str 19 1074633556860958028090944729938443396805832752)]),
  (522, [([.str 20 275106190556405255191281850864241509582293184560, .int 1 (.ofNat 48)], .str 0 0), ([.str 20 275106190556405255191281850864241509582293184565, .int 1 (.ofNat 48)], .str 1 53)])]
def wkKn3 : List (FuncId × List (List AV × AV)) := [(5, [([.str 2 32097], .tup [.slcN, .int 0 (.ofNat 150)])]),
  (7, [([.str 21 67943618126798425643938706482364344974832255597422], .bool true), ([.str 13 3264813215904872976342661738792], .bool true), ([.str 4 540703598], .bool true)]),
  (49, [([.slcN, .slcN], .int 0 (.ofNat 0))]),
  (71, [([.str 1 40], .bool false), ([.str 1 44], .bool false), ([.str 1 41], .bool false)]),
  (122, [([.agg [.int 0 (.ofNat 3), .str 1 49]], .bool true)]),
  (171, [([.str 1 49, .str 2 17765], .bool false)]),
  (217, [([.str 1 49], .tup [.str 1 49, .int 0 (.ofNat 0)]), ([.str 3 3485234], .tup [.str 3 3485234, .int 0 (.ofNat 0)])]),
  (218, [([.str 1 49], .bool true)]),
  (247, [([.str 3 3485234, .str 2 17765], .int 0 (.negSucc 0))]),
  (447, [([.str 1 48, .int 0 (.ofNat 20)], .str 20 275106190556405255191281850864241509582293184560), ([.str 1 48, .int 0 (.ofNat 50)], .str 50 486070565286947499229349491200566941050297561003147955356359408290004258261993636636168537088025944740875891194870116400), ([.str 1 48, .int 0 (.ofNat 19)], .str 19 1074633556860958028090944729938443396805832752)]),
  (522, [([.str 20 275106190556405255191281850864241509582293184560, .int 1 (.ofNat 48)], .str 0 0), ([.str 20 275106190556405255191281850864241509582293184565, .int 1 (.ofNat 48)], .str 1 53)])]
end
end Go.Proofs.YthenjfppjikkbaaGreatDoor
