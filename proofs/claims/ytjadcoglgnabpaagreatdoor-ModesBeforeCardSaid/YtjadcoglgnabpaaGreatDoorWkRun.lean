/- The law without arguments comes to true, in every world. -/
import Derived.Test.YtjadcoglgnabpaaGreatDoorWkF0
import Derived.Test.YtjadcoglgnabpaaGreatDoorWkF1
import Derived.Test.YtjadcoglgnabpaaGreatDoorWkP0
import Derived.Test.YtjadcoglgnabpaaGreatDoorWkP1
import Derived.Test.YtjadcoglgnabpaaGreatDoorWkP2
import Derived.Test.YtjadcoglgnabpaaGreatDoorWkPc
import Derived.KernelRfl
namespace Go.Proofs.YtjadcoglgnabpaaGreatDoor
open Go Go.Abs
noncomputable section
set_option maxRecDepth 1000000
theorem wkMixed : Tryz.prog.follows .mixedOrders = true := by kernel_rfl
theorem wkPlain : ([35, 51, 90, 92] : List TypeId).all (plainB Tryz.prog) = true := by kernel_rfl
theorem wkNoCount : noCount Tryz.prog = true := by kernel_rfl
theorem wkIx149 : IdxFn Tryz.prog 149 := ⟨Tryz.f149, Tryz.func149, by kernel_rfl, by kernel_rfl, by kernel_rfl, by kernel_rfl⟩
theorem wkMeths : wkMm.all (methB Tryz.prog) = true := by kernel_rfl
theorem wkLies : ([] : List (TypeId × Nat × Nat × TypeId)).all (liesB Tryz.prog) = true := by kernel_rfl
theorem wkOk : EOk2 Tryz.prog wkEv := envMeth_ok (envAtoms_ok (envLies_ok (envOf_ok wkPlain (List.forall_mem_cons.2 ⟨wkIx149, (fun _ h => by cases h)⟩) (fun _ h => by cases h) wkNoCount) wkLies) (fun _ h => by cases h)) wkMeths
theorem wkK0 (w : World) (_hw : LaidAt 0 wkH 0 w) : KnownOk Tryz.prog wkEv w.heap.size w := KnownOk.none (fun _ => rfl)
theorem wkT0 : ToldIn Tryz.prog 0 wkH 0 95 [.agg [.int 0 (.ofNat 17), .str 0 0, .str 0 0, .int 0 (.ofNat 0), .int 0 (.ofNat 0), .str 0 0, .int 0 (.ofNat 0), .int 0 (.ofNat 0), .str 0 0, .int 0 (.ofNat 0), .int 0 (.ofNat 0), .int 0 (.ofNat 0), .str 0 0, .str 0 0, .slcN, .slcN]] (.int 0 (.ofNat 0)) := FactR.allIn wkOk wkMixed wkK0 rfl (FactR.one _ (by kernel_rfl) wkF0)
theorem wkT1 : ToldIn Tryz.prog 0 wkH 0 81 [.str 1 48, .int 0 (.ofNat 19)] (.str 19 1074633556860958028090944729938443396805832752) := FactR.allIn wkOk wkMixed wkK0 rfl (FactR.one _ (by kernel_rfl) wkF1)
theorem wkT2 : ToldIn Tryz.prog 0 wkH 0 81 [.str 1 48, .int 0 (.ofNat 50)] (.str 50 486070565286947499229349491200566941050297561003147955356359408290004258261993636636168537088025944740875891194870116400) := FactR.allIn wkOk wkMixed wkK0 rfl (FactR.one _ (by kernel_rfl) wkF2)
theorem wkT3 : ToldIn Tryz.prog 0 wkH 0 89 [.str 20 275106190556405255191281850864241509582293184565, .int 1 (.ofNat 48)] (.str 1 53) := FactR.allIn wkOk wkMixed wkK0 rfl (FactR.one _ (by kernel_rfl) wkF3)
theorem wkT5 : ToldIn Tryz.prog 0 wkH 0 157 [.str 1 97] (.bool true) := FactR.allIn wkOk wkMixed wkK0 rfl (FactR.one _ (by kernel_rfl) wkF5)
theorem wkT7 : ToldIn Tryz.prog 0 wkH 0 81 [.str 1 48, .int 0 (.ofNat 20)] (.str 20 275106190556405255191281850864241509582293184560) := FactR.allIn wkOk wkMixed wkK0 rfl (FactR.one _ (by kernel_rfl) wkF7)
theorem wkT8 : ToldIn Tryz.prog 0 wkH 0 89 [.str 20 275106190556405255191281850864241509582293184560, .int 1 (.ofNat 48)] (.str 0 0) := FactR.allIn wkOk wkMixed wkK0 rfl (FactR.one _ (by kernel_rfl) wkF8)
theorem wkT10 : ToldIn Tryz.prog 0 wkH 0 157 [.str 1 98] (.bool true) := FactR.allIn wkOk wkMixed wkK0 rfl (FactR.one _ (by kernel_rfl) wkF10)
theorem wkT12 : ToldIn Tryz.prog 0 wkH 0 157 [.str 1 120] (.bool true) := FactR.allIn wkOk wkMixed wkK0 rfl (FactR.one _ (by kernel_rfl) wkF12)
theorem wkT25 : ToldIn Tryz.prog 0 wkH 0 287 [.slcN] (.tup [.slcN, .int 0 (.ofNat 0)]) := FactR.allIn wkOk wkMixed wkK0 rfl (FactR.one _ (by kernel_rfl) wkF25)
theorem wkK1 (w : World) (hw : LaidAt 0 wkH 0 w) : KnownOk Tryz.prog (wkEv.with wkKn1) w.heap.size w := KnownOk.told (told_some (told_one (wkT1 w hw) (told_one (wkT2 w hw) (told_one (wkT7 w hw) told_no))) (told_some (told_one (wkT3 w hw) (told_one (wkT8 w hw) told_no)) (told_some (told_one (wkT0 w hw) told_no) (told_some (told_one (wkT5 w hw) (told_one (wkT10 w hw) (told_one (wkT12 w hw) told_no))) (told_some (told_one (wkT25 w hw) told_no) told_nil)))))
theorem wkT4 : ToldIn Tryz.prog 0 wkH 0 17 [.str 4 892219437] (.tup [.str 4 892219437, .int 0 (.ofNat 0)]) := FactR.allIn (wkOk.with _) wkMixed wkK1 rfl (FactR.one _ (by kernel_rfl) wkF4)
theorem wkT6 : ToldIn Tryz.prog 0 wkH 0 95 [.agg [.int 0 (.ofNat 17), .str 0 0, .str 0 0, .int 0 (.ofNat 0), .int 0 (.ofNat 0), .str 0 0, .int 0 (.ofNat 0), .int 0 (.ofNat 1), .str 1 97, .int 0 (.ofNat 0), .int 0 (.ofNat 0), .int 0 (.ofNat 0), .str 0 0, .str 0 0, .slcN, .slcN]] (.int 0 (.ofNat 0)) := FactR.allIn (wkOk.with _) wkMixed wkK1 rfl (FactR.one _ (by kernel_rfl) wkF6)
theorem wkT9 : ToldIn Tryz.prog 0 wkH 0 17 [.str 1 48] (.tup [.str 1 48, .int 0 (.ofNat 0)]) := FactR.allIn (wkOk.with _) wkMixed wkK1 rfl (FactR.one _ (by kernel_rfl) wkF9)
theorem wkT11 : ToldIn Tryz.prog 0 wkH 0 95 [.agg [.int 0 (.ofNat 17), .str 0 0, .str 0 0, .int 0 (.ofNat 0), .int 0 (.ofNat 0), .str 0 0, .int 0 (.ofNat 0), .int 0 (.ofNat 1), .str 1 98, .int 0 (.ofNat 0), .int 0 (.ofNat 0), .int 0 (.ofNat 0), .str 0 0, .str 0 0, .slcN, .slcN]] (.int 0 (.ofNat 0)) := FactR.allIn (wkOk.with _) wkMixed wkK1 rfl (FactR.one _ (by kernel_rfl) wkF11)
theorem wkT13 : ToldIn Tryz.prog 0 wkH 0 17 [.str 3 3485232] (.tup [.str 3 3485232, .int 0 (.ofNat 0)]) := FactR.allIn (wkOk.with _) wkMixed wkK1 rfl (FactR.one _ (by kernel_rfl) wkF13)
theorem wkT14 : ToldIn Tryz.prog 0 wkH 0 18 [.str 4 892219437, .str 1 48] (.tup [.str 4 892219437, .int 0 (.ofNat 0)]) := FactR.allIn (wkOk.with _) wkMixed wkK1 rfl (FactR.one _ (by kernel_rfl) wkF14)
theorem wkT16 : ToldIn Tryz.prog 0 wkH 0 18 [.str 4 892219437, .str 3 3485232] (.tup [.str 2 12589, .int 0 (.ofNat 0)]) := FactR.allIn (wkOk.with _) wkMixed wkK1 rfl (FactR.one _ (by kernel_rfl) wkF16)
theorem wkT18 : ToldIn Tryz.prog 0 wkH 0 18 [.str 1 48, .str 3 3485232] (.tup [.str 4 892219437, .int 0 (.ofNat 0)]) := FactR.allIn (wkOk.with _) wkMixed wkK1 rfl (FactR.one _ (by kernel_rfl) wkF18)
theorem wkT21 : ToldIn Tryz.prog 0 wkH 0 18 [.str 1 48, .str 1 48] (.tup [.str 1 48, .int 0 (.ofNat 0)]) := FactR.allIn (wkOk.with _) wkMixed wkK1 rfl (FactR.one _ (by kernel_rfl) wkF21)
theorem wkT23 : ToldIn Tryz.prog 0 wkH 0 18 [.str 3 3485232, .str 1 48] (.tup [.str 3 3485232, .int 0 (.ofNat 0)]) := FactR.allIn (wkOk.with _) wkMixed wkK1 rfl (FactR.one _ (by kernel_rfl) wkF23)
theorem wkT26 : ToldIn Tryz.prog 0 wkH 0 17 [.str 1 53] (.tup [.str 1 53, .int 0 (.ofNat 0)]) := FactR.allIn (wkOk.with _) wkMixed wkK1 rfl (FactR.one _ (by kernel_rfl) wkF26)
theorem wkK2 (w : World) (hw : LaidAt 0 wkH 0 w) : KnownOk Tryz.prog (wkEv.with wkKn2) w.heap.size w := KnownOk.told (told_some (told_one (wkT4 w hw) (told_one (wkT9 w hw) (told_one (wkT13 w hw) (told_one (wkT26 w hw) told_no)))) (told_some (told_one (wkT14 w hw) (told_one (wkT16 w hw) (told_one (wkT18 w hw) (told_one (wkT21 w hw) (told_one (wkT23 w hw) told_no))))) (told_some (told_one (wkT1 w hw) (told_one (wkT2 w hw) (told_one (wkT7 w hw) told_no))) (told_some (told_one (wkT3 w hw) (told_one (wkT8 w hw) told_no)) (told_some (told_one (wkT0 w hw) (told_one (wkT6 w hw) (told_one (wkT11 w hw) told_no))) (told_some (told_one (wkT5 w hw) (told_one (wkT10 w hw) (told_one (wkT12 w hw) told_no))) (told_some (told_one (wkT25 w hw) told_no) told_nil)))))))
theorem wkT15 : ToldIn Tryz.prog 0 wkH 0 48 [.agg [.int 0 (.ofNat 0), .str 1 48, .int 0 (.ofNat 1)], .agg [.int 0 (.ofNat 0), .str 4 892219437, .int 0 (.ofNat 0)]] (.int 0 (.negSucc 0)) := FactR.allIn (wkOk.with _) wkMixed wkK2 rfl (FactR.one _ (by kernel_rfl) wkF15)
theorem wkT17 : ToldIn Tryz.prog 0 wkH 0 48 [.agg [.int 0 (.ofNat 0), .str 3 3485232, .int 0 (.ofNat 2)], .agg [.int 0 (.ofNat 0), .str 4 892219437, .int 0 (.ofNat 0)]] (.int 0 (.negSucc 0)) := FactR.allIn (wkOk.with _) wkMixed wkK2 rfl (FactR.one _ (by kernel_rfl) wkF17)
theorem wkT19 : ToldIn Tryz.prog 0 wkH 0 48 [.agg [.int 0 (.ofNat 0), .str 3 3485232, .int 0 (.ofNat 2)], .agg [.int 0 (.ofNat 0), .str 1 48, .int 0 (.ofNat 1)]] (.int 0 (.negSucc 0)) := FactR.allIn (wkOk.with _) wkMixed wkK2 rfl (FactR.one _ (by kernel_rfl) wkF19)
theorem wkT20 : ToldIn Tryz.prog 0 wkH 0 48 [.agg [.int 0 (.ofNat 0), .str 1 48, .int 0 (.ofNat 3)], .agg [.int 0 (.ofNat 0), .str 4 892219437, .int 0 (.ofNat 0)]] (.int 0 (.negSucc 0)) := FactR.allIn (wkOk.with _) wkMixed wkK2 rfl (FactR.one _ (by kernel_rfl) wkF20)
theorem wkT22 : ToldIn Tryz.prog 0 wkH 0 48 [.agg [.int 0 (.ofNat 0), .str 1 48, .int 0 (.ofNat 3)], .agg [.int 0 (.ofNat 0), .str 1 48, .int 0 (.ofNat 1)]] (.int 0 (.negSucc 0)) := FactR.allIn (wkOk.with _) wkMixed wkK2 rfl (FactR.one _ (by kernel_rfl) wkF22)
theorem wkT24 : ToldIn Tryz.prog 0 wkH 0 48 [.agg [.int 0 (.ofNat 0), .str 1 48, .int 0 (.ofNat 3)], .agg [.int 0 (.ofNat 0), .str 3 3485232, .int 0 (.ofNat 2)]] (.int 0 (.ofNat 1)) := FactR.allIn (wkOk.with _) wkMixed wkK2 rfl (FactR.one _ (by kernel_rfl) wkF24)
theorem wkK3 (w : World) (hw : LaidAt 0 wkH 0 w) : KnownOk Tryz.prog (wkEv.with wkKn3) w.heap.size w := KnownOk.told (told_some (told_one (wkT4 w hw) (told_one (wkT9 w hw) (told_one (wkT13 w hw) (told_one (wkT26 w hw) told_no)))) (told_some (told_one (wkT14 w hw) (told_one (wkT16 w hw) (told_one (wkT18 w hw) (told_one (wkT21 w hw) (told_one (wkT23 w hw) told_no))))) (told_some (told_one (wkT15 w hw) (told_one (wkT17 w hw) (told_one (wkT19 w hw) (told_one (wkT20 w hw) (told_one (wkT22 w hw) (told_one (wkT24 w hw) told_no)))))) (told_some (told_one (wkT1 w hw) (told_one (wkT2 w hw) (told_one (wkT7 w hw) told_no))) (told_some (told_one (wkT3 w hw) (told_one (wkT8 w hw) told_no)) (told_some (told_one (wkT0 w hw) (told_one (wkT6 w hw) (told_one (wkT11 w hw) told_no))) (told_some (told_one (wkT5 w hw) (told_one (wkT10 w hw) (told_one (wkT12 w hw) told_no))) (told_some (told_one (wkT25 w hw) told_no) told_nil))))))))
theorem wkTold : ToldIn Tryz.prog 0 wkH 0 5 [] (.bool true) := FactR.allIn (wkOk.with _) wkMixed wkK3 rfl ⟨by kernel_rfl, .parts _ _ _ wkR0 wkC1⟩
end
end Go.Proofs.YtjadcoglgnabpaaGreatDoor
