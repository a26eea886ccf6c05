/- The law without arguments comes to true, in every world. -/
import Derived.Test.YtdhgjhipfoeffaaGreatDoorMkF0
import Derived.Test.YtdhgjhipfoeffaaGreatDoorMkF1
import Derived.Test.YtdhgjhipfoeffaaGreatDoorMkH32xP0
import Derived.Test.YtdhgjhipfoeffaaGreatDoorMkH32xP1
import Derived.Test.YtdhgjhipfoeffaaGreatDoorMkP0
import Derived.Test.YtdhgjhipfoeffaaGreatDoorMkP1
import Derived.Test.YtdhgjhipfoeffaaGreatDoorMkP2
import Derived.KernelRfl
namespace Go.Proofs.YtdhgjhipfoeffaaGreatDoor
open Go Go.Abs
noncomputable section
set_option maxRecDepth 1000000
theorem mkMixed : Tryz.prog.follows .mixedOrders = true := by kernel_rfl
theorem mkPlain : ([84, 86, 41, 72] : List TypeId).all (plainB Tryz.prog) = true := by kernel_rfl
theorem mkNoCount : noCount Tryz.prog = true := by kernel_rfl
theorem mkIx157 : IdxFn Tryz.prog 157 := ⟨Tryz.f157, Tryz.func157, by kernel_rfl, by kernel_rfl, by kernel_rfl, by kernel_rfl⟩
theorem mkOk : EOk2 Tryz.prog mkEv := envOf_ok mkPlain (List.forall_mem_cons.2 ⟨mkIx157, (fun _ h => by cases h)⟩) (fun _ h => by cases h) mkNoCount
theorem mkK0 (w : World) : KnownOk Tryz.prog mkEv w.heap.size w := KnownOk.none (fun _ => rfl)
theorem mkT0 : ToldAll Tryz.prog 78 [.agg [.int 0 (.ofNat 17), .str 0 0, .str 0 0, .int 0 (.ofNat 0), .int 0 (.ofNat 0), .str 0 0, .int 0 (.ofNat 0), .int 0 (.ofNat 0), .str 0 0, .int 0 (.ofNat 0), .int 0 (.ofNat 0), .int 0 (.ofNat 0), .str 0 0, .str 0 0, .slcN, .slcN]] (.int 0 (.ofNat 0)) := FactR.all mkOk mkMixed mkK0 rfl (FactR.one _ (by kernel_rfl) mkF0)
theorem mkT1 : ToldAll Tryz.prog 96 [.str 1 48, .int 0 (.ofNat 19)] (.str 19 1074633556860958028090944729938443396805832752) := FactR.all mkOk mkMixed mkK0 rfl (FactR.one _ (by kernel_rfl) mkF1)
theorem mkT2 : ToldAll Tryz.prog 96 [.str 1 48, .int 0 (.ofNat 50)] (.str 50 486070565286947499229349491200566941050297561003147955356359408290004258261993636636168537088025944740875891194870116400) := FactR.all mkOk mkMixed mkK0 rfl (FactR.one _ (by kernel_rfl) mkF2)
theorem mkT3 : ToldAll Tryz.prog 104 [.str 20 275106190556405255191281850864241509582293184565, .int 1 (.ofNat 48)] (.str 1 53) := FactR.all mkOk mkMixed mkK0 rfl (FactR.one _ (by kernel_rfl) mkF3)
theorem mkT5 : ToldAll Tryz.prog 151 [.str 1 97] (.bool true) := FactR.all mkOk mkMixed mkK0 rfl (FactR.one _ (by kernel_rfl) mkF5)
theorem mkT7 : ToldAll Tryz.prog 96 [.str 1 48, .int 0 (.ofNat 20)] (.str 20 275106190556405255191281850864241509582293184560) := FactR.all mkOk mkMixed mkK0 rfl (FactR.one _ (by kernel_rfl) mkF7)
theorem mkT8 : ToldAll Tryz.prog 104 [.str 20 275106190556405255191281850864241509582293184560, .int 1 (.ofNat 48)] (.str 0 0) := FactR.all mkOk mkMixed mkK0 rfl (FactR.one _ (by kernel_rfl) mkF8)
theorem mkT10 : ToldAll Tryz.prog 151 [.str 1 98] (.bool true) := FactR.all mkOk mkMixed mkK0 rfl (FactR.one _ (by kernel_rfl) mkF10)
theorem mkT12 : ToldAll Tryz.prog 151 [.str 1 120] (.bool true) := FactR.all mkOk mkMixed mkK0 rfl (FactR.one _ (by kernel_rfl) mkF12)
theorem mkT30 : ToldAll Tryz.prog 288 [.slcN] (.tup [.slcN, .int 0 (.ofNat 0)]) := FactR.all mkOk mkMixed mkK0 rfl (FactR.one _ (by kernel_rfl) mkF30)
theorem mkK1 (w : World) : KnownOk Tryz.prog (mkEv.with mkKn1) w.heap.size w := KnownOk.told (told_some (told_one (mkT0 w) told_no) (told_some (told_one (mkT1 w) (told_one (mkT2 w) (told_one (mkT7 w) told_no))) (told_some (told_one (mkT3 w) (told_one (mkT8 w) told_no)) (told_some (told_one (mkT5 w) (told_one (mkT10 w) (told_one (mkT12 w) told_no))) (told_some (told_one (mkT30 w) told_no) told_nil)))))
theorem mkT4 : ToldAll Tryz.prog 27 [.str 4 892219437] (.tup [.str 4 892219437, .int 0 (.ofNat 0)]) := FactR.all (mkOk.with _) mkMixed mkK1 rfl (FactR.one _ (by kernel_rfl) mkF4)
theorem mkT6 : ToldAll Tryz.prog 78 [.agg [.int 0 (.ofNat 17), .str 0 0, .str 0 0, .int 0 (.ofNat 0), .int 0 (.ofNat 0), .str 0 0, .int 0 (.ofNat 0), .int 0 (.ofNat 1), .str 1 97, .int 0 (.ofNat 0), .int 0 (.ofNat 0), .int 0 (.ofNat 0), .str 0 0, .str 0 0, .slcN, .slcN]] (.int 0 (.ofNat 0)) := FactR.all (mkOk.with _) mkMixed mkK1 rfl (FactR.one _ (by kernel_rfl) mkF6)
theorem mkT9 : ToldAll Tryz.prog 27 [.str 1 48] (.tup [.str 1 48, .int 0 (.ofNat 0)]) := FactR.all (mkOk.with _) mkMixed mkK1 rfl (FactR.one _ (by kernel_rfl) mkF9)
theorem mkT11 : ToldAll Tryz.prog 78 [.agg [.int 0 (.ofNat 17), .str 0 0, .str 0 0, .int 0 (.ofNat 0), .int 0 (.ofNat 0), .str 0 0, .int 0 (.ofNat 0), .int 0 (.ofNat 1), .str 1 98, .int 0 (.ofNat 0), .int 0 (.ofNat 0), .int 0 (.ofNat 0), .str 0 0, .str 0 0, .slcN, .slcN]] (.int 0 (.ofNat 0)) := FactR.all (mkOk.with _) mkMixed mkK1 rfl (FactR.one _ (by kernel_rfl) mkF11)
theorem mkT13 : ToldAll Tryz.prog 27 [.str 3 3485232] (.tup [.str 3 3485232, .int 0 (.ofNat 0)]) := FactR.all (mkOk.with _) mkMixed mkK1 rfl (FactR.one _ (by kernel_rfl) mkF13)
theorem mkT14 : ToldAll Tryz.prog 28 [.str 4 892219437, .str 1 48] (.tup [.str 4 892219437, .int 0 (.ofNat 0)]) := FactR.all (mkOk.with _) mkMixed mkK1 rfl (FactR.one _ (by kernel_rfl) mkF14)
theorem mkT16 : ToldAll Tryz.prog 28 [.str 4 892219437, .str 3 3485232] (.tup [.str 2 12589, .int 0 (.ofNat 0)]) := FactR.all (mkOk.with _) mkMixed mkK1 rfl (FactR.one _ (by kernel_rfl) mkF16)
theorem mkT18 : ToldAll Tryz.prog 28 [.str 1 48, .str 3 3485232] (.tup [.str 4 892219437, .int 0 (.ofNat 0)]) := FactR.all (mkOk.with _) mkMixed mkK1 rfl (FactR.one _ (by kernel_rfl) mkF18)
theorem mkT21 : ToldAll Tryz.prog 28 [.str 1 48, .str 1 48] (.tup [.str 1 48, .int 0 (.ofNat 0)]) := FactR.all (mkOk.with _) mkMixed mkK1 rfl (FactR.one _ (by kernel_rfl) mkF21)
theorem mkT23 : ToldAll Tryz.prog 28 [.str 3 3485232, .str 1 48] (.tup [.str 3 3485232, .int 0 (.ofNat 0)]) := FactR.all (mkOk.with _) mkMixed mkK1 rfl (FactR.one _ (by kernel_rfl) mkF23)
theorem mkT25 : ToldAll Tryz.prog 27 [.str 3 3157552] (.tup [.str 1 48, .int 0 (.ofNat 0)]) := FactR.all (mkOk.with _) mkMixed mkK1 rfl (FactR.one _ (by kernel_rfl) mkF25)
theorem mkT28 : ToldAll Tryz.prog 28 [.str 3 3485232, .str 4 892219437] (.tup [.str 1 49, .int 0 (.ofNat 0)]) := FactR.all (mkOk.with _) mkMixed mkK1 rfl (FactR.one _ (by kernel_rfl) mkF28)
theorem mkT31 : ToldAll Tryz.prog 27 [.str 1 53] (.tup [.str 1 53, .int 0 (.ofNat 0)]) := FactR.all (mkOk.with _) mkMixed mkK1 rfl (FactR.one _ (by kernel_rfl) mkF31)
theorem mkK2 (w : World) : KnownOk Tryz.prog (mkEv.with mkKn2) w.heap.size w := KnownOk.told (told_some (told_one (mkT4 w) (told_one (mkT9 w) (told_one (mkT13 w) (told_one (mkT25 w) (told_one (mkT31 w) told_no))))) (told_some (told_one (mkT14 w) (told_one (mkT16 w) (told_one (mkT18 w) (told_one (mkT21 w) (told_one (mkT23 w) (told_one (mkT28 w) told_no)))))) (told_some (told_one (mkT0 w) (told_one (mkT6 w) (told_one (mkT11 w) told_no))) (told_some (told_one (mkT1 w) (told_one (mkT2 w) (told_one (mkT7 w) told_no))) (told_some (told_one (mkT3 w) (told_one (mkT8 w) told_no)) (told_some (told_one (mkT5 w) (told_one (mkT10 w) (told_one (mkT12 w) told_no))) (told_some (told_one (mkT30 w) told_no) told_nil)))))))
theorem mkT15 : ToldAll Tryz.prog 37 [.agg [.int 0 (.ofNat 0), .str 1 48, .int 0 (.ofNat 1)], .agg [.int 0 (.ofNat 0), .str 4 892219437, .int 0 (.ofNat 0)]] (.int 0 (.negSucc 0)) := FactR.all (mkOk.with _) mkMixed mkK2 rfl (FactR.one _ (by kernel_rfl) mkF15)
theorem mkT17 : ToldAll Tryz.prog 37 [.agg [.int 0 (.ofNat 0), .str 3 3485232, .int 0 (.ofNat 2)], .agg [.int 0 (.ofNat 0), .str 4 892219437, .int 0 (.ofNat 0)]] (.int 0 (.negSucc 0)) := FactR.all (mkOk.with _) mkMixed mkK2 rfl (FactR.one _ (by kernel_rfl) mkF17)
theorem mkT19 : ToldAll Tryz.prog 37 [.agg [.int 0 (.ofNat 0), .str 3 3485232, .int 0 (.ofNat 2)], .agg [.int 0 (.ofNat 0), .str 1 48, .int 0 (.ofNat 1)]] (.int 0 (.negSucc 0)) := FactR.all (mkOk.with _) mkMixed mkK2 rfl (FactR.one _ (by kernel_rfl) mkF19)
theorem mkT20 : ToldAll Tryz.prog 37 [.agg [.int 0 (.ofNat 0), .str 1 48, .int 0 (.ofNat 3)], .agg [.int 0 (.ofNat 0), .str 4 892219437, .int 0 (.ofNat 0)]] (.int 0 (.negSucc 0)) := FactR.all (mkOk.with _) mkMixed mkK2 rfl (FactR.one _ (by kernel_rfl) mkF20)
theorem mkT22 : ToldAll Tryz.prog 37 [.agg [.int 0 (.ofNat 0), .str 1 48, .int 0 (.ofNat 3)], .agg [.int 0 (.ofNat 0), .str 1 48, .int 0 (.ofNat 1)]] (.int 0 (.negSucc 0)) := FactR.all (mkOk.with _) mkMixed mkK2 rfl (FactR.one _ (by kernel_rfl) mkF22)
theorem mkT24 : ToldAll Tryz.prog 37 [.agg [.int 0 (.ofNat 0), .str 1 48, .int 0 (.ofNat 3)], .agg [.int 0 (.ofNat 0), .str 3 3485232, .int 0 (.ofNat 2)]] (.int 0 (.ofNat 1)) := FactR.all (mkOk.with _) mkMixed mkK2 rfl (FactR.one _ (by kernel_rfl) mkF24)
theorem mkT26 : ToldAll Tryz.prog 37 [.agg [.int 0 (.ofNat 1), .str 1 48, .int 0 (.ofNat 1)], .agg [.int 0 (.ofNat 0), .str 4 892219437, .int 0 (.ofNat 0)]] (.int 0 (.negSucc 0)) := FactR.all (mkOk.with _) mkMixed mkK2 rfl (FactR.one _ (by kernel_rfl) mkF26)
theorem mkT27 : ToldAll Tryz.prog 37 [.agg [.int 0 (.ofNat 0), .str 3 3485232, .int 0 (.ofNat 2)], .agg [.int 0 (.ofNat 1), .str 1 48, .int 0 (.ofNat 1)]] (.int 0 (.ofNat 1)) := FactR.all (mkOk.with _) mkMixed mkK2 rfl (FactR.one _ (by kernel_rfl) mkF27)
theorem mkT29 : ToldAll Tryz.prog 7 [.int 0 (.ofNat 0), .str 3 3485232, .int 0 (.ofNat 0), .int 0 (.ofNat 0), .str 4 892219437, .int 0 (.ofNat 7)] (.bool true) := FactR.all (mkOk.with _) mkMixed mkK2 rfl (FactR.one _ (by kernel_rfl) mkF29)
theorem mkK3 (w : World) : KnownOk Tryz.prog (mkEv.with mkKn3) w.heap.size w := KnownOk.told (told_some (told_one (mkT29 w) told_no) (told_some (told_one (mkT4 w) (told_one (mkT9 w) (told_one (mkT13 w) (told_one (mkT25 w) (told_one (mkT31 w) told_no))))) (told_some (told_one (mkT14 w) (told_one (mkT16 w) (told_one (mkT18 w) (told_one (mkT21 w) (told_one (mkT23 w) (told_one (mkT28 w) told_no)))))) (told_some (told_one (mkT15 w) (told_one (mkT17 w) (told_one (mkT19 w) (told_one (mkT20 w) (told_one (mkT22 w) (told_one (mkT24 w) (told_one (mkT26 w) (told_one (mkT27 w) told_no)))))))) (told_some (told_one (mkT0 w) (told_one (mkT6 w) (told_one (mkT11 w) told_no))) (told_some (told_one (mkT1 w) (told_one (mkT2 w) (told_one (mkT7 w) told_no))) (told_some (told_one (mkT3 w) (told_one (mkT8 w) told_no)) (told_some (told_one (mkT5 w) (told_one (mkT10 w) (told_one (mkT12 w) told_no))) (told_some (told_one (mkT30 w) told_no) told_nil)))))))))
theorem mkT32 : ToldAll Tryz.prog 6 [] (.bool true) := FactR.all (mkOk.with _) mkMixed mkK3 rfl ⟨by kernel_rfl, .parts _ _ _ mkH32xR0 (.last _ mkH32xR1)⟩
theorem mkK4 (w : World) : KnownOk Tryz.prog (mkEv.with mkKn4) w.heap.size w := KnownOk.told (told_some (told_one (mkT32 w) told_no) (told_some (told_one (mkT29 w) told_no) (told_some (told_one (mkT4 w) (told_one (mkT9 w) (told_one (mkT13 w) (told_one (mkT25 w) (told_one (mkT31 w) told_no))))) (told_some (told_one (mkT14 w) (told_one (mkT16 w) (told_one (mkT18 w) (told_one (mkT21 w) (told_one (mkT23 w) (told_one (mkT28 w) told_no)))))) (told_some (told_one (mkT15 w) (told_one (mkT17 w) (told_one (mkT19 w) (told_one (mkT20 w) (told_one (mkT22 w) (told_one (mkT24 w) (told_one (mkT26 w) (told_one (mkT27 w) told_no)))))))) (told_some (told_one (mkT0 w) (told_one (mkT6 w) (told_one (mkT11 w) told_no))) (told_some (told_one (mkT1 w) (told_one (mkT2 w) (told_one (mkT7 w) told_no))) (told_some (told_one (mkT3 w) (told_one (mkT8 w) told_no)) (told_some (told_one (mkT5 w) (told_one (mkT10 w) (told_one (mkT12 w) told_no))) (told_some (told_one (mkT30 w) told_no) told_nil))))))))))
theorem mkTold : ToldAll Tryz.prog 5 [] (.bool true) := FactR.all (mkOk.with _) mkMixed mkK4 rfl ⟨by kernel_rfl, .parts _ _ _ mkR0 (.more _ _ mkR1 (.last _ mkR2))⟩
end
end Go.Proofs.YtdhgjhipfoeffaaGreatDoor
