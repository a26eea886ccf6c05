/- The law without arguments comes to true, in every world. -/
import Derived.Test.YthenjfppjikkbaaGreatDoorWkF0
import Derived.Test.YthenjfppjikkbaaGreatDoorWkP0
import Derived.Test.YthenjfppjikkbaaGreatDoorWkP1
import Derived.Test.YthenjfppjikkbaaGreatDoorWkPc
import Derived.KernelRfl
namespace Go.Proofs.YthenjfppjikkbaaGreatDoor
open Go Go.Abs
noncomputable section
set_option maxRecDepth 1000000
theorem wkMixed : Tryz.prog.follows .mixedOrders = true := by kernel_rfl
theorem wkPlain : ([38, 49, 51] : List TypeId).all (plainB Tryz.prog) = true := by kernel_rfl
theorem wkNoCount : noCount Tryz.prog = true := by kernel_rfl
theorem wkIx64 : IdxFn Tryz.prog 64 := ⟨Tryz.f64, Tryz.func64, by kernel_rfl, by kernel_rfl, by kernel_rfl, by kernel_rfl⟩
theorem wkSm39 : SameFn Tryz.prog 39 := same_ok Tryz.func39 (by kernel_rfl) (by kernel_rfl) (by kernel_rfl) (by kernel_rfl)
theorem wkAt153 : AtomFn Tryz.prog 153 (.astore) := ⟨rfl, Tryz.f153, Extern.Atomic.storeT, Tryz.func153, by kernel_rfl, by kernel_rfl, by kernel_rfl, by kernel_rfl, rfl⟩
theorem wkAt222 : AtomFn Tryz.prog 222 (.mark0) := ⟨rfl, Tryz.f222, (fun _ => do mark .disable; pure Extern.Race.none_), Tryz.func222, by kernel_rfl, by kernel_rfl, by kernel_rfl, by kernel_rfl, ⟨.disable, rfl⟩⟩
theorem wkAt223 : AtomFn Tryz.prog 223 (.acas 2) := ⟨rfl, Tryz.f223, (Extern.Atomic.casT (.int .i32)), Tryz.func223, by kernel_rfl, by kernel_rfl, by kernel_rfl, by kernel_rfl, ⟨.i32, rfl, rfl⟩⟩
theorem wkAt224 : AtomFn Tryz.prog 224 (.mark0) := ⟨rfl, Tryz.f224, (fun _ => do mark .enable; pure Extern.Race.none_), Tryz.func224, by kernel_rfl, by kernel_rfl, by kernel_rfl, by kernel_rfl, ⟨.enable, rfl⟩⟩
theorem wkAt225 : AtomFn Tryz.prog 225 (.mark1) := ⟨rfl, Tryz.f225, (Extern.Race.marked .acquire), Tryz.func225, by kernel_rfl, by kernel_rfl, by kernel_rfl, by kernel_rfl, ⟨.acquire, rfl⟩⟩
theorem wkAt227 : AtomFn Tryz.prog 227 (.mark1) := ⟨rfl, Tryz.f227, (Extern.Race.marked .releaseMerge), Tryz.func227, by kernel_rfl, by kernel_rfl, by kernel_rfl, by kernel_rfl, ⟨.releaseMerge, rfl⟩⟩
theorem wkAt228 : AtomFn Tryz.prog 228 (.aadd 2) := ⟨rfl, Tryz.f228, (Extern.Atomic.update (Op.intArith .add) .i32 true), Tryz.func228, by kernel_rfl, by kernel_rfl, by kernel_rfl, by kernel_rfl, ⟨.i32, rfl, rfl⟩⟩
theorem wkAt321 : AtomFn Tryz.prog 321 (.countByte) := ⟨rfl, Tryz.f321, Extern.BytealgCount.count, Tryz.func321, by kernel_rfl, by kernel_rfl, by kernel_rfl, by kernel_rfl, rfl⟩
theorem wkAt88 : AtomFn Tryz.prog 88 (.aload 7) := ⟨rfl, Tryz.f88, (Extern.Atomic.loadT (.int .u32)), Tryz.func88, by kernel_rfl, by kernel_rfl, by kernel_rfl, by kernel_rfl, ⟨.u32, rfl, rfl⟩⟩
theorem wkMeths : wkMm.all (methB Tryz.prog) = true := by kernel_rfl
theorem wkLies : ([(113, 3, 0, 63), (63, 2, 0, 63), (65, 5, 3, 63)] : List (TypeId × Nat × Nat × TypeId)).all (liesB Tryz.prog) = true := by kernel_rfl
theorem wkOk : EOk2 Tryz.prog wkEv := envMeth_ok (envAtoms_ok (envLies_ok (envOf_ok wkPlain (List.forall_mem_cons.2 ⟨wkIx64, (fun _ h => by cases h)⟩) (List.forall_mem_cons.2 ⟨wkSm39, (fun _ h => by cases h)⟩) wkNoCount) wkLies) (List.forall_mem_cons.2 ⟨wkAt153, (List.forall_mem_cons.2 ⟨wkAt222, (List.forall_mem_cons.2 ⟨wkAt223, (List.forall_mem_cons.2 ⟨wkAt224, (List.forall_mem_cons.2 ⟨wkAt225, (List.forall_mem_cons.2 ⟨wkAt227, (List.forall_mem_cons.2 ⟨wkAt228, (List.forall_mem_cons.2 ⟨wkAt321, (List.forall_mem_cons.2 ⟨wkAt88, (fun _ h => by cases h)⟩)⟩)⟩)⟩)⟩)⟩)⟩)⟩)⟩)) wkMeths
theorem wkK0 (w : World) (_hw : LaidAt 3 wkH 4 w) : KnownOk Tryz.prog wkEv w.heap.size w := KnownOk.none (fun _ => rfl)
theorem wkT0 : ToldIn Tryz.prog 3 wkH 4 7 [.str 21 67943618126798425643938706482364344974832255597422] (.bool true) := FactR.allIn wkOk wkMixed wkK0 rfl (FactR.one _ (by kernel_rfl) wkF0)
theorem wkT1 : ToldIn Tryz.prog 3 wkH 4 7 [.str 13 3264813215904872976342661738792] (.bool true) := FactR.allIn wkOk wkMixed wkK0 rfl (FactR.one _ (by kernel_rfl) wkF1)
theorem wkT2 : ToldIn Tryz.prog 3 wkH 4 71 [.str 1 40] (.bool false) := FactR.allIn wkOk wkMixed wkK0 rfl (FactR.one _ (by kernel_rfl) wkF2)
theorem wkT3 : ToldIn Tryz.prog 3 wkH 4 71 [.str 1 44] (.bool false) := FactR.allIn wkOk wkMixed wkK0 rfl (FactR.one _ (by kernel_rfl) wkF3)
theorem wkT4 : ToldIn Tryz.prog 3 wkH 4 71 [.str 1 41] (.bool false) := FactR.allIn wkOk wkMixed wkK0 rfl (FactR.one _ (by kernel_rfl) wkF4)
theorem wkT5 : ToldIn Tryz.prog 3 wkH 4 171 [.str 1 49, .str 2 17765] (.bool false) := FactR.allIn wkOk wkMixed wkK0 rfl (FactR.one _ (by kernel_rfl) wkF5)
theorem wkT6 : ToldIn Tryz.prog 3 wkH 4 447 [.str 1 48, .int 0 (.ofNat 20)] (.str 20 275106190556405255191281850864241509582293184560) := FactR.allIn wkOk wkMixed wkK0 rfl (FactR.one _ (by kernel_rfl) wkF6)
theorem wkT7 : ToldIn Tryz.prog 3 wkH 4 447 [.str 1 48, .int 0 (.ofNat 50)] (.str 50 486070565286947499229349491200566941050297561003147955356359408290004258261993636636168537088025944740875891194870116400) := FactR.allIn wkOk wkMixed wkK0 rfl (FactR.one _ (by kernel_rfl) wkF7)
theorem wkT8 : ToldIn Tryz.prog 3 wkH 4 522 [.str 20 275106190556405255191281850864241509582293184560, .int 1 (.ofNat 48)] (.str 0 0) := FactR.allIn wkOk wkMixed wkK0 rfl (FactR.one _ (by kernel_rfl) wkF8)
theorem wkT10 : ToldIn Tryz.prog 3 wkH 4 247 [.str 3 3485234, .str 2 17765] (.int 0 (.negSucc 0)) := FactR.allIn wkOk wkMixed wkK0 rfl (FactR.one _ (by kernel_rfl) wkF10)
theorem wkT11 : ToldIn Tryz.prog 3 wkH 4 447 [.str 1 48, .int 0 (.ofNat 19)] (.str 19 1074633556860958028090944729938443396805832752) := FactR.allIn wkOk wkMixed wkK0 rfl (FactR.one _ (by kernel_rfl) wkF11)
theorem wkT12 : ToldIn Tryz.prog 3 wkH 4 522 [.str 20 275106190556405255191281850864241509582293184565, .int 1 (.ofNat 48)] (.str 1 53) := FactR.allIn wkOk wkMixed wkK0 rfl (FactR.one _ (by kernel_rfl) wkF12)
theorem wkT14 : ToldIn Tryz.prog 3 wkH 4 7 [.str 4 540703598] (.bool true) := FactR.allIn wkOk wkMixed wkK0 rfl (FactR.one _ (by kernel_rfl) wkF14)
theorem wkT16 : ToldIn Tryz.prog 3 wkH 4 49 [.slcN, .slcN] (.int 0 (.ofNat 0)) := FactR.allIn wkOk wkMixed wkK0 rfl (FactR.one _ (by kernel_rfl) wkF16)
theorem wkT18 : ToldIn Tryz.prog 3 wkH 4 5 [.str 2 32097] (.tup [.slcN, .int 0 (.ofNat 150)]) := FactR.allIn wkOk wkMixed wkK0 rfl (FactR.one _ (by kernel_rfl) wkF18)
theorem wkK1 (w : World) (hw : LaidAt 3 wkH 4 w) : KnownOk Tryz.prog (wkEv.with wkKn1) w.heap.size w := KnownOk.told (told_some (told_one (wkT18 w hw) told_no) (told_some (told_one (wkT0 w hw) (told_one (wkT1 w hw) (told_one (wkT14 w hw) told_no))) (told_some (told_one (wkT16 w hw) told_no) (told_some (told_one (wkT2 w hw) (told_one (wkT3 w hw) (told_one (wkT4 w hw) told_no))) (told_some (told_one (wkT5 w hw) told_no) (told_some (told_one (wkT10 w hw) told_no) (told_some (told_one (wkT6 w hw) (told_one (wkT7 w hw) (told_one (wkT11 w hw) told_no))) (told_some (told_one (wkT8 w hw) (told_one (wkT12 w hw) told_no)) told_nil))))))))
theorem wkT9 : ToldIn Tryz.prog 3 wkH 4 217 [.str 1 49] (.tup [.str 1 49, .int 0 (.ofNat 0)]) := FactR.allIn (wkOk.with _) wkMixed wkK1 rfl (FactR.one _ (by kernel_rfl) wkF9)
theorem wkT13 : ToldIn Tryz.prog 3 wkH 4 217 [.str 3 3485234] (.tup [.str 3 3485234, .int 0 (.ofNat 0)]) := FactR.allIn (wkOk.with _) wkMixed wkK1 rfl (FactR.one _ (by kernel_rfl) wkF13)
theorem wkT15 : ToldIn Tryz.prog 3 wkH 4 218 [.str 1 49] (.bool true) := FactR.allIn (wkOk.with _) wkMixed wkK1 rfl (FactR.one _ (by kernel_rfl) wkF15)
theorem wkK2 (w : World) (hw : LaidAt 3 wkH 4 w) : KnownOk Tryz.prog (wkEv.with wkKn2) w.heap.size w := KnownOk.told (told_some (told_one (wkT18 w hw) told_no) (told_some (told_one (wkT0 w hw) (told_one (wkT1 w hw) (told_one (wkT14 w hw) told_no))) (told_some (told_one (wkT16 w hw) told_no) (told_some (told_one (wkT2 w hw) (told_one (wkT3 w hw) (told_one (wkT4 w hw) told_no))) (told_some (told_one (wkT5 w hw) told_no) (told_some (told_one (wkT9 w hw) (told_one (wkT13 w hw) told_no)) (told_some (told_one (wkT15 w hw) told_no) (told_some (told_one (wkT10 w hw) told_no) (told_some (told_one (wkT6 w hw) (told_one (wkT7 w hw) (told_one (wkT11 w hw) told_no))) (told_some (told_one (wkT8 w hw) (told_one (wkT12 w hw) told_no)) told_nil))))))))))
theorem wkT17 : ToldIn Tryz.prog 3 wkH 4 122 [.agg [.int 0 (.ofNat 3), .str 1 49]] (.bool true) := FactR.allIn (wkOk.with _) wkMixed wkK2 rfl (FactR.one _ (by kernel_rfl) wkF17)
theorem wkK3 (w : World) (hw : LaidAt 3 wkH 4 w) : KnownOk Tryz.prog (wkEv.with wkKn3) w.heap.size w := KnownOk.told (told_some (told_one (wkT18 w hw) told_no) (told_some (told_one (wkT0 w hw) (told_one (wkT1 w hw) (told_one (wkT14 w hw) told_no))) (told_some (told_one (wkT16 w hw) told_no) (told_some (told_one (wkT2 w hw) (told_one (wkT3 w hw) (told_one (wkT4 w hw) told_no))) (told_some (told_one (wkT17 w hw) told_no) (told_some (told_one (wkT5 w hw) told_no) (told_some (told_one (wkT9 w hw) (told_one (wkT13 w hw) told_no)) (told_some (told_one (wkT15 w hw) told_no) (told_some (told_one (wkT10 w hw) told_no) (told_some (told_one (wkT6 w hw) (told_one (wkT7 w hw) (told_one (wkT11 w hw) told_no))) (told_some (told_one (wkT8 w hw) (told_one (wkT12 w hw) told_no)) told_nil)))))))))))
theorem wkTold : ToldIn Tryz.prog 3 wkH 4 4 [] (.bool true) := FactR.allIn (wkOk.with _) wkMixed wkK3 rfl ⟨by kernel_rfl, .parts _ _ _ wkR0 wkC1⟩
end
end Go.Proofs.YthenjfppjikkbaaGreatDoor
