/- The walks of the builder in the reader, of has, isChar, IsText, Twice and flush. Conditions: none. -/
import Derived.Test.YthenjfppjikkbaaGreatDoorProg
import Derived.Test.YthenjfppjikkbaaGreatDoorSh
import Derived.WalkKit
import Derived.WalkSpells
import Derived.Lib.Hide
import Derived.Below
import Derived.Laws.OwnMore
import Derived.Deep.AppendLies
import Derived.Deep.Draws
import Derived.Deep.QuietTactic
import Derived.BigQuiet
import Derived.Deep.CutRange
import Derived.Deep.DeepCutAuto
import Derived.Deep.DrawnRows
import Derived.Laws.RangeString
import Derived.Laws.RangeAny
import Derived.Deep.RegionHeld3
import Derived.Deep.RegionLaw
import Derived.Deep.MidRow
import Derived.Deep.OwnRows
set_option linter.all false
set_option linter.unusedVariables false
set_option maxHeartbeats 2000000
namespace Go.Proofs.Pt
open Go.RowKit Go.Lib
/-- the reader's own builder, a field of the reader: block b holds text, place, parts, and the builder's two cells -/
def Rd (B b : Nat) (x0 x1 x2 p : Value) (bs : List Value) (w : World) : Prop :=
  B ≤ b ∧ ∃ v, w.heap[b]? = some (.cells #[x0, x1, x2, p, v] 65 (0, 0)) ∧ w.ownsRow B 5 1 v bs.length bs ∧ v.ownBlock ≠ some b
def atB (b : Nat) : Value := .pointer (some ⟨b, 3, none⟩)
theorem Rd.put {B b : Nat} {x0 x1 x2 p v v' : Value} {bs' : List Value} {w : World} (hB : B ≤ b) (hb : w.heap[b]? = some (.cells #[x0, x1, x2, p, v] 65 (0, 0))) (hown : w.ownsRow B 5 1 v' bs'.length bs') :
    Rd B b x0 x1 x2 p bs' (w.setCell ⟨b, 4, none⟩ v') := by
  have hne := ownBlock_ne hown hb (by decide)
  refine ⟨hB, v', ?_, ?_, hne⟩
  · simp [World.setCell, Array.getElem?_modify, hb]
  · exact hown.kept (row := some b) ⟨rfl, rfl, rfl, by simp [World.setCell], fun k _ hk => Below.heap_setCell _ _ _ _ (fun e => hk (by simp [e]))⟩ (Or.inr hne)
theorem Rd.used {B b : Nat} {x0 x1 x2 p : Value} {bs : List Value} {w : World} (h : Rd B b x0 x1 x2 p bs w) (q : Value) : Rd B b x0 x1 x2 q bs (w.setCell ⟨b, 3, none⟩ q) := by
  obtain ⟨hB, v, hb, hown, hne⟩ := h
  refine ⟨hB, v, ?_, ?_, hne⟩
  · simp [World.setCell, Array.getElem?_modify, hb]
  · exact hown.kept (row := some b) ⟨rfl, rfl, rfl, by simp [World.setCell], fun k _ hk => Below.heap_setCell _ _ _ _ (fun e => hk (by simp [e]))⟩ (Or.inr hne)
theorem Rd.moved {B b : Nat} {x0 x1 x2 p : Value} {bs : List Value} {w : World} (h : Rd B b x0 x1 x2 p bs w) (q : Value) : Rd B b x0 q x2 p bs (w.setCell ⟨b, 1, none⟩ q) := by
  obtain ⟨hB, v, hb, hown, hne⟩ := h
  refine ⟨hB, v, ?_, ?_, hne⟩
  · simp [World.setCell, Array.getElem?_modify, hb]
  · exact hown.kept (row := some b) ⟨rfl, rfl, rfl, by simp [World.setCell], fun k _ hk => Below.heap_setCell _ _ _ _ (fun e => hk (by simp [e]))⟩ (Or.inr hne)
theorem Rd.lt {B b : Nat} {x0 x1 x2 p : Value} {bs : List Value} {w : World} (h : Rd B b x0 x1 x2 p bs w) : b < w.heap.size := by
  obtain ⟨_, v, hb, _⟩ := h
  exact (Array.getElem?_eq_some_iff.1 hb).1
theorem freeze_heap (w : World) (g n : Nat) {b : Nat} (h : b ≠ g) : (w.drew.freeze ⟨g, 0, none⟩ n).heap[b]? = w.heap[b]? := by
  unfold World.freeze
  split
  · rfl
  · simp only [Array.getElem?_modify]
    rw [if_neg (by omega)]
    rfl
set_option maxRecDepth 100000 in
theorem check_fresh (b : Nat) (w : World) {x0 x1 x2 v : Value} (hb : w.heap[b]? = some (.cells #[x0, x1, x2, .pointer none, v] 65 (0, 0))) :
    Calls Tryz.prog 26 #[atB b] w fun e w' => e = .returned (.tuple #[]) ∧ w' = w.setCell ⟨b, 3, none⟩ (atB b) := by
  have h0 : w.cell? ⟨b, 3, none⟩ = some (.pointer none) := by simp [World.cell?, hb]
  have hsh : w.shape? b = some (65, 5) := by simp [World.shape?, hb]
  have hfz : w.frozen? ⟨b, 3, none⟩ = false := by simp [World.frozen?, hb]
  obtain ⟨j, hj, hjs⟩ := Option.map_eq_some_iff.1 (show (Tryz.prog.info? 63).map (·.size) = some 2 by kernel_rfl)
  unfold atB
  go_enter Tryz.func26, Tryz.ntmps26
  go_wp2
  rw [Lib.run_to_unsafe w ⟨b, 3, none⟩ (t := 63) (by kernel_rfl) (by kernel_rfl) hj (by rw [hjs]; decide) hsh (by show 3 < 5; decide)]
  simp only [Result.andThen]
  rw [Oper.upon_value]
  go_wp2
  rw [run_callFunc_extern Tryz.func39 (by kernel_rfl) (by kernel_rfl) (by kernel_rfl) (e := Extern.AbiNoEscape.same) (by kernel_rfl)]
  rw [Lib.run_noEscape]
  simp only [Result.andThen]
  rw [Oper.upon_value]
  go_wp2
  rw [Lib.run_from_unsafe w ⟨b, 3, none⟩ (u := 63) (by kernel_rfl) (by kernel_rfl) hj hsh (by kernel_rfl)]
  simp only [Result.andThen]
  rw [Oper.upon_value]
  go_wp2
  go_end0
  exact ⟨rfl, rfl⟩
set_option maxRecDepth 100000 in
theorem check_used (b : Nat) (w : World) (h0 : w.cell? ⟨b, 3, none⟩ = some (atB b)) :
    Calls Tryz.prog 26 #[atB b] w fun e w' => e = .returned (.tuple #[]) ∧ w' = w := by
  obtain ⟨j, hj, hjs⟩ := Option.map_eq_some_iff.1 (show (Tryz.prog.info? 63).map (·.size) = some 2 by kernel_rfl)
  unfold atB at h0 ⊢
  go_enter Tryz.func26, Tryz.ntmps26
  go_wp2
  rw [Lib.run_neq_ptr_same w _ (te := 63) (by kernel_rfl) hj]
  go_wp2
  go_end0
  exact ⟨rfl, rfl⟩
theorem infoByte : (Tryz.prog.info? 5).map (fun i => (i.zero, i.size, i.bytes)) = some (some (.int .u8 0), 1, 1) := by kernel_rfl
/-- fresh or used -/
def IsRd (B b : Nat) (x0 x1 x2 : Value) (bs : List Value) (w : World) : Prop := Rd B b x0 x1 x2 (.pointer none) bs w ∨ Rd B b x0 x1 x2 (atB b) bs w
theorem check_any (B b : Nat) (x0 x1 x2 : Value) (bs : List Value) (w : World) (h : IsRd B b x0 x1 x2 bs w) :
    Calls Tryz.prog 26 #[atB b] w fun e w' => e = .returned (.tuple #[]) ∧ Rd B b x0 x1 x2 (atB b) bs w' ∧ Below B w w' := by
  rcases h with h | h
  · obtain ⟨hB, v, hb, hown, hne⟩ := h
    refine (check_fresh b w hb).mono ?_
    rintro e w' ⟨rfl, rfl⟩
    exact ⟨rfl, Rd.used ⟨hB, v, hb, hown, hne⟩ _, (Below.refl B w).setCell (p := ⟨b, 3, none⟩) hB _⟩
  · obtain ⟨hB, v, hb, hown, hne⟩ := h
    refine (check_used b w (by simp [World.cell?, hb])).mono ?_
    rintro e w' ⟨rfl, rfl⟩
    exact ⟨rfl, ⟨hB, v, hb, hown, hne⟩, Below.refl B _⟩
set_option maxHeartbeats 2000000 in
set_option maxRecDepth 100000 in
theorem writeByte_any (B b : Nat) (x0 x1 x2 : Value) (bs : List Value) (c : Int) (w : World) (h : IsRd B b x0 x1 x2 bs w) (hlen : bs.length + 1 ≤ 140737488355328) (hBw : B ≤ w.heap.size) :
    Calls Tryz.prog 12 #[atB b, .int .u8 c] w fun e w' => e = .returned .nilIface ∧ Rd B b x0 x1 x2 (atB b) (bs ++ [.int .u8 c]) w' ∧ Below B w w' := by
  obtain ⟨i0, hi, hz0, hz1, hz2⟩ := info_parts infoByte
  have hchk := check_any B b x0 x1 x2 bs
  unfold atB at hchk ⊢
  go_enter Tryz.func12, Tryz.ntmps12
  go_wp2_with (go_at_call 26; refine (hchk _ h).mono ?_)
  rintro e w1 ⟨rfl, h1, hb1⟩
  obtain ⟨hB, v, hbk, hown, hne⟩ := h1
  have c0 : w1.cell? ⟨b, 3, none⟩ = some (.pointer (some ⟨b, 3, none⟩)) := by rw [Lib.cell_of_heap hbk]; rfl
  have c1 : w1.cell? ⟨b, 4, none⟩ = some v := by rw [Lib.cell_of_heap hbk]; rfl
  go_wp2_with (at_builtin; refine wpList_append_own _ rfl _ _ 61 rfl B 5 i0 (.int .u8 0) 1 1 (by kernel_rfl) hi hz0 hz1 hz2 rfl (by decide) _ _ _ rfl (hown.alloc _) ⟨w1.heap.size, 0, none⟩ 1 1 [.int .u8 c] rfl rfl ?c1 ?c2 ?c3 ?c4 ?c5 ?_)
  case c1 =>
    intro j u hj
    match j, hj with
    | 0, hj => simp at hj; subst hj; simp [Addr.add]
  case c2 => intro u hu; simp at hu; subst hu; rfl
  case c3 => unfold maxLen; omega
  case c4 => omega
  case c5 => have := hb1.size; simp; omega
  intro v' w2 hown' hgrow _
  have hlt : b < w1.heap.size := (Array.getElem?_eq_some_iff.1 hbk).1
  have hb2 : w2.heap[b]? = some (.cells #[x0, x1, x2, .pointer (some ⟨b, 3, none⟩), v] 65 (0, 0)) := by
    rw [hgrow.block b (by simp; omega) (fun e => hne e.symm), Lib.alloc_old w1 _ b hlt]
    exact hbk
  have d1 : w2.cell? ⟨b, 4, none⟩ = some v := by rw [Lib.cell_of_heap hb2]; rfl
  have f1 : w2.frozen? ⟨b, 4, none⟩ = false := Lib.frozen_of_heap hb2 4
  obtain ⟨g, cap, rfl⟩ : ∃ g cap, v' = .slice (some ⟨g, 0, none⟩) (bs.length + 1) cap := by
    rcases hown'.2 with ⟨_, h0⟩ | ⟨g, cap, cur, hv, _⟩
    · omega
    · exact ⟨g, cap, hv⟩
  go_wp2
  go_ret
  refine ⟨rfl, ?_, ?_⟩
  · exact Rd.put hB hb2 (bs' := bs ++ [.int .u8 c]) (by simpa using hown')
  · exact ((hb1.alloc (by have := hb1.size; omega) _).grown hgrow (by have := hb1.size; simp; omega) (fun k hk => (hown.lt k hk).1)).setCell (p := ⟨b, 4, none⟩) hB _
theorem Rd.cells {B b : Nat} {x0 x1 x2 p : Value} {bs : List Value} {w : World} (h : Rd B b x0 x1 x2 p bs w) : w.cell? ⟨b, 0, none⟩ = some x0 ∧ w.cell? ⟨b, 1, none⟩ = some x1 ∧ w.cell? ⟨b, 2, none⟩ = some x2 ∧ w.cell? ⟨b, 3, none⟩ = some p := by
  obtain ⟨_, v, hb, _⟩ := h
  simp [World.cell?, hb]
theorem Rd.frozen {B b : Nat} {x0 x1 x2 p : Value} {bs : List Value} {w : World} (h : Rd B b x0 x1 x2 p bs w) (j : Nat) : w.frozen? ⟨b, j, none⟩ = false := by
  obtain ⟨_, v, hb, _⟩ := h
  simp [World.frozen?, hb]
theorem Rd.is {B b : Nat} {x0 x1 x2 : Value} {bs : List Value} {w : World} (h : Rd B b x0 x1 x2 (atB b) bs w) : IsRd B b x0 x1 x2 bs w := .inr h
theorem IsRd.rd {B b : Nat} {x0 x1 x2 : Value} {bs : List Value} {w : World} (h : IsRd B b x0 x1 x2 bs w) : ∃ p, Rd B b x0 x1 x2 p bs w := by
  rcases h with h | h
  · exact ⟨_, h⟩
  · exact ⟨_, h⟩
theorem IsRd.moved {B b : Nat} {x0 x1 x2 : Value} {bs : List Value} {w : World} (h : IsRd B b x0 x1 x2 bs w) (q : Value) : IsRd B b x0 q x2 bs (w.setCell ⟨b, 1, none⟩ q) := by
  rcases h with h | h
  · exact .inl (h.moved q)
  · exact .inr (h.moved q)
theorem len_any (B b : Nat) (x0 x1 x2 : Value) (bs : List Value) (w : World) (h : IsRd B b x0 x1 x2 bs w) :
    Calls Tryz.prog 24 #[atB b] w fun e w' => e = .returned (.int .i64 bs.length) ∧ w' = w := by
  obtain ⟨p, hB, v, hbk, hown, hne⟩ := h.rd
  obtain ⟨ao, cap, rfl⟩ : ∃ ao cap, v = .slice ao bs.length cap := by
    rcases hown.2 with ⟨hv, h0⟩ | ⟨g, cap, cur, hv, _⟩
    · exact ⟨none, 0, by rw [hv, h0]⟩
    · exact ⟨_, _, hv⟩
  have c1 : w.cell? ⟨b, 4, none⟩ = some (.slice ao bs.length cap) := by rw [Lib.cell_of_heap hbk]; rfl
  unfold atB
  go_enter Tryz.func24, Tryz.ntmps24
  go_wp2
  go_ret
  exact ⟨rfl, rfl⟩
set_option maxHeartbeats 1000000 in
set_option maxRecDepth 100000 in
theorem string_any (B b : Nat) (x0 x1 x2 : Value) (l : List UInt8) (w : World) (h : IsRd B b x0 x1 x2 (Lib.byteCells l) w) (h0 : l ≠ []) :
    Calls Tryz.prog 25 #[atB b] w fun e w' => e = .returned (.string ⟨l.toArray⟩) ∧ Below B w w' ∧ w'.heap[b]? = w.heap[b]? := by
  obtain ⟨p, hB, v, hbk, hown, hne⟩ := h.rd
  have hl0 : l.length ≠ 0 := by simpa using h0
  rw [Lib.byteCells_length] at hown
  obtain ⟨g, cap, cur, rfl, hbg, hg, hnc, hcm, hcs, htake⟩ : ∃ g cap cur, v = .slice (some ⟨g, 0, none⟩) l.length cap ∧ B ≤ g ∧ w.heap[g]? = some (.cells cur 5 (0, 0)) ∧ l.length ≤ cap ∧ cap ≤ maxLen ∧ cur.size = cap * 1 ∧ cur.toList.take (l.length * 1) = Lib.byteCells l := by
    rcases hown.2 with ⟨_, hz⟩ | ⟨g, cap, cur, hv, r⟩
    · exact absurd hz hl0
    · exact ⟨g, cap, cur, hv, r⟩
  have hgb : g ≠ b := fun e => hne (by simp [Value.ownBlock, e])
  have c1 : w.drew.cell? ⟨b, 4, none⟩ = some (.slice (some ⟨g, 0, none⟩) l.length cap) := by
    have : w.drew.heap[b]? = some (.cells #[x0, x1, x2, p, .slice (some ⟨g, 0, none⟩) l.length cap] 65 (0, 0)) := hbk
    rw [Lib.cell_of_heap this]; rfl
  have hSD : (Builtin.unsafeSliceData_ #[61] 115 #[.slice (some ⟨g, 0, none⟩) l.length cap]).run Tryz.prog w.drew = .ok (.pointer (some ⟨g, 0, none⟩)) w.drew :=
    Lib.run_unsafeSliceData_row _ _ _ _ _ _ (by omega)
  have hUS : (Builtin.unsafeString_ #[115, 3] 9 #[.pointer (some ⟨g, 0, none⟩), .int .i64 l.length]).run Tryz.prog w.drew = .ok (.string ⟨l.toArray⟩) (w.drew.freeze ⟨g, 0, none⟩ l.length) := by
    refine Lib.run_unsafeString_row w.drew 115 3 9 5 (by kernel_rfl) (by kernel_rfl) g cur.size (by have hg' : w.drew.heap[g]? = some (.cells cur 5 (0, 0)) := hg; simp [World.shape?, hg']) l h0 (by omega) (by unfold maxLen at hcm; omega) ?_
    intro j x hx
    have := hown.cells (g := g) rfl j (.int .u8 x.toNat) (by simp [Lib.byteCells, hx])
    exact this
  unfold atB
  go_enter Tryz.func25, Tryz.ntmps25
  go_wp2
  go_region
  all_goals (go_wp2; go_ret; exact ⟨rfl, Lib.below_freeze (Below.drew (Below.refl B w)) (p := ⟨g, 0, none⟩) hbg _, freeze_heap _ _ _ (fun e => hgb e.symm)⟩)
theorem reset_any (B b : Nat) {x0 x1 x2 p v : Value} (w : World) (hB : B ≤ b) (hb : w.heap[b]? = some (.cells #[x0, x1, x2, p, v] 65 (0, 0))) :
    Calls Tryz.prog 30 #[atB b] w fun e w' => e = .returned (.tuple #[]) ∧ IsRd B b x0 x1 x2 [] w' ∧ Below B w w' ∧ ∀ {m n : Nat} {u : Value} {xs : List Value}, w.ownsRow B 56 m u n xs → w'.ownsRow B 56 m u n xs := by
  have c3 : w.cell? ⟨b, 3, none⟩ = some p := by simp [World.cell?, hb]
  have c4 : w.cell? ⟨b, 4, none⟩ = some v := by simp [World.cell?, hb]
  have f3 : w.frozen? ⟨b, 3, none⟩ = false := by simp [World.frozen?, hb]
  have f4 : w.frozen? ⟨b, 4, none⟩ = false := by simp [World.frozen?, hb]
  unfold atB
  go_enter Tryz.func30, Tryz.ntmps30
  go_wp2
  go_end0
  refine ⟨rfl, .inl ⟨hB, .slice none 0 0, ?_, World.ownsRow_nil _ _ _ _, by simp [Value.ownBlock]⟩, ((Below.refl B w).setCell (p := ⟨b, 3, none⟩) hB _).setCell (p := ⟨b, 4, none⟩) hB _, fun hown => ?_⟩
  · simp [World.setCell, Array.getElem?_modify, hb]
  · refine hown.kept (row := some b) ⟨rfl, rfl, rfl, by simp [World.setCell], fun k _ hk => ?_⟩ (Or.inr ?_)
    · rw [Below.heap_setCell _ _ _ _ (fun e => hk (by simp [e])), Below.heap_setCell _ _ _ _ (fun e => hk (by simp [e]))]
    · rcases hown.2 with ⟨rfl, _⟩ | ⟨g, cap, cur, rfl, _, hg, _⟩
      · simp [Value.ownBlock]
      · intro h
        simp only [Value.ownBlock, Option.some.injEq] at h
        subst h
        rw [hg] at hb
        simp only [Option.some.injEq, Obj.cells.injEq] at hb
        exact absurd hb.2.1 (by decide)
end Go.Proofs.Pt
namespace Go.Proofs.Pt
open Go.RowKit Go.Lib
attribute [local go_sem ↓] Go.wp_at_zero Go.wp_at_succ
theorem below_drewN {B : Nat} {a w : World} (h : Below B a w) : ∀ n, Below B a (w.drewN n)
  | 0 => h
  | n + 1 => (below_drewN h n).drew
theorem Rd.drewN {B b : Nat} {x0 x1 x2 p : Value} {bs : List Value} {w : World} (h : Rd B b x0 x1 x2 p bs w) (n : Nat) : Rd B b x0 x1 x2 p bs (w.drewN n) := by
  have e : (w.drewN n).heap = w.heap := World.heap_drewN w n
  obtain ⟨hB, v, hb, hown, hne⟩ := h
  refine ⟨hB, v, by rw [e]; exact hb, ?_, hne⟩
  unfold World.ownsRow at hown ⊢
  rw [e]
  exact hown
theorem ext_list (t : ByteArray) (i : Nat) : (t.extract i t.size).data.toList = t.data.toList.drop i := by
  rw [ByteArray.data_extract, Array.toList_extract, List.extract_eq_take_drop, List.take_of_length_le]
  rw [List.length_drop]
  exact Nat.le_refl _
theorem has_any (B b i : Nat) (t s : ByteArray) (x2 p : Value) (bs : List Value) (w : World) (h : Rd B b (.string t) (.int .i64 i) x2 p bs w) (hi : i ≤ t.size) (ht : t.size ≤ 100000) (hs : s.size ≤ 100000) :
    Calls Tryz.prog 11 #[.pointer (some ⟨b, 0, none⟩), .string s] w fun e w' => ∃ v, e = .returned (.bool v) ∧ v = hasPrefix (t.data.toList.drop i) s.data.toList ∧ Rd B b (.string t) (.int .i64 (if v then i + s.size else i : Nat)) x2 p bs w' ∧ Below B w w' := by
  obtain ⟨c0, c1, c2, c3⟩ := h.cells
  have f1 := h.frozen 1
  have hi' : (i : Int) ≤ (t.size : Int) := by omega
  go_enter Tryz.func11, Tryz.ntmps11
  go_wp2
  go_quiet ((go_at_call 16; exact Calls.quiet_of_same (Tryz.strings_HasPrefix _ _ _)))
  have hT : (t.data.toList.drop i).take (t.size - i) = t.data.toList.drop i := by
    refine List.take_of_length_le ?_
    rw [List.length_drop]
    exact Nat.le_refl _
  rw [ext_list]
  simp only [hT]
  generalize hV : hasPrefix (t.data.toList.drop i) s.data.toList = V
  cases V with
  | false =>
    go_wp2
    go_ret
    exact ⟨false, rfl, hV.symm, h.drewN _, below_drewN (Below.refl _ _) _⟩
  | true =>
    go_wp2
    go_ret
    have e : ((i : Int) + (s.size : Int)) = ((i + s.size : Nat) : Int) := by omega
    rw [e]
    exact ⟨true, rfl, hV.symm, (h.drewN nq).moved _, (below_drewN (Below.refl _ _) _).setCell (p := ⟨b, 1, none⟩) h.1 _⟩
/-- a character of the document -/
def isCh (c : Nat) : Bool := (c == 9 || c == 10 || c == 13) || (decide (32 ≤ c) && decide (c ≤ 55295)) || (decide (57344 ≤ c) && decide (c ≤ 65533)) || (decide (65536 ≤ c) && decide (c ≤ 1114111))
theorem isChar_any (c : Nat) (w : World) : Calls Tryz.prog 15 #[.int .i32 (c : Nat)] w fun e w' => e = .returned (.bool (isCh c)) ∧ w' = w := by
  go_enter Tryz.func15, Tryz.ntmps15
  go_wp2
  all_goals (go_ret; refine ⟨congrArg (fun z => Ending.returned (.bool z)) ?_, rfl⟩; rw [Bool.eq_iff_iff]; simp [isCh]; first | omega | (simp only [beq_iff_eq, beq_eq_false_iff_ne] at *; omega))
theorem width_pos (s : ByteArray) (pos : Nat) (h : pos < s.size) : 1 ≤ (Utf8.decode s pos).2 := by
  by_cases ha : (s[pos]'h).toNat < 128
  · rw [decode_ascii s pos h ha]
    exact Nat.le_refl _
  · exact (decode_high s pos h (by omega)).2
/-- the character that stands at a place is one of a text -/
def okC (s : ByteArray) (pos : Nat) : Bool := isCh (Utf8.decode s pos).1 && (!((Utf8.decode s pos).1 == 65533) || hasPrefix (s.data.toList.drop pos) [239, 191, 189])
def txtFrom (s : ByteArray) : Nat → Nat → Bool
  | 0, _ => true
  | f + 1, pos => if pos < s.size then okC s pos && txtFrom s f (pos + (Utf8.decode s pos).2) else true
def isTxt (s : ByteArray) : Bool := txtFrom s s.size 0
theorem txtFrom_end (s : ByteArray) (f pos : Nat) (h : ¬ pos < s.size) : txtFrom s f pos = true := by
  cases f with
  | zero => rfl
  | succ f => simp [txtFrom, h]
set_option maxRecDepth 100000 in
theorem isText_any (s : ByteArray) (w : World) (hs : s.size ≤ 100000) :
    Calls Tryz.prog 7 #[.string s] w fun e w' => e = .returned (.bool (isTxt s)) ∧ ∃ pos, w' = w.iter s pos := by
  go_enter Tryz.func7, Tryz.ntmps7
  go_wp2
  go_loopw [] (fun w' => ∃ (pos b : Nat), w' = w.iter s pos ∧ txtFrom s b pos = isTxt s ∧ s.size ≤ pos + b) (fun w' => s.size - w'.iterPos w.heap.size)
  case atStart => exact ⟨0, s.size, rfl, rfl, by omega⟩
  case round =>
    obtain ⟨pos, b, rfl, hc, hb⟩ := hrel
    by_cases hp : pos < s.size
    · have hnx : ∀ ty, (Instr.next (.pointer (some ⟨w.heap.size, 0, none⟩)) true ty).run Tryz.prog (w.iter s pos) = _ := fun ty => run_next_any w s pos ty hp
      have hwd := width_pos s pos hp
      have hp' : (pos : Int) ≤ (s.size : Int) := by omega
      obtain ⟨b, rfl⟩ : ∃ b', b = b' + 1 := ⟨b - 1, by omega⟩
      have hT : (s.data.toList.drop pos).take (s.size - pos) = s.data.toList.drop pos := by
        refine List.take_of_length_le ?_
        rw [List.length_drop]
        exact Nat.le_refl _
      simp only [txtFrom, if_pos hp, okC] at hc
      generalize Utf8.decode s pos = D at hnx hwd hc
      obtain ⟨c, d⟩ := D
      simp only at hnx hwd hc
      cases h1 : isCh c with
      | true =>
        rw [h1, Bool.true_and] at hc
        by_cases h2 : (c : Int) = 65533
        · have h2' : (c == 65533) = true := by simp; omega
          rw [h2', Bool.not_true, Bool.false_or] at hc
          clear h2'
          cases h3 : hasPrefix (s.data.toList.drop pos) [239, 191, 189] with
          | true =>
            rw [h3, Bool.true_and] at hc
            have hc2 := Lib.hid hc
            clear hc
            go_wp2_with (first | (go_at_call 15; refine (isChar_any _ _).mono ?_; rintro e w' ⟨rfl, rfl⟩) | (go_at_call 16; refine (Tryz.strings_HasPrefix _ _ _).mono ?_; rintro e w' ⟨rfl, rfl⟩))
            go_roundw
            case rel => exact ⟨_, b, rfl, hc2.out, by omega⟩
            case measure => simp; omega
          | false =>
            rw [h3, Bool.false_and] at hc
            have hc2 := Lib.hid hc
            clear hc
            go_wp2_with (first | (go_at_call 15; refine (isChar_any _ _).mono ?_; rintro e w' ⟨rfl, rfl⟩) | (go_at_call 16; refine (Tryz.strings_HasPrefix _ _ _).mono ?_; rintro e w' ⟨rfl, rfl⟩))
            go_ret
            exact ⟨by rw [← hc2.out]; rfl, _, rfl⟩
        · have h2' : (c == 65533) = false := by simp; omega
          rw [h2', Bool.not_false, Bool.true_or, Bool.true_and] at hc
          clear h2'
          have hc2 := Lib.hid hc
          clear hc
          go_wp2_with (first | (go_at_call 15; refine (isChar_any _ _).mono ?_; rintro e w' ⟨rfl, rfl⟩) | (go_at_call 16; refine (Tryz.strings_HasPrefix _ _ _).mono ?_; rintro e w' ⟨rfl, rfl⟩))
          go_roundw
          case rel => exact ⟨_, b, rfl, hc2.out, by omega⟩
          case measure => simp; omega
      | false =>
        rw [h1, Bool.false_and, Bool.false_and] at hc
        have hc2 := Lib.hid hc
        clear hc
        go_wp2_with (first | (go_at_call 15; refine (isChar_any _ _).mono ?_; rintro e w' ⟨rfl, rfl⟩) | (go_at_call 16; refine (Tryz.strings_HasPrefix _ _ _).mono ?_; rintro e w' ⟨rfl, rfl⟩))
        go_ret
        exact ⟨by rw [← hc2.out]; rfl, _, rfl⟩
    · have hnx : ∀ ty, (Instr.next (.pointer (some ⟨w.heap.size, 0, none⟩)) true ty).run Tryz.prog (w.iter s pos) = _ := fun ty => run_next_end w s pos ty hp
      rw [txtFrom_end s b pos hp] at hc
      have hc2 := Lib.hid hc
      clear hc
      go_wp2
      go_ret
      exact ⟨by rw [← hc2.out]; rfl, _, rfl⟩
end Go.Proofs.Pt
namespace Go.Proofs.Pt
open Go.RowKit Go.Lib
attribute [local go_sem ↓] Go.wp_at_zero Go.wp_at_succ
def dblC (c : UInt8) : List UInt8 := if c = 123 ∨ c = 125 then [c, c] else [c]
def dbl (l : List UInt8) : List UInt8 := l.flatMap dblC
theorem dbl_take (l : List UInt8) (k : Nat) (h : k < l.length) : dbl (l.take (k + 1)) = dbl (l.take k) ++ dblC l[k] := by
  rw [List.take_succ_eq_append_getElem h]
  unfold dbl
  rw [List.flatMap_append, List.flatMap_singleton]
theorem dbl_len (l : List UInt8) : (dbl l).length ≤ 2 * l.length := by
  induction l with
  | nil => simp [dbl]
  | cons c l ih =>
    have : (dbl (c :: l)).length = (dblC c).length + (dbl l).length := by simp [dbl]
    have h2 : (dblC c).length ≤ 2 := by unfold dblC; split <;> simp
    rw [this, List.length_cons]
    omega
theorem ba_app (a b : List UInt8) : (⟨a.toArray⟩ : ByteArray) ++ ⟨b.toArray⟩ = ⟨(a ++ b).toArray⟩ := by
  apply ByteArray.ext
  simp
theorem ext_one (S : ByteArray) (k : Nat) (h : k < S.size) : S.extract k (k + 1) = ⟨[S[k]'h].toArray⟩ := by
  apply ByteArray.ext
  rw [ByteArray.data_extract]
  apply Array.ext'
  rw [Array.toList_extract, List.extract_eq_take_drop]
  have h' : k < S.data.toList.length := h
  rw [List.drop_eq_getElem_cons h', show k + 1 - k = 1 by omega]
  rfl
set_option maxRecDepth 100000 in
theorem twice_any (S : ByteArray) (w : World) (hs : S.size ≤ 1000) :
    Calls Tryz.prog 6 #[.string S] w fun e w' => e = .returned (.string ⟨(dbl S.data.toList).toArray⟩) ∧ w' = w := by
  go_enter Tryz.func6, Tryz.ntmps6
  go_wp2
  go_loop [3, 4] (fun o i => ∃ k : Nat, k ≤ S.size ∧ i = .int .i64 k ∧ o = .string ⟨(dbl (S.data.toList.take k)).toArray⟩) (fun _ i => S.size - (RowKit.intOf i).toNat)
  case atStart => exact ⟨0, Nat.zero_le _, rfl, rfl⟩
  case round =>
    obtain ⟨k, hk, rfl, rfl⟩ := hrel
    by_cases hp : k < S.size
    · have hp1 : (k : Int) < (S.size : Int) := by omega
      have hp2 : (k : Int) ≤ (k : Int) + 1 := by omega
      have hp3 : (k : Int) + 1 ≤ (S.size : Int) := by omega
      have hd := Lib.hid (dbl_take S.data.toList k hp)
      have hl := dbl_len (S.data.toList.take k)
      rw [List.length_take_of_le (by exact hk)] at hl
      generalize dbl (S.data.toList.take k) = D at hd hl ⊢
      have hm1 : ¬ 9223372036854775807 < D.length + (min (k + 1) S.size - k) := by omega
      have hm2 : ¬ 9223372036854775807 < D.length + (min (k + 1) S.size - k) + (min (k + 1) S.size - k) := by omega
      by_cases h1 : ((S[k]'hp).toNat : Int) = 123
      · have hc := Lib.hid (show dblC (S.data.toList[k]'hp) = [S[k]'hp, S[k]'hp] from if_pos (.inl (UInt8.toNat_inj.1 (show (S[k]'hp).toNat = 123 by omega))))
        go_wp2
        go_round
        case rel => exact ⟨k + 1, by omega, by go_num, by rw [hd.out, hc.out, ext_one S k hp]; simp only [ba_app]; rw [List.append_assoc]; rfl⟩
        case measure => simp [RowKit.intOf]; omega
      · by_cases h2 : ((S[k]'hp).toNat : Int) = 125
        · have hc := Lib.hid (show dblC (S.data.toList[k]'hp) = [S[k]'hp, S[k]'hp] from if_pos (.inr (UInt8.toNat_inj.1 (show (S[k]'hp).toNat = 125 by omega))))
          go_wp2
          go_round
          case rel => exact ⟨k + 1, by omega, by go_num, by rw [hd.out, hc.out, ext_one S k hp]; simp only [ba_app]; rw [List.append_assoc]; rfl⟩
          case measure => simp [RowKit.intOf]; omega
        · have e1 : (((S[k]'hp).toNat : Int) == 123) = false := by simpa using h1
          have e2 : (((S[k]'hp).toNat : Int) == 125) = false := by simpa using h2
          have hc := Lib.hid (show dblC (S.data.toList[k]'hp) = [S[k]'hp] from if_neg (fun h => by rcases h with h | h; (exact h1 (by have : (S[k]'hp) = 123 := h; rw [this]; rfl)); (exact h2 (by have : (S[k]'hp) = 125 := h; rw [this]; rfl))))
          go_wp2
          go_round
          case rel => exact ⟨k + 1, by omega, by go_num, by rw [hd.out, hc.out, ext_one S k hp]; simp only [ba_app]⟩
          case measure => simp [RowKit.intOf]; omega
    · have hp1 : ¬ (k : Int) < (S.size : Int) := by omega
      have he := Lib.hid (show S.data.toList.take k = S.data.toList from List.take_of_length_le (by have : S.data.toList.length = S.size := rfl; omega))
      go_wp2
      go_ret
      exact ⟨by rw [he.out]; rfl, rfl⟩
end Go.Proofs.Pt
namespace Go.Proofs.Pt
open Go.RowKit Go.Lib
attribute [local go_sem ↓] Go.wp_at_zero Go.wp_at_succ
theorem IsRd.drew {B b : Nat} {x0 x1 x2 : Value} {bs : List Value} {w : World} (h : IsRd B b x0 x1 x2 bs w) : IsRd B b x0 x1 x2 bs w.drew := by
  rcases h with h | h
  · exact .inl (h.drewN 1)
  · exact .inr (h.drewN 1)
end Go.Proofs.Pt
namespace Go.Proofs.Pt
open Go.RowKit Go.Lib
def xz : List Value := [.int .i64 0, .string .empty, .string .empty, .int .i64 0, .int .i64 0, .string .empty, .int .i64 0, .int .i64 0, .string .empty, .int .i64 0, .int .i64 0, .int .i64 0, .string .empty, .string .empty, .slice none 0 0, .slice none 0 0]
theorem partZero : (Tryz.prog.info? 56).map (fun i => (i.zero, i.size, i.bytes)) = some (some (.agg ((Value.string .empty :: .bool false :: xz).toArray)), 18, 232) := by kernel_rfl
theorem und23 : Tryz.prog.underlying 23 = some (.slice 56) := by kernel_rfl
/-- the cells of a part that is a text -/
def partOf (l : List UInt8) : List Value := .string ⟨l.toArray⟩ :: .bool false :: xz
theorem ownBlock_ne18 {w : World} {B : Nat} {e T : TypeId} {v : Value} {n m : Nat} {xs : List Value} {b : Nat} {cs : Array Value} {fr : Nat × Nat} (hown : w.ownsRow B e m v n xs) (hb : w.heap[b]? = some (.cells cs T fr)) (hTe : T ≠ e) : v.ownBlock ≠ some b := by
  rcases hown.2 with ⟨rfl, _⟩ | ⟨g, cap, cur, rfl, _, hg, _⟩
  · simp [Value.ownBlock]
  · intro h
    simp only [Value.ownBlock, Option.some.injEq] at h
    subst h
    rw [hg] at hb
    simp only [Option.some.injEq, Obj.cells.injEq] at hb
    exact hTe hb.2.1.symm
theorem kp_block {w w' : World} {b : Nat} (h : w'.heap[b]? = w.heap[b]?) (k : w.cell? ⟨b, 2, none⟩ = some (.slice none 0 0) ∧ w.frozen? ⟨b, 2, none⟩ = false) : w'.cell? ⟨b, 2, none⟩ = some (.slice none 0 0) ∧ w'.frozen? ⟨b, 2, none⟩ = false :=
  ⟨(World.cell?_of_block h).trans k.1, (World.frozen?_of_block h).trans k.2⟩
theorem kp_alloc {w : World} {b : Nat} (h : b < w.heap.size) (o : Obj) (k : w.cell? ⟨b, 2, none⟩ = some (.slice none 0 0) ∧ w.frozen? ⟨b, 2, none⟩ = false) : (w.alloc o).cell? ⟨b, 2, none⟩ = some (.slice none 0 0) ∧ (w.alloc o).frozen? ⟨b, 2, none⟩ = false :=
  kp_block (Below.heap_alloc w o b h) k
theorem kp_grown {w w' : World} {b : Nat} {o : Obj} (h : b < w.heap.size) (hg : (w.alloc o).grownBy w' (Value.slice none 0 0).ownBlock) (k : w.cell? ⟨b, 2, none⟩ = some (.slice none 0 0) ∧ w.frozen? ⟨b, 2, none⟩ = false) : w'.cell? ⟨b, 2, none⟩ = some (.slice none 0 0) ∧ w'.frozen? ⟨b, 2, none⟩ = false :=
  kp_block (hg.block b (by simp; omega) (by simp [Value.ownBlock])) (kp_alloc h o k)
set_option maxRecDepth 100000 in
set_option maxHeartbeats 2000000 in
theorem flush_any (B b : Nat) (x0 x1 : Value) (l : List UInt8) (w : World) (h : IsRd B b x0 x1 (.slice none 0 0) (Lib.byteCells l) w) (h0 : l ≠ []) (hl : l.length ≤ 100000) (hBw : B ≤ w.heap.size) :
    Calls Tryz.prog 14 #[.pointer (some ⟨b, 0, none⟩)] w fun e w' => e = .returned (.tuple #[]) ∧ ∃ g cap, w'.ownsRow B 56 18 (.slice (some ⟨g, 0, none⟩) 1 cap) 1 (partOf l) ∧ w'.cell? ⟨b, 2, none⟩ = some (.slice (some ⟨g, 0, none⟩) 1 cap) ∧ Below B w w' := by
  obtain ⟨i0, hi, hz0, hz1, hz2⟩ := info_parts partZero
  obtain ⟨p, hR⟩ := h.rd
  obtain ⟨c0, c1, c2, c3⟩ := hR.cells
  have f2 := hR.frozen 2
  have hlen : (0 : Int) < (Lib.byteCells l).length := by rw [Lib.byteCells_length]; have := List.length_pos_iff.2 h0; omega
  have hln := len_any B b x0 x1 (.slice none 0 0) _ w h
  have hst := string_any B b x0 x1 (.slice none 0 0) l
  unfold atB at hln hst
  go_enter Tryz.func14, Tryz.ntmps14
  go_wp2_with (go_at_call 24; refine hln.mono ?_; rintro e w1 ⟨rfl, rfl⟩)
  have hb1 := Lib.hid hR
  have hrd := Lib.hid h.drew
  have hlt1 : b < w1.heap.size := hR.lt
  have hp1 := hl
  clear h hln hR c0 c1 c3 hlen
  have c2d : w1.drew.cell? ⟨b, 2, none⟩ = some (.slice none 0 0) := c2
  go_region_law (first | (go_simp; go_at_call 25; refine (hst _ hrd.out h0).mono ?_; rintro e w2 ⟨rfl, hb2, hk2⟩; have hlt2 : b < w2.heap.size := Nat.lt_of_lt_of_le hlt1 hb2.size; have k2 := kp_block (w := w1) hk2 ⟨c2, f2⟩; have c22 := k2.1; have c23 := fun o => (kp_alloc hlt2 o k2).1; dsimp only) | (refine step_append_lies _ (by rfl) _ _ _ (by rfl) B 56 i0 _ 18 232 und23 hi hz0 hz1 hz2 rfl (by omega) _ 0 [] (by rfl) (World.ownsRow_nil _ _ _ _) ⟨w2.heap.size, 0, none⟩ 1 1 (partOf l) (by rfl) (by rfl) (World.news_of_block (cs := (partOf l).toArray) (t := 56) (fr := (0, 0)) (Go.Deep.blk_alloc_new w2 _)) (by simp [partOf, xz, Value.oneCell']) (by omega) (by unfold maxLen; omega) (by omega) (by have := hb2.size; simp at this; simp; omega) (w2.heap.size + 1) (by simp) ?_; intro gg cap w3 hown3 hgrow hat hlt3; have f3 := (kp_grown hlt2 hgrow k2).2; have c3 := (kp_grown hlt2 hgrow k2).1))
  all_goals (
    have hg2 : w3.heap[b]? = w1.heap[b]? := (hgrow.block b (by simp; omega) (by simp [Value.ownBlock])).trans ((Below.heap_alloc w2 _ b hlt2).trans hk2)
    obtain ⟨hB1, v1, hv1, _⟩ := hb1.out
    have hv3 : (w3.setCell ⟨b, 2, none⟩ (.slice (some ⟨gg, 0, none⟩) 1 cap)).heap[b]? = some (.cells #[x0, x1, .slice (some ⟨gg, 0, none⟩) 1 cap, p, v1] 65 (0, 0)) := by
      simp [World.setCell, Array.getElem?_modify, hg2, hv1]
    have hown4 : (w3.setCell ⟨b, 2, none⟩ (.slice (some ⟨gg, 0, none⟩) 1 cap)).ownsRow B 56 18 (.slice (some ⟨gg, 0, none⟩) 1 cap) 1 (partOf l) :=
      hown3.kept (row := some b) ⟨rfl, rfl, rfl, by simp [World.setCell], fun k _ hk => Below.heap_setCell _ _ _ _ (fun e => hk (by simp [e]))⟩ (Or.inr (ownBlock_ne18 hown3 (hg2.trans hv1) (by decide)))
    have hbw : Below B w1 (w3.setCell ⟨b, 2, none⟩ (.slice (some ⟨gg, 0, none⟩) 1 cap)) := by
      refine Below.setCell ?_ (p := ⟨b, 2, none⟩) hB1 _
      exact Below.grown (((show Below B w1 w2 from (Below.refl B w1).drew.trans hb2)).alloc (by have := hb2.size; simp at this; omega) _) hgrow (by have := hb2.size; simp at this; simp; omega) (fun k hk => by simp [Value.ownBlock] at hk)
    generalize w3.setCell ⟨b, 2, none⟩ (.slice (some ⟨gg, 0, none⟩) 1 cap) = w4 at hv3 hown4 hbw ⊢
    have hrs := reset_any B b w4 hB1 hv3
    unfold atB at hrs
    clear hown3 hgrow hat hlt3 hg2 hv1
    go_wp2_with (go_at_call 30; refine hrs.mono ?_; rintro e w5 ⟨rfl, hr5, hb5, hk5⟩)
    go_end0
    refine ⟨rfl, gg, cap, ?_, ?_, hbw.trans hb5⟩
    · exact hk5 hown4
    · obtain ⟨p5, hr5⟩ := hr5.rd
      exact hr5.cells.2.2.1)
end Go.Proofs.Pt
