/- The walk of Parse over a doubled text; doubling the braces keeps what IsText says. Conditions: none. -/
import Derived.Test.YthenjfppjikkbaaGreatDoorWa
import Derived.Recover
import Derived.Defers
set_option linter.all false
set_option linter.unusedVariables false
set_option maxHeartbeats 2000000
namespace Go.Proofs.Pt
open Go.RowKit Go.Lib
attribute [local go_sem ↓] Go.wp_at_zero Go.wp_at_succ
theorem IsRd.at1 {B b : Nat} {x0 x1 x2 : Value} {bs : List Value} {w : World} (h : IsRd B b x0 x1 x2 bs w) : w.cell? ⟨b, 1, none⟩ = some x1 := by
  obtain ⟨p, hp⟩ := h.rd
  exact hp.cells.2.1
theorem IsRd.lt {B b : Nat} {x0 x1 x2 : Value} {bs : List Value} {w : World} (h : IsRd B b x0 x1 x2 bs w) : b < w.heap.size := by
  obtain ⟨p, hp⟩ := h.rd
  exact hp.lt
theorem has_true (b i : Nat) (t s : ByteArray) (x2 : Value) (bs : List Value) (w : World) (h : IsRd b b (.string t) (.int .i64 i) x2 bs w) (hi : i ≤ t.size) (ht : t.size ≤ 100000) (hs : s.size ≤ 100000) (hp : hasPrefix (t.data.toList.drop i) s.data.toList = true) :
    Calls Tryz.prog 11 #[.pointer (some ⟨b, 0, none⟩), .string s] w fun e w' => e = .returned (.bool true) ∧ IsRd b b (.string t) (.int .i64 (i + s.size : Nat)) x2 bs w' ∧ Below b w w' ∧ w'.cell? ⟨b, 1, none⟩ = some (.int .i64 (i + s.size : Nat)) := by
  rcases h with h | h
  · refine (has_any b b i t s x2 _ bs w h hi ht hs).mono ?_
    rintro e w' ⟨v, rfl, hv, hr, hb⟩
    rw [hp] at hv
    subst hv
    exact ⟨rfl, .inl hr, hb, hr.cells.2.1⟩
  · refine (has_any b b i t s x2 _ bs w h hi ht hs).mono ?_
    rintro e w' ⟨v, rfl, hv, hr, hb⟩
    rw [hp] at hv
    subst hv
    exact ⟨rfl, .inr hr, hb, hr.cells.2.1⟩
theorem has_false (b i : Nat) (t s : ByteArray) (x2 : Value) (bs : List Value) (w : World) (h : IsRd b b (.string t) (.int .i64 i) x2 bs w) (hi : i ≤ t.size) (ht : t.size ≤ 100000) (hs : s.size ≤ 100000) (hp : hasPrefix (t.data.toList.drop i) s.data.toList = false) :
    Calls Tryz.prog 11 #[.pointer (some ⟨b, 0, none⟩), .string s] w fun e w' => e = .returned (.bool false) ∧ IsRd b b (.string t) (.int .i64 (i : Nat)) x2 bs w' ∧ Below b w w' ∧ w'.cell? ⟨b, 1, none⟩ = some (.int .i64 (i : Nat)) := by
  rcases h with h | h
  · refine (has_any b b i t s x2 _ bs w h hi ht hs).mono ?_
    rintro e w' ⟨v, rfl, hv, hr, hb⟩
    rw [hp] at hv
    subst hv
    exact ⟨rfl, .inl hr, hb, hr.cells.2.1⟩
  · refine (has_any b b i t s x2 _ bs w h hi ht hs).mono ?_
    rintro e w' ⟨v, rfl, hv, hr, hb⟩
    rw [hp] at hv
    subst hv
    exact ⟨rfl, .inr hr, hb, hr.cells.2.1⟩
theorem byte_is (b : Nat) (x0 x1 : Value) (l : List UInt8) (c : UInt8) (w : World) (h : IsRd b b x0 x1 (.slice none 0 0) (Lib.byteCells l) w) (hl : l.length ≤ 100000) :
    Calls Tryz.prog 12 #[.pointer (some ⟨b, 3, none⟩), .int .u8 c.toNat] w fun e w' => e = .returned .nilIface ∧ IsRd b b x0 x1 (.slice none 0 0) (Lib.byteCells (l ++ [c])) w' ∧ Below b w w' ∧ w'.cell? ⟨b, 1, none⟩ = some x1 ∧ w'.frozen? ⟨b, 1, none⟩ = false := by
  refine (writeByte_any b b x0 x1 (.slice none 0 0) _ c.toNat w h (by rw [Lib.byteCells_length]; omega) (by have := h.lt; omega)).mono ?_
  rintro e w' ⟨rfl, hr, hb⟩
  exact ⟨rfl, by rw [Lib.byteCells_append]; exact .inr hr, hb, hr.cells.2.1, hr.frozen 1⟩
theorem flush_nil (b : Nat) (x0 x1 x2 : Value) (w : World) (h : IsRd b b x0 x1 x2 [] w) :
    Calls Tryz.prog 14 #[.pointer (some ⟨b, 0, none⟩)] w fun e w' => e = .returned (.tuple #[]) ∧ w' = w := by
  have hln := len_any b b x0 x1 x2 _ w h
  unfold atB at hln
  go_enter Tryz.func14, Tryz.ntmps14
  go_wp2_with (go_at_call 24; refine hln.mono ?_; rintro e w1 ⟨rfl, rfl⟩)
  go_end0
  exact ⟨rfl, rfl⟩
theorem catch_idle (p q : Addr) (w : World) :
    CallsD Tryz.prog 10 #[.pointer (some p), .pointer (some q)] .returning w fun e u' w' => e = .returned (.tuple #[]) ∧ u' = .returning ∧ w' = w := by
  refine callsD_of_wpS Tryz.func10 rfl fun c₀ cs hu => ?_
  apply wpS_seq
  apply wpS_region
  simp [wpOpsS, go_sem, recoverD, hu, Tryz.ntmps10, Exit.thenS]
  apply wpS_seq
  apply wpS_region
  simp [wpOpsS, go_sem, Exit.thenS]
  refine wpS_cond (t := false) (by simp [Act.eval, Array.replicate]) ?_
  simp only [Bool.false_eq_true, if_false]
  refine wpS_of_wp (wp_skip ?_)
  cases c₀
  simp_all [bodyPostS, results, Tryz.results10]
theorem dbl_drop (l : List UInt8) (k : Nat) (h : k < l.length) : (dbl l).drop (dbl (l.take k)).length = dblC l[k] ++ dbl (l.drop (k + 1)) := by
  have h1 : dbl l = dbl (l.take k) ++ dbl (l.drop k) := by
    unfold dbl
    rw [← List.flatMap_append, List.take_append_drop]
  have h2 : dbl (l.drop k) = dblC l[k] ++ dbl (l.drop (k + 1)) := by
    rw [List.drop_eq_getElem_cons h]
    rfl
  rw [h1, List.drop_left, h2]
end Go.Proofs.Pt
namespace Go.Proofs.Pt
open Go.RowKit Go.Lib
attribute [local go_sem ↓] Go.wp_at_zero Go.wp_at_succ
/-- where the reader stands -/
def atOf (b : Nat) (w : World) : Nat := (RowKit.intOf ((w.cell? ⟨b, 1, none⟩).getD undef)).toNat
theorem atOf_eq {b p : Nat} {w : World} (h : w.cell? ⟨b, 1, none⟩ = some (.int .i64 (p : Nat))) : atOf b w = p := by
  simp [atOf, h, RowKit.intOf]
theorem own_base {w : World} {B B' : Nat} {e : TypeId} {m : Nat} {v : Value} {n : Nat} {xs : List Value} (h : w.ownsRow B e m v n xs) (hB : B' ≤ B) : w.ownsRow B' e m v n xs := by
  obtain ⟨h1, h | ⟨g, cap, cur, rfl, h2, h3⟩⟩ := h
  · exact ⟨h1, .inl h⟩
  · exact ⟨h1, .inr ⟨g, cap, cur, rfl, Nat.le_trans hB h2, h3⟩⟩
theorem own_set {w : World} {B : Nat} {e T : TypeId} {m : Nat} {v : Value} {n : Nat} {xs : List Value} {b : Nat} {cs : Array Value} {fr : Nat × Nat} (h : w.ownsRow B e m v n xs) (hb : w.heap[b]? = some (.cells cs T fr)) (hT : T ≠ e) (u : Value) : (w.setCell ⟨b, 0, none⟩ u).ownsRow B e m v n xs :=
  h.kept (row := some b) ⟨rfl, rfl, rfl, by simp [World.setCell], fun k _ hk => Below.heap_setCell _ _ _ _ (fun e => hk (by simp [e]))⟩ (Or.inr (ownBlock_ne18 h hb hT))
def Parsed (l : List UInt8) (w : World) (e : Ending) (w' : World) : Prop :=
  Below w.heap.size w w' ∧
  (l = [] → e = .returned (.tuple #[.slice none 0 0, .int .i64 0])) ∧
  (l ≠ [] → ∃ g cap, e = .returned (.tuple #[.slice (some ⟨g, 0, none⟩) 1 cap, .int .i64 0]) ∧ w'.ownsRow w.heap.size 56 18 (.slice (some ⟨g, 0, none⟩) 1 cap) 1 (partOf l))
/-- the two result cells of Parse -/
theorem res_cells (w w1 : World) (h : Below ((w.alloc (.cells #[.slice none 0 0] 23)).alloc (.cells #[.int .i64 0] 24)).heap.size ((w.alloc (.cells #[.slice none 0 0] 23)).alloc (.cells #[.int .i64 0] 24)) w1) :
    w1.heap[w.heap.size]? = some (.cells #[.slice none 0 0] 23) ∧ w1.heap[w.heap.size + 1]? = some (.cells #[.int .i64 0] 24) ∧ Below w.heap.size w w1 ∧ w.heap.size + 2 ≤ w1.heap.size := by
  have h0 := h.block w.heap.size (by simp; omega)
  have h1 := h.block (w.heap.size + 1) (by simp)
  refine ⟨?_, ?_, ?_, ?_⟩
  · rw [h0, Below.heap_alloc _ _ _ (by simp)]; exact heap_alloc_new w _
  · rw [h1]; have := heap_alloc_new (w.alloc (.cells #[.slice none 0 0] 23)) (.cells #[.int .i64 0] 24); simpa using this
  · exact (((Below.refl _ w).alloc (Nat.le_refl _) _).alloc (by simp) _).trans (h.mono (by simp; omega))
  · have := h.size; simp at this; omega
theorem iter_below (w : World) (s : ByteArray) (pos : Nat) : Below w.heap.size w (w.iter s pos) := (Below.refl _ w).alloc (Nat.le_refl _) _
theorem isText_b (s : ByteArray) (v : Bool) (hv : isTxt s = v) (w : World) (hs : s.size ≤ 100000) :
    Calls Tryz.prog 7 #[.string s] w fun e w' => e = .returned (.bool v) ∧ Below w.heap.size w w' := by
  refine (isText_any s w hs).mono ?_
  rintro e w' ⟨rfl, pos, rfl⟩
  exact ⟨by rw [hv], iter_below w s pos⟩
set_option maxRecDepth 100000 in
theorem parse_bad (T : ByteArray) (w : World) (hT : T.size ≤ 100000) (ht : isTxt T = false) :
    Calls Tryz.prog 5 #[.string T] w fun e w' => e = .returned (.tuple #[.slice none 0 0, .int .i64 10]) ∧ Below w.heap.size w w' := by
  have hmf : ∀ (fn : Fn) (first cap : Array Value) (w : World), (Instr.makeFunc fn first cap).run Tryz.prog w = .ok (.func fn first cap) w := fun _ _ _ _ => rfl
  go_enter_defers Tryz.func5, Tryz.ntmps5
  go_wp2_with (go_at_call 7; refine (isText_b T _ ht _ hT).mono ?_; rintro e w1 ⟨rfl, hb1⟩; obtain ⟨hH0, hH1, hb, hz⟩ := res_cells w w1 hb1; have c0 : w1.cell? ⟨w.heap.size, 0, none⟩ = some (.slice none 0 0) := (by simp [World.cell?, hH0]); have c1 : w1.cell? ⟨w.heap.size + 1, 0, none⟩ = some (.int .i64 0) := (by simp [World.cell?, hH1]); have f0 : w1.frozen? ⟨w.heap.size, 0, none⟩ = false := (by simp [World.frozen?, hH0]); have f1 : w1.frozen? ⟨w.heap.size + 1, 0, none⟩ = false := (by simp [World.frozen?, hH1]); clear hb1)
  simp [bodyPostD, Leaves, settle, results, Tryz.results5, go_sem, c0, c1]
  exact (hb.setCell (p := ⟨w.heap.size, 0, none⟩) (Nat.le_refl _) _).setCell (p := ⟨w.heap.size + 1, 0, none⟩) (by simp) _
theorem dblC_len (c : UInt8) : (dblC c).length ≤ 2 ∧ 0 < (dblC c).length := by
  unfold dblC; split <;> simp
theorem dbl_mono (l : List UInt8) (k : Nat) (h : k < l.length) : (dbl (l.take k)).length + (dblC l[k]).length = (dbl (l.take (k + 1))).length := by
  rw [dbl_take l k h, List.length_append]
theorem dbl_le (l : List UInt8) (k : Nat) : (dbl (l.take k)).length ≤ (dbl l).length := by
  have h1 : dbl l = dbl (l.take k) ++ dbl (l.drop k) := by
    unfold dbl
    rw [← List.flatMap_append, List.take_append_drop]
  rw [h1, List.length_append]
  omega
set_option maxRecDepth 100000 in
set_option maxHeartbeats 2000000 in
theorem parse_ok (l : List UInt8) (T : ByteArray) (w : World) (hl : l.length ≤ 1000) (hT : T.data.toList = dbl l) (ht : isTxt T = true) :
    Calls Tryz.prog 5 #[.string T] w (Parsed l w) := by
  have hsz : T.size = (dbl l).length := by rw [← hT]; rfl
  have hTs : T.size ≤ 2000 := by have := dbl_len l; omega
  have hTs' : ¬ (1048576 : Int) < (T.size : Int) := by omega
  have hmf : ∀ (fn : Fn) (first cap : Array Value) (w : World), (Instr.makeFunc fn first cap).run Tryz.prog w = .ok (.func fn first cap) w := fun _ _ _ _ => rfl
  go_enter_defers Tryz.func5, Tryz.ntmps5
  go_wp2_with (go_at_call 7; refine (isText_b T _ ht _ (by omega)).mono ?_; rintro e w1 ⟨rfl, hb1⟩; obtain ⟨hH0, hH1, hb, hz⟩ := res_cells w w1 hb1; clear hb1)
  have hI0 : IsRd w1.heap.size w1.heap.size (.string T) (.int .i64 0) (.slice none 0 0) [] (w1.alloc (.cells #[.string T, .int .i64 0, .slice none 0 0, .pointer none, .slice none 0 0] 65)) :=
    .inl ⟨Nat.le_refl _, .slice none 0 0, heap_alloc_new w1 _, World.ownsRow_nil _ _ _ _, by simp [Value.ownBlock]⟩
  have hbA := (Below.refl w1.heap.size w1).alloc (Nat.le_refl _) (.cells #[.string T, .int .i64 0, .slice none 0 0, .pointer none, .slice none 0 0] 65)
  generalize w1.alloc (.cells #[.string T, .int .i64 0, .slice none 0 0, .pointer none, .slice none 0 0] 65) = w2 at hI0 hbA ⊢
  generalize w1.heap.size = b at hI0 hbA hz ⊢
  go_loopw [] (fun wr => ∃ k : Nat, k ≤ l.length ∧ IsRd b b (.string T) (.int .i64 ((dbl (l.take k)).length : Nat)) (.slice none 0 0) (Lib.byteCells (l.take k)) wr ∧ Below b w1 wr) (fun wr => T.size - atOf b wr)
  case atStart => exact ⟨0, Nat.zero_le _, hI0, hbA⟩
  case round =>
    obtain ⟨k, hk, hI, hbr⟩ := hrel
    by_cases hp : k < l.length
    · have hd := dbl_drop l k hp
      rw [← hT] at hd
      have hm := dbl_mono l k hp
      have hle := dbl_le l (k + 1)
      have hcl := (dblC_len l[k]).2
      have ha := hI.at1
      have hae := Lib.hid (atOf_eq ha)
      have htk : l.take (k + 1) = l.take k ++ [l[k]] := List.take_succ_eq_append_getElem hp
      have hkl : (l.take k).length ≤ 1000 := by rw [List.length_take_of_le hk]; omega
      have hlt : (((dbl (l.take k)).length : Nat) : Int) < (T.size : Int) := by omega
      have hrel2 := fun w' (h1 : IsRd b b (.string T) (.int .i64 ((dbl (l.take (k + 1))).length : Nat)) (.slice none 0 0) (Lib.byteCells (l.take (k + 1))) w') (h2 : Below b w1 w') => (⟨k + 1, hp, h1, h2⟩ : ∃ k : Nat, k ≤ l.length ∧ IsRd b b (.string T) (.int .i64 ((dbl (l.take k)).length : Nat)) (.slice none 0 0) (Lib.byteCells (l.take k)) w' ∧ Below b w1 w')
      generalize (dbl (l.take (k + 1))).length = q at hrel2 hm hle
      rw [htk] at hrel2
      have hrel2 := Lib.hid hrel2
      clear htk
      generalize (dbl (l.take k)).length = p at hd hm ha hae hlt hI ⊢
      generalize l.take k = X at hrel2 hkl hI ⊢
      generalize l[k] = c at hd hm hcl hrel2 ⊢
      generalize dbl (l.drop (k + 1)) = R at hd
      have hpT : p ≤ T.size := by omega
      by_cases h1 : c = 123
      · subst h1
        have e2 : dblC 123 = [123, 123] := rfl
        rw [e2] at hd hm
        have hA := fun w' (h : IsRd b b (.string T) (.int .i64 (p : Nat)) (.slice none 0 0) (Lib.byteCells X) w') => has_true b p T ⟨#[123, 123]⟩ _ _ w' h hpT (by omega) (by decide) (by rw [hd]; rfl)
        rw [show p + (⟨#[123, 123]⟩ : ByteArray).size = q from hm] at hA
        clear hd
        go_wp2_with (first | (go_at_call 11; refine (hA _ (by assumption)).mono ?_; rintro e w3 ⟨rfl, i3, b3, c3⟩) | (go_at_call 12; refine (byte_is b _ _ _ 123 _ (by assumption) (by omega)).mono ?_; rintro e w4 ⟨rfl, i4, b4, c4, f4⟩))
        go_roundw
        case rel => exact hrel2.out _ i4 ((hbr.trans b3).trans b4)
        case measure => rw [hae.out, atOf_eq c4]; simp at hm; omega
      · by_cases h2 : c = 125
        · subst h2
          have e2 : dblC 125 = [125, 125] := rfl
          rw [e2] at hd hm
          have hB := fun w' (h : IsRd b b (.string T) (.int .i64 (p : Nat)) (.slice none 0 0) (Lib.byteCells X) w') => has_false b p T ⟨#[123, 123]⟩ _ _ w' h hpT (by omega) (by decide) (by rw [hd]; rfl)
          have hA := fun w' (h : IsRd b b (.string T) (.int .i64 (p : Nat)) (.slice none 0 0) (Lib.byteCells X) w') => has_true b p T ⟨#[125, 125]⟩ _ _ w' h hpT (by omega) (by decide) (by rw [hd]; rfl)
          rw [show p + (⟨#[125, 125]⟩ : ByteArray).size = q from hm] at hA
          clear hd
          go_upto_region 12 with (go_at_call 11; refine (hB _ (by assumption)).mono ?_; rintro e w5 ⟨rfl, i5, b5, c5⟩)
          go_wp2_with (first | (go_at_call 11; refine (hA _ (by assumption)).mono ?_; rintro e w3 ⟨rfl, i3, b3, c3⟩) | (go_at_call 12; refine (byte_is b _ _ _ 125 _ (by assumption) (by omega)).mono ?_; rintro e w4 ⟨rfl, i4, b4, c4, f4⟩))
          go_roundw
          case rel => exact hrel2.out _ i4 (((hbr.trans b5).trans b3).trans b4)
          case measure => rw [hae.out, atOf_eq c4]; simp at hm; omega
        · have e2 : dblC c = [c] := if_neg (fun h => by rcases h with h | h; exact h1 h; exact h2 h)
          rw [e2] at hd hm
          have n1 : (123 == c) = false := by simpa using fun e => h1 e.symm
          have n2 : (125 == c) = false := by simpa using fun e => h2 e.symm
          have hB := fun w' (h : IsRd b b (.string T) (.int .i64 (p : Nat)) (.slice none 0 0) (Lib.byteCells X) w') => has_false b p T ⟨#[123, 123]⟩ _ _ w' h hpT (by omega) (by decide) (by rw [hd]; simp [hasPrefix, List.isPrefixOf, n1])
          have hC := fun w' (h : IsRd b b (.string T) (.int .i64 (p : Nat)) (.slice none 0 0) (Lib.byteCells X) w') => has_false b p T ⟨#[125, 125]⟩ _ _ w' h hpT (by omega) (by decide) (by rw [hd]; simp [hasPrefix, List.isPrefixOf, n2])
          have hD := fun w' (h : IsRd b b (.string T) (.int .i64 (p : Nat)) (.slice none 0 0) (Lib.byteCells X) w') => has_false b p T ⟨#[123]⟩ _ _ w' h hpT (by omega) (by decide) (by rw [hd]; simp [hasPrefix, List.isPrefixOf, n1])
          have hE := fun w' (h : IsRd b b (.string T) (.int .i64 (p : Nat)) (.slice none 0 0) (Lib.byteCells X) w') => has_false b p T ⟨#[125]⟩ _ _ w' h hpT (by omega) (by decide) (by rw [hd]; simp [hasPrefix, List.isPrefixOf, n2])
          have hpl : p < T.size := by simp at hm; omega
          have hTc := Lib.hid (show T[p]'hpl = c by
            have h0 : (T.data.toList.drop p)[0]? = some c := by rw [hd]; rfl
            rw [List.getElem?_drop, Nat.add_zero, List.getElem?_eq_getElem (show p < T.data.toList.length from hpl)] at h0
            exact Option.some.inj h0)
          clear hd n1 n2
          go_upto_region 12 with (go_at_call 11; refine (hB _ (by assumption)).mono ?_; rintro e w5 ⟨rfl, i5, b5, c5⟩)
          go_upto_region 14 with (go_at_call 11; refine (hC _ (by assumption)).mono ?_; rintro e w6 ⟨rfl, i6, b6, c6⟩)
          go_upto_region 16 with (go_at_call 11; refine (hD _ (by assumption)).mono ?_; rintro e w7 ⟨rfl, i7, b7, c7⟩)
          go_upto_region 8 with (go_at_call 11; refine (hE _ (by assumption)).mono ?_; rintro e w8 ⟨rfl, i8, b8, c8⟩)
          have hpl' : (p : Int) < (T.size : Int) := by omega
          have hb8 := i8.at1
          go_region_held3 (fun w' => w'.cell? ⟨b, 1, none⟩ = some (.int .i64 (p : Nat))) (first | exact c8 | assumption) ((go_at_call 12; refine (byte_is b _ _ _ (T[p]'hpl) _ (IsRd.drew i8) (by omega)).mono ?_; rintro e w9 ⟨rfl, i9, b9, c9, f9⟩))
          rw [hTc.out] at i9
          have im := i9.moved (.int .i64 (q : Nat))
          rw [show ((q : Nat) : Int) = (p : Int) + 1 by simp at hm; omega] at im
          have hbm := (((((hbr.trans b5).trans b6).trans b7).trans b8).trans ((Below.refl b w8).drew.trans b9)).setCell (p := ⟨b, 1, none⟩) (Nat.le_refl _) (.int .i64 ((p : Int) + 1))
          go_wp2
          go_roundw
          case rel => exact hrel2.out _ (by rw [show ((q : Nat) : Int) = (p : Int) + 1 by simp at hm; omega]; exact im) hbm
          case measure =>
            rw [hae.out, atOf_eq (p := q) (by rw [show ((q : Nat) : Int) = (p : Int) + 1 by simp at hm; omega]; exact im.at1)]
            simp at hm; omega
    · have hke : k = l.length := by omega
      subst hke
      rw [List.take_length] at hI
      have ha := hI.at1
      have hae := Lib.hid (atOf_eq ha)
      have hnl : ¬ (((dbl l).length : Nat) : Int) < (T.size : Int) := by omega
      have hHr0 : wr.heap[w.heap.size]? = some (.cells #[.slice none 0 0] 23) := (hbr.block _ (by omega)).trans hH0
      have hHr1 : wr.heap[w.heap.size + 1]? = some (.cells #[.int .i64 0] 24) := (hbr.block _ (by omega)).trans hH1
      have hbw : Below w.heap.size w wr := hb.trans (hbr.mono (by omega))
      by_cases hne : l = []
      · subst hne
        have hfl := flush_nil b _ _ _ wr hI
        have hx : wr.cell? ⟨b, 2, none⟩ = some (.slice none 0 0) := by obtain ⟨p0, hp0⟩ := hI.rd; exact hp0.cells.2.2.1
        have c0 : wr.cell? ⟨w.heap.size, 0, none⟩ = some (.slice none 0 0) := by simp [World.cell?, hHr0]
        have c1 : wr.cell? ⟨w.heap.size + 1, 0, none⟩ = some (.int .i64 0) := by simp [World.cell?, hHr1]
        have f0 : wr.frozen? ⟨w.heap.size, 0, none⟩ = false := by simp [World.frozen?, hHr0]
        have f1 : wr.frozen? ⟨w.heap.size + 1, 0, none⟩ = false := by simp [World.frozen?, hHr1]
        go_wp2_with (go_at_call 14; refine hfl.mono ?_; rintro e w3 ⟨rfl, rfl⟩)
        refine leaves_cons (f := 10) (args := #[.pointer (some ⟨w.heap.size, 0, none⟩), .pointer (some ⟨w.heap.size + 1, 0, none⟩)]) (by simp) (by simp [go_sem]) ?_
        refine (catch_idle _ _ _).mono ?_
        rintro e u' w'' ⟨rfl, rfl, rfl⟩
        simp [Leaves, settle, results, Tryz.results5, go_sem, c0, c1]
        exact ⟨(hbw.setCell (p := ⟨w.heap.size, 0, none⟩) (Nat.le_refl _) _).setCell (p := ⟨w.heap.size + 1, 0, none⟩) (by simp) _, fun _ => rfl, fun h => absurd rfl h⟩
      · obtain ⟨a1, a2, a3⟩ : True ∧ True ∧ True := ⟨trivial, trivial, trivial⟩
        have hfl := flush_any b b (.string T) _ l wr hI hne (by omega) (by have := hI.lt; omega)
        go_wp2_with (go_at_call 14; refine hfl.mono ?_; rintro e w3 ⟨rfl, g, cap, hown, hx, hb3⟩; have hG0 := (hb3.block w.heap.size (by omega)).trans hHr0; have hG1 := (hb3.block (w.heap.size + 1) (by omega)).trans hHr1; have c0 : w3.cell? ⟨w.heap.size, 0, none⟩ = some (.slice none 0 0) := (by simp [World.cell?, hG0]); have c1 : w3.cell? ⟨w.heap.size + 1, 0, none⟩ = some (.int .i64 0) := (by simp [World.cell?, hG1]); have f0 : w3.frozen? ⟨w.heap.size, 0, none⟩ = false := (by simp [World.frozen?, hG0]); have f1 : w3.frozen? ⟨w.heap.size + 1, 0, none⟩ = false := (by simp [World.frozen?, hG1]))
        refine leaves_cons (f := 10) (args := #[.pointer (some ⟨w.heap.size, 0, none⟩), .pointer (some ⟨w.heap.size + 1, 0, none⟩)]) (by simp) (by simp [go_sem]) ?_
        refine (catch_idle _ _ _).mono ?_
        rintro e u' w'' ⟨rfl, rfl, rfl⟩
        simp [Leaves, settle, results, Tryz.results5, go_sem, c0, c1]
        have hbx : Below w.heap.size w w3 := hbw.trans (hb3.mono (by omega))
        refine ⟨(hbx.setCell (p := ⟨w.heap.size, 0, none⟩) (Nat.le_refl _) _).setCell (p := ⟨w.heap.size + 1, 0, none⟩) (by simp) _, fun h => absurd h hne, fun _ => ⟨g, cap, rfl, ?_⟩⟩
        have o1 := own_base hown (show w.heap.size ≤ b by omega)
        exact own_set (own_set o1 hG0 (by decide) _) (T := 24) (cs := #[.int .i64 0]) (fr := (0, 0)) (by rw [Below.heap_setCell _ _ _ _ (by simp)]; exact hG1) (by decide) _
end Go.Proofs.Pt
namespace Go.Proofs.Pt
open Go.RowKit Go.Lib
def isC (c : UInt8) : Bool := c.toNat / 64 == 2
def tw (r : List UInt8) : List UInt8 := r.takeWhile isC
theorem tw_dbl : ∀ r : List UInt8, tw (dbl r) = tw r
  | [] => rfl
  | c :: r => by
    have e : dbl (c :: r) = dblC c ++ dbl r := by simp [dbl]
    rw [e]
    unfold dblC
    split
    · have hc : isC c = false := by rename_i h; rcases h with rfl | rfl <;> rfl
      simp [tw, List.takeWhile, hc]
    · have ih := tw_dbl r
      unfold tw at ih ⊢
      simp only [List.singleton_append, List.takeWhile_cons]
      rw [ih]
def F (b0 : Nat) (m : List UInt8) : Nat × Nat :=
  if b0 < 0x80 then (b0, 1)
  else match m with
  | [] => (0xFFFD, 1)
  | x :: m1 =>
    if b0 / 32 == 6 then
      let c := (b0 % 32) * 64 + x.toNat % 64
      if c ≥ 0x80 then (c, 2) else (0xFFFD, 1)
    else match m1 with
    | [] => (0xFFFD, 1)
    | y :: m2 =>
      if b0 / 16 == 14 then
        let c := (b0 % 16) * 4096 + (x.toNat % 64) * 64 + y.toNat % 64
        if c ≥ 0x800 && Utf8.valid c then (c, 3) else (0xFFFD, 1)
      else match m2 with
      | [] => (0xFFFD, 1)
      | z :: _ =>
        if b0 / 8 == 30 then
          let c := (b0 % 8) * 262144 + (x.toNat % 64) * 4096 + (y.toNat % 64) * 64 + z.toNat % 64
          if c ≥ 0x10000 && Utf8.valid c then (c, 4) else (0xFFFD, 1)
        else (0xFFFD, 1)
theorem get_list (s : ByteArray) (i : Nat) : s.get! i = (s.data.toList[i]?).getD 0 := by
  cases s with
  | mk bs =>
    show bs[i]! = _
    rw [Array.getElem!_eq_getD, Array.getD_eq_getD_getElem?, Array.getElem?_toList]
    rfl
theorem decode_F (s : ByteArray) (pos : Nat) (b0 : UInt8) (r : List UInt8) (h : s.data.toList.drop pos = b0 :: r) : Utf8.decode s pos = F b0.toNat (tw r) := by
  have g0 : s.get! (pos + 0) = b0 := by
    have h0 : (s.data.toList.drop pos)[0]? = some b0 := by rw [h]; rfl
    rw [List.getElem?_drop] at h0
    rw [get_list, h0]; rfl
  have gk : ∀ k, s.get! (pos + (k + 1)) = (r[k]?).getD 0 := fun k => by
    have h0 : (s.data.toList.drop pos)[k + 1]? = r[k]? := by rw [h]; rfl
    rw [List.getElem?_drop] at h0
    rw [get_list, h0]
  have hl : s.size = pos + (r.length + 1) := by
    have h1 := congrArg List.length h
    rw [List.length_drop, List.length_cons] at h1
    have : s.data.toList.length = s.size := rfl
    omega
  have ck : ∀ k, decide (pos + (k + 1) < s.size) = decide (k < r.length) := fun k => by
    rw [hl]
    exact decide_eq_decide.2 ⟨fun h => by omega, fun h => by omega⟩
  have g1 := gk 0; have g2 := gk 1; have g3 := gk 2
  have c1 := ck 0; have c2 := ck 1; have c3 := ck 2
  simp only [Nat.zero_add, Nat.reduceAdd] at g1 g2 g3 c1 c2 c3
  simp only [Utf8.decode, g0, g1, g2, g3, c1, c2, c3]
  unfold F
  by_cases hb : b0.toNat < 0x80
  · rw [if_pos hb, if_pos hb]
  · rw [if_neg hb, if_neg hb]
    cases r with
    | nil => simp [tw, Utf8.runeError]
    | cons x r1 =>
      by_cases hx : isC x = true
      · have hx' : (x.toNat / 64 == 2) = true := hx
        have t1 : tw (x :: r1) = x :: tw r1 := by simp [tw, List.takeWhile_cons, hx]
        rw [t1]
        cases r1 with
        | nil => simp [tw, hx', Utf8.runeError]
        | cons y r2 =>
          by_cases hy : isC y = true
          · have hy' : (y.toNat / 64 == 2) = true := hy
            have t2 : tw (y :: r2) = y :: tw r2 := by simp [tw, List.takeWhile_cons, hy]
            rw [t2]
            cases r2 with
            | nil => simp [tw, hx', hy', Utf8.runeError]
            | cons z r3 =>
              by_cases hz : isC z = true
              · have hz' : (z.toNat / 64 == 2) = true := hz
                have t3 : tw (z :: r3) = z :: tw r3 := by simp [tw, List.takeWhile_cons, hz]
                rw [t3]
                simp [hx', hy', hz', Utf8.runeError]
              · have hz' : (z.toNat / 64 == 2) = false := by simpa [isC] using hz
                have t3 : tw (z :: r3) = [] := by simp [tw, List.takeWhile_cons, hz]
                rw [t3]
                simp [hx', hy', hz', Utf8.runeError]
          · have hy' : (y.toNat / 64 == 2) = false := by simpa [isC] using hy
            have t2 : tw (y :: r2) = [] := by simp [tw, List.takeWhile_cons, hy]
            rw [t2]
            simp [hx', hy', Utf8.runeError]
      · have hx' : (x.toNat / 64 == 2) = false := by simpa [isC] using hx
        have t1 : tw (x :: r1) = [] := by simp [tw, List.takeWhile_cons, hx]
        rw [t1]
        simp [hx', Utf8.runeError]
theorem F_width (b0 : Nat) (m : List UInt8) : 1 ≤ (F b0 m).2 ∧ (F b0 m).2 ≤ m.length + 1 := by
  unfold F
  split
  · simp
  · cases m with
    | nil => simp
    | cons x m1 =>
      dsimp only
      split
      · split <;> simp
      · cases m1 with
        | nil => simp
        | cons y m2 =>
          dsimp only
          split
          · split <;> simp
          · cases m2 with
            | nil => simp
            | cons z m3 =>
              dsimp only
              split
              · split <;> simp
              · simp
def okL (b0 : UInt8) (m : List UInt8) : Bool := isCh (F b0.toNat m).1 && (!((F b0.toNat m).1 == 65533) || (b0 == 239 && hasPrefix m [191, 189]))
def txtL : Nat → List UInt8 → Bool
  | 0, _ => true
  | _ + 1, [] => true
  | f + 1, b0 :: r => okL b0 (tw r) && txtL f (r.drop ((F b0.toNat (tw r)).2 - 1))
theorem pre_tw (r : List UInt8) : hasPrefix (tw r) [191, 189] = hasPrefix r [191, 189] := by
  cases r with
  | nil => rfl
  | cons x r1 =>
    by_cases h1 : x = 191
    · subst h1
      have t1 : tw (191 :: r1) = 191 :: tw r1 := rfl
      rw [t1]
      cases r1 with
      | nil => rfl
      | cons y r2 =>
        by_cases h2 : y = 189
        · subst h2
          rfl
        · have n2 : (189 == y) = false := by simpa using fun e => h2 e.symm
          cases hy : isC y with
          | true =>
            have t2 : tw (y :: r2) = y :: tw r2 := by simp [tw, List.takeWhile_cons, hy]
            rw [t2]
            simp [hasPrefix, List.isPrefixOf, n2]
          | false =>
            have t2 : tw (y :: r2) = [] := by simp [tw, List.takeWhile_cons, hy]
            rw [t2]
            simp [hasPrefix, List.isPrefixOf, n2]
    · have n1 : (191 == x) = false := by simpa using fun e => h1 e.symm
      cases hx : isC x with
      | true =>
        have t1 : tw (x :: r1) = x :: tw r1 := by simp [tw, List.takeWhile_cons, hx]
        rw [t1]
        simp [hasPrefix, List.isPrefixOf, n1]
      | false =>
        have t1 : tw (x :: r1) = [] := by simp [tw, List.takeWhile_cons, hx]
        rw [t1]
        simp [hasPrefix, List.isPrefixOf, n1]
theorem ok_L (s : ByteArray) (pos : Nat) (b0 : UInt8) (r : List UInt8) (h : s.data.toList.drop pos = b0 :: r) : okC s pos = okL b0 (tw r) := by
  unfold okC okL
  rw [decode_F s pos b0 r h, h, pre_tw]
  congr 2
  simp only [hasPrefix, List.isPrefixOf]
  by_cases e : b0 = 239
  · subst e; rfl
  · have n1 : (239 == b0) = false := by simpa using fun x => e x.symm
    have n2 : (b0 == 239) = false := by simpa using e
    rw [n1, n2]
theorem txt_L (s : ByteArray) : ∀ (f pos : Nat), txtFrom s f pos = txtL f (s.data.toList.drop pos)
  | 0, _ => rfl
  | f + 1, pos => by
    unfold txtFrom
    by_cases hp : pos < s.size
    · rw [if_pos hp]
      obtain ⟨b0, r, h⟩ : ∃ b0 r, s.data.toList.drop pos = b0 :: r := ⟨_, _, List.drop_eq_getElem_cons (show pos < s.data.toList.length from hp)⟩
      rw [txt_L s f, ok_L s pos b0 r h, decode_F s pos b0 r h, h]
      have hw := (F_width b0.toNat (tw r)).1
      show _ = (okL b0 (tw r) && txtL f (r.drop ((F b0.toNat (tw r)).2 - 1)))
      congr 2
      rw [← List.drop_drop, h, show (F b0.toNat (tw r)).2 = ((F b0.toNat (tw r)).2 - 1) + 1 by omega]
      rfl
    · rw [if_neg hp, List.drop_of_length_le (show s.data.toList.length ≤ pos by have : s.data.toList.length = s.size := rfl; omega)]
      rfl
theorem dbl_dropC : ∀ (j : Nat) (r : List UInt8), j ≤ (tw r).length → (dbl r).drop j = dbl (r.drop j)
  | 0, _, _ => rfl
  | j + 1, [], h => by simp [tw] at h
  | j + 1, c :: r, h => by
    cases hc : isC c with
    | false => simp [tw, List.takeWhile_cons, hc] at h
    | true =>
      have e : dbl (c :: r) = dblC c ++ dbl r := by simp [dbl]
      have hn : dblC c = [c] := if_neg (fun h => by rcases h with rfl | rfl <;> cases hc)
      have t1 : tw (c :: r) = c :: tw r := by simp [tw, List.takeWhile_cons, hc]
      rw [t1, List.length_cons] at h
      rw [e, hn]
      exact dbl_dropC j r (by omega)
theorem txtL_more : ∀ (f f' : Nat) (l : List UInt8), l.length ≤ f → l.length ≤ f' → txtL f l = txtL f' l
  | 0, 0, _, _, _ => rfl
  | 0, _ + 1, [], _, _ => rfl
  | 0, _ + 1, _ :: _, h, _ => by simp at h
  | _ + 1, 0, [], _, _ => rfl
  | _ + 1, 0, _ :: _, _, h => by simp at h
  | _ + 1, _ + 1, [], _, _ => rfl
  | f + 1, f' + 1, b0 :: r, h, h' => by
    show (okL b0 (tw r) && txtL f _) = (okL b0 (tw r) && txtL f' _)
    rw [txtL_more f f' _ (by rw [List.length_drop]; simp at h; omega) (by rw [List.length_drop]; simp at h'; omega)]
theorem txtL_dbl : ∀ (f : Nat) (l : List UInt8), l.length ≤ f → ∀ f', (dbl l).length ≤ f' → txtL f' (dbl l) = txtL f l
  | 0, [], _, f', _ => by cases f' <;> rfl
  | 0, _ :: _, h, _, _ => by simp at h
  | f + 1, [], _, f', _ => by cases f' <;> rfl
  | f + 1, b0 :: r, h, f', h' => by
    have e : dbl (b0 :: r) = dblC b0 ++ dbl r := by simp [dbl]
    rw [List.length_cons] at h
    rw [e] at h' ⊢
    show _ = (okL b0 (tw r) && txtL f (r.drop ((F b0.toNat (tw r)).2 - 1)))
    by_cases hb : b0 = 123 ∨ b0 = 125
    · have hd : dblC b0 = [b0, b0] := if_pos hb
      have hF : ∀ m, F b0.toNat m = (b0.toNat, 1) := fun m => by rcases hb with rfl | rfl <;> rfl
      have hok : ∀ m, okL b0 m = true := fun m => by unfold okL; rw [hF]; rcases hb with rfl | rfl <;> rfl
      rw [hd] at h' ⊢
      simp only [List.length_append, List.length_cons, List.length_nil] at h'
      obtain ⟨g, rfl⟩ : ∃ g, f' = g + 2 := ⟨f' - 2, by omega⟩
      show (okL b0 _ && txtL (g + 1) (([b0] ++ dbl r).drop ((F b0.toNat _).2 - 1))) = _
      rw [hok, hF, hok, hF]
      show (true && (okL b0 _ && txtL g ((dbl r).drop ((F b0.toNat _).2 - 1)))) = _
      rw [hok, hF]
      simp only [Nat.sub_self, List.drop_zero, Bool.true_and]
      exact txtL_dbl f r (by omega) g (by omega)
    · have hd : dblC b0 = [b0] := if_neg hb
      rw [hd] at h' ⊢
      simp only [List.length_append, List.length_cons, List.length_nil] at h'
      obtain ⟨g, rfl⟩ : ∃ g, f' = g + 1 := ⟨f' - 1, by omega⟩
      show (okL b0 (tw (dbl r)) && txtL g ((dbl r).drop ((F b0.toNat (tw (dbl r))).2 - 1))) = _
      have hw := F_width b0.toNat (tw r)
      rw [tw_dbl, dbl_dropC _ r (by omega)]
      congr 1
      refine txtL_dbl f _ (by rw [List.length_drop]; omega) g ?_
      rw [← dbl_dropC _ r (by omega), List.length_drop]
      omega
theorem isTxt_twice (l : List UInt8) : isTxt ⟨(dbl l).toArray⟩ = isTxt ⟨l.toArray⟩ := by
  unfold isTxt
  rw [txt_L, txt_L]
  exact txtL_dbl _ l (Nat.le_refl _) _ (Nat.le_refl _)
end Go.Proofs.Pt
