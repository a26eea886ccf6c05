import Derived.Test.YtjadcoglgnabpaaGreatDoorWe
import Derived.BigQuiet
import Derived.RegionTactic
import Derived.Deep.RegionHeld3
import Derived.Deep.MidRow
set_option linter.all false
set_option linter.unusedVariables false
set_option maxHeartbeats 2000000
set_option exponentiation.threshold 5000
namespace Go.Proofs.Nw
open Go.RowKit Go.Lib
attribute [local go_sem ↓] Go.wp_at_zero Go.wp_at_succ
theorem dcv_none {l : List UInt8} (hns : (fracOf l).length ≤ 20 → pspec l = none) : ∀ neg n, ¬ Cv l neg n := fun neg n h => by
  have h1 := hns h.spec.1
  rw [h.spec.2] at h1
  cases h1
/-- what Canonical gives -/
def DCanQ (l : List UInt8) (w : World) (e : Ending) (w' : World) : Prop := Below w.heap.size w w' ∧
  ((e = .returned (.tuple #[.agg #[.bool false, .slice none 0 0], .bool false]) ∧ ∀ neg n, ¬ Cv l neg n) ∨
   (∃ neg E A c, e = .returned (.tuple #[.agg #[.bool neg, .slice A E.length c], .bool true]) ∧ DigsAt w' A E ∧ Dg E ∧ E.length ≤ c ∧ E.length ≤ 50 ∧ Cv l neg (nv E)))
set_option maxRecDepth 100000 in
set_option maxHeartbeats 1000000 in
theorem dcanon_any (l : List UInt8) (w : World) (hl : l.length ≤ 100000) :
    Calls Tryz.prog 12 #[.string ⟨l.toArray⟩] w (DCanQ l w) := by
  go_enter Tryz.func12, Tryz.ntmps12
  go_wp2_with fail
  have hb0 : Below w.heap.size w (w.alloc (.cells #[.bool false, .slice none 0 0] 41)) := (Below.refl _ _).alloc (Nat.le_refl _) _
  have hH0 : (w.alloc (.cells #[.bool false, .slice none 0 0] 41)).heap[w.heap.size]? = some (.cells #[.bool false, .slice none 0 0] 41) := Go.Deep.blk_alloc_new _ _
  generalize w.alloc (.cells #[.bool false, .slice none 0 0] 41) = w0 at hb0 hH0 ⊢
  have hHs : w.heap.size < w0.heap.size := (Array.getElem?_eq_some_iff.1 hH0).1
  refine (read_any l w0 hl).mono ?_
  rintro e w1 ⟨hb1, ⟨code, rfl, hc, hns⟩ | ⟨neg, E, A, c, rfl, hW, hEd, hEt, hLc, hnil, hl3, hng, hl2, hbt, hsp⟩⟩
  · have hno := Lib.hid (show ∀ neg n, ¬ Cv l neg n from fun neg n h => by
      have h1 := hns h.spec.1
      rw [h.spec.2] at h1
      cases h1)
    have hH1 := (hb1.block _ hHs).trans hH0
    have c00 : w1.cell? ⟨w.heap.size, 0, none⟩ = some (.bool false) := by simp [World.cell?, hH1]
    have c01 : w1.cell? ⟨w.heap.size, 1, none⟩ = some (.slice none 0 0) := by simp [World.cell?, hH1]
    have f0 : ∀ j, w1.frozen? ⟨w.heap.size, j, none⟩ = false := fun j => by simp [World.frozen?, hH1]
    have hbw := hb0.trans (hb1.mono hb0.size)
    have hsz1 : w.heap.size < w1.heap.size := Nat.lt_of_lt_of_le hHs hb1.size
    clear hns
    go_wp2
    refine bodyPost_ret (results_num33 rfl _ _ w.heap.size 41 _ (0, 0) (by rfl) ((Go.Deep.blk_alloc_lt _ _ _ (by simp; omega)).trans (set_heap (set_heap hH1 0 _) 1 _)) (by simp)) rfl ⟨?_, .inl ⟨rfl, hno.out⟩⟩
    exact ((hbw.setCell (p := ⟨w.heap.size, 0, none⟩) (Nat.le_refl _) _).setCell (p := ⟨w.heap.size, 1, none⟩) (Nat.le_refl _) _).alloc (by simp; omega) _
  · have hH1 := (hb1.block _ hHs).trans hH0
    have hbw := hb0.trans (hb1.mono hb0.size)
    have hsz1 : w.heap.size < w1.heap.size := Nat.lt_of_lt_of_le hHs hb1.size
    have hn' := Lib.hid (show nv E < 10 ^ 50 from Nat.lt_of_lt_of_le (nv_lt hEd) (Nat.pow_le_pow_right (by decide) hl3))
    have hng' := Lib.hid (show neg = true → nv E ≠ 0 from fun h h0 => hng h ((trim_zero hEt).1 h0))
    have hsp' := Lib.hid hsp
    have hEd' := Lib.hid hEd
    have hEt' := Lib.hid hEt
    clear hsp hng hbt hEd hEt
    go_upto_region 2 with fail
    have hT : (w1.alloc (.cells #[.bool neg, .slice A E.length c] 41)).heap[w1.heap.size]? = some (.cells #[.bool neg, .slice A E.length c] 41) := Go.Deep.blk_alloc_new _ _
    have hB2 : Below w.heap.size w (w1.alloc (.cells #[.bool neg, .slice A E.length c] 41)) := hbw.alloc (Nat.le_of_lt hsz1) _
    have hH2 : (w1.alloc (.cells #[.bool neg, .slice A E.length c] 41)).heap[w.heap.size]? = some (.cells #[.bool false, .slice none 0 0] 41) := (Go.Deep.blk_alloc_lt _ _ _ hsz1).trans hH1
    have hW2 := Lib.hid (hW.mono ((Below.refl w1.heap.size w1).alloc (Nat.le_refl _) (.cells #[.bool neg, .slice A E.length c] 41)))
    clear hW
    generalize w1.alloc (.cells #[.bool neg, .slice A E.length c] 41) = w2 at hT hB2 hH2 hW2 ⊢
    have hTs : w1.heap.size < w2.heap.size := (Array.getElem?_eq_some_iff.1 hT).1
    have t0 : w2.cell? ⟨w1.heap.size, 0, none⟩ = some (.bool neg) := by simp [World.cell?, hT]
    have t1 : w2.cell? ⟨w1.heap.size, 1, none⟩ = some (.slice A E.length c) := by simp [World.cell?, hT]
    go_wp2_with fail
    refine (dtext_any neg E A c w2 hW2.out hEd'.out hEt'.out hLc hnil (by omega)).mono ?_
    intro e w3 hq
    obtain ⟨t, ht, rfl, hb3⟩ := hq
    have hH3 := (hb3.block _ (Nat.lt_trans hsz1 hTs)).trans hH2
    have hT3 := (hb3.block _ hTs).trans hT
    have hW3 := Lib.hid (hW2.out.mono hb3)
    have hB3 := hB2.trans (hb3.mono hB2.size)
    have hsz3 := Nat.lt_of_lt_of_le hTs hb3.size
    have t0' : w3.cell? ⟨w1.heap.size, 0, none⟩ = some (.bool neg) := by simp [World.cell?, hT3]
    have t1' : w3.cell? ⟨w1.heap.size, 1, none⟩ = some (.slice A E.length c) := by simp [World.cell?, hT3]
    have c00 : w3.cell? ⟨w.heap.size, 0, none⟩ = some (.bool false) := by simp [World.cell?, hH3]
    have c01 : w3.cell? ⟨w.heap.size, 1, none⟩ = some (.slice none 0 0) := by simp [World.cell?, hH3]
    have f0 : ∀ j, w3.frozen? ⟨w.heap.size, j, none⟩ = false := fun j => by simp [World.frozen?, hH3]
    have hq1 : ((⟨t.toArray⟩ : ByteArray).toList == (⟨l.toArray⟩ : ByteArray).toList) = (t == l) := by simp
    generalize hSt : (⟨t.toArray⟩ : ByteArray) = St at hq1 ⊢
    generalize hSl : (⟨l.toArray⟩ : ByteArray) = Sl at hq1 ⊢
    have ht' := Lib.hid ht
    clear ht hW2 t0 t1 hT hb3 hSt hSl
    by_cases htl : t = l
    · subst htl
      have hq2 : (St.toList == Sl.toList) = true := hq1.trans (by simp)
      clear hq1
      go_wp2
      refine bodyPost_ret (results_num33 rfl _ _ w.heap.size 41 _ (0, 0) (by rfl) (set_heap (set_heap hH3 0 _) 1 _) (by simp)) rfl ⟨?_, .inr ⟨neg, E, A, c, ?_, ?_, hEd'.out, hLc, hl3, ht'.out, hn'.out, hng'.out⟩⟩
      · exact (hB3.setCell (p := ⟨w.heap.size, 0, none⟩) (Nat.le_refl _) _).setCell (p := ⟨w.heap.size, 1, none⟩) (Nat.le_refl _) _
      · rfl
      · exact digs_struct (cs := #[.bool neg, .slice none 0 0]) (digs_struct hW3.out hH3 (no_i64 _ _ _ _) 0 _) (set_heap hH3 0 _) (no_i64 _ _ _ _) 1 _
    · have hq2 : (St.toList == Sl.toList) = false := hq1.trans (by simp [htl])
      have hno := Lib.hid (show ∀ neg n, ¬ Cv l neg n from fun neg' n' h => by
        have h1 := hsp'.out h.spec.1
        rw [h.spec.2] at h1
        injection h1 with h1
        injection h1 with h1 h2
        subst h1 h2
        exact htl (ht'.out.unique h.1))
      clear hq1
      go_wp2
      refine bodyPost_ret (results_num33 rfl _ _ w.heap.size 41 _ (0, 0) (by rfl) (set_heap (set_heap hH3 0 _) 1 _) (by simp)) rfl ⟨?_, .inl ⟨rfl, hno.out⟩⟩
      exact (hB3.setCell (p := ⟨w.heap.size, 0, none⟩) (Nat.le_refl _) _).setCell (p := ⟨w.heap.size, 1, none⟩) (Nat.le_refl _) _
end Go.Proofs.Nw
namespace Go.Proofs.Nw
open Go.RowKit Go.Lib
attribute [local go_sem ↓] Go.wp_at_zero Go.wp_at_succ
theorem results_two {fn : Func} {p q u : Tmp} (h : fn.results = #[.cell p 41, .cell q 41, .tmp u]) (tmps : Array Value) (w : World) (g k : Nat) (t t' : TypeId) (cs cs' : Array Value) (fr fr' : Nat × Nat)
    (hp : tmps.getD p undef = .pointer (some ⟨g, 0, none⟩)) (hq : tmps.getD q undef = .pointer (some ⟨k, 0, none⟩)) (hg : w.heap[g]? = some (.cells cs t fr)) (hk : w.heap[k]? = some (.cells cs' t' fr')) (hs : cs.size = 2) (hs' : cs'.size = 2) :
    (results fn tmps).run Tryz.prog w = .ok (.tuple #[.agg cs, .agg cs', tmps.getD u undef]) w := by
  obtain ⟨d, hu, hd⟩ := und33
  have h1 := run_loadVar_row w g t 41 cs fr d hg hu (by cases d <;> first | rfl | exact hd) (hs ▸ size33)
  have h2 := run_loadVar_row w k t' 41 cs' fr' d hk hu (by cases d <;> first | rfl | exact hd) (hs' ▸ size33)
  rw [Array.getD_eq_getD_getElem?] at hp hq
  simp only [results, h]
  simp [Sem.run_bind, Result.andThen, hp, hq, asAddr, h1, h2]
def CanV (l : List UInt8) (w : World) (neg : Bool) (A : Option Addr) (L c : Nat) (b : Bool) : Prop := (b = false ∧ ∀ neg n, ¬ Cv l neg n) ∨ (b = true ∧ ∃ E, L = E.length ∧ DigsAt w A E ∧ Dg E ∧ E.length ≤ c ∧ E.length ≤ 50 ∧ Cv l neg (nv E))
theorem CanV.mono {l : List UInt8} {w w' : World} {neg : Bool} {A : Option Addr} {L c : Nat} {b : Bool} (h : CanV l w neg A L c b) (hb : Below w.heap.size w w') : CanV l w' neg A L c b := by
  rcases h with h | ⟨h, E, h1, h2, h3⟩
  · exact .inl h
  · exact .inr ⟨h, E, h1, h2.mono hb, h3⟩
theorem DCanQ.form {l : List UInt8} {w w' : World} {e : Ending} (h : DCanQ l w e w') : ∃ neg A L c b, e = .returned (.tuple #[.agg #[.bool neg, .slice A L c], .bool b]) ∧ Below w.heap.size w w' ∧ CanV l w' neg A L c b := by
  obtain ⟨hb, ⟨rfl, h⟩ | ⟨neg, E, A, c, rfl, h1, h2, h3, h4, h5⟩⟩ := h
  · exact ⟨false, none, 0, 0, false, rfl, hb, .inl ⟨rfl, h⟩⟩
  · exact ⟨neg, A, E.length, c, true, rfl, hb, .inr ⟨rfl, E, rfl, h1, h2, h3, h4, h5⟩⟩
theorem cell_ne {w : World} {a : Addr} {x : Int} {H : Nat} {cs : Array Value} {t : TypeId} {fr : Nat × Nat} (h1 : w.cell? a = some (.int .i64 x)) (hH : w.heap[H]? = some (.cells cs t fr)) (hno : ∀ (k : Nat) (x : Int), cs[k]? ≠ some (.int .i64 x)) : a.block ≠ H := by
  intro e
  unfold World.cell? at h1
  rw [e, hH] at h1
  simp only at h1
  split at h1
  · cases h1
  · exact hno _ _ h1
theorem can_keep {l : List UInt8} {w : World} {H K : Nat} {neg b p q : Bool} {A P Q : Option Addr} {L c n m n' m' : Nat} {t t' : TypeId} {fr fr' : Nat × Nat} (hH : w.heap[H]? = some (.cells #[.bool p, .slice P n m] t fr)) (hK : w.heap[K]? = some (.cells #[.bool q, .slice Q n' m'] t' fr')) (h : CanV l w neg A L c b) (v0 v1 v2 v3 : Value) :
    CanV l (((((w.setCell ⟨H, 0, none⟩ v0).setCell ⟨H, 1, none⟩ v1).setCell ⟨K, 0, none⟩ v2).setCell ⟨K, 1, none⟩ v3).drew) neg A L c b := by
  rcases h with h | ⟨h, E, h1, h2, h3, h4, h5, h6⟩
  · exact .inl h
  · refine .inr ⟨h, E, h1, ?_, h3, h4, h5, h6⟩
    intro h0
    obtain ⟨a, e, hb, hc⟩ := h2 h0
    refine ⟨a, e, by simpa using hb, fun j hj => ?_⟩
    have n1 : (a.add j).block ≠ H := cell_ne (hc j hj) hH (no_i64 _ _ _ _)
    have n2 : (a.add j).block ≠ K := cell_ne (hc j hj) hK (no_i64 _ _ _ _)
    rw [← hc j hj]
    refine World.cell?_of_block ?_
    show ((((w.setCell ⟨H, 0, none⟩ v0).setCell ⟨H, 1, none⟩ v1).setCell ⟨K, 0, none⟩ v2).setCell ⟨K, 1, none⟩ v3).heap[(a.add j).block]? = _
    rw [set_heap_other n2, set_heap_other n2, set_heap_other n1, set_heap_other n1]
def TwoQ (la lb : List UInt8) (w : World) (e : Ending) (w' : World) : Prop := ∃ na A L c b nb C M d b', e = .returned (.tuple #[.agg #[.bool na, .slice A L c], .agg #[.bool nb, .slice C M d], .bool (b && b')]) ∧ Below w.heap.size w w' ∧ CanV la w' na A L c b ∧ CanV lb w' nb C M d b'
set_option maxRecDepth 100000 in
set_option maxHeartbeats 1000000 in
theorem two_any (la lb : List UInt8) (w : World) (hla : la.length ≤ 100000) (hlb : lb.length ≤ 100000) :
    Calls Tryz.prog 42 #[.string ⟨la.toArray⟩, .string ⟨lb.toArray⟩] w (TwoQ la lb w) := by
  go_enter Tryz.func42, Tryz.ntmps42
  go_upto_region 1 with fail
  have hb0 : Below w.heap.size w ((w.alloc (.cells #[.bool false, .slice none 0 0] 41)).alloc (.cells #[.bool false, .slice none 0 0] 41)) := ((Below.refl _ _).alloc (Nat.le_refl _) _).alloc (by simp) _
  have hH0 : ((w.alloc (.cells #[.bool false, .slice none 0 0] 41)).alloc (.cells #[.bool false, .slice none 0 0] 41)).heap[w.heap.size]? = some (.cells #[.bool false, .slice none 0 0] 41) := by
    rw [Go.Deep.blk_alloc_lt _ _ _ (by simp)]
    exact Go.Deep.blk_alloc_new _ _
  have hH1 : ((w.alloc (.cells #[.bool false, .slice none 0 0] 41)).alloc (.cells #[.bool false, .slice none 0 0] 41)).heap[w.heap.size + 1]? = some (.cells #[.bool false, .slice none 0 0] 41) := by
    have := Go.Deep.blk_alloc_new (w.alloc (.cells #[.bool false, .slice none 0 0] 41)) (.cells #[.bool false, .slice none 0 0] 41)
    rwa [show (w.alloc (.cells #[.bool false, .slice none 0 0] 41)).heap.size = w.heap.size + 1 by simp] at this
  generalize (w.alloc (.cells #[.bool false, .slice none 0 0] 41)).alloc (.cells #[.bool false, .slice none 0 0] 41) = w0 at hb0 hH0 hH1 ⊢
  have hs1 : w.heap.size + 1 < w0.heap.size := (Array.getElem?_eq_some_iff.1 hH1).1
  go_wp2_with fail
  refine (dcanon_any la w0 hla).mono ?_
  intro e w1 hq
  obtain ⟨na, A, L, c, b, rfl, hb1, hv1⟩ := hq.form
  clear hq
  have hs2 := hb1.size
  go_upto_region 2 with fail
  have hb2 : Below w0.heap.size w0 (w1.alloc (.cells #[.bool na, .slice A L c] 41)) := hb1.alloc hs2 _
  have hT2 : (w1.alloc (.cells #[.bool na, .slice A L c] 41)).heap[w1.heap.size]? = some (.cells #[.bool na, .slice A L c] 41) := Go.Deep.blk_alloc_new _ _
  have hv2 := hv1.mono ((Below.refl w1.heap.size w1).alloc (Nat.le_refl _) (.cells #[.bool na, .slice A L c] 41))
  clear hv1 hb1
  generalize hG1 : w1.heap.size = G1 at *
  generalize w1.alloc (.cells #[.bool na, .slice A L c] 41) = w2 at hb2 hT2 hv2 ⊢
  have hs3 : G1 < w2.heap.size := (Array.getElem?_eq_some_iff.1 hT2).1
  have hv2' := Lib.hid hv2
  clear hv2
  go_wp2_with fail
  refine (dcanon_any lb w2 hlb).mono ?_
  intro e w3 hq
  obtain ⟨nb, C, M, d, b', rfl, hb3, hv3⟩ := hq.form
  clear hq
  have hs4 := hb3.size
  go_upto_region 3 with fail
  have hb4 : Below w2.heap.size w2 (w3.alloc (.cells #[.bool nb, .slice C M d] 41)) := hb3.alloc hs4 _
  have hU4 : (w3.alloc (.cells #[.bool nb, .slice C M d] 41)).heap[w3.heap.size]? = some (.cells #[.bool nb, .slice C M d] 41) := Go.Deep.blk_alloc_new _ _
  have hv4 := Lib.hid (hv3.mono ((Below.refl w3.heap.size w3).alloc (Nat.le_refl _) (.cells #[.bool nb, .slice C M d] 41)))
  clear hv3 hb3
  generalize hG3 : w3.heap.size = G3 at *
  generalize w3.alloc (.cells #[.bool nb, .slice C M d] 41) = w4 at hb4 hU4 hv4 ⊢
  have hT4 := (hb4.block _ hs3).trans hT2
  have hb5 : Below w0.heap.size w0 w4 := hb2.trans (hb4.mono hb2.size)
  have hJ0 := (hb5.block _ (by omega)).trans hH0
  have hJ1 := (hb5.block _ hs1).trans hH1
  have hB := hb0.trans (hb5.mono hb0.size)
  have hvA := Lib.hid (hv2'.out.mono hb4)
  clear hv2' hb2 hb4 hb5 hH0 hH1 hT2
  have t0 : w4.cell? ⟨G1, 0, none⟩ = some (.bool na) := by simp [World.cell?, hT4]
  have t1 : w4.cell? ⟨G1, 1, none⟩ = some (.slice A L c) := by simp [World.cell?, hT4]
  have s0 : w4.cell? ⟨G3, 0, none⟩ = some (.bool nb) := by simp [World.cell?, hU4]
  have s1 : w4.cell? ⟨G3, 1, none⟩ = some (.slice C M d) := by simp [World.cell?, hU4]
  have c00 : w4.cell? ⟨w.heap.size, 0, none⟩ = some (.bool false) := by simp [World.cell?, hJ0]
  have c01 : w4.cell? ⟨w.heap.size, 1, none⟩ = some (.slice none 0 0) := by simp [World.cell?, hJ0]
  have f00 : ∀ j, w4.frozen? ⟨w.heap.size, j, none⟩ = false := fun j => by simp [World.frozen?, hJ0]
  have c10 : w4.cell? ⟨w.heap.size + 1, 0, none⟩ = some (.bool false) := by simp [World.cell?, hJ1]
  have c11 : w4.cell? ⟨w.heap.size + 1, 1, none⟩ = some (.slice none 0 0) := by simp [World.cell?, hJ1]
  have f10 : ∀ j, w4.frozen? ⟨w.heap.size + 1, j, none⟩ = false := fun j => by simp [World.frozen?, hJ1]
  cases b with
  | true =>
    go_wp2_with fail
    go_region
    go_wp2
    refine bodyPost_ret (results_two rfl _ _ w.heap.size (w.heap.size + 1) 41 41 _ _ (0, 0) (0, 0) (by rfl) (by rfl) (show (((((w4.setCell ⟨w.heap.size, 0, none⟩ (.bool na)).setCell ⟨w.heap.size, 1, none⟩ (.slice A L c)).setCell ⟨w.heap.size + 1, 0, none⟩ (.bool nb)).setCell ⟨w.heap.size + 1, 1, none⟩ (.slice C M d)).heap)[w.heap.size]? = _ from (set_heap_other (by omega) 1 _).trans ((set_heap_other (by omega) 0 _).trans (set_heap (set_heap hJ0 0 _) 1 _))) (show (((((w4.setCell ⟨w.heap.size, 0, none⟩ (.bool na)).setCell ⟨w.heap.size, 1, none⟩ (.slice A L c)).setCell ⟨w.heap.size + 1, 0, none⟩ (.bool nb)).setCell ⟨w.heap.size + 1, 1, none⟩ (.slice C M d)).heap)[w.heap.size + 1]? = _ from set_heap (set_heap ((set_heap_other (by omega) 1 _).trans ((set_heap_other (by omega) 0 _).trans hJ1)) 0 _) 1 _) (by simp) (by simp)) rfl ⟨na, A, L, c, true, nb, C, M, d, b', rfl, ((((hB.setCell (p := ⟨w.heap.size, 0, none⟩) (Nat.le_refl _) _).setCell (p := ⟨w.heap.size, 1, none⟩) (Nat.le_refl _) _).setCell (p := ⟨w.heap.size + 1, 0, none⟩) (by simp) _).setCell (p := ⟨w.heap.size + 1, 1, none⟩) (by simp) _).drew, ?_, ?_⟩
    · exact can_keep hJ0 hJ1 hvA.out _ _ _ _
    · exact can_keep hJ0 hJ1 hv4.out _ _ _ _
  | false =>
    go_wp2_with fail
    go_region
    go_wp2
    refine bodyPost_ret (results_two rfl _ _ w.heap.size (w.heap.size + 1) 41 41 _ _ (0, 0) (0, 0) (by rfl) (by rfl) (show (((((w4.setCell ⟨w.heap.size, 0, none⟩ (.bool na)).setCell ⟨w.heap.size, 1, none⟩ (.slice A L c)).setCell ⟨w.heap.size + 1, 0, none⟩ (.bool nb)).setCell ⟨w.heap.size + 1, 1, none⟩ (.slice C M d)).heap)[w.heap.size]? = _ from (set_heap_other (by omega) 1 _).trans ((set_heap_other (by omega) 0 _).trans (set_heap (set_heap hJ0 0 _) 1 _))) (show (((((w4.setCell ⟨w.heap.size, 0, none⟩ (.bool na)).setCell ⟨w.heap.size, 1, none⟩ (.slice A L c)).setCell ⟨w.heap.size + 1, 0, none⟩ (.bool nb)).setCell ⟨w.heap.size + 1, 1, none⟩ (.slice C M d)).heap)[w.heap.size + 1]? = _ from set_heap (set_heap ((set_heap_other (by omega) 1 _).trans ((set_heap_other (by omega) 0 _).trans hJ1)) 0 _) 1 _) (by simp) (by simp)) rfl ⟨na, A, L, c, false, nb, C, M, d, b', rfl, ((((hB.setCell (p := ⟨w.heap.size, 0, none⟩) (Nat.le_refl _) _).setCell (p := ⟨w.heap.size, 1, none⟩) (Nat.le_refl _) _).setCell (p := ⟨w.heap.size + 1, 0, none⟩) (by simp) _).setCell (p := ⟨w.heap.size + 1, 1, none⟩) (by simp) _).drew, ?_, ?_⟩
    · exact can_keep hJ0 hJ1 hvA.out _ _ _ _
    · exact can_keep hJ0 hJ1 hv4.out _ _ _ _
/-- Cmp of the reference, for two canonical texts -/
def DCmpQ (la lb : List UInt8) (w : World) (e : Ending) (w' : World) : Prop := ∃ c code : Int, e = .returned (.tuple #[.int .i64 c, .int .i64 code]) ∧ Below w.heap.size w w' ∧ ∀ x y, val la = some x → val lb = some y → c = sgn (x - y)
theorem canV_val {l : List UInt8} {w : World} {neg : Bool} {A : Option Addr} {L c : Nat} (h : CanV l w neg A L c true) : ∃ E, L = E.length ∧ DigsAt w A E ∧ Dg E ∧ E.length ≤ c ∧ E.length ≤ 50 ∧ (neg = true → nv E ≠ 0) ∧ val l = some (sv neg (nv E)) := by
  rcases h with ⟨h, _⟩ | ⟨_, E, h1, h2, h3, h4, h5, h6⟩
  · cases h
  · exact ⟨E, h1, h2, h3, h4, h5, h6.2.2, val_some h6⟩
theorem canV_none {l : List UInt8} {w : World} {neg : Bool} {A : Option Addr} {L c : Nat} (h : CanV l w neg A L c false) : val l = none := by
  rcases h with ⟨_, h⟩ | ⟨h, _⟩
  · exact val_none h
  · cases h
set_option maxRecDepth 100000 in
set_option maxHeartbeats 1000000 in
theorem dCmp_any (la lb : List UInt8) (w : World) (hla : la.length ≤ 100000) (hlb : lb.length ≤ 100000) :
    Calls Tryz.prog 22 #[.string ⟨la.toArray⟩, .string ⟨lb.toArray⟩] w (DCmpQ la lb w) := by
  go_enter Tryz.func22, Tryz.ntmps22
  go_upto_region 1 with fail
  go_wp2_with fail
  refine (two_any la lb w hla hlb).mono ?_
  rintro e w1 ⟨na, A, L, c, b, nb, C, M, d, b', rfl, hb, hv, hv'⟩
  go_upto_region 2 with fail
  have hb0 : Below w1.heap.size w1 ((w1.alloc (.cells #[.bool na, .slice A L c] 41)).alloc (.cells #[.bool nb, .slice C M d] 41)) := ((Below.refl _ _).alloc (Nat.le_refl _) _).alloc (by simp) _
  have hH0 : ((w1.alloc (.cells #[.bool na, .slice A L c] 41)).alloc (.cells #[.bool nb, .slice C M d] 41)).heap[w1.heap.size]? = some (.cells #[.bool na, .slice A L c] 41) := by
    rw [Go.Deep.blk_alloc_lt _ _ _ (by simp)]
    exact Go.Deep.blk_alloc_new _ _
  have hH1 : ((w1.alloc (.cells #[.bool na, .slice A L c] 41)).alloc (.cells #[.bool nb, .slice C M d] 41)).heap[w1.heap.size + 1]? = some (.cells #[.bool nb, .slice C M d] 41) := by
    have := Go.Deep.blk_alloc_new (w1.alloc (.cells #[.bool na, .slice A L c] 41)) (.cells #[.bool nb, .slice C M d] 41)
    rwa [show (w1.alloc (.cells #[.bool na, .slice A L c] 41)).heap.size = w1.heap.size + 1 by simp] at this
  have hv1 := Lib.hid (hv.mono hb0)
  have hv1' := Lib.hid (hv'.mono hb0)
  clear hv hv'
  generalize hG : w1.heap.size = G at *
  generalize (w1.alloc (.cells #[.bool na, .slice A L c] 41)).alloc (.cells #[.bool nb, .slice C M d] 41) = w2 at hb0 hH0 hH1 hv1 hv1' ⊢
  have hB : Below w.heap.size w w2 := hb.trans (hb0.mono (hG ▸ hb.size))
  have c00 : w2.cell? ⟨G, 0, none⟩ = some (.bool na) := by simp [World.cell?, hH0]
  have c01 : w2.cell? ⟨G, 1, none⟩ = some (.slice A L c) := by simp [World.cell?, hH0]
  have c10 : w2.cell? ⟨G + 1, 0, none⟩ = some (.bool nb) := by simp [World.cell?, hH1]
  have c11 : w2.cell? ⟨G + 1, 1, none⟩ = some (.slice C M d) := by simp [World.cell?, hH1]
  clear hH0 hH1 hb hb0
  cases b with
  | false =>
    have hn := Lib.hid (canV_none hv1.out)
    go_wp2
    go_ret2
    exact ⟨0, 1, rfl, hB, fun x y hx _ => by rw [hn.out] at hx; cases hx⟩
  | true =>
    cases b' with
    | false =>
      have hn := Lib.hid (canV_none hv1'.out)
      go_wp2
      go_ret2
      exact ⟨0, 1, rfl, hB, fun x y _ hy => by rw [hn.out] at hy; cases hy⟩
    | true =>
      obtain ⟨E, rfl, hA, hE, hEc, hE5, hna, hva⟩ := canV_val hv1.out
      obtain ⟨F, rfl, hC, hF, hFc, hF5, hnb, hvb⟩ := canV_val hv1'.out
      have hva' := Lib.hid hva
      have hvb' := Lib.hid hvb
      have hna' := Lib.hid hna
      have hnb' := Lib.hid hnb
      have hX1 := Lib.hid (dcmp_any E F A C c d w2 hA hC hE hF hEc hFc (by omega) (by omega))
      have hX2 := Lib.hid (dcmp_any F E C A d c w2 hC hA hF hE hFc hEc (by omega) (by omega))
      clear hva hvb hna hnb hA hC hv1 hv1'
      cases na with
      | true =>
        cases nb with
        | true =>
          go_wp2_with fail
          refine hX2.out.mono ?_
          rintro e w3 ⟨q, rfl, rfl⟩
          go_wp2
          go_ret2
          refine ⟨_, _, rfl, below_drewN hB q, fun x y hx hy => ?_⟩
          rw [hva'.out] at hx
          rw [hvb'.out] at hy
          injection hx with hx
          injection hy with hy
          rw [← hx, ← hy]
          show sgn _ = _
          congr 1
          simp only [sv, if_true]
          omega
        | false =>
          go_wp2
          go_ret2
          refine ⟨_, _, rfl, hB, fun x y hx hy => ?_⟩
          rw [hva'.out] at hx
          rw [hvb'.out] at hy
          injection hx with hx
          injection hy with hy
          have h1 := hna'.out (by trivial)
          rw [← hx, ← hy]
          unfold sgn sv
          simp only [if_true, Bool.false_eq_true, if_false]
          rw [if_pos (by omega)]
      | false =>
        cases nb with
        | true =>
          go_wp2
          go_ret2
          refine ⟨_, _, rfl, hB, fun x y hx hy => ?_⟩
          rw [hva'.out] at hx
          rw [hvb'.out] at hy
          injection hx with hx
          injection hy with hy
          have h1 := hnb'.out (by trivial)
          rw [← hx, ← hy]
          unfold sgn sv
          simp only [if_true, Bool.false_eq_true, if_false]
          rw [if_neg (by omega), if_neg (by omega)]
        | false =>
          go_wp2_with fail
          refine hX1.out.mono ?_
          rintro e w3 ⟨q, rfl, rfl⟩
          go_wp2
          go_ret2
          refine ⟨_, _, rfl, below_drewN hB q, fun x y hx hy => ?_⟩
          rw [hva'.out] at hx
          rw [hvb'.out] at hy
          injection hx with hx
          injection hy with hy
          rw [← hx, ← hy]
          rfl
end Go.Proofs.Nw
namespace Go.Proofs.Nw
open Go.RowKit Go.Lib
attribute [local go_sem ↓] Go.wp_at_zero Go.wp_at_succ
theorem two_boxes (w : World) (cs ds : Array Value) (t t' : TypeId) : Below w.heap.size w ((w.alloc (.cells cs t)).alloc (.cells ds t')) ∧ ((w.alloc (.cells cs t)).alloc (.cells ds t')).heap[w.heap.size]? = some (.cells cs t) ∧ ((w.alloc (.cells cs t)).alloc (.cells ds t')).heap[w.heap.size + 1]? = some (.cells ds t') := by
  refine ⟨((Below.refl _ _).alloc (Nat.le_refl _) _).alloc (by simp) _, ?_, ?_⟩
  · rw [Go.Deep.blk_alloc_lt _ _ _ (by simp)]
    exact Go.Deep.blk_alloc_new _ _
  · have := Go.Deep.blk_alloc_new (w.alloc (.cells cs t)) (.cells ds t')
    rwa [show (w.alloc (.cells cs t)).heap.size = w.heap.size + 1 by simp] at this
theorem befB_n1 {la lb : List UInt8} {pa ia pb ib : Int} (h : val la = none) : befB pa la ia pb lb ib = false := by unfold befB; rw [h]
theorem befB_n2 {la lb : List UInt8} {pa ia pb ib : Int} (h : val lb = none) : befB pa la ia pb lb ib = false := by
  unfold befB
  rw [h]
  cases val la <;> rfl
def rk (p : Int) (l : List UInt8) (i : Int) : Value := .agg #[.int .i64 p, .string ⟨l.toArray⟩, .int .i64 i]
set_option maxRecDepth 100000 in
set_option maxHeartbeats 1000000 in
theorem rankBefore_any (la lb : List UInt8) (pa ia pb ib x y : Int) (w : World) (hva : val la = some x) (hvb : val lb = some y) (hla : la.length ≤ 100000) (hlb : lb.length ≤ 100000) :
    Calls Tryz.prog 13 #[rk pa la ia, rk pb lb ib] w (fun e w' => e = .returned (.bool (befB pa la ia pb lb ib)) ∧ Below w.heap.size w w') := by
  unfold rk
  go_enter Tryz.func13, Tryz.ntmps13
  go_upto_region 1 with fail
  obtain ⟨hb0, hH0, hH1⟩ := two_boxes w #[.int .i64 pa, .string ⟨la.toArray⟩, .int .i64 ia] #[.int .i64 pb, .string ⟨lb.toArray⟩, .int .i64 ib] 23 23
  generalize (w.alloc (.cells #[.int .i64 pa, .string ⟨la.toArray⟩, .int .i64 ia] 23)).alloc (.cells #[.int .i64 pb, .string ⟨lb.toArray⟩, .int .i64 ib] 23) = w0 at hb0 hH0 hH1 ⊢
  have hs1 : w.heap.size + 1 < w0.heap.size := (Array.getElem?_eq_some_iff.1 hH1).1
  have c00 : w0.cell? ⟨w.heap.size, 0, none⟩ = some (.int .i64 pa) := by simp [World.cell?, hH0]
  have c01 : w0.cell? ⟨w.heap.size, 1, none⟩ = some (.string ⟨la.toArray⟩) := by simp [World.cell?, hH0]
  have c02 : w0.cell? ⟨w.heap.size, 2, none⟩ = some (.int .i64 ia) := by simp [World.cell?, hH0]
  have c10 : w0.cell? ⟨w.heap.size + 1, 0, none⟩ = some (.int .i64 pb) := by simp [World.cell?, hH1]
  have c11 : w0.cell? ⟨w.heap.size + 1, 1, none⟩ = some (.string ⟨lb.toArray⟩) := by simp [World.cell?, hH1]
  have c12 : w0.cell? ⟨w.heap.size + 1, 2, none⟩ = some (.int .i64 ib) := by simp [World.cell?, hH1]
  have hva' := Lib.hid hva
  have hvb' := Lib.hid hvb
  clear hH0 hH1 hva hvb
  by_cases hp : pa = pb
  · subst hp
    have hX := dCmp_any la lb w0 hla hlb
    go_wp2_with fail
    refine hX.mono ?_
    rintro e w3 ⟨c, code, rfl, hb4, hv⟩
    have hcs := Lib.hid (hv x y hva'.out hvb'.out)
    have d02 := (hb4.cell (p := ⟨w.heap.size, 2, none⟩) (by show w.heap.size < _; omega)).trans c02
    have d12 := (hb4.cell (p := ⟨w.heap.size + 1, 2, none⟩) hs1).trans c12
    clear hv hX c00 c01 c02 c10 c11 c12
    by_cases h0 : c = 0
    · subst h0
      go_wp2
      go_ret
      exact ⟨congrArg (fun b => Ending.returned (.bool b)) (befB_ix hva'.out hvb'.out hcs.out rfl).symm, hb0.trans (hb4.mono hb0.size)⟩
    · have h0' : (c != 0) = true := by simpa using h0
      go_wp2
      go_ret
      exact ⟨congrArg (fun b => Ending.returned (.bool b)) (befB_cmp hva'.out hvb'.out hcs.out h0).symm, hb0.trans (hb4.mono hb0.size)⟩
  · have hp' : (pa != pb) = true := by simpa using hp
    have hfin := Lib.hid (show befB pa la ia pb lb ib = decide (pb < pa) by unfold befB; rw [hva'.out, hvb'.out]; simp only [ne_eq]; rw [if_pos hp])
    go_wp2
    go_ret
    exact ⟨congrArg (fun b => Ending.returned (.bool b)) hfin.out.symm, hb0⟩
set_option maxRecDepth 100000 in
set_option maxHeartbeats 1000000 in
theorem refBefore_any (la lb : List UInt8) (pa ia pb ib : Int) (w : World) (hla : la.length ≤ 100000) (hlb : lb.length ≤ 100000) :
    Calls Tryz.prog 7 #[rk pa la ia, rk pb lb ib] w (fun e w' => e = .returned (.bool (befB pa la ia pb lb ib)) ∧ Below w.heap.size w w') := by
  unfold rk
  go_enter Tryz.func7, Tryz.ntmps7
  go_upto_region 1 with fail
  obtain ⟨hb0, hH0, hH1⟩ := two_boxes w #[.int .i64 pa, .string ⟨la.toArray⟩, .int .i64 ia] #[.int .i64 pb, .string ⟨lb.toArray⟩, .int .i64 ib] 23 23
  generalize (w.alloc (.cells #[.int .i64 pa, .string ⟨la.toArray⟩, .int .i64 ia] 23)).alloc (.cells #[.int .i64 pb, .string ⟨lb.toArray⟩, .int .i64 ib] 23) = w0 at hb0 hH0 hH1 ⊢
  have hs1 : w.heap.size + 1 < w0.heap.size := (Array.getElem?_eq_some_iff.1 hH1).1
  have c01 : w0.cell? ⟨w.heap.size, 1, none⟩ = some (.string ⟨la.toArray⟩) := by simp [World.cell?, hH0]
  go_wp2_with fail
  refine (dcanon_any la w0 hla).mono ?_
  intro e w1 hq
  obtain ⟨na, A, L, c, b, rfl, hb1, hv1⟩ := hq.form
  clear hq
  have hs2 := hb1.size
  have c11 : w1.cell? ⟨w.heap.size + 1, 1, none⟩ = some (.string ⟨lb.toArray⟩) := by simp [World.cell?, hb1.block _ hs1, hH1]
  have hv1' := Lib.hid hv1
  clear hv1
  go_upto_region 2 with fail
  have hb2 : Below w0.heap.size w0 (w1.alloc (.cells #[.bool na, .slice A L c] 41)) := hb1.alloc hs2 _
  have d11 : (w1.alloc (.cells #[.bool na, .slice A L c] 41)).cell? ⟨w.heap.size + 1, 1, none⟩ = some (.string ⟨lb.toArray⟩) := (World.cell?_alloc_lt _ _ _ (cell_lt c11)).trans c11
  clear hb1 c11
  generalize hG1 : w1.heap.size = G1 at *
  generalize w1.alloc (.cells #[.bool na, .slice A L c] 41) = w2 at hb2 d11 ⊢
  go_wp2_with fail
  refine (dcanon_any lb w2 hlb).mono ?_
  intro e w3 hq
  obtain ⟨nb, C, M, d, b', rfl, hb3, hv3⟩ := hq.form
  clear hq
  have hs4 := hb3.size
  have hv3' := Lib.hid hv3
  clear hv3
  go_upto_region 3 with fail
  have hb4 : Below w2.heap.size w2 (w3.alloc (.cells #[.bool nb, .slice C M d] 41)) := hb3.alloc hs4 _
  have hb5 := hb2.trans (hb4.mono hb2.size)
  have hB := hb0.trans (hb5.mono hb0.size)
  have hJ0 := (hb5.block _ (by omega)).trans hH0
  have hJ1 := (hb5.block _ hs1).trans hH1
  generalize hG3 : w3.heap.size = G3 at *
  generalize w3.alloc (.cells #[.bool nb, .slice C M d] 41) = w4 at hb4 hb5 hB hJ0 hJ1 ⊢
  have c00 : w4.cell? ⟨w.heap.size, 0, none⟩ = some (.int .i64 pa) := by simp [World.cell?, hJ0]
  have c01 : w4.cell? ⟨w.heap.size, 1, none⟩ = some (.string ⟨la.toArray⟩) := by simp [World.cell?, hJ0]
  have c02 : w4.cell? ⟨w.heap.size, 2, none⟩ = some (.int .i64 ia) := by simp [World.cell?, hJ0]
  have c10 : w4.cell? ⟨w.heap.size + 1, 0, none⟩ = some (.int .i64 pb) := by simp [World.cell?, hJ1]
  have c11 : w4.cell? ⟨w.heap.size + 1, 1, none⟩ = some (.string ⟨lb.toArray⟩) := by simp [World.cell?, hJ1]
  have c12 : w4.cell? ⟨w.heap.size + 1, 2, none⟩ = some (.int .i64 ib) := by simp [World.cell?, hJ1]
  clear hH0 hH1 hb0 hb2 hb3 hb4 hb5 d11 hJ0 hJ1
  cases b with
  | false =>
    have hn := Lib.hid (canV_none hv1'.out)
    go_wp2
    go_ret
    exact ⟨congrArg (fun b => Ending.returned (.bool b)) (befB_n1 hn.out).symm, hB⟩
  | true =>
    obtain ⟨E, _, _, _, _, _, _, hva⟩ := canV_val hv1'.out
    have hva' := Lib.hid hva
    clear hva
    cases b' with
    | false =>
      have hn := Lib.hid (canV_none hv3'.out)
      go_wp2
      go_ret
      exact ⟨congrArg (fun b => Ending.returned (.bool b)) (befB_n2 hn.out).symm, hB⟩
    | true =>
      obtain ⟨F, _, _, _, _, _, _, hvb⟩ := canV_val hv3'.out
      have hX := Lib.hid (rankBefore_any la lb pa ia pb ib _ _ w4 hva'.out hvb hla hlb)
      unfold rk at hX
      clear hvb
      go_wp2_with fail
      refine hX.out.mono ?_
      rintro e w5 ⟨rfl, hb6⟩
      go_wp2
      go_ret
      exact ⟨rfl, hB.trans (hb6.mono hB.size)⟩
end Go.Proofs.Nw
namespace Go.Proofs.Nw
open Go.RowKit Go.Lib
attribute [local go_sem ↓] Go.wp_at_zero Go.wp_at_succ
/-- below block B nothing has turned; the world outside is as it was (no word of the tape) -/
structure Bel (B : Nat) (w w' : World) : Prop where
  os : w'.os = w.os
  output : w'.output = w.output
  size : w.heap.size ≤ w'.heap.size
  block : ∀ k, k < B → w'.heap[k]? = w.heap[k]?
theorem Bel.of {B : Nat} {w w' : World} (h : Below B w w') : Bel B w w' := ⟨h.os, h.output, h.size, h.block⟩
theorem Bel.refl (w : World) : Bel w.heap.size w w := .of (Below.refl _ _)
theorem Bel.trans {B : Nat} {a b c : World} (h : Bel B a b) (k : Bel B b c) : Bel B a c := ⟨k.os.trans h.os, k.output.trans h.output, Nat.le_trans h.size k.size, fun i hi => (k.block i hi).trans (h.block i hi)⟩
theorem Bel.mono {B C : Nat} {a b : World} (h : Bel B a b) (hC : C ≤ B) : Bel C a b := ⟨h.os, h.output, h.size, fun i hi => h.block i (Nat.lt_of_lt_of_le hi hC)⟩
theorem Bel.drew {B : Nat} {a w : World} (h : Bel B a w) : Bel B a w.drew := ⟨h.os, h.output, h.size, h.block⟩
theorem Bel.cell {B : Nat} {w w' : World} (h : Bel B w w') {p : Addr} (hp : p.block < B) : w'.cell? p = w.cell? p := by
  unfold World.cell?
  rw [h.block _ hp]
/-- what the call of works() answers, in every later world -/
def WorksT (F : Nat) (w : World) : Prop := ∀ w', Bel w.heap.size w w' → Calls Tryz.prog F #[] w' (fun e w'' => e = .returned (.bool true) ∧ Bel w'.heap.size w' w'')
def MaxT (w : World) : Prop := ∃ m : Int, w.cell? ⟨0, 0, none⟩ = some (.int .i64 m)
theorem bef_t {w w0 : World} (hm : MaxT w) (hb0 : Below w.heap.size w w0) (la lb : List UInt8) (pa ia pb ib : Int) (hla : la.length ≤ 100000) (hlb : lb.length ≤ 100000) :
    ∀ w', Bel w0.heap.size w0 w' → Calls Tryz.prog 6 #[.int .i64 pa, .string ⟨la.toArray⟩, .int .i64 ia, .int .i64 pb, .string ⟨lb.toArray⟩, .int .i64 ib] w' (fun e w'' => e = .returned (.bool (befB pa la ia pb lb ib)) ∧ Bel w0.heap.size w0 w'') := by
  intro w' hb
  obtain ⟨m, hm⟩ := hm
  have hm0 := (hb0.cell (cell_lt hm)).trans hm
  refine (Before_any la lb pa ia pb ib m w' ((hb.cell (cell_lt hm0)).trans hm0) hla hlb).mono ?_
  rintro e w'' ⟨rfl, h⟩
  exact ⟨rfl, hb.trans ((Bel.of h).mono hb.size)⟩
theorem ref_t {w0 : World} (la lb : List UInt8) (pa ia pb ib : Int) (hla : la.length ≤ 100000) (hlb : lb.length ≤ 100000) :
    ∀ w', Bel w0.heap.size w0 w' → Calls Tryz.prog 7 #[rk pa la ia, rk pb lb ib] w' (fun e w'' => e = .returned (.bool (befB pa la ia pb lb ib)) ∧ Bel w0.heap.size w0 w'') := by
  intro w' hb
  refine (refBefore_any la lb pa ia pb ib w' hla hlb).mono ?_
  rintro e w'' ⟨rfl, h⟩
  exact ⟨rfl, hb.trans ((Bel.of h).mono hb.size)⟩
theorem works_t {F : Nat} {w w0 : World} (h : WorksT F w) (hb0 : Below w.heap.size w w0) :
    ∀ w', Bel w0.heap.size w0 w' → Calls Tryz.prog F #[] w' (fun e w'' => e = .returned (.bool true) ∧ Bel w0.heap.size w0 w'') := by
  intro w' hb
  refine (h w' ((Bel.of hb0).trans (hb.mono hb0.size))).mono ?_
  rintro e w'' ⟨rfl, h⟩
  exact ⟨rfl, hb.trans (h.mono hb.size)⟩
theorem und23 : ∃ d, Tryz.prog.underlying 23 = some d ∧ (match d with | .struct _ | .array _ _ => true | _ => false) = true := by
  have h : (Tryz.prog.underlying 23).map (fun d => match d with | .struct _ | .array _ _ => true | _ => false) = some true := by kernel_rfl
  cases hd : Tryz.prog.underlying 23 with
  | none => rw [hd] at h; cases h
  | some d => rw [hd] at h; exact ⟨d, rfl, by injection h⟩
theorem size23 : (Tryz.prog.info? 23).map (·.size) = some 3 := by kernel_rfl
set_option maxRecDepth 100000 in
set_option maxHeartbeats 1000000 in
theorem ModesBefore_any (la lb : List UInt8) (pa ia pb ib : Int) (w : World) (hm : MaxT w) (hW : WorksT 5 w) :
    Calls Tryz.prog 3 #[rk pa la ia, rk pb lb ib] w (fun e w' => e = .returned (.bool true) ∧ Bel w.heap.size w w') := by
  unfold rk
  go_enter Tryz.func3, Tryz.ntmps3
  go_upto_region 1 with fail
  obtain ⟨hb0, hH0, hH1⟩ := two_boxes w #[.int .i64 pa, .string ⟨la.toArray⟩, .int .i64 ia] #[.int .i64 pb, .string ⟨lb.toArray⟩, .int .i64 ib] 23 23
  generalize (w.alloc (.cells #[.int .i64 pa, .string ⟨la.toArray⟩, .int .i64 ia] 23)).alloc (.cells #[.int .i64 pb, .string ⟨lb.toArray⟩, .int .i64 ib] 23) = w0 at hb0 hH0 hH1 ⊢
  have hs1 : w.heap.size + 1 < w0.heap.size := (Array.getElem?_eq_some_iff.1 hH1).1
  have hWr := works_t hW hb0
  by_cases hla : la.length ≤ 300
  · by_cases hlb : lb.length ≤ 300
    · have hB := bef_t hm hb0 la lb pa ia pb ib (by omega) (by omega)
      have hR := ref_t (w0 := w0) la lb pa ia pb ib (by omega) (by omega)
      unfold rk at hR
      have hS : ∀ w', Bel w0.heap.size w0 w' → ((w'.rangeAt w.heap.size 0 [.int .i64 pa, .string ⟨la.toArray⟩, .int .i64 ia] ∧ w'.rangeAt (w.heap.size + 1) 0 [.int .i64 pb, .string ⟨lb.toArray⟩, .int .i64 ib]) ∧ (w'.cell? ⟨w.heap.size, 0, none⟩ = some (.int .i64 pa) ∧ w'.cell? ⟨w.heap.size, 1, none⟩ = some (.string ⟨la.toArray⟩) ∧ w'.cell? ⟨w.heap.size, 2, none⟩ = some (.int .i64 ia) ∧ w'.cell? ⟨w.heap.size + 1, 0, none⟩ = some (.int .i64 pb) ∧ w'.cell? ⟨w.heap.size + 1, 1, none⟩ = some (.string ⟨lb.toArray⟩) ∧ w'.cell? ⟨w.heap.size + 1, 2, none⟩ = some (.int .i64 ib))) := by
        intro w' hb
        have h0 := (hb.block _ (by omega)).trans hH0
        have h1 := (hb.block _ hs1).trans hH1
        refine ⟨⟨?_, ?_⟩, ?_⟩
        · exact World.rangeAt_of_block h0 0 3
        · exact World.rangeAt_of_block h1 0 3
        · refine ⟨?_, ?_, ?_, ?_, ?_, ?_⟩ <;> simp [World.cell?, h0, h1]
      have hS0 := hS _ (Bel.refl _)
      have c01 := hS0.2.2.1
      have c11 := hS0.2.2.2.2.2.1
      go_upto_region 3 with fail
      obtain ⟨d23, hd23, _⟩ := und23
      have hi23 : (Tryz.prog.info? 23).map (·.size) = some [Value.int .i64 pa, .string ⟨la.toArray⟩, .int .i64 ia].length := size23
      have hl3 : ([Value.int .i64 pa, .string ⟨la.toArray⟩, .int .i64 ia]).length = 3 := rfl
      have hj23 : (Tryz.prog.info? 23).map (·.size) = some [Value.int .i64 pb, .string ⟨lb.toArray⟩, .int .i64 ib].length := size23
      have hl3' : ([Value.int .i64 pb, .string ⟨lb.toArray⟩, .int .i64 ib]).length = 3 := rfl
      have ho1 : ∀ v ∈ [Value.int .i64 pa, .string ⟨la.toArray⟩, .int .i64 ia], v.oneCell' = true := by simp [Value.oneCell']
      have ho2 : ∀ v ∈ [Value.int .i64 pb, .string ⟨lb.toArray⟩, .int .i64 ib], v.oneCell' = true := by simp [Value.oneCell']
      have hrefl : Bel w0.heap.size w0 w0.drew := (Bel.refl _).drew
      clear hH0 hH1 hm hW c01 c11 hS0
      go_region_held3 (fun w' => ((w'.rangeAt w.heap.size 0 [.int .i64 pa, .string ⟨la.toArray⟩, .int .i64 ia] ∧ w'.rangeAt (w.heap.size + 1) 0 [.int .i64 pb, .string ⟨lb.toArray⟩, .int .i64 ib]) ∧ (w'.cell? ⟨w.heap.size, 0, none⟩ = some (.int .i64 pa) ∧ w'.cell? ⟨w.heap.size, 1, none⟩ = some (.string ⟨la.toArray⟩) ∧ w'.cell? ⟨w.heap.size, 2, none⟩ = some (.int .i64 ia) ∧ w'.cell? ⟨w.heap.size + 1, 0, none⟩ = some (.int .i64 pb) ∧ w'.cell? ⟨w.heap.size + 1, 1, none⟩ = some (.string ⟨lb.toArray⟩) ∧ w'.cell? ⟨w.heap.size + 1, 2, none⟩ = some (.int .i64 ib))))
        (exact hS _ (by assumption))
        (first | ((go_at_call 6; refine (hB _ (by assumption)).mono ?_; rintro e w1 ⟨rfl, hb1⟩)) | ((go_at_call 7; refine (hR _ (by assumption)).mono ?_; rintro e w2 ⟨rfl, hb2⟩)) | ((go_at_call 5; refine (hWr _ (by assumption)).mono ?_; rintro e w3 ⟨rfl, hb3⟩)))
      go_wp2
      go_ret
      exact ⟨rfl, (Bel.of hb0).trans (hb3.mono hb0.size)⟩
    · have c01 : w0.cell? ⟨w.heap.size, 1, none⟩ = some (.string ⟨la.toArray⟩) := by simp [World.cell?, hH0]
      have c11 : w0.cell? ⟨w.heap.size + 1, 1, none⟩ = some (.string ⟨lb.toArray⟩) := by simp [World.cell?, hH1]
      go_wp2_with (go_at_call 5; refine (hWr _ (Bel.refl _)).mono ?_; rintro e w3 ⟨rfl, hb3⟩)
      go_wp2
      go_ret
      exact ⟨rfl, (Bel.of hb0).trans (hb3.mono hb0.size)⟩
  · have c01 : w0.cell? ⟨w.heap.size, 1, none⟩ = some (.string ⟨la.toArray⟩) := by simp [World.cell?, hH0]
    go_wp2_with (go_at_call 5; refine (hWr _ (Bel.refl _)).mono ?_; rintro e w3 ⟨rfl, hb3⟩)
    go_wp2
    go_ret
    exact ⟨rfl, (Bel.of hb0).trans (hb3.mono hb0.size)⟩
end Go.Proofs.Nw
namespace Go.Proofs.Nw
open Go.RowKit Go.Lib
attribute [local go_sem ↓] Go.wp_at_zero Go.wp_at_succ
theorem befB_iff {pa pb ia ib : Int} {la lb : List UInt8} : befB pa la ia pb lb ib = true ↔ ∃ x y, val la = some x ∧ val lb = some y ∧ ((pb < pa) ∨ (pa = pb ∧ y < x) ∨ (pa = pb ∧ x = y ∧ ib < ia)) := by
  unfold befB
  cases ha : val la with
  | none => simp
  | some x =>
    cases hb : val lb with
    | none => simp
    | some y =>
      simp only [Option.some.injEq, exists_and_left, exists_eq_left', ne_eq]
      split
      · simp; omega
      · split
        · simp; omega
        · simp; omega
theorem befB_anti {pa pb ia ib : Int} {la lb : List UInt8} : (befB pa la ia pb lb ib && befB pb lb ib pa la ia) = false := by
  rw [Bool.eq_false_iff]
  intro h
  rw [Bool.and_eq_true, befB_iff, befB_iff] at h
  obtain ⟨⟨x, y, hx, hy, h1⟩, y', x', hy', hx', h2⟩ := h
  rw [hx] at hx'; injection hx' with hx'
  rw [hy] at hy'; injection hy' with hy'
  omega
theorem befB_trans {pa pb pc ia ib ic : Int} {la lb lc : List UInt8} (h1 : befB pa la ia pb lb ib = true) (h2 : befB pb lb ib pc lc ic = true) : befB pa la ia pc lc ic = true := by
  rw [befB_iff] at h1 h2 ⊢
  obtain ⟨x, y, hx, hy, h1⟩ := h1
  obtain ⟨y', z, hy', hz, h2⟩ := h2
  rw [hy] at hy'; injection hy' with hy'
  exact ⟨x, z, hx, hz, by omega⟩
theorem befB_tot {pa pb ia ib p q i j : Int} {la lb l0 : List UInt8} (h1 : befB p la i q l0 j = true) (h2 : befB p lb i q l0 j = true) (hi : ia ≠ ib) : (befB pa la ia pb lb ib != befB pb lb ib pa la ia) = true := by
  rw [befB_iff] at h1 h2
  obtain ⟨x, _, hx, _, _⟩ := h1
  obtain ⟨y, _, hy, _, _⟩ := h2
  have hab := @befB_iff pa pb ia ib la lb
  have hba := @befB_iff pb pa ib ia lb la
  rw [hx, hy] at hab hba
  cases h : befB pa la ia pb lb ib <;> cases h' : befB pb lb ib pa la ia <;> simp [h, h'] at hab hba ⊢ <;> omega
theorem three_boxes (w : World) (cs ds es : Array Value) (t : TypeId) : Below w.heap.size w (((w.alloc (.cells cs t)).alloc (.cells ds t)).alloc (.cells es t)) ∧ (((w.alloc (.cells cs t)).alloc (.cells ds t)).alloc (.cells es t)).heap[w.heap.size]? = some (.cells cs t) ∧ (((w.alloc (.cells cs t)).alloc (.cells ds t)).alloc (.cells es t)).heap[w.heap.size + 1]? = some (.cells ds t) ∧ (((w.alloc (.cells cs t)).alloc (.cells ds t)).alloc (.cells es t)).heap[w.heap.size + 2]? = some (.cells es t) := by
  obtain ⟨h1, h2, h3⟩ := two_boxes w cs ds t t
  refine ⟨h1.alloc (by simp; omega) _, ?_, ?_, ?_⟩
  · rw [Go.Deep.blk_alloc_lt _ _ _ (by simp; omega)]
    exact h2
  · rw [Go.Deep.blk_alloc_lt _ _ _ (by simp)]
    exact h3
  · have := Go.Deep.blk_alloc_new ((w.alloc (.cells cs t)).alloc (.cells ds t)) (.cells es t)
    rwa [show ((w.alloc (.cells cs t)).alloc (.cells ds t)).heap.size = w.heap.size + 2 by simp] at this
set_option maxRecDepth 100000 in
set_option maxHeartbeats 20000000 in
theorem ModesOrder_any (la lb lc : List UInt8) (pa ia pb ib pc ic : Int) (w : World) (hm : MaxT w) (hW : WorksT 5 w) :
    Calls Tryz.prog 4 #[rk pa la ia, rk pb lb ib, rk pc lc ic] w (fun e w' => e = .returned (.bool true) ∧ Bel w.heap.size w w') := by
  unfold rk
  go_enter Tryz.func4, Tryz.ntmps4
  go_upto_region 1 with fail
  obtain ⟨hb0, hH0, hH1, hH2⟩ := three_boxes w #[.int .i64 pa, .string ⟨la.toArray⟩, .int .i64 ia] #[.int .i64 pb, .string ⟨lb.toArray⟩, .int .i64 ib] #[.int .i64 pc, .string ⟨lc.toArray⟩, .int .i64 ic] 23
  generalize ((w.alloc (.cells #[.int .i64 pa, .string ⟨la.toArray⟩, .int .i64 ia] 23)).alloc (.cells #[.int .i64 pb, .string ⟨lb.toArray⟩, .int .i64 ib] 23)).alloc (.cells #[.int .i64 pc, .string ⟨lc.toArray⟩, .int .i64 ic] 23) = w0 at hb0 hH0 hH1 hH2 ⊢
  have hs1 : w.heap.size + 2 < w0.heap.size := (Array.getElem?_eq_some_iff.1 hH2).1
  have hWr := works_t hW hb0
  have hS : ∀ w', Bel w0.heap.size w0 w' → (w'.cell? ⟨w.heap.size, 0, none⟩ = some (.int .i64 pa) ∧ w'.cell? ⟨w.heap.size, 1, none⟩ = some (.string ⟨la.toArray⟩) ∧ w'.cell? ⟨w.heap.size, 2, none⟩ = some (.int .i64 ia)) ∧ (w'.cell? ⟨w.heap.size + 1, 0, none⟩ = some (.int .i64 pb) ∧ w'.cell? ⟨w.heap.size + 1, 1, none⟩ = some (.string ⟨lb.toArray⟩) ∧ w'.cell? ⟨w.heap.size + 1, 2, none⟩ = some (.int .i64 ib)) ∧ (w'.cell? ⟨w.heap.size + 2, 0, none⟩ = some (.int .i64 pc) ∧ w'.cell? ⟨w.heap.size + 2, 1, none⟩ = some (.string ⟨lc.toArray⟩) ∧ w'.cell? ⟨w.heap.size + 2, 2, none⟩ = some (.int .i64 ic)) := by
    intro w' hb
    have h0 := (hb.block _ (by omega)).trans hH0
    have h1 := (hb.block _ (by omega)).trans hH1
    have h2 := (hb.block _ hs1).trans hH2
    refine ⟨⟨?_, ?_, ?_⟩, ⟨?_, ?_, ?_⟩, ?_, ?_, ?_⟩ <;> simp [World.cell?, h0, h1, h2]
  obtain ⟨⟨a0, a1, a2⟩, ⟨b0, b1, b2⟩, d0, d1, d2⟩ := hS _ (Bel.refl _)
  clear hH0 hH1 hH2
  by_cases hla : la.length ≤ 300
  · by_cases hlb : lb.length ≤ 300
    · by_cases hlc : lc.length ≤ 300
      · have hAB := bef_t hm hb0 la lb pa ia pb ib (by omega) (by omega)
        have hBA := bef_t hm hb0 lb la pb ib pa ia (by omega) (by omega)
        have hBC := bef_t hm hb0 lb lc pb ib pc ic (by omega) (by omega)
        have hAC := bef_t hm hb0 la lc pa ia pc ic (by omega) (by omega)
        have hNA := bef_t hm hb0 la [48] 1 0 0 0 (by omega) (by decide)
        have hNB := bef_t hm hb0 lb [48] 1 0 0 0 (by omega) (by decide)
        have hAn := Lib.hid (@befB_anti pa pb ia ib la lb)
        have hTr := Lib.hid (@befB_trans pa pb pc ia ib ic la lb lc)
        have hTo := Lib.hid (fun h1 h2 hi => @befB_tot pa pb ia ib 1 0 0 0 la lb [48] h1 h2 hi)
        generalize befB pa la ia pb lb ib = ab at hAB hAn hTr hTo
        generalize befB pb lb ib pa la ia = ba at hBA hAn hTo
        generalize befB pb lb ib pc lc ic = bc at hBC hTr
        generalize befB pa la ia pc lc ic = ac at hAC hTr
        generalize befB 1 la 0 0 [48] 0 = na at hNA hTo
        generalize befB 1 lb 0 0 [48] 0 = nb at hNB hTo
        clear hm hW
        go_upto_region 4 with (go_at_call 6; refine (hAB _ (Bel.refl _)).mono ?_; rintro e w1 ⟨rfl, hb1⟩)
        clear a0 a1 a2 b0 b1 b2 d0 d1 d2
        obtain ⟨⟨a0, a1, a2⟩, ⟨b0, b1, b2⟩, d0, d1, d2⟩ := hS _ hb1
        go_upto_region 5 with (go_at_call 6; refine (hBA _ hb1).mono ?_; rintro e w2 ⟨rfl, hb2⟩)
        clear a0 a1 a2 b0 b1 b2 d0 d1 d2 hb1
        obtain ⟨⟨a0, a1, a2⟩, ⟨b0, b1, b2⟩, d0, d1, d2⟩ := hS _ hb2
        go_upto_region 6 with (go_at_call 6; refine (hBC _ hb2).mono ?_; rintro e w3 ⟨rfl, hb3⟩)
        clear a0 a1 a2 b0 b1 b2 d0 d1 d2 hb2
        obtain ⟨⟨a0, a1, a2⟩, ⟨b0, b1, b2⟩, d0, d1, d2⟩ := hS _ hb3
        go_upto_region 7 with (go_at_call 6; refine (hAC _ hb3).mono ?_; rintro e w4 ⟨rfl, hb4⟩)
        clear a0 a1 a2 b0 b1 b2 d0 d1 d2 hb3 hAB hBA hBC hAC
        obtain ⟨⟨a0, a1, a2⟩, ⟨b0, b1, b2⟩, d0, d1, d2⟩ := hS _ hb4
        have hc : Hid ((ab = false ∧ ba = false) ∨ (ab = false ∧ ba = true) ∨ (ab = true ∧ ba = false ∧ bc = false) ∨ (ab = true ∧ ba = false ∧ bc = true ∧ ac = true)) := Lib.hid (by
          have h1 := hAn.out
          have h2 := hTr.out
          cases ab <;> cases ba <;> cases bc <;> cases ac <;> simp at h1 h2 ⊢)
        clear hAn hTr
        cases na with
        | false =>
          go_upto_region 8 with (go_at_call 6; refine (hNA _ hb4).mono ?_; rintro e w5 ⟨rfl, hb5⟩)
          clear a0 a1 a2 b0 b1 b2 d0 d1 d2 hb4 hNA hNB hTo
          obtain ⟨⟨a0, a1, a2⟩, ⟨b0, b1, b2⟩, d0, d1, d2⟩ := hS _ hb5
          rcases hc.out with ⟨rfl, rfl⟩ | ⟨rfl, rfl⟩ | ⟨rfl, rfl, rfl⟩ | ⟨rfl, rfl, rfl, rfl⟩
          all_goals
            clear hc
            go_wp2_with (go_at_call 5; refine (hWr _ hb5).mono ?_; rintro e w6 ⟨rfl, hbz⟩)
            go_wp2
            go_ret
            exact ⟨rfl, (Bel.of hb0).trans (hbz.mono hb0.size)⟩
        | true =>
          go_wp2_with fail
          refine (hNA _ hb4).mono ?_
          rintro e w5 ⟨rfl, hb5⟩
          clear a0 a1 a2 b0 b1 b2 d0 d1 d2 hb4 hNA
          obtain ⟨⟨a0, a1, a2⟩, ⟨b0, b1, b2⟩, d0, d1, d2⟩ := hS _ hb5
          go_wp2_with fail
          refine (hNB _ hb5).mono ?_
          rintro e w6 ⟨rfl, hb6⟩
          clear a0 a1 a2 b0 b1 b2 d0 d1 d2 hb5 hNB
          go_upto_region 8 with fail
          obtain ⟨⟨a0, a1, a2⟩, ⟨b0, b1, b2⟩, d0, d1, d2⟩ := hS _ hb6
          cases nb with
          | false =>
            clear hTo
            rcases hc.out with ⟨rfl, rfl⟩ | ⟨rfl, rfl⟩ | ⟨rfl, rfl, rfl⟩ | ⟨rfl, rfl, rfl, rfl⟩
            all_goals
              clear hc
              go_wp2_with (go_at_call 5; refine (hWr _ hb6).mono ?_; rintro e w7 ⟨rfl, hbz⟩)
              go_wp2
              go_ret
              exact ⟨rfl, (Bel.of hb0).trans (hbz.mono hb0.size)⟩
          | true =>
            by_cases hi : ia = ib
            · subst hi
              clear hTo
              rcases hc.out with ⟨rfl, rfl⟩ | ⟨rfl, rfl⟩ | ⟨rfl, rfl, rfl⟩ | ⟨rfl, rfl, rfl, rfl⟩
              all_goals
                clear hc
                go_wp2_with (go_at_call 5; refine (hWr _ hb6).mono ?_; rintro e w7 ⟨rfl, hbz⟩)
                go_wp2
                go_ret
                exact ⟨rfl, (Bel.of hb0).trans (hbz.mono hb0.size)⟩
            · have hi' : (ia == ib) = false := by simpa using hi
              have hc' : Hid ((ab = false ∧ ba = true) ∨ (ab = true ∧ ba = false ∧ bc = false) ∨ (ab = true ∧ ba = false ∧ bc = true ∧ ac = true)) := Lib.hid (by
                have h1 : (ab != ba) = true := by first | exact hTo.out rfl rfl hi | exact hTo.out trivial trivial hi | (have h := hTo.out; simpa [hi] using h)
                have h2 := hc.out
                cases ab <;> cases ba <;> simp at h1 h2 ⊢ <;> exact h2)
              clear hc hTo
              have hc := hc'
              clear hc'
              rcases hc.out with ⟨rfl, rfl⟩ | ⟨rfl, rfl, rfl⟩ | ⟨rfl, rfl, rfl, rfl⟩
              all_goals
                clear hc
                go_wp2_with (go_at_call 5; refine (hWr _ hb6).mono ?_; rintro e w7 ⟨rfl, hbz⟩)
                go_wp2
                go_ret
                exact ⟨rfl, (Bel.of hb0).trans (hbz.mono hb0.size)⟩
      · go_wp2_with (go_at_call 5; refine (hWr _ (Bel.refl _)).mono ?_; rintro e w3 ⟨rfl, hb3⟩)
        go_wp2
        go_ret
        exact ⟨rfl, (Bel.of hb0).trans (hb3.mono hb0.size)⟩
    · go_wp2_with (go_at_call 5; refine (hWr _ (Bel.refl _)).mono ?_; rintro e w3 ⟨rfl, hb3⟩)
      go_wp2
      go_ret
      exact ⟨rfl, (Bel.of hb0).trans (hb3.mono hb0.size)⟩
  · go_wp2_with (go_at_call 5; refine (hWr _ (Bel.refl _)).mono ?_; rintro e w3 ⟨rfl, hb3⟩)
    go_wp2
    go_ret
    exact ⟨rfl, (Bel.of hb0).trans (hb3.mono hb0.size)⟩
end Go.Proofs.Nw
