import Derived.Test.YtjadcoglgnabpaaGreatDoorWc
import Derived.Lib.AppendZerosOnto
import Derived.Laws.AppendOwn
import Derived.Laws.OwnMore
set_option linter.all false
set_option linter.unusedVariables false
set_option maxHeartbeats 2000000
set_option exponentiation.threshold 5000
namespace Go.Proofs.Nw
open Go.RowKit Go.Lib
attribute [local go_sem ↓] Go.wp_at_zero Go.wp_at_succ
open Classical in
/-- the number that a canonical text stands for -/
noncomputable def val (l : List UInt8) : Option Int := if h : ∃ z : Int, ∃ neg n, Cv l neg n ∧ z = sv neg n then some (Classical.choose h) else none
theorem val_some {l : List UInt8} {neg : Bool} {n : Nat} (h : Cv l neg n) : val l = some (sv neg n) := by
  have he : ∃ z : Int, ∃ neg n, Cv l neg n ∧ z = sv neg n := ⟨_, neg, n, h, rfl⟩
  unfold val
  rw [dif_pos he]
  obtain ⟨neg', n', h', e⟩ := Classical.choose_spec he
  obtain ⟨rfl, rfl⟩ := h.eq h'
  rw [e]
theorem val_none {l : List UInt8} (h : ∀ neg n, ¬ Cv l neg n) : val l = none := by
  unfold val
  rw [dif_neg (fun ⟨_, neg, n, hc, _⟩ => h neg n hc)]
theorem val_isSome (l : List UInt8) : (val l).isSome = true ↔ ∃ neg n, Cv l neg n := by
  constructor
  · intro h
    apply Classical.byContradiction
    intro hn
    rw [val_none (fun neg n hc => hn ⟨neg, n, hc⟩)] at h
    cases h
  · rintro ⟨neg, n, h⟩
    rw [val_some h]
    rfl
set_option maxRecDepth 100000 in
set_option maxHeartbeats 1000000 in
theorem canB_any (l : List UInt8) (m : Int) (w : World) (hm : w.cell? ⟨0, 0, none⟩ = some (.int .i64 m)) (hl : l.length ≤ 100000) :
    Calls Tryz.prog 10 #[.string ⟨l.toArray⟩] w (fun e w' => e = .returned (.bool (val l).isSome) ∧ Below w.heap.size w w') := by
  go_enter Tryz.func10, Tryz.ntmps10
  go_wp2_with fail
  refine (Parse_any l m w hm hl).mono ?_
  rintro e w1 ⟨t, code, rfl, hb, hv⟩
  have hq1 : ((⟨t.toArray⟩ : ByteArray).toList == (⟨l.toArray⟩ : ByteArray).toList) = (t == l) := by simp
  generalize hSt : (⟨t.toArray⟩ : ByteArray) = St at hq1 ⊢
  generalize hSl : (⟨l.toArray⟩ : ByteArray) = Sl at hq1 ⊢
  have hfin : ((code == 0) && (t == l)) = (val l).isSome := by
    rcases hv with ⟨h1, rfl, rfl⟩ | ⟨h1, h2⟩
    · rw [(val_isSome _).2 h1]; simp
    · rw [val_none h1]
      rcases h2 with h2 | h2
      · simp [h2]
      · simp [h2]
  have hfin' := Lib.hid hfin
  clear hSt hSl hv hfin
  by_cases hc : code = 0
  · subst hc
    go_wp2
    go_ret
    refine ⟨?_, hb⟩
    rw [← hfin'.out, ← hq1]
    rfl
  · have hc2 : (code == 0) = false := by simpa using hc
    go_wp2
    go_ret
    refine ⟨?_, hb⟩
    rw [← hfin'.out, hc2]
    rfl
theorem canB_t {l : List UInt8} {x : Int} (hv : val l = some x) (m : Int) (w : World) (hm : w.cell? ⟨0, 0, none⟩ = some (.int .i64 m)) (hl : l.length ≤ 100000) :
    Calls Tryz.prog 10 #[.string ⟨l.toArray⟩] w (fun e w' => e = .returned (.bool true) ∧ Below w.heap.size w w') := by
  have := canB_any l m w hm hl
  rw [hv] at this
  exact this
theorem canB_f {l : List UInt8} (hv : val l = none) (m : Int) (w : World) (hm : w.cell? ⟨0, 0, none⟩ = some (.int .i64 m)) (hl : l.length ≤ 100000) :
    Calls Tryz.prog 10 #[.string ⟨l.toArray⟩] w (fun e w' => e = .returned (.bool false) ∧ Below w.heap.size w w') := by
  have := canB_any l m w hm hl
  rw [hv] at this
  exact this
/-- whether a rank comes before another one -/
noncomputable def befB (pa : Int) (la : List UInt8) (ia pb : Int) (lb : List UInt8) (ib : Int) : Bool :=
  match val la, val lb with
  | some x, some y => if pa ≠ pb then decide (pb < pa) else if x ≠ y then decide (y < x) else decide (ib < ia)
  | _, _ => false
theorem cmp_val {la lb : List UInt8} {c code x y : Int} (h : CmpV la lb c code) (hx : val la = some x) (hy : val lb = some y) : c = sgn (x - y) := by
  rcases h with ⟨na, n, nb, m, h1, h2, h3, _⟩ | ⟨h, _⟩
  · rw [val_some h1] at hx
    rw [val_some h2] at hy
    injection hx with hx
    injection hy with hy
    rw [← hx, ← hy]
    exact h3
  · obtain ⟨na, n, h1⟩ := (val_isSome la).1 (by rw [hx]; rfl)
    obtain ⟨nb, m, h2⟩ := (val_isSome lb).1 (by rw [hy]; rfl)
    exact absurd ⟨h1, h2⟩ (h na n nb m)
theorem sgn0 {x y : Int} : (sgn (x - y) = 0 ↔ x = y) ∧ (0 < sgn (x - y) ↔ y < x) := by
  unfold sgn
  split <;> (try split) <;> omega
theorem befB_cmp {la lb : List UInt8} {p ia ib c x y : Int} (hx : val la = some x) (hy : val lb = some y) (hc : c = sgn (x - y)) (h0 : c ≠ 0) : befB p la ia p lb ib = decide (0 < c) := by
  have hn : x ≠ y := fun e => h0 (hc.trans (sgn0.1.2 e))
  unfold befB
  rw [hx, hy]
  simp only [ne_eq, not_true, if_false]
  rw [if_pos hn]
  have := (sgn0 (x := x) (y := y)).2
  by_cases h : y < x
  · rw [decide_eq_true h, decide_eq_true (by rw [hc]; exact this.2 h)]
  · rw [decide_eq_false h, decide_eq_false (by rw [hc]; exact fun h' => h (this.1 h'))]
theorem befB_ix {la lb : List UInt8} {p ia ib c x y : Int} (hx : val la = some x) (hy : val lb = some y) (hc : c = sgn (x - y)) (h0 : c = 0) : befB p la ia p lb ib = decide (ib < ia) := by
  have hn : x = y := sgn0.1.1 (hc.symm.trans h0)
  unfold befB
  rw [hx, hy]
  simp only [ne_eq, not_true, if_false]
  rw [if_neg (by simpa using hn)]
set_option maxRecDepth 100000 in
set_option maxHeartbeats 1000000 in
theorem Before_any (la lb : List UInt8) (pa ia pb ib m : Int) (w : World) (hm : w.cell? ⟨0, 0, none⟩ = some (.int .i64 m)) (hla : la.length ≤ 100000) (hlb : lb.length ≤ 100000) :
    Calls Tryz.prog 6 #[.int .i64 pa, .string ⟨la.toArray⟩, .int .i64 ia, .int .i64 pb, .string ⟨lb.toArray⟩, .int .i64 ib] w (fun e w' => e = .returned (.bool (befB pa la ia pb lb ib)) ∧ Below w.heap.size w w') := by
  go_enter Tryz.func6, Tryz.ntmps6
  go_upto_region 2 with fail
  have hb0 : Below w.heap.size w ((w.alloc (.cells #[.int .i64 pa, .string ⟨la.toArray⟩, .int .i64 ia] 35)).alloc (.cells #[.int .i64 pb, .string ⟨lb.toArray⟩, .int .i64 ib] 35)) := ((Below.refl _ _).alloc (Nat.le_refl _) _).alloc (by simp) _
  have hH0 : ((w.alloc (.cells #[.int .i64 pa, .string ⟨la.toArray⟩, .int .i64 ia] 35)).alloc (.cells #[.int .i64 pb, .string ⟨lb.toArray⟩, .int .i64 ib] 35)).heap[w.heap.size]? = some (.cells #[.int .i64 pa, .string ⟨la.toArray⟩, .int .i64 ia] 35) := by
    rw [Go.Deep.blk_alloc_lt _ _ _ (by simp)]
    exact Go.Deep.blk_alloc_new _ _
  have hH1 : ((w.alloc (.cells #[.int .i64 pa, .string ⟨la.toArray⟩, .int .i64 ia] 35)).alloc (.cells #[.int .i64 pb, .string ⟨lb.toArray⟩, .int .i64 ib] 35)).heap[w.heap.size + 1]? = some (.cells #[.int .i64 pb, .string ⟨lb.toArray⟩, .int .i64 ib] 35) := by
    have := Go.Deep.blk_alloc_new (w.alloc (.cells #[.int .i64 pa, .string ⟨la.toArray⟩, .int .i64 ia] 35)) (.cells #[.int .i64 pb, .string ⟨lb.toArray⟩, .int .i64 ib] 35)
    rwa [show (w.alloc (.cells #[.int .i64 pa, .string ⟨la.toArray⟩, .int .i64 ia] 35)).heap.size = w.heap.size + 1 by simp] at this
  generalize (w.alloc (.cells #[.int .i64 pa, .string ⟨la.toArray⟩, .int .i64 ia] 35)).alloc (.cells #[.int .i64 pb, .string ⟨lb.toArray⟩, .int .i64 ib] 35) = w0 at hb0 hH0 hH1 ⊢
  have hs0 : w.heap.size < w0.heap.size := (Array.getElem?_eq_some_iff.1 hH0).1
  have hs1 : w.heap.size + 1 < w0.heap.size := (Array.getElem?_eq_some_iff.1 hH1).1
  have hm0 := (hb0.cell (cell_lt hm)).trans hm
  cases hva : val la with
  | none =>
    have hX := canB_f hva m w0 hm0 hla
    have hva' := Lib.hid hva
    clear hva
    go_wp2_with fail
    refine hX.mono ?_
    rintro e w1 ⟨rfl, hb1⟩
    clear hX
    go_wp2
    go_ret
    exact ⟨by simp [befB, hva'.out], hb0.trans (hb1.mono hb0.size)⟩
  | some x =>
    have hX := canB_t hva m w0 hm0 hla
    have hva' := Lib.hid hva
    clear hva
    go_wp2_with fail
    refine hX.mono ?_
    rintro e w1 ⟨rfl, hb1⟩
    clear hX
    have hm1 := (hb1.cell (cell_lt hm0)).trans hm0
    cases hvb : val lb with
    | none =>
      have hX := canB_f hvb m w1 hm1 hlb
      have hvb' := Lib.hid hvb
      clear hvb
      go_wp2_with fail
      refine hX.mono ?_
      rintro e w2 ⟨rfl, hb2⟩
      clear hX
      go_wp2
      go_ret
      exact ⟨by simp [befB, hva'.out, hvb'.out], hb0.trans ((hb1.trans (hb2.mono hb1.size)).mono hb0.size)⟩
    | some y =>
      have hX := canB_t hvb m w1 hm1 hlb
      have hvb' := Lib.hid hvb
      clear hvb
      go_wp2_with fail
      refine hX.mono ?_
      rintro e w2 ⟨rfl, hb2⟩
      clear hX
      have hb3 : Below w0.heap.size w0 w2 := hb1.trans (hb2.mono hb1.size)
      have hJ0 := (hb3.block _ hs0).trans hH0
      have hJ1 := (hb3.block _ hs1).trans hH1
      have hB3 := hb0.trans (hb3.mono hb0.size)
      have hm2 := (hb2.cell (cell_lt hm1)).trans hm1
      have c00 : w2.cell? ⟨w.heap.size, 0, none⟩ = some (.int .i64 pa) := by simp [World.cell?, hJ0]
      have c01 : w2.cell? ⟨w.heap.size, 1, none⟩ = some (.string ⟨la.toArray⟩) := by simp [World.cell?, hJ0]
      have c02 : w2.cell? ⟨w.heap.size, 2, none⟩ = some (.int .i64 ia) := by simp [World.cell?, hJ0]
      have c10 : w2.cell? ⟨w.heap.size + 1, 0, none⟩ = some (.int .i64 pb) := by simp [World.cell?, hJ1]
      have c11 : w2.cell? ⟨w.heap.size + 1, 1, none⟩ = some (.string ⟨lb.toArray⟩) := by simp [World.cell?, hJ1]
      have c12 : w2.cell? ⟨w.heap.size + 1, 2, none⟩ = some (.int .i64 ib) := by simp [World.cell?, hJ1]
      clear hb1 hb2 hb3 hm0 hm1 hH0 hH1
      have hQ := fun (c : Int) (w3 : World) (hb4 : Below w2.heap.size w2 w3) => hB3.trans (hb4.mono hB3.size)
      by_cases hp : pa = pb
      · subst hp
        by_cases hl : la = lb
        · subst hl
          by_cases hi : ia = ib
          · subst hi
            go_wp2
            go_ret
            exact ⟨by rw [befB_ix hva'.out hva'.out (c := 0) (by simp [sgn]) rfl]; simp, hB3⟩
          · have hi' : (ia == ib) = false := by simpa using hi
            go_wp2_with fail
            refine (Cmp_any _ _ m w2 hm2 (by assumption) (by assumption)).mono ?_
            rintro e w3 ⟨c, code, rfl, hb4, hv⟩
            have hcs := Lib.hid (cmp_val hv hva'.out hvb'.out)
            clear hv
            by_cases h0 : c = 0
            · subst h0
              go_wp2
              go_ret
              exact ⟨congrArg (fun b => Ending.returned (.bool b)) (befB_ix hva'.out hvb'.out hcs.out rfl).symm, hQ 0 w3 hb4⟩
            · have h0' : (c != 0) = true := by simpa using h0
              go_wp2
              go_ret
              exact ⟨congrArg (fun b => Ending.returned (.bool b)) (befB_cmp hva'.out hvb'.out hcs.out h0).symm, hQ c w3 hb4⟩
        · have hl' : (la == lb) = false := by simpa using hl
          have hl2 : ((⟨la.toArray⟩ : ByteArray).toList == (⟨lb.toArray⟩ : ByteArray).toList) = false := by simpa using hl
          go_wp2_with fail
          refine (Cmp_any _ _ m w2 hm2 (by assumption) (by assumption)).mono ?_
          rintro e w3 ⟨c, code, rfl, hb4, hv⟩
          have hcs := Lib.hid (cmp_val hv hva'.out hvb'.out)
          clear hv
          by_cases h0 : c = 0
          · subst h0
            go_wp2
            go_ret
            exact ⟨congrArg (fun b => Ending.returned (.bool b)) (befB_ix hva'.out hvb'.out hcs.out rfl).symm, hQ 0 w3 hb4⟩
          · have h0' : (c != 0) = true := by simpa using h0
            go_wp2
            go_ret
            exact ⟨congrArg (fun b => Ending.returned (.bool b)) (befB_cmp hva'.out hvb'.out hcs.out h0).symm, hQ c w3 hb4⟩
      · have hp' : (pa != pb) = true := by simpa using hp
        have hfin := Lib.hid (show befB pa la ia pb lb ib = decide (pb < pa) by unfold befB; rw [hva'.out, hvb'.out]; simp only [ne_eq]; rw [if_pos hp])
        go_wp2
        go_ret
        exact ⟨congrArg (fun b => Ending.returned (.bool b)) hfin.out.symm, hB3⟩
end Go.Proofs.Nw
namespace Go.Proofs.Nw
open Go.RowKit Go.Lib
attribute [local go_sem ↓] Go.wp_at_zero Go.wp_at_succ
/-- digits in memory, the highest first -/
def DigsAt (w : World) (A : Option Addr) (D : List Nat) : Prop := 0 < D.length → ∃ a : Addr, A = some a ∧ a.block < w.heap.size ∧ ∀ (j : Nat) (h : j < D.length), w.cell? (a.add j) = some (.int .i64 (D[j]'h : Nat))
theorem DigsAt.mono {w w' : World} {A : Option Addr} {D : List Nat} (h : DigsAt w A D) (hb : Below w.heap.size w w') : DigsAt w' A D := fun h0 => by
  obtain ⟨a, h1, h2, h3⟩ := h h0
  exact ⟨a, h1, Nat.lt_of_lt_of_le h2 hb.size, fun j hj => (hb.cell (by rw [addr_block]; exact h2)).trans (h3 j hj)⟩
theorem addr_add_add (a : Addr) (i j : Nat) : (a.add i).add j = a.add (i + j) := by
  unfold Addr.add
  by_cases hi : i = 0
  · subst hi; simp
  · by_cases hj : j = 0
    · subst hj; simp
    · rw [if_neg hi, if_neg hj, if_neg (by omega)]
      simp [Nat.add_assoc]
theorem DigsAt.tail {w : World} {a : Addr} {d : Nat} {D : List Nat} (h : DigsAt w (some a) (d :: D)) : DigsAt w (some (a.add 1)) D := fun h0 => by
  obtain ⟨a', e, h2, h3⟩ := h (by simp)
  injection e with e
  subst e
  refine ⟨_, rfl, by rw [addr_block]; exact h2, fun j hj => ?_⟩
  rw [addr_add_add, Nat.add_comm 1 j]
  exact h3 (j + 1) (by simpa using hj)
def trimD (D : List Nat) : List Nat := D.dropWhile (· == 0)
def TrimQ (D : List Nat) (A0 : Option Addr) (c0 : Nat) (w : World) (e : Ending) (w' : World) : Prop := ∃ A c, e = .returned (.slice A (trimD D).length c) ∧ (trimD D).length ≤ c ∧ DigsAt w A (trimD D) ∧ ((A0 = none → c0 = 0) → A = none → c = 0) ∧ w = w'
set_option maxRecDepth 100000 in
theorem trim_any (D : List Nat) (A : Option Addr) (c : Nat) (w : World) (hA : DigsAt w A D) (hc : D.length ≤ c) (hl : D.length ≤ 100000) :
    Calls Tryz.prog 39 #[.slice A D.length c] w (TrimQ D A c w) := by
  go_enter Tryz.func39, Tryz.ntmps39
  go_wp2
  go_loop [0] (fun x => ∃ (E : List Nat) (A' : Option Addr) (c' : Nat), x = .slice A' E.length c' ∧ E.length ≤ c' ∧ E.length ≤ 100000 ∧ Hid (trimD E = trimD D) ∧ Hid (DigsAt w A' E) ∧ Hid ((A = none → c = 0) → A' = none → c' = 0)) (fun x => match x with | .slice _ k _ => k | _ => 0)
  case atStart => exact ⟨D, A, c, rfl, hc, hl, Lib.hid rfl, Lib.hid hA, Lib.hid (fun h => h)⟩
  case round =>
    obtain ⟨E, A', c', rfl, hc', hl', hE, hD, hN⟩ := hrel
    clear hA
    cases E with
    | nil =>
      go_wp2
      go_ret
      refine ⟨A', c', ?_, ?_, ?_, hN.out, rfl⟩
      · rw [← hE.out]; rfl
      · rw [← hE.out]; exact Nat.zero_le _
      · rw [← hE.out]; exact hD.out
    | cons d E =>
      obtain ⟨a, rfl, _, hcell⟩ := hD.out (by simp)
      have hc0 := hcell 0 (by simp)
      have ha : a.add 0 = a := by simp [Addr.add]
      rw [ha] at hc0
      simp only [List.getElem_cons_zero] at hc0
      have hT := Lib.hid hD.out.tail
      simp only [List.length_cons] at hc' hl' ⊢
      generalize hEl : E.length = n at hc' hl' ⊢
      have hEl' := Lib.hid hEl
      have hD' := hD
      clear hcell hD hEl
      by_cases hd : d = 0
      · subst hd
        go_wp2
        go_round
        case rel => exact ⟨E, (if c' = 1 then some a else some ⟨a.block, a.off + 1, none⟩), c' - 1, by rw [hEl'.out], by rw [hEl'.out]; omega, by rw [hEl'.out]; omega, Lib.hid (by rw [← hE.out]; rfl), Lib.hid (by
          by_cases h1 : c' = 1
          · intro h0; rw [hEl'.out] at h0; omega
          · rw [if_neg h1]; exact hT.out), Lib.hid (fun _ h => by split at h <;> cases h)⟩
        case measure => simp
      · go_wp2
        go_ret
        have ht : trimD (d :: E) = d :: E := by simp [trimD, hd]
        have ht2 := hE.out.symm.trans ht
        refine ⟨some a, c', ?_, ?_, ?_, (fun _ h => by cases h), rfl⟩
        · rw [ht2, List.length_cons, hEl'.out]; rfl
        · rw [ht2, List.length_cons, hEl'.out]; exact hc'
        · rw [ht2]; exact hD'.out
theorem digit_any (c : UInt8) (w : World) : Calls Tryz.prog 38 #[.int .u8 (c.toNat : Nat)] w (fun e w' => e = .returned (.bool (decide (48 ≤ c.toNat) && decide (c.toNat ≤ 57))) ∧ w = w') := by
  go_enter Tryz.func38, Tryz.ntmps38
  have hc := c.toNat_lt
  by_cases h : 48 ≤ c.toNat
  · have h' : (48 : Int) ≤ (c.toNat : Int) := by omega
    go_wp2
    go_ret
    refine ⟨?_, rfl⟩
    show Ending.returned (.bool (decide ((c.toNat : Int) ≤ 57))) = _
    rw [decide_eq_true h, Bool.true_and]
    by_cases h2 : c.toNat ≤ 57
    · rw [decide_eq_true h2, decide_eq_true (by omega)]
    · rw [decide_eq_false h2, decide_eq_false (by omega)]
  · have h' : ¬ (48 : Int) ≤ (c.toNat : Int) := by omega
    go_wp2
    go_ret
    exact ⟨rfl, rfl⟩
def nv (D : List Nat) : Nat := D.foldl (fun n d => 10 * n + d) 0
theorem nv_go (D : List Nat) (n : Nat) : D.foldl (fun n d => 10 * n + d) n = n * 10 ^ D.length + nv D := by
  unfold nv
  induction D generalizing n with
  | nil => simp
  | cons d D ih =>
    rw [List.foldl_cons, List.foldl_cons, ih, ih (10 * 0 + d), List.length_cons, Nat.pow_succ]
    generalize 10 ^ D.length = p
    rw [Nat.add_mul, Nat.add_mul, show 10 * n * p = n * (p * 10) by rw [Nat.mul_comm p, ← Nat.mul_assoc, Nat.mul_comm n]]
    omega
theorem nv_cons (d : Nat) (D : List Nat) : nv (d :: D) = d * 10 ^ D.length + nv D := by
  show (d :: D).foldl _ 0 = _
  rw [List.foldl_cons, nv_go, Nat.mul_zero, Nat.zero_add]
theorem nv_append (D E : List Nat) : nv (D ++ E) = nv D * 10 ^ E.length + nv E := by
  show (D ++ E).foldl _ 0 = _
  rw [List.foldl_append, nv_go]
  rfl
def Dg (D : List Nat) : Prop := ∀ d ∈ D, d < 10
theorem nv_lt {D : List Nat} (h : Dg D) : nv D < 10 ^ D.length := by
  induction D with
  | nil => decide
  | cons d D ih =>
    rw [nv_cons, List.length_cons, Nat.pow_succ]
    have h1 := h d List.mem_cons_self
    have h2 := ih (fun e he => h e (List.mem_cons_of_mem _ he))
    have h3 := Nat.mul_le_mul_right (10 ^ D.length) (show d ≤ 9 by omega)
    omega
theorem nv_trim (D : List Nat) : nv (trimD D) = nv D := by
  unfold trimD
  induction D with
  | nil => rfl
  | cons d D ih =>
    rw [List.dropWhile_cons]
    split
    · rename_i h
      rw [ih, nv_cons, eq_of_beq h]
      omega
    · rfl
theorem trim_head {D : List Nat} {d : Nat} {E : List Nat} (h : trimD D = d :: E) : d ≠ 0 := by
  intro e
  subst e
  unfold trimD at h
  induction D with
  | nil => cases h
  | cons a D ih =>
    rw [List.dropWhile_cons] at h
    split at h
    · exact ih h
    · rename_i hn
      injection h with h1 h2
      subst h1
      exact hn rfl
theorem trim_ge {D : List Nat} (h : trimD D ≠ []) : 10 ^ ((trimD D).length - 1) ≤ nv (trimD D) := by
  cases ht : trimD D with
  | nil => exact absurd ht h
  | cons d E =>
    have h0 := trim_head ht
    rw [nv_cons, List.length_cons, Nat.add_sub_cancel]
    exact Nat.le_trans (Nat.le_mul_of_pos_left _ (Nat.pos_of_ne_zero h0)) (Nat.le_add_right _ _)
theorem trim_dg {D : List Nat} (h : Dg D) : Dg (trimD D) := fun d hd => h d (List.dropWhile_sublist _ |>.subset hd)
set_option maxRecDepth 100000 in
theorem at_any (D : List Nat) (A : Option Addr) (c p : Nat) (w : World) (hA : DigsAt w A D) (hc : D.length ≤ c) (hl : D.length ≤ 100000) (hp : p ≤ 200000) :
    Calls Tryz.prog 94 #[.slice A D.length c, .int .i64 p] w (fun e w' => e = .returned (.int .i64 ((D.reverse.getD p 0 : Nat) : Int)) ∧ w = w') := by
  go_enter Tryz.func94, Tryz.ntmps94
  by_cases h : p < D.length
  · obtain ⟨a, rfl, _, hcell⟩ := hA (by omega)
    have hj := hcell (D.length - 1 - p) (by omega)
    have he : D.reverse.getD p 0 = D[D.length - 1 - p] := by simp [List.getD, List.getElem?_reverse h, show D.length - 1 - p < D.length by omega]
    have he' := Lib.hid he
    rw [← he] at hj
    generalize D.reverse.getD p 0 = v at hj he'
    have h' : (p : Int) < (D.length : Int) := by omega
    clear hcell hA he he'
    generalize hn : D.length = n at *
    have hx : ((n : Int) - 1 - p) = ((n - 1 - p : Nat) : Int) := by omega
    go_wp2
    go_ret
    exact ⟨rfl, rfl⟩
  · have h' : ¬ (p : Int) < (D.length : Int) := by omega
    have he := Lib.hid (show D.reverse.getD p 0 = 0 by simp [List.getD]; rw [List.getElem?_eq_none (by simp; omega)]; rfl)
    clear hA
    go_wp2
    go_ret
    exact ⟨by first | rfl | (rw [he.out]; rfl), rfl⟩
theorem nv_lt_of {E F : List Nat} (hE : Dg E) (hl : E.length = F.length) {i : Nat} (hi : i < E.length) (hi' : i < F.length) (ht : E.take i = F.take i) (h : E[i] < F[i]) : nv E < nv F := by
  have e1 : E = E.take i ++ (E[i] :: E.drop (i + 1)) := by rw [List.getElem_cons_drop, List.take_append_drop]
  have e2 : F = F.take i ++ (F[i] :: F.drop (i + 1)) := by rw [List.getElem_cons_drop, List.take_append_drop]
  have d1 : Dg (E.drop (i + 1)) := fun d hd => hE d (List.mem_of_mem_drop hd)
  have l1 := nv_lt d1
  rw [e1, e2, nv_append, nv_append, ht, nv_cons, nv_cons]
  simp only [List.length_cons, List.length_drop] at l1 ⊢
  rw [hl] at l1 ⊢
  have : (E[i] + 1) * 10 ^ (F.length - (i + 1)) ≤ F[i] * 10 ^ (F.length - (i + 1)) := Nat.mul_le_mul_right _ h
  rw [Nat.add_mul] at this
  omega
theorem nv_lt_len {E F : List Nat} (hE : Dg E) (h : (trimD E).length < (trimD F).length) : nv E < nv F := by
  rw [← nv_trim E, ← nv_trim F]
  have h1 := nv_lt (trim_dg hE)
  have h2 := trim_ge (D := F) (by intro e; rw [e] at h; simp at h)
  exact Nat.lt_of_lt_of_le h1 (Nat.le_trans (Nat.pow_le_pow_right (by decide) (by omega)) h2)
def SgQ (n m : Nat) (w : World) (e : Ending) (w' : World) : Prop := ∃ q : Nat, e = .returned (.int .i64 (sgn ((n : Int) - m))) ∧ w' = w.drewN q
theorem sgn_lt {n m : Nat} (h : n < m) : sgn ((n : Int) - m) = -1 := by unfold sgn; rw [if_pos (by omega)]
theorem sgn_gt {n m : Nat} (h : m < n) : sgn ((n : Int) - m) = 1 := by unfold sgn; rw [if_neg (by omega), if_neg (by omega)]
theorem sgn_eq {n m : Nat} (h : n = m) : sgn ((n : Int) - m) = 0 := by unfold sgn; rw [if_neg (by omega), if_pos (by omega)]
set_option maxRecDepth 100000 in
set_option maxHeartbeats 1000000 in
theorem dcmp_any (D F : List Nat) (A C : Option Addr) (ca cc : Nat) (w : World) (hA : DigsAt w A D) (hC : DigsAt w C F) (hD : Dg D) (hF : Dg F) (hca : D.length ≤ ca) (hcc : F.length ≤ cc) (hl : D.length ≤ 100000) (hl' : F.length ≤ 100000) :
    Calls Tryz.prog 43 #[.slice A D.length ca, .slice C F.length cc] w (SgQ (nv D) (nv F) w) := by
  go_enter Tryz.func43, Tryz.ntmps43
  have hX := trim_any D A ca w hA hca hl
  have hY := trim_any F C cc w hC hcc hl'
  go_wp2_with fail
  refine hX.mono ?_
  rintro e w1 ⟨A1, c1, rfl, hc1, hA1, _, rfl⟩
  clear hX
  go_wp2_with fail
  refine hY.mono ?_
  rintro e w1 ⟨C1, c2, rfl, hc2, hC1, _, rfl⟩
  clear hY hA hC
  have hll := nv_lt_len (E := D) (F := F) hD
  have hgg := nv_lt_len (E := F) (F := D) hF
  have hle := Lib.hid (And.intro (nv_trim D) (nv_trim F))
  have hdd := Lib.hid (And.intro (trim_dg hD) (trim_dg hF))
  have hlT : (trimD D).length ≤ 100000 := Nat.le_trans (List.dropWhile_sublist _).length_le hl
  have hlU : (trimD F).length ≤ 100000 := Nat.le_trans (List.dropWhile_sublist _).length_le hl'
  generalize trimD D = T at *
  generalize trimD F = U at *
  have hll' := Lib.hid hll
  have hgg' := Lib.hid hgg
  have hAA := Lib.hid hA1
  have hCC := Lib.hid hC1
  clear hll hgg hA1 hC1
  by_cases hL : T.length = U.length
  · obtain ⟨n, hn⟩ : ∃ n, n = U.length := ⟨_, rfl⟩
    have hT := Lib.hid (hL.trans hn.symm)
    have hU := Lib.hid hn.symm
    rw [hL, ← hn]
    rw [← hn] at hc2 hlU
    rw [hL, ← hn] at hc1 hlT
    clear hn hL hll' hgg'
    go_wp2
    go_loopw [5] (fun i wr => ∃ (k q : Nat), k ≤ n ∧ i = .int .i64 (k : Int) ∧ wr = w.drewN q ∧ Hid (T.take k = U.take k)) (fun i _ => (n - intOf i).toNat)
    case atStart => exact ⟨0, 0, Nat.zero_le _, rfl, rfl, Lib.hid rfl⟩
    case round =>
      obtain ⟨k, q, hk, rfl, rfl, ht⟩ := hrel
      by_cases hkn : k < n
      · obtain ⟨a1, rfl, _, hcT⟩ := hAA.out (by rw [hT.out]; omega)
        obtain ⟨b1, rfl, _, hcU⟩ := hCC.out (by rw [hU.out]; omega)
        have hcj := hcT k (by rw [hT.out]; exact hkn)
        have hcj' := hcU k (by rw [hU.out]; exact hkn)
        have hkT : k < T.length := by rw [hT.out]; exact hkn
        have hkU : k < U.length := by rw [hU.out]; exact hkn
        have hlt1 := Lib.hid (nv_lt_of hdd.out.1 (hT.out.trans hU.out.symm) hkT hkU ht.out)
        have hlt2 := Lib.hid (nv_lt_of hdd.out.2 (hU.out.trans hT.out.symm) hkU hkT ht.out.symm)
        have hnext := Lib.hid (show T[k] = U[k] → T.take (k + 1) = U.take (k + 1) from fun e => by rw [List.take_add_one, List.take_add_one, ht.out, List.getElem?_eq_getElem hkT, List.getElem?_eq_getElem hkU, e])
        have hx1 : T[k] < 10 := hdd.out.1 _ (List.getElem_mem hkT)
        have hx2 : U[k] < 10 := hdd.out.2 _ (List.getElem_mem hkU)
        have hkn' : (k : Int) < (n : Int) := by omega
        generalize T[k] = x at hcj hlt1 hlt2 hnext hx1
        generalize U[k] = y at hcj' hlt1 hlt2 hnext hx2
        clear hcT hcU hAA hCC hkT hkU ht
        by_cases hxy : x = y
        · subst hxy
          have hnx := Lib.hid (hnext.out rfl)
          clear hlt1 hlt2 hnext
          go_wp2
          go_quiet (fail)
          go_wp2
          go_roundw
          case rel => exact ⟨k + 1, _, by omega, by go_num, rfl, hnx⟩
          case measure => simp [intOf]; omega
        · by_cases hlt : x < y
          · have hs := Lib.hid (sgn_lt (hlt1.out hlt))
            have h1 : ((x : Int) == (y : Int)) = false := by simp; omega
            have h2 : (x : Int) < (y : Int) := by omega
            clear hlt1 hlt2 hnext
            go_wp2
            go_quiet (fail)
            go_wp2
            go_quiet (fail)
            go_wp2
            go_ret
            exact ⟨_, by rw [← hle.out.1, ← hle.out.2, hs.out]; rfl, by rw [World.drewN_drewN, World.drewN_drewN]⟩
          · have hs := Lib.hid (sgn_gt (hlt2.out (by omega)))
            have h1 : ((x : Int) == (y : Int)) = false := by simp; omega
            have h2 : ¬ (x : Int) < (y : Int) := by omega
            clear hlt1 hlt2 hnext
            go_wp2
            go_quiet (fail)
            go_wp2
            go_quiet (fail)
            go_wp2
            go_ret
            exact ⟨_, by rw [← hle.out.1, ← hle.out.2, hs.out]; rfl, by rw [World.drewN_drewN, World.drewN_drewN]⟩
      · have hkn' : ¬ (k : Int) < (n : Int) := by omega
        have hTU := Lib.hid (show nv T = nv U by
          have := ht.out
          rw [List.take_of_length_le (by rw [hT.out]; omega), List.take_of_length_le (by rw [hU.out]; omega)] at this
          rw [this])
        clear hAA hCC
        go_wp2
        go_ret
        exact ⟨q, by rw [← hle.out.1, ← hle.out.2, sgn_eq hTU.out]; rfl, rfl⟩
  · by_cases hlt : T.length < U.length
    · have hs := Lib.hid (sgn_lt (hll'.out hlt))
      go_wp2
      go_ret
      exact ⟨0, by rw [hs.out]; rfl, rfl⟩
    · have hs := Lib.hid (sgn_gt (hgg'.out (by omega)))
      go_wp2
      go_ret
      exact ⟨0, by rw [hs.out]; rfl, rfl⟩
end Go.Proofs.Nw
namespace Go.Proofs.Nw
open Go.Lib
variable {P : Program}
theorem zc (z0 : Value) (n : Nat) : Builtin.zeroCells #[z0] n = Array.replicate n z0 := by
  unfold Builtin.zeroCells
  apply Array.ext
  · simp
  · intro i h1 h2
    simp [Nat.mod_one]
/-- append(row of the call's own, make([]T, m)...) -/
theorem run_append_zeros (w : World) (base : Nat) (t tn ty e : TypeId) (i : TypeInfo) (z0 : Value) (kn : IntKind) (bytes : Nat) (ht : P.underlying t = some (.slice e)) (htn : P.underlying tn = some (.int kn)) (hi : P.info? e = some i) (hz : i.zero = some z0)
    (hsize : i.size = 1) (hby : i.bytes = bytes) (hzc : z0.cells = #[z0]) (h1 : z0.oneCell' = true)
    (v : Value) (n : Nat) (xs : List Value) (hown : w.ownsRow base e 1 v n xs) (m : Nat)
    (h63 : n + m ≤ maxLen) (hbytes : (n + m) * bytes ≤ 140737488355328) (hbase : base ≤ w.heap.size) :
    ∃ v' w', (Builtin.append_ #[t, tn] ty #[v, .int .i64 m]).run P w = .ok v' w' ∧ w'.ownsRow base e 1 v' (n + m) (xs ++ List.replicate m z0) ∧ w.grownBy w' v.ownBlock := by
  subst hby
  have hsmall : n + m ≤ 9223372036854775807 := by simp only [maxLen] at h63; omega
  have hw : IntKind.i64.wrap (m : Int) = m := by rw [IntKind.wrap_i64]; omega
  have hneg : ¬ ((m : Int) < 0) := by omega
  have hw0 : IntKind.i64.wrap 0 = 0 := by decide
  have hxl : xs.length = n := by have := hown.1; omega
  have hlen : (xs ++ List.replicate m z0).length = (n + m) * 1 := by rw [List.length_append, hxl, List.length_replicate, Nat.mul_one]
  have hmb : m * i.bytes ≤ (n + m) * i.bytes := Nat.mul_le_mul_right _ (by omega)
  have h48i : ¬ (281474976710656 < (m : Int) * (i.bytes : Int)) := by
    rw [← Int.natCast_mul]
    omega
  have grown : ∀ (old : Nat), old < n + m → ∀ (row : Option Nat),
      (w.drew.alloc (.cells (xs.toArray ++ Builtin.zeroCells z0.cells m ++ Builtin.zeroCells z0.cells (grownCap w (n + m) old e - (n + m))) e)).ownsRow base e 1
        (.slice (some ⟨w.heap.size, 0, none⟩) (n + m) (grownCap w (n + m) old e)) (n + m) (xs ++ List.replicate m z0) ∧
      w.grownBy (w.drew.alloc (.cells (xs.toArray ++ Builtin.zeroCells z0.cells m ++ Builtin.zeroCells z0.cells (grownCap w (n + m) old e - (n + m))) e)) row := by
    intro old ho row
    have hge := grownCap_ge w (n + m) old e
    have hcm : grownCap w (n + m) old e ≤ maxLen := grownCap_le_maxLen w (n + m) old e h63
    refine ⟨⟨hlen, .inr ⟨w.heap.size, _, _, rfl, hbase, heap_alloc_new w.drew _, hge, hcm, ?_, ?_⟩⟩, ⟨rfl, rfl, rfl, by simp, fun k hk _ => by show (w.heap.push _)[k]? = w.heap[k]?; rw [Array.getElem?_push, if_neg (Nat.ne_of_lt hk)]⟩⟩
    · rw [hzc, zc, zc]
      simp only [Array.size_append, List.size_toArray, Array.size_replicate, hxl]
      omega
    · rw [hzc, zc, zc]
      simp only [Array.toList_append, Array.toList_replicate]
      rw [← hlen]
      exact List.take_left
  rcases hown.2 with ⟨rfl, rfl⟩ | ⟨g, cap, cur, rfl, hbg, hg, hnc, hcm, hcs, htake⟩
  · have hx : xs = [] := List.eq_nil_of_length_eq_zero hxl
    subst hx
    by_cases hm : m = 0
    · subst hm
      refine ⟨.slice none 0 0, w, ?_, World.ownsRow_nil w base e 1, ⟨rfl, rfl, rfl, Nat.le_refl _, fun _ _ _ => rfl⟩⟩
      simp [Builtin.append_, run_underlying ht, run_underlying htn, sizeOf, typeInfo, hi, asInt, asIntOf, hw0]
    · have hr := Lib.run_append_nil_zeros (P := P) w t tn ty e i z0 .i64 kn ht htn hi hz m (by omega) (by omega) (by omega) (by omega)
      have hgr := grown 0 (by omega) (Value.ownBlock (.slice none 0 0))
      simp only [Nat.zero_add, List.nil_append, Array.empty_append] at hgr ⊢
      exact ⟨_, _, hr, hgr.1, hgr.2⟩
  · by_cases hm : m = 0
    · subst hm
      refine ⟨.slice (some ⟨g, 0, none⟩) n cap, w, ?_, by simpa using hown, ⟨rfl, rfl, rfl, Nat.le_refl _, fun _ _ _ => rfl⟩⟩
      simp [Builtin.append_, run_underlying ht, run_underlying htn, sizeOf, typeInfo, hi, asInt, asIntOf, hw0, hnc, storeCells]
    · have hns : ¬ (m * i.size = 0) := by rw [hsize]; omega
      by_cases hroom : n + m ≤ cap
      · have hst := run_storeCells_at P g n e (List.replicate m z0) 0 cur w hg (by simp; omega) (fun u hu => by rw [List.eq_of_mem_replicate hu]; exact h1)
        simp only [Nat.add_zero] at hst
        refine ⟨.slice (some ⟨g, 0, none⟩) (n + m) cap, _, ?_, ⟨hlen, .inr ⟨g, cap, _, rfl, hbg, setRow_heap w g cur (cur.toList.take n ++ List.replicate m z0 ++ cur.toList.drop (n + m)).toArray e _ hg, hroom, hcm, ?_, ?_⟩⟩, ⟨rfl, rfl, rfl, by simp, fun k _ hk => setRow_other w g k _ (fun e => hk (by simp [Value.ownBlock, e]))⟩⟩
        · simp [Builtin.append_, run_underlying ht, run_underlying htn, sizeOf, typeInfo, zeroValue, hi, hz, asInt, asIntOf, hw, hneg, h48i, hroom, hsize, hm, hzc, zc, Addr.add_lit, hst]
        · simp only [List.size_toArray, List.length_append, List.length_take, List.length_drop, Array.length_toList, List.length_replicate]
          omega
        · have h2 : cur.toList.take n = xs := by simpa using htake
          rw [h2, ← hlen]
          exact List.take_left
      · have holds : ∀ j u, xs[j]? = some u → w.drew.cell? ((⟨g, 0, none⟩ : Addr).add j) = some u := fun j u hu => by simpa using hown.cells (g := g) rfl j u hu
        have hf := run_firstCells_some (P := P) w.drew i.size n ⟨g, 0, none⟩ n cap xs (by rw [hsize, hxl, Nat.mul_one]) holds
        have hr := run_append_grow_zeros (P := P) w t tn ty e i z0 .i64 kn ht htn hi hz (some ⟨g, 0, none⟩) n cap xs hf m (by omega) (by omega) (by omega) (by omega) (by omega) (growslice_fits (by omega) hbytes)
        have hgr := grown cap (by omega) (Value.ownBlock (.slice (some ⟨g, 0, none⟩) n cap))
        exact ⟨_, _, hr, hgr.1, hgr.2⟩
end Go.Proofs.Nw
namespace Go.Proofs.Nw
open Go.RowKit Go.Lib
attribute [local go_sem ↓] Go.wp_at_zero Go.wp_at_succ
theorem und31 : Tryz.prog.underlying 39 = some (.slice 3) := by kernel_rfl
theorem und3 : Tryz.prog.underlying 3 = some (.int .i64) := by kernel_rfl
theorem info3 : (Tryz.prog.info? 3).map (fun i => (i.zero, i.size, i.bytes)) = some (some (.int .i64 0), 1, 8) := by kernel_rfl
def ilist (D : List Nat) : List Value := D.map fun d => .int .i64 (d : Nat)
theorem ilist_append (D E : List Nat) : ilist (D ++ E) = ilist D ++ ilist E := List.map_append
theorem ilist_zeros (n : Nat) : ilist (List.replicate n 0) = List.replicate n (.int .i64 0) := by simp [ilist]
theorem own_digs {w : World} {base : Nat} {v : Value} {n : Nat} {D : List Nat} (h : w.ownsRow base 3 1 v n (ilist D)) : ∃ A c, v = .slice A D.length c ∧ D.length ≤ c ∧ DigsAt w A D := by
  have hn : n = D.length := by have := h.1; simp [ilist] at this; omega
  subst hn
  rcases h.2 with ⟨rfl, h0⟩ | ⟨g, cap, cur, rfl, hb, hg, hnc, hcm, hcs, htake⟩
  · exact ⟨none, 0, by rw [h0], by omega, fun h1 => by omega⟩
  · refine ⟨_, cap, rfl, hnc, fun h0 => ⟨_, rfl, (Array.getElem?_eq_some_iff.1 hg).1, fun j hj => ?_⟩⟩
    exact h.cells (g := g) rfl j _ (by simp [ilist, hj])
set_option maxRecDepth 100000 in
/-- append(row of the call's own, digits...) -/
theorem wpl_digs {w : World} {ops : Array Oper} {rest : List Oper} {o : Oper} {a : Act} {Q : Exit → Act → World → Prop} (hgd : o.guard = none) (s x : Operand)
    (ho : o.op = .call { callee := .builtin .append, args := #[s, x], argTypes := #[39, 39] })
    (base : Nat) (v : Value) (n : Nat) (xs : List Value) (hs : a.eval s = v) (hown : w.ownsRow base 3 1 v n xs) (A : Option Addr) (D : List Nat) (c : Nat) (hx : a.eval x = .slice A D.length c)
    (hA : DigsAt w A D) (hnil : A = none → c = 0) (h63 : n + D.length ≤ 300000) (hbase : base ≤ w.heap.size)
    (h : ∀ v' w', w'.ownsRow base 3 1 v' (n + D.length) (xs ++ ilist D) → w.grownBy w' v.ownBlock → wpList Tryz.prog ops Q rest (a.put o.dst v') w') : wpList Tryz.prog ops Q (o :: rest) a w := by
  obtain ⟨i0, hi0, hz0, hz1, hz2⟩ := info_parts info3
  cases A with
  | none =>
    have h0 := hnil rfl
    have hl : D = [] := by
      cases D with
      | nil => rfl
      | cons d D =>
        obtain ⟨a, e, _⟩ := hA (by simp)
        cases e
    subst hl
    subst h0
    exact wpList_append_own_none hgd s x 39 ho base 3 i0 1 und31 hi0 v n xs hs hown hx (h _ _ (by simpa [ilist] using hown) (grown_refl _ _))
  | some ad =>
    refine wpList_append_own w hgd s x 39 ho base 3 i0 (.int .i64 0) 1 8 und31 hi0 hz0 hz1 hz2 rfl (by decide) v n xs hs hown ad D.length c (ilist D) hx (by simp [ilist]) (fun j u hu => ?_) (fun u hu => ?_) (by unfold maxLen; omega) (by omega) hbase (fun v' w' h1 h2 _ => h v' w' h1 h2)
    · have hj : j < D.length := by have := (List.getElem?_eq_some_iff.1 hu).1; simpa [ilist] using this
      obtain ⟨a', e, hb, hc⟩ := hA (by omega)
      injection e with e; subst e
      rw [hc j hj, ← hu]
      simp [ilist, hj]
    · obtain ⟨j, _, rfl⟩ := List.mem_map.1 hu
      rfl
def MadeD (E : List Nat) (w : World) (e : Ending) (w' : World) : Prop := ∃ A c, e = .returned (.slice A E.length c) ∧ E.length ≤ c ∧ DigsAt w' A E ∧ (A = none → c = 0) ∧ Below w.heap.size w w'
theorem own_nil {w : World} {base : Nat} {v : Value} {n : Nat} {xs : List Value} (h : w.ownsRow base 3 1 v n xs) : ∀ L c, v = .slice none L c → c = 0 := by
  intro L c e
  rcases h.2 with ⟨h1, _⟩ | ⟨g, cap, cur, h1, _⟩
  · rw [h1] at e; injection e with _ _ e; exact e.symm
  · rw [h1] at e; injection e with e; cases e
set_option maxRecDepth 100000 in
theorem zeros_any (D : List Nat) (A : Option Addr) (c n : Nat) (w : World) (hA : DigsAt w A D) (hnil : A = none → c = 0) (hl : D.length ≤ 100000) (hn : n ≤ 100000) :
    Calls Tryz.prog 40 #[.slice A D.length c, .int .i64 n] w (MadeD (D ++ List.replicate n 0) w) := by
  obtain ⟨i0, hi0, hz0, hz1, hz2⟩ := info_parts info3
  have hal := (Below.refl w.heap.size w).alloc (Nat.le_refl _) (.cells #[] 3)
  have hown : (w.alloc (.cells #[] 3)).ownsRow w.heap.size 3 1 (.slice (some ⟨w.heap.size, 0, none⟩) 0 0) 0 [] := World.ownsRow_made w #[] 0 (Nat.le_refl _) (by decide) (by rfl)
  have hA0 := hA.mono hal
  clear hA
  go_enter Tryz.func40, Tryz.ntmps40
  go_wp2_with (first
    | (at_builtin; refine wpl_digs (by rfl) _ _ (by rfl) w.heap.size _ 0 [] (by rfl) hown A D c (by rfl) hA0 hnil (by omega) (by simp) ?_; rintro v1 w1 hown1 hgr1)
    | (at_builtin; obtain ⟨v2, w2, hr2, hown2, hgr2⟩ := run_append_zeros (P := Tryz.prog) w1 w.heap.size 39 3 39 3 i0 (.int .i64 0) .i64 8 und31 und3 hi0 hz0 hz1 hz2 (by rfl) (by rfl) v1 (0 + D.length) _ hown1 n (by unfold maxLen; omega) (by omega) (by have := hgr1.size; simp at this; omega); refine Lib.wpList_append_run _ (by rfl) _ _ 39 3 (by rfl) _ _ (by rfl) (by rfl) _ _ hr2 ?_))
  go_ret
  have hb1 := hal.grown hgr1 (by simp) (fun k hk => by have hk' : some w.heap.size = some k := hk; injection hk' with hk'; omega)
  have hb2 := hb1.grown hgr2 (by have := hgr1.size; simp at this; omega) (fun k hk => own_ge hown1 hk)
  have hown3 : w2.ownsRow w.heap.size 3 1 v2 (0 + D.length + n) (ilist (D ++ List.replicate n 0)) := by
    rw [ilist_append, ilist_zeros]
    exact hown2
  obtain ⟨A2, c2, rfl, hc2, hA2⟩ := own_digs hown3
  exact ⟨A2, c2, rfl, hc2, hA2, fun e => own_nil hown3 _ _ (by rw [e]), hb2⟩
end Go.Proofs.Nw
namespace Go.Proofs.Nw
open Go.RowKit Go.Lib
attribute [local go_sem ↓] Go.wp_at_zero Go.wp_at_succ
/-- some digits without zeros ahead -/
def SomeD (m : Nat) (w : World) (e : Ending) (w' : World) : Prop := ∃ E : List Nat, Dg E ∧ trimD E = E ∧ E.length ≤ m ∧ MadeD E w e w'
theorem trim_trim (D : List Nat) : trimD (trimD D) = trimD D := by
  cases h : trimD D with
  | nil => rfl
  | cons d E =>
    have h0 := trim_head h
    simp [trimD, h0]
theorem getD_dg {D : List Nat} (h : Dg D) (p : Nat) : D.getD p 0 < 10 := by
  by_cases hp : p < D.length
  · rw [List.getD_eq_getElem?_getD, List.getElem?_eq_getElem hp]
    exact h _ (List.getElem_mem hp)
  · rw [List.getD_eq_getElem?_getD, List.getElem?_eq_none (by omega)]
    decide
set_option maxRecDepth 100000 in
set_option maxHeartbeats 1000000 in
theorem dadd_any (D F : List Nat) (A C : Option Addr) (ca cc : Nat) (w : World) (hA : DigsAt w A D) (hC : DigsAt w C F) (hD : Dg D) (hF : Dg F) (hca : D.length ≤ ca) (hcc : F.length ≤ cc) (hl : D.length ≤ 50000) (hl' : F.length ≤ 50000) :
    Calls Tryz.prog 69 #[.slice A D.length ca, .slice C F.length cc] w (SomeD (max D.length F.length + 1) w) := by
  obtain ⟨n, hn⟩ : ∃ n, n = max D.length F.length + 1 := ⟨_, rfl⟩
  rw [← hn]
  have hn2 : n ≤ 50001 := by omega
  have hmk := run_make_row' (P := Tryz.prog) 39 3 (.int .i64 0) 8 und31 info3 rfl .i64 .i64 n (by omega) (by omega)
  have hmx : (max (D.length : Int) (F.length : Int)) + 1 = (n : Int) := by omega
  go_enter Tryz.func69, Tryz.ntmps69
  go_upto_region 2 with fail
  have hmy : ((max D.length F.length : Nat) : Int) + 1 = (n : Int) := by omega
  rw [hmy]
  clear hmy hmx hn
  go_wp2
  go_loopw [7, 8] (fun c i wr => ∃ (k cr : Nat) (f : Nat → Nat), k ≤ n ∧ i = .int .i64 (k : Int) ∧ c = .int .i64 (cr : Int) ∧ cr ≤ 1 ∧ (∀ j, f j < 10) ∧ Below w.heap.size w wr ∧ wr.heap.size = w.heap.size + 1 ∧ wr.rowIs w.heap.size 3 n (fun j => .int .i64 (f j : Nat))) (fun _ i _ => n - (intOf i).toNat)
  case atStart => exact ⟨0, 0, fun _ => 0, Nat.zero_le _, rfl, rfl, by decide, fun _ => Nat.zero_lt_succ _, (Below.refl _ _).alloc (Nat.le_refl _) _, by simp, World.rowIs_made w (.int .i64 0) n 3⟩
  case round =>
    rename_i wr _
    obtain ⟨k, cr, f, hk, rfl, rfl, hcr, hf, hb, hz, hr⟩ := hrel
    by_cases hlt : k < n
    · have hX := at_any D A ca k wr (hA.mono hb) hca (by omega) (by omega)
      have hY := at_any F C cc k wr (hC.mono hb) hcc (by omega) (by omega)
      have hx := getD_dg (D := D.reverse) (fun d hd => hD d (List.mem_reverse.1 hd)) k
      have hy := getD_dg (D := F.reverse) (fun d hd => hF d (List.mem_reverse.1 hd)) k
      generalize D.reverse.getD k 0 = x at hX hx
      generalize F.reverse.getD k 0 = y at hY hy
      have hfr := hr.frozen (n - 1 - k)
      have hck := hr.cell (i := n - 1 - k) (by omega)
      have hlt' : (k : Int) < (n : Int) := by omega
      have hix : ((n : Int) - 1 - k) = ((n - 1 - k : Nat) : Int) := by omega
      have hX' := Lib.hid hX
      have hY' := Lib.hid hY
      clear hX hY hA hC hD hF
      go_wp2_with fail
      refine hX'.out.mono ?_
      rintro e w1 ⟨rfl, rfl⟩
      go_wp2_with fail
      refine hY'.out.mono ?_
      rintro e w1 ⟨rfl, rfl⟩
      go_wp2
      go_roundw
      case rel => exact ⟨k + 1, (x + y + cr) / 10, fun j => if j = n - 1 - k then (x + y + cr) % 10 else f j, by omega, by go_num, by go_num, by omega, fun j => by
        show (if j = n - 1 - k then (x + y + cr) % 10 else f j) < 10
        split
        · omega
        · exact hf j, hb.setCell (Nat.le_refl _) _, by simpa using hz, (hr.set (n - 1 - k) _).congr fun j _ => by
        by_cases hj : j = n - 1 - k
        · rw [if_pos hj]; simp only [if_pos hj]; go_num
        · rw [if_neg hj]; simp only [if_neg hj]⟩
      case measure => simp [intOf]; omega
    · have hke : k = n := by omega
      subst hke
      have hEl : ((List.range k).map f).length = k := by simp
      have hA2 : DigsAt wr (some ⟨w.heap.size, 0, none⟩) ((List.range k).map f) := fun _ => ⟨_, rfl, by show w.heap.size < wr.heap.size; omega, fun j hj => by
        rw [hEl] at hj
        rw [add0, hr.cell hj]
        simp⟩
      have hEd : Dg ((List.range k).map f) := fun d hd => by
        obtain ⟨j, _, rfl⟩ := List.mem_map.1 hd
        exact hf j
      generalize (List.range k).map f = E at hEl hA2 hEd
      have hX := trim_any E (some ⟨w.heap.size, 0, none⟩) k wr hA2 (by omega) (by omega)
      rw [hEl] at hX
      have hX' := Lib.hid hX
      clear hX hA hC hD hF hr hA2
      go_wp2_with fail
      refine hX'.out.mono ?_
      rintro e w1 ⟨A1, c1, rfl, hc1, hA1, hN, rfl⟩
      go_wp2
      go_ret
      refine ⟨trimD E, trim_dg hEd, trim_trim E, Nat.le_trans (List.dropWhile_sublist _).length_le (by omega), A1, c1, rfl, hc1, hA1, hN (fun h => by cases h), hb⟩
end Go.Proofs.Nw
namespace Go.Proofs.Nw
open Go.RowKit Go.Lib
attribute [local go_sem ↓] Go.wp_at_zero Go.wp_at_succ
theorem up_any (neg none : Bool) (last half : Int) (w : World) : Calls Tryz.prog 68 #[.bool neg, .int .i64 last, .int .i64 half, .bool none, .string ⟨#[101, 118, 101, 110]⟩] w (SomeBool w) := by
  go_enter Tryz.func68, Tryz.ntmps68
  by_cases h1 : 0 < half
  · go_wp2
    go_ret
    exact ⟨_, rfl, rfl⟩
  · by_cases h2 : half = 0
    · subst h2
      go_wp2
      go_ret
      exact ⟨_, rfl, rfl⟩
    · have h3 : (half == 0) = false := by simpa using h2
      go_wp2
      go_ret
      exact ⟨_, rfl, rfl⟩
theorem take_digs {w : World} {A : Option Addr} {D : List Nat} (h : DigsAt w A D) (k : Nat) : DigsAt w A (D.take k) := fun h0 => by
  rw [List.length_take] at h0
  obtain ⟨a, h1, h2, h3⟩ := h (by omega)
  exact ⟨a, h1, h2, fun j hj => by rw [List.getElem_take]; exact h3 j (by rw [List.length_take] at hj; omega)⟩
theorem drop_digs {w : World} {a : Addr} {D : List Nat} (h : DigsAt w (some a) D) (k : Nat) : DigsAt w (some (a.add k)) (D.drop k) := fun h0 => by
  rw [List.length_drop] at h0
  obtain ⟨a', h1, h2, h3⟩ := h (by omega)
  injection h1 with h1
  subst h1
  exact ⟨_, rfl, by rw [addr_block]; exact h2, fun j hj => by rw [addr_add_add, List.getElem_drop]; exact h3 (k + j) (by rw [List.length_drop] at hj; omega)⟩
theorem digs_one (w : World) (x : Nat) : DigsAt (w.alloc (.cells #[.int .i64 (x : Nat)] 3)) (some ⟨w.heap.size, 0, none⟩) [x] := fun _ => ⟨_, rfl, by simp, fun j hj => by
  have hj0 : j = 0 := by simp at hj; omega
  subst hj0
  rw [show Addr.add ⟨w.heap.size, 0, none⟩ 0 = ⟨w.heap.size, 0, none⟩ by simp [Addr.add]]
  unfold World.cell?
  rw [Go.Deep.blk_alloc_new]
  rfl⟩
set_option maxRecDepth 100000 in
set_option maxHeartbeats 1000000 in
theorem dcut_any (neg : Bool) (D : List Nat) (A : Option Addr) (c n : Nat) (w : World) (hA : DigsAt w A D) (hD : Dg D) (hc : D.length ≤ c) (hnil : A = none → c = 0) (hl : D.length ≤ 40000) (hn1 : 1 ≤ n) (hn : n ≤ D.length) :
    Calls Tryz.prog 41 #[.bool neg, .slice A D.length c, .int .i64 n, .string ⟨#[101, 118, 101, 110]⟩] w (SomeD (D.length + 1) w) := by
  obtain ⟨a, rfl, hab, hcell⟩ := hA (by omega)
  obtain ⟨k, hk⟩ : ∃ k, D.length = k + n := ⟨D.length - n, by omega⟩
  have hS := take_digs hA k
  have hO := drop_digs hA k
  have hSl : (D.take k).length = k := by rw [List.length_take]; omega
  have hOl : (D.drop k).length = n := by rw [List.length_drop]; omega
  have hSd : Dg (D.take k) := fun d hd => hD d (List.mem_of_mem_take hd)
  have hOd : Dg (D.drop k) := fun d hd => hD d (List.mem_of_mem_drop hd)
  generalize D.take k = St at hS hSl hSd
  generalize D.drop k = Of at hO hOl hOd
  have hxx : ((k + n : Nat) : Int) - n = (k : Int) := by omega
  have hx0 : (0 : Int) ≤ ((k + n : Nat) : Int) - n := by omega
  have hx1 : ((k + n : Nat) : Int) - n ≤ ((k + n : Nat) : Int) := by omega
  have hx2 : ¬ ((k + n : Nat) : Int) < (n : Int) := by omega
  rw [hk] at hc ⊢
  have hx3 : ((k + n : Nat) : Int) ≤ (c : Int) := by omega
  go_enter Tryz.func41, Tryz.ntmps41
  clear hA hcell hD
  go_wp2_with fail
  go_quiet (fail)
  obtain ⟨i0, hi0, hz0, hz1, hz2⟩ := info_parts info3
  have hbw : Below w.heap.size w (w.drewN nq) := below_drewN (Below.refl _ _) nq
  have hS1 := Lib.hid (hS.mono hbw)
  have hO1 := Lib.hid (hO.mono hbw)
  generalize w.drewN nq = w1 at hbw hS1 hO1 ⊢
  have hsz1 := hbw.size
  clear hS hO
  have hal : Below w1.heap.size w1 (w1.alloc (.cells #[.int .i64 5] 3)) := (Below.refl _ _).alloc (Nat.le_refl _) _
  have hown : (w1.alloc (.cells #[.int .i64 5] 3)).ownsRow w1.heap.size 3 1 (.slice (some ⟨w1.heap.size, 0, none⟩) 1 1) 1 (ilist [5]) :=
    ⟨rfl, .inr ⟨w1.heap.size, 1, #[.int .i64 5], rfl, Nat.le_refl _, Go.Deep.blk_alloc_new _ _, Nat.le_refl _, by decide, rfl, rfl⟩⟩
  have hmx : max (0 : Int) ((n : Int) - 1) = ((n - 1 : Nat) : Int) := by omega
  have hO2 := Lib.hid (hO1.out.mono hal)
  go_wp2_with (at_builtin; obtain ⟨v2, w2, hr2, hown2, hgr2⟩ := run_append_zeros (P := Tryz.prog) (w1.alloc (.cells #[.int .i64 5] 3)) w1.heap.size 39 3 39 3 i0 (.int .i64 0) .i64 8 und31 und3 hi0 hz0 hz1 hz2 (by rfl) (by rfl) _ 1 _ hown (n - 1) (by unfold maxLen; omega) (by omega) (by simp); refine Lib.wpList_append_run _ (by rfl) _ _ 39 3 (by rfl) _ _ (by rfl) (by rw [← hmx]; rfl) _ _ hr2 ?_)
  have hb2 : Below w1.heap.size w1 w2 := hal.grown hgr2 (by simp) (fun k hk => own_ge hown hk)
  have hown3 : w2.ownsRow w1.heap.size 3 1 v2 (1 + (n - 1)) (ilist (5 :: List.replicate (n - 1) 0)) := by
    rw [show (5 :: List.replicate (n - 1) 0) = [5] ++ List.replicate (n - 1) 0 from rfl, ilist_append, ilist_zeros]
    exact hown2
  obtain ⟨C, cc, rfl, hcc, hC⟩ := own_digs hown3
  have hX := dcmp_any Of (5 :: List.replicate (n - 1) 0) (some (a.add k)) C (c - k) cc w2 (hO1.out.mono hb2) hC hOd (by
    intro d hd
    rcases List.mem_cons.1 hd with rfl | hd
    · decide
    · rw [List.eq_of_mem_replicate hd]; decide) (by omega) hcc (by omega) (by simp; omega)
  rw [hOl] at hX
  have hO3 := Lib.hid (hO1.out.mono hb2)
  have hS3 := Lib.hid (hS1.out.mono hb2)
  have hB3 := hbw.trans (hb2.mono hbw.size)
  refine hX.mono ?_
  rintro e w3 ⟨q, rfl, rfl⟩
  generalize sgn ((nv Of : Int) - nv (5 :: List.replicate (n - 1) 0)) = hf
  have hbq : Below w2.heap.size w2 (w2.drewN q) := below_drewN (Below.refl _ _) q
  have hO4 := Lib.hid (hO3.out.mono hbq)
  have hS4 := Lib.hid (hS3.out.mono hbq)
  have hB4 := hB3.trans (hbq.mono hB3.size)
  generalize w2.drewN q = w4 at hbq hO4 hS4 hB4 ⊢
  clear hX hO2 hO3 hS3 hO1 hS1 hown hown2 hown3 hC hgr2 hb2 hal hB3 hbq
  go_upto_if 45 with fail
  go_cut [12] from 46 to 51 (fun s wx => (∃ z : Int, s = .int .i64 z) ∧ wx = w4)
  case first =>
    by_cases hk0 : k = 0
    · subst hk0
      go_wp2
      go_meet
      case rel => exact ⟨⟨_, rfl⟩, rfl⟩
    · have hk1 : 0 < (k : Int) := by omega
      obtain ⟨a', e, _, hcell⟩ := hS4.out (by omega)
      injection e with e
      subst e
      have hj := hcell (k - 1) (by omega)
      have hix : (k : Int) - 1 = ((k - 1 : Nat) : Int) := by omega
      have hix0 : (0 : Int) ≤ (k : Int) - 1 := by omega
      generalize St[k - 1] = x at hj
      clear hcell
      go_wp2
      go_meet
      case rel => exact ⟨⟨_, rfl⟩, rfl⟩
  case rest =>
    obtain ⟨⟨last, rfl⟩, rfl⟩ := hcut
    have hX := trim_any Of (some (a.add k)) (c - k) wc hO4.out (by omega) (by omega)
    rw [hOl] at hX
    have hn0 : (0 : Int) < (n : Int) := by omega
    go_wp2_with fail
    refine hX.mono ?_
    rintro e w5 ⟨A5, c5, rfl, hc5, hA5, hN5, rfl⟩
    clear hX hN5 hA5
    generalize (trimD Of).length = tl at hc5 ⊢
    go_wp2_with fail
    refine (up_any _ _ _ _ _).mono ?_
    rintro e w5 ⟨b, rfl, rfl⟩
    cases b with
    | true =>
      have hal : Below wc.heap.size wc (wc.alloc (.cells #[.int .i64 1] 3)) := (Below.refl _ _).alloc (Nat.le_refl _) _
      have hX := dadd_any St [1] (some a) (some ⟨wc.heap.size, 0, none⟩) c 1 _ (hS4.out.mono hal) (digs_one wc 1) hSd (by intro d hd; rw [List.mem_singleton.1 hd]; decide) (by omega) (by decide) (by omega) (by decide)
      rw [hSl] at hX
      go_wp2_with fail
      refine hX.mono ?_
      rintro e w6 ⟨E, hE1, hE2, hE3, A6, c6, rfl, hE4, hE5, hE6, hE7⟩
      clear hX
      go_wp2
      go_ret
      exact ⟨E, hE1, hE2, by simp at hE3; omega, A6, c6, rfl, hE4, hE5, hE6, hB4.trans ((hal.trans (hE7.mono hal.size)).mono hB4.size)⟩
    | false =>
      have hal : Below wc.heap.size wc (wc.alloc (.cells #[] 3)) := (Below.refl _ _).alloc (Nat.le_refl _) _
      have hown : (wc.alloc (.cells #[] 3)).ownsRow wc.heap.size 3 1 (.slice (some ⟨wc.heap.size, 0, none⟩) 0 0) 0 [] := World.ownsRow_made wc #[] 0 (Nat.le_refl _) (by decide) (by rfl)
      have hSA := hS4.out.mono hal
      go_wp2_with (at_builtin; refine wpl_digs (by rfl) _ _ (by rfl) wc.heap.size _ 0 [] (by rfl) hown (some a) St c (by rw [hSl]; rfl) hSA (fun h => by cases h) (by omega) (by simp) ?_; rintro v1 w6 hown1 hgr1)
      have hb6 := hal.grown hgr1 (by simp) (fun k hk => by have hk' : some wc.heap.size = some k := hk; injection hk' with hk'; omega)
      obtain ⟨A6, c6, rfl, hc6, hA6⟩ := own_digs (D := St) (by simpa using hown1)
      have hnil6 := own_nil hown1
      refine (trim_any St A6 c6 w6 hA6 hc6 (by omega)).mono ?_
      rintro e w7 ⟨A7, c7, rfl, hc7, hA7, hN7, rfl⟩
      clear hown hown1 hgr1 hA6
      go_wp2
      go_ret
      exact ⟨trimD St, trim_dg hSd, trim_trim St, Nat.le_trans (List.dropWhile_sublist _).length_le (by omega), A7, c7, rfl, hc7, hA7, hN7 (fun e => hnil6 _ _ (by rw [e])), hB4.trans (hb6.mono hB4.size)⟩
end Go.Proofs.Nw
namespace Go.Proofs.Nw
open Go.RowKit Go.Lib
def isDig (c : UInt8) : Bool := decide (48 ≤ c.toNat) && decide (c.toNat ≤ 57)
/-- how the reference reads a number's text behind its sign -/
def scan : List UInt8 → List UInt8 → Nat → Bool → Option (List UInt8 × Nat × Bool)
  | [], D, b, p => some (D, b, p)
  | c :: r, D, b, p => if c = 46 ∧ p = false then scan r D b true else if isDig c = true then scan r (D ++ [c]) (if p then b + 1 else b) p else none
theorem digB_cons (c : UInt8) (r : List UInt8) : digB (c :: r) = (isDig c && digB r) := rfl
theorem scan_t : ∀ (r D : List UInt8) (b : Nat), scan r D b true = if digB r = true then some (D ++ r, b + r.length, true) else none
  | [], D, b => by simp [scan, digB]
  | c :: r, D, b => by
    unfold scan
    rw [if_neg (by simp), digB_cons]
    by_cases h : isDig c = true
    · rw [if_pos h, h, Bool.true_and, scan_t r]
      simp only [if_true, List.append_assoc, List.singleton_append, List.length_cons]
      rw [show b + 1 + r.length = b + (r.length + 1) by omega]
    · rw [if_neg h]
      simp [h]
theorem cut_cons (c : UInt8) (r : List UInt8) : Lib.cut (c :: r) [46] = if c = 46 then ([], r, true) else (c :: (Lib.cut r [46]).1, (Lib.cut r [46]).2.1, (Lib.cut r [46]).2.2) := by
  unfold Lib.cut
  rw [index_one, index_one]
  have hdef : indexByte (c :: r) 46 = if (c == 46) = true then 0 else if (indexByte r 46 == -1) = true then -1 else indexByte r 46 + 1 := rfl
  rw [hdef]
  by_cases hc : c = 46
  · subst hc
    simp
  · have hc' : (c == 46) = false := by simpa using hc
    rw [hc', if_neg hc]
    simp only [Bool.false_eq_true, if_false]
    by_cases hi : indexByte r 46 = -1
    · rw [hi]
      simp
    · have hge := indexByte_ge r 46
      have hi' : (indexByte r 46 == -1) = false := by simpa using hi
      rw [hi']
      simp only [Bool.false_eq_true, if_false]
      rw [if_pos (by omega), if_pos (by omega)]
      have ht : (indexByte r 46 + 1).toNat = (indexByte r 46).toNat + 1 := by omega
      rw [ht]
      simp [Nat.add_right_comm]
theorem digB_append (a b : List UInt8) : digB (a ++ b) = (digB a && digB b) := by simp [digB]
theorem scan_f : ∀ (r D : List UInt8), scan r D 0 false = if digB ((Lib.cut r [46]).1 ++ (Lib.cut r [46]).2.1) = true then some (D ++ ((Lib.cut r [46]).1 ++ (Lib.cut r [46]).2.1), (Lib.cut r [46]).2.1.length, (Lib.cut r [46]).2.2) else none
  | [], D => by
    have : Lib.cut [] [46] = ([], [], false) := rfl
    rw [this]
    simp [scan, digB]
  | c :: r, D => by
    unfold scan
    rw [cut_cons]
    by_cases hc : c = 46
    · rw [if_pos ⟨hc, rfl⟩, if_pos hc, scan_t]
      simp
    · rw [if_neg (fun h => hc h.1), if_neg hc]
      simp only [List.cons_append]
      rw [digB_cons]
      by_cases h : isDig c = true
      · rw [if_pos h, h, Bool.true_and, if_neg (by simp), scan_f r]
        simp
      · rw [if_neg h]
        simp [h]
def dvals (D : List UInt8) : List Nat := D.map fun c => c.toNat - 48
theorem dvals_nv (D : List UInt8) : nv (dvals D) = dv D := by unfold nv dvals dv; rw [List.foldl_map]
theorem dvals_dg {D : List UInt8} (h : Dig D) : Dg (dvals D) := fun d hd => by
  obtain ⟨c, hc, rfl⟩ := List.mem_map.1 hd
  have := h c hc
  omega
theorem scan_rest {l D : List UInt8} {b : Nat} {p : Bool} (h : scan (restOf l) [] 0 false = some (D, b, p)) : D = wholeOf l ++ fracOf l ∧ b = (fracOf l).length ∧ Dig D := by
  rw [scan_f] at h
  split at h
  · rename_i hd
    injection h with h
    injection h with h1 h2
    injection h2 with h2 h3
    rw [List.nil_append] at h1
    refine ⟨h1.symm, h2.symm, ?_⟩
    rw [← h1]
    exact (digB_iff _).1 hd
  · cases h
theorem scan_none {l : List UInt8} (h : scan (restOf l) [] 0 false = none) : badT l = true := by
  rw [scan_f] at h
  split at h
  · cases h
  · rename_i hd
    unfold badT badB wholeOf fracOf
    simp at hd ⊢
    right
    exact hd
theorem nv_zeros (n : Nat) : nv (List.replicate n 0) = 0 := by
  induction n with
  | zero => rfl
  | succ n ih => rw [List.replicate_succ, nv_cons, ih]; omega
end Go.Proofs.Nw
