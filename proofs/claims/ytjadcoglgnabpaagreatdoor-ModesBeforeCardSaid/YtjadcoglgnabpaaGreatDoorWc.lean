import Derived.Test.YtjadcoglgnabpaaGreatDoorWb
import Derived.Deep.CutRange
import Derived.Deep.DeepCutAuto
import Derived.Deep.DrawnRows
import Derived.Laws.RangeString
import Derived.Laws.RangeAny
import Derived.BigQuiet
set_option linter.all false
set_option linter.unusedVariables false
set_option maxHeartbeats 2000000
set_option exponentiation.threshold 5000
namespace Go.Proofs.Nw
open Go.RowKit Go.Lib
attribute [local go_sem ↓] Go.wp_at_zero Go.wp_at_succ
/-- a number's text behind its sign -/
def negOf (s : List UInt8) : Bool := hasPrefix s [45]
def restOf (s : List UInt8) : List UInt8 := if negOf s then trimPrefix s [45] else trimPrefix s [43]
def wholeOf (s : List UInt8) : List UInt8 := (Lib.cut (restOf s) [46]).1
def fracOf (s : List UInt8) : List UInt8 := (Lib.cut (restOf s) [46]).2.1
def isNoDigit (c : Nat) : Bool := decide (c < 48) || decide (57 < c)
theorem noDigit_any (W : World) (c : Nat) : Calls Tryz.prog 54 #[.int .i32 (c : Nat)] W fun e w' => e = .returned (.bool (isNoDigit c)) ∧ W = w' := by
  go_enter Tryz.func54, Tryz.ntmps54
  by_cases h : c < 48
  · have h' : ((c : Int) < 48) := by omega
    go_wp2
    go_ret
    simp [isNoDigit, h]
  · have h' : ¬ ((c : Int) < 48) := by omega
    go_wp2
    go_ret
    refine ⟨?_, rfl⟩
    show Ending.returned (.bool (decide ((57 : Int) < (c : Int)))) = _
    rw [isNoDigit, decide_eq_false h, Bool.false_or]
    by_cases h2 : 57 < c
    · rw [decide_eq_true h2, decide_eq_true (by omega)]
    · rw [decide_eq_false h2, decide_eq_false (by omega)]
theorem idxFrom_dig (s : ByteArray) : ∀ (f pos : Nat), s.size ≤ f + pos → (idxFuncFrom isNoDigit true s f pos < 0 ↔ ∀ (j : Nat) (h : j < s.size), pos ≤ j → 48 ≤ (s[j]'h).toNat ∧ (s[j]'h).toNat ≤ 57)
  | 0, pos, hf => by
    constructor
    · intro _ j h hj; omega
    · intro _; show (-1 : Int) < 0; decide
  | f + 1, pos, hf => by
    unfold idxFuncFrom
    by_cases hp : pos < s.size
    · rw [if_pos hp]
      by_cases ha : (s[pos]'hp).toNat < 128
      · rw [decode_ascii s pos hp ha]
        simp only
        by_cases hd : isNoDigit (s[pos]'hp).toNat = true
        · rw [if_pos hd]
          constructor
          · intro h; omega
          · intro h
            have := h pos hp (Nat.le_refl _)
            simp [isNoDigit] at hd
            omega
        · rw [if_neg hd, idxFrom_dig s f (pos + 1) (by omega)]
          simp [isNoDigit] at hd
          constructor
          · intro h j hj hpj
            rcases Nat.eq_or_lt_of_le hpj with rfl | hlt
            · exact hd
            · exact h j hj hlt
          · intro h j hj hpj
            exact h j hj (by omega)
      · obtain ⟨h1, _⟩ := decode_high s pos hp (by omega)
        rw [if_pos (by simp [isNoDigit]; omega)]
        constructor
        · intro h; omega
        · intro h
          have := h pos hp (Nat.le_refl _)
          omega
    · rw [if_neg hp]
      constructor
      · intro _ j h hj; omega
      · intro _; decide
theorem idx_dig (l : List UInt8) : idxFunc isNoDigit true ⟨l.toArray⟩ < 0 ↔ Dig l := by
  unfold idxFunc
  rw [idxFrom_dig _ _ 0 (by omega)]
  constructor
  · intro h c hc
    obtain ⟨j, hj, rfl⟩ := List.mem_iff_getElem.1 hc
    have := h j (by simpa [ByteArray.size] using hj) (by omega)
    simpa [ByteArray.getElem_eq_getElem_data] using this
  · intro h j hj _
    have hj' : j < l.length := by simpa [ByteArray.size] using hj
    have := h l[j] (List.getElem_mem hj')
    simpa [ByteArray.getElem_eq_getElem_data] using this
theorem trim_neg (l : List UInt8) : (trimPrefix l [45] = l) ↔ negOf l = false := by
  unfold trimPrefix negOf
  constructor
  · intro h
    by_cases hp : hasPrefix l [45] = true
    · rw [if_pos hp] at h
      have hl := congrArg List.length h
      rw [List.length_drop] at hl
      cases l with
      | nil => simp [hasPrefix] at hp
      | cons a l => simp at hl
    · simpa using hp
  · intro h
    rw [h]
    rfl
theorem cut_len (s : List UInt8) : (Lib.cut s [46]).1.length ≤ s.length ∧ (Lib.cut s [46]).2.1.length ≤ s.length := by
  unfold Lib.cut
  split
  · exact ⟨List.length_take_le' _ _, by simp only [List.length_drop]; omega⟩
  · exact ⟨Nat.le_refl _, by simp⟩
def digB (l : List UInt8) : Bool := l.all fun c => decide (48 ≤ c.toNat) && decide (c.toNat ≤ 57)
theorem digB_iff (l : List UInt8) : digB l = true ↔ Dig l := by simp [digB, Dig]
def badB (l : List UInt8) : Bool := l.isEmpty || !digB l
theorem pred_at (w : World) : PredAt Tryz.prog 54 #[] encR isNoDigit w := fun W x _ => (noDigit_any W x).mono fun e w' h => by
  obtain ⟨rfl, rfl⟩ := h
  exact ⟨rfl, 0, rfl⟩
theorem ba_empty (G : List UInt8) : (⟨G.toArray⟩ : ByteArray).toList.isEmpty = G.isEmpty := by
  have : (⟨G.toArray⟩ : ByteArray).toList = G := by simp
  rw [this]
theorem idx_dig' (l : List UInt8) : decide (0 ≤ idxFunc isNoDigit true ⟨l.toArray⟩) = !digB l := by
  cases h : digB l with
  | true =>
    have := (idx_dig l).2 ((digB_iff l).1 h)
    exact decide_eq_false (by omega)
  | false =>
    have : ¬ Dig l := fun hd => by rw [(digB_iff l).2 hd] at h; cases h
    exact decide_eq_true (by have := mt (idx_dig l).1 this; omega)
theorem words_struct {w : World} {P : Option Addr} {n L H : Nat} {cs : Array Value} {t : TypeId} {fr : Nat × Nat} (h : WordsAt w P n L) (hH : w.heap[H]? = some (.cells cs t fr)) (hno : ∀ (k : Nat) (x : Int), cs[k]? ≠ some (.int .u64 x)) (i : Nat) (v : Value) : WordsAt (w.setCell ⟨H, i, none⟩ v) P n L := fun h0 => by
  obtain ⟨a, rfl, hb, hc⟩ := h h0
  refine words_set h (fun a' e => ?_) v h0
  injection e with e
  subst e
  intro e
  have h1 := hc 0 h0
  have ha : a.add 0 = a := by simp [Addr.add]
  rw [ha] at h1
  unfold World.cell? at h1
  rw [← e, hH] at h1
  simp only at h1
  split at h1
  · cases h1
  · exact hno _ _ h1
theorem no_u64 (b : Bool) (A : Option Addr) (L c : Nat) (k : Nat) (x : Int) : (#[Value.bool b, Value.slice A L c] : Array Value)[k]? ≠ some (.int .u64 x) := by
  intro h
  rcases k with _ | _ | k
  · cases h
  · cases h
  · simp at h
theorem cell_lt {w : World} {a : Addr} {v : Value} (h : w.cell? a = some v) : a.block < w.heap.size := by
  unfold World.cell? at h
  cases hg : w.heap[a.block]? with
  | none => rw [hg] at h; cases h
  | some o => exact (Array.getElem?_eq_some_iff.1 hg).1
theorem trim_le (s p : List UInt8) : (trimPrefix s p).length ≤ s.length := by
  unfold trimPrefix
  split
  · rw [List.length_drop]; omega
  · exact Nat.le_refl _
theorem rest_len (l : List UInt8) : (restOf l).length ≤ l.length := by
  unfold restOf
  split <;> exact trim_le _ _
theorem pow_lt {K : Nat} (hk : K ≤ 20) : 10 ^ K < Bs ^ 3 := Nat.lt_of_le_of_lt (Nat.pow_le_pow_right (by decide) hk) (by decide +kernel)
theorem pow_lt200 {K : Nat} (hk : K ≤ 200) : 10 ^ K < Bs ^ 201 := Nat.lt_of_le_of_lt (Nat.pow_le_pow_left (show 10 ≤ Bs by decide) K) (Nat.pow_lt_pow_right (by decide) (by omega))
theorem mul_lt {a b L : Nat} (ha : a < Bs ^ L) (hL : L ≤ 400) (hb : b < Bs ^ 3) : a * b < Bs ^ 403 := by
  have h1 : a * b < Bs ^ 400 * Bs ^ 3 := Nat.mul_lt_mul'' (Nat.lt_of_lt_of_le ha (Nat.pow_le_pow_right Bs_pos hL)) hb
  rwa [← Nat.pow_add] at h1
def badT (l : List UInt8) : Bool := badB (wholeOf l ++ fracOf l)
def pnum (l : List UInt8) : Nat := dv (wholeOf l ++ fracOf l) * 10 ^ (20 - (fracOf l).length)
/-- what parse reads in a text with at most 20 digits behind the point -/
def pspec (l : List UInt8) : Option (Bool × Nat) := if 200 < l.length ∨ badT l = true ∨ 10 ^ 50 ≤ pnum l then none else some (negOf l && decide (pnum l ≠ 0), pnum l)
def ParseE (l : List UInt8) (e : Ending) : Prop := ∃ code, e = .returned (.tuple #[.agg #[.bool false, .slice none 0 0], .int .i64 code]) ∧ code ≠ 0 ∧ ((fracOf l).length ≤ 20 → pspec l = none)
def ParseN (l : List UInt8) (w : World) (e : Ending) : Prop := ∃ neg n L A c, e = .returned (.tuple #[.agg #[.bool neg, .slice A L c], .int .i64 0]) ∧ WordsAt w A n L ∧ Len n L ∧ L ≤ c ∧ (A = none → L = 0 ∧ c = 0) ∧ L ≤ 2000 ∧ n < 10 ^ 50 ∧ (neg = true → n ≠ 0) ∧ l.length ≤ 200 ∧ badT l = false ∧ ((fracOf l).length ≤ 20 → pspec l = some (neg, n))
def ParseQ (l : List UInt8) (w : World) (e : Ending) (w' : World) : Prop := Below w.heap.size w w' ∧ (ParseE l e ∨ ParseN l w' e)
set_option maxRecDepth 100000 in
set_option maxHeartbeats 1000000 in
theorem parse_any (l : List UInt8) (m : Int) (w : World) (hm : w.cell? ⟨0, 0, none⟩ = some (.int .i64 m)) (hl : l.length ≤ 100000) :
    Calls Tryz.prog 32 #[.string ⟨l.toArray⟩] w (ParseQ l w) := by
  have hsz : (⟨l.toArray⟩ : ByteArray).size = l.length := by simp [ByteArray.size]
  go_enter Tryz.func32, Tryz.ntmps32
  generalize hS : (⟨l.toArray⟩ : ByteArray) = S at hsz ⊢
  have hSd := Lib.hid (show S.data.toList = l by rw [← hS])
  by_cases hlen : 200 < S.size
  · have : (200 : Int) < (S.size : Int) := by omega
    go_wp2
    refine bodyPost_ret (results_num rfl _ _ w.heap.size 116 _ (0, 0) (by rfl) (Go.Deep.blk_alloc_new _ _) (by simp)) rfl ⟨(Below.refl _ _).alloc (Nat.le_refl _) _, .inl ⟨2, rfl, by decide, fun _ => ?_⟩⟩
    exact if_pos (.inl (by omega))
  · have : ¬ (200 : Int) < (S.size : Int) := by omega
    have hq : (trimPrefix S.data.toList [45] == S.toList) = !negOf l := by
      have : S.toList = l := by rw [← hS]; simp
      rw [this, hSd.out]
      cases h : negOf l with
      | false => simpa using (trim_neg l).2 h
      | true =>
        have : trimPrefix l [45] ≠ l := fun e => by rw [(trim_neg l).1 e] at h; cases h
        simpa using this
    go_upto_if 22 with (first | (go_at_call 51; refine (Tryz.strings_TrimPrefix _ _ _).mono ?_; rintro e w1 ⟨rfl, rfl⟩))
    go_cut [4] from 10 to 24 (fun s4 wc => s4 = .string ⟨(restOf l).toArray⟩ ∧ wc = w.alloc (.cells #[.bool (negOf l), .slice none 0 0] 116))
    case first =>
      cases hn : negOf l with
      | true =>
        go_wp2
        go_meet
        case rel => exact ⟨by rw [hSd.out]; simp [restOf, hn], by rw [hn]⟩
      | false =>
        go_wp2_with (first | (go_at_call 51; refine (Tryz.strings_TrimPrefix _ _ _).mono ?_; rintro e w1 ⟨rfl, rfl⟩))
        go_meet
        case rel => exact ⟨by rw [hSd.out]; simp [restOf, hn], by rw [hn]⟩
    case rest =>
      obtain ⟨rfl, rfl⟩ := hcut
      clear hq
      have hmw : ((w.alloc (.cells #[.bool (negOf l), .slice none 0 0] 116))).cell? ⟨0, 0, none⟩ = some (.int .i64 m) := by
        rw [World.cell?_alloc_lt _ _ _ (cell_lt hm)]
        exact hm
      have hrl : (restOf l).length ≤ 200 := Nat.le_trans (rest_len l) (by omega)
      have hcl := cut_len (restOf l)
      go_upto_region 9 with (first | (go_at_call 52; refine (Tryz.strings_Cut _ _ m _ ?_ ?_).mono ?_; (simp [ByteArray.size]; omega); exact hmw; rintro e w1 ⟨rfl, nq, rfl⟩))
      generalize hwd : w.alloc (.cells #[.bool (negOf l), .slice none 0 0] 116) = wd0 at hmw ⊢
      have hwd1 := Lib.hid hwd
      clear hwd
      generalize hWh : (Lib.cut (restOf l) [46]).1 = Wh at hcl ⊢
      generalize hFr : (Lib.cut (restOf l) [46]).2.1 = Fr at hcl ⊢
      have hWh' := Lib.hid (show wholeOf l = Wh from hWh)
      have hFr' := Lib.hid (show fracOf l = Fr from hFr)
      clear hWh hFr
      rw [ba_app]
      go_cut [40] from 34 to 40 (fun s40 wc => s40 = .bool (badB (Wh ++ Fr)) ∧ Below wd0.heap.size wd0 wc)
      case first =>
        have hE := ba_empty (Wh ++ Fr)
        cases hAe : (Wh ++ Fr).isEmpty with
        | true =>
          rw [hAe] at hE
          go_wp2
          go_meet
          case rel => exact ⟨by simp [badB, hAe], below_drewN (Below.refl _ _) _⟩
        | false =>
          rw [hAe] at hE
          go_wp2_with (first | (go_at_call 53; refine (Tryz.strings_IndexFunc 54 #[] (fun args w => by rfl) isNoDigit _ _ (pred_at _)).mono ?_; rintro e w1 ⟨rfl, hb1⟩))
          go_meet
          case rel => exact ⟨by rw [idx_dig']; simp [badB, hAe], (below_drewN (Below.refl _ _) _).trans hb1⟩
      case rest =>
        obtain ⟨rfl, hbc⟩ := hcut
        have hBw : Below w.heap.size w wc := by
          rw [← hwd1.out] at hbc
          exact ((Below.refl _ _).alloc (Nat.le_refl _) _).trans (hbc.mono (by simp))
        have hH : wc.heap[w.heap.size]? = some (.cells #[.bool (negOf l), .slice none 0 0] 116) := by
          rw [← hwd1.out] at hbc
          rw [hbc.block _ (by simp)]
          exact Go.Deep.blk_alloc_new _ _
        have hHs : w.heap.size < wc.heap.size := (Array.getElem?_eq_some_iff.1 hH).1
        clear hbc hmw
        have c00 : wc.cell? ⟨w.heap.size, 0, none⟩ = some (.bool (negOf l)) := by simp [World.cell?, hH]
        have c01 : wc.cell? ⟨w.heap.size, 1, none⟩ = some (.slice none 0 0) := by simp [World.cell?, hH]
        have f0 : ∀ j, wc.frozen? ⟨w.heap.size, j, none⟩ = false := fun j => by simp [World.frozen?, hH]
        cases hbad : badB (Wh ++ Fr) with
        | true =>
          go_wp2
          refine bodyPost_ret (results_num rfl _ _ w.heap.size 116 _ (0, 0) (by rfl) (set_heap (set_heap hH 0 _) 1 _) (by simp)) rfl ⟨(hBw.setCell (p := ⟨w.heap.size, 0, none⟩) (Nat.le_refl _) _).setCell (p := ⟨w.heap.size, 1, none⟩) (Nat.le_refl _) _, .inl ⟨5, rfl, by decide, fun _ => ?_⟩⟩
          exact if_pos (.inr (.inl (by unfold badT; rw [hWh'.out, hFr'.out]; exact hbad)))
        | false =>
          have hdg := Lib.hid (show Dig (Wh ++ Fr) from (digB_iff _).1 (by simp [badB] at hbad; exact hbad.2))
          go_upto_if 49 with (first | (go_at_call 55; refine (from_any _ _ hdg.out ?_).mono ?_; (simp [ByteArray.size]; omega); rintro e w1 ⟨L1, A1, c1, rfl, hp1, hp2, hp3, hp4, hb1⟩; have c10 := (hb1.cell (p := ⟨w.heap.size, 0, none⟩) hHs).trans c00; have c11 := (hb1.cell (p := ⟨w.heap.size, 1, none⟩) hHs).trans c01; have f11 := (hb1.frozen (p := ⟨w.heap.size, 1, none⟩) hHs).trans (f0 1)))
          have hH1 : (w1.setCell ⟨w.heap.size, 1, none⟩ (.slice A1 L1 c1)).heap[w.heap.size]? = some (.cells #[.bool (negOf l), .slice A1 L1 c1] 116) := set_heap ((hb1.block _ hHs).trans hH) 1 _
          have hW1 : WordsAt (w1.setCell ⟨w.heap.size, 1, none⟩ (.slice A1 L1 c1)) A1 (dv (Wh ++ Fr)) L1 := words_struct hp3 ((hb1.block _ hHs).trans hH) (no_u64 _ _ _ _) 1 _
          have hB1 : Below w.heap.size w (w1.setCell ⟨w.heap.size, 1, none⟩ (.slice A1 L1 c1)) := (hBw.trans (hb1.mono hBw.size)).setCell (p := ⟨w.heap.size, 1, none⟩) (Nat.le_refl _) _
          clear hp3 c10 c11 f11 c00 c01 f0
          generalize w1.setCell ⟨w.heap.size, 1, none⟩ (.slice A1 L1 c1) = w2 at hH1 hW1 hB1 ⊢
          have hdlt := dv_lt hdg.out
          have hAl : (Wh ++ Fr).length ≤ 400 := by rw [List.length_append]; omega
          have hL1 : L1 ≤ 400 := hp1.le (Nat.lt_of_lt_of_le hdlt (Nat.le_trans (Nat.pow_le_pow_right (by decide) hAl) (Nat.pow_le_pow_left (by decide) 400)))
          have hdl' := Lib.hid hdlt
          clear hdlt
          have hpn := Lib.hid (show pnum l = dv (Wh ++ Fr) * 10 ^ (20 - Fr.length) by unfold pnum; rw [hWh'.out, hFr'.out])
          have hbt := Lib.hid (show badT l = false by unfold badT; rw [hWh'.out, hFr'.out]; exact hbad)
          have hHs2 : w.heap.size < w2.heap.size := (Array.getElem?_eq_some_iff.1 hH1).1
          have c00 : w2.cell? ⟨w.heap.size, 0, none⟩ = some (.bool (negOf l)) := by simp [World.cell?, hH1]
          have c01 : w2.cell? ⟨w.heap.size, 1, none⟩ = some (.slice A1 L1 c1) := by simp [World.cell?, hH1]
          have f01 : w2.frozen? ⟨w.heap.size, 1, none⟩ = false := by simp [World.frozen?, hH1]
          go_cut [9] from 42 to 65 (fun _ wx => ∃ n L A c, wx.heap[w.heap.size]? = some (.cells #[.bool (negOf l), .slice A L c] 116) ∧ WordsAt wx A n L ∧ Len n L ∧ L ≤ c ∧ (A = none → L = 0 ∧ c = 0) ∧ L ≤ 2000 ∧ (Fr.length ≤ 20 → n = pnum l) ∧ Below w.heap.size w wx)
          case first =>
            by_cases hk : Fr.length ≤ 20
            · have hk0 : (0 : Int) ≤ 20 - (Fr.length : Int) := by omega
              rw [show (20 - (Fr.length : Int)) = ((20 - Fr.length : Nat) : Int) by omega]
              have hk1 : (0 : Int) ≤ ((20 - Fr.length : Nat) : Int) := by omega
              have hk2 : 20 - Fr.length ≤ 20 := by omega
              generalize 20 - Fr.length = K at hk1 hk2 hpn ⊢
              go_wp2_with fail
              go_region_with (first | (go_at_call 57; refine (pow10_any K _ (by omega)).mono ?_; rintro e w3 ⟨L2, A2, c2, rfl, hq1, hq2, hq3, hq4, hb2⟩; have hz3 := Nat.lt_of_lt_of_le hHs2 hb2.size; have c31 := (hb2.cell hHs2).trans c01; have f31 := (hb2.frozen hHs2).trans f01) | (go_at_call 56; refine (times_any (dv (Wh ++ Fr)) (10 ^ K) L1 L2 A1 A2 c1 c2 _ ((hW1.mono (Below.refl _ _).drew).mono hb2) hq3 hp1.1 hq1.1 (by omega) (Nat.le_trans (hq1.le (k := 3) (pow_lt hk2)) (by decide)) hp2 hq2).mono ?_; rintro e w4 ⟨L3, A3, c3, rfl, hr1, hr2, hr3, hr4, hb3⟩; have c41 := (hb3.cell hz3).trans c31; have f41 := (hb3.frozen hz3).trans f31))
              all_goals (go_wp2_with fail; go_meet; case rel => exact (
                have hb4 : Below w2.heap.size w2 w4 := (Below.refl _ w2).drew.trans (hb2.trans (hb3.mono hb2.size))
                have hH4 := (hb4.block _ hHs2).trans hH1
                ⟨_, _, _, _, set_heap hH4 1 _, words_struct hr3 hH4 (no_u64 _ _ _ _) 1 _, hr1, hr2, hr4, Nat.le_trans (hr1.le (mul_lt hp1.1 hL1 (pow_lt hk2))) (by decide), fun _ => hpn.out.symm, (hB1.trans (hb4.mono hB1.size)).setCell (p := ⟨w.heap.size, 1, none⟩) (Nat.le_refl _) _⟩))
            · have hk0 : ¬ (0 : Int) ≤ 20 - (Fr.length : Int) := by omega
              obtain ⟨K, hK⟩ : ∃ K, Fr.length = K + 20 := ⟨Fr.length - 20, by omega⟩
              rw [show (20 - (Fr.length : Int)) = -((K : Nat) : Int) by omega]
              have hk1 : ¬ (0 : Int) ≤ -((K : Nat) : Int) := by omega
              have hk2 : K ≤ 200 := by omega
              have hkw : IntKind.i64.wrap (K : Int) = (K : Int) := by rw [IntKind.wrap_i64]; omega
              go_wp2_with fail
              go_region_with (first | (go_at_call 57; refine (pow10_any K _ (by omega)).mono ?_; rintro e w3 ⟨L2, A2, c2, rfl, hq1, hq2, hq3, hq4, hb2⟩; have hz3 := Nat.lt_of_lt_of_le hHs2 hb2.size; have c30 := (hb2.cell hHs2).trans c00; have c31 := (hb2.cell hHs2).trans c01; have f31 := (hb2.frozen hHs2).trans f01) | (go_at_call 59; refine (ways_even _).mono ?_; rintro e w5 ⟨rfl, rfl⟩) | (go_at_call 58; refine (cut_any _ (dv (Wh ++ Fr)) (10 ^ K) L1 L2 A1 A2 c1 c2 _ ((hW1.mono (Below.refl _ _).drew).mono hb2) hq3 hp1.1 hq1 (Nat.pow_pos (by decide)) (by omega) (Nat.le_trans (hq1.le (pow_lt200 hk2)) (by decide)) hp2 hq2).mono ?_; rintro e w4 ⟨xq, hxq, L3, A3, c3, rfl, hr1, hr2, hr3, hr4, hb3⟩; have c41 := (hb3.cell hz3).trans c31; have f41 := (hb3.frozen hz3).trans f31))
              all_goals (go_wp2_with fail; go_meet; case rel => exact (
                have hb4 : Below w2.heap.size w2 w4 := (Below.refl _ w2).drew.trans (hb2.trans (hb3.mono hb2.size))
                have hH4 := (hb4.block _ hHs2).trans hH1
                ⟨_, _, _, _, set_heap hH4 1 _, words_struct hr3 hH4 (no_u64 _ _ _ _) 1 _, hr1, hr2, hr4, Nat.le_trans (hr1.le hxq) (by omega), fun h => absurd h hk, (hB1.trans (hb4.mono hB1.size)).setCell (p := ⟨w.heap.size, 1, none⟩) (Nat.le_refl _) _⟩))
          case rest =>
            obtain ⟨n, L, A, c, hH5, hW5, hn5, hLc, hnil5, hL5, hpl, hB5⟩ := hcut
            have hHs5 : w.heap.size < wc.heap.size := (Array.getElem?_eq_some_iff.1 hH5).1
            have d00 : wc.cell? ⟨w.heap.size, 0, none⟩ = some (.bool (negOf l)) := by simp [World.cell?, hH5]
            have d01 : wc.cell? ⟨w.heap.size, 1, none⟩ = some (.slice A L c) := by simp [World.cell?, hH5]
            have g0 : ∀ j, wc.frozen? ⟨w.heap.size, j, none⟩ = false := fun j => by simp [World.frozen?, hH5]
            have hl200 := Lib.hid (show l.length ≤ 200 by omega)
            have hW5' := Lib.hid hW5
            have hpl' := Lib.hid hpl
            clear c00 c01 f01 hW1 hW5 hpl
            by_cases hn : n < 10 ^ 50
            · go_wp2_with (first | (go_at_call 60; refine (checked_ok _ n L A c _ hW5'.out hn5 (by omega) hn).mono ?_; rintro e w6 ⟨rfl, hb6⟩; have e00 := (hb6.cell (p := ⟨w.heap.size, 0, none⟩) hHs5).trans d00; have e01 := (hb6.cell (p := ⟨w.heap.size, 1, none⟩) hHs5).trans d01; have i0 := (hb6.frozen (p := ⟨w.heap.size, 0, none⟩) hHs5).trans (g0 0); have i1 := (hb6.frozen (p := ⟨w.heap.size, 1, none⟩) hHs5).trans (g0 1)))
              have hH6 := (hb6.block _ hHs5).trans hH5
              refine bodyPost_ret (results_num rfl _ _ w.heap.size 116 _ (0, 0) (by rfl) (set_heap (set_heap hH6 0 _) 1 _) (by simp)) rfl ⟨((hB5.trans (hb6.mono hB5.size)).setCell (p := ⟨w.heap.size, 0, none⟩) (Nat.le_refl _) _).setCell (p := ⟨w.heap.size, 1, none⟩) (Nat.le_refl _) _, .inr ⟨negOf l && decide (0 < L), n, L, A, c, ?_, ?_, hn5, hLc, hnil5, hL5, hn, ?_, hl200.out, hbt.out, ?_⟩⟩
              · rfl
              · exact words_struct (cs := #[.bool (negOf l && decide (0 < L)), .slice A L c]) (words_struct (hW5'.out.mono hb6) hH6 (no_u64 _ _ _ _) 0 _) (set_heap hH6 0 _) (no_u64 _ _ _ _) 1 _
              · intro h
                have h0 : 0 < L := by simp at h; exact h.2
                have := hn5.2 h0
                have := Nat.pow_pos (n := L - 1) Bs_pos
                omega
              · intro hk
                have e := hpl'.out (by rw [← hFr'.out]; exact hk)
                subst e
                have h0 : decide (pnum l ≠ 0) = decide (0 < L) := by
                  rcases Nat.eq_zero_or_pos L with h | h
                  · rw [h] at hn5 ⊢
                    rw [hn5.eq0]
                    rfl
                  · have := hn5.2 h
                    have := Nat.pow_pos (n := L - 1) Bs_pos
                    rw [decide_eq_true h, decide_eq_true (by omega)]
                unfold pspec
                rw [if_neg (fun h => by rcases h with h | h | h; (exact absurd hl200.out (by omega)); (rw [hbt.out] at h; cases h); (omega)), h0]
            · go_wp2_with (first | (go_at_call 60; refine (checked_big _ n L A c _ hW5'.out hn5 (by omega) (Nat.le_of_not_lt hn)).mono ?_; rintro e w6 ⟨rfl, hb6⟩; have e00 := (hb6.cell (p := ⟨w.heap.size, 0, none⟩) hHs5).trans d00; have e01 := (hb6.cell (p := ⟨w.heap.size, 1, none⟩) hHs5).trans d01; have i0 := (hb6.frozen (p := ⟨w.heap.size, 0, none⟩) hHs5).trans (g0 0); have i1 := (hb6.frozen (p := ⟨w.heap.size, 1, none⟩) hHs5).trans (g0 1)))
              have hH6 := (hb6.block _ hHs5).trans hH5
              refine bodyPost_ret (results_num rfl _ _ w.heap.size 116 _ (0, 0) (by rfl) (set_heap (set_heap hH6 0 _) 1 _) (by simp)) rfl ⟨((hB5.trans (hb6.mono hB5.size)).setCell (p := ⟨w.heap.size, 0, none⟩) (Nat.le_refl _) _).setCell (p := ⟨w.heap.size, 1, none⟩) (Nat.le_refl _) _, .inl ⟨40, rfl, by decide, fun hk => ?_⟩⟩
              have e := hpl'.out (by rw [← hFr'.out]; exact hk)
              exact if_pos (.inr (.inr (by omega)))
end Go.Proofs.Nw
namespace Go.Proofs.Nw
open Go.RowKit Go.Lib
theorem dlist_succ (n K : Nat) : dlist n (K + 1) = UInt8.ofNat (48 + dgt n K) :: dlist n K := by
  unfold dlist
  rw [List.range_succ, List.map_append, List.reverse_append]
  rfl
theorem dch {n K : Nat} : (UInt8.ofNat (48 + dgt n K)).toNat = 48 + dgt n K := by
  have := dgt_lt n K
  rw [UInt8.toNat_ofNat']
  omega
theorem dlist_dig (n K : Nat) : Dig (dlist n K) := by
  induction K with
  | zero => exact fun _ h => by cases h
  | succ K ih =>
    rw [dlist_succ]
    intro c hc
    rcases List.mem_cons.1 hc with rfl | h
    · rw [dch]
      have := dgt_lt n K
      omega
    · exact ih c h
theorem dlist_dv (n K : Nat) : dv (dlist n K) = n % 10 ^ K := by
  induction K with
  | zero => rw [Nat.pow_zero, Nat.mod_one]; rfl
  | succ K ih =>
    have h : dlist n (K + 1) = [UInt8.ofNat (48 + dgt n K)] ++ dlist n K := dlist_succ n K
    rw [h, dv_append, ih, dlist_len]
    have h1 : dv [UInt8.ofNat (48 + dgt n K)] = dgt n K := by
      show 10 * 0 + ((UInt8.ofNat (48 + dgt n K)).toNat - 48) = _
      rw [dch]
      omega
    rw [h1, Nat.pow_succ, Nat.mod_mul, dgt, Nat.mul_comm (10 ^ K)]
    omega
theorem dv_zeros (k : Nat) : dv (List.replicate k 48) = 0 := by
  induction k with
  | zero => rfl
  | succ k ih =>
    rw [List.replicate_succ']
    rw [dv_snoc, ih]
    rfl
theorem trim_split (l : List UInt8) : ∃ k, l = trimRightB l 48 ++ List.replicate k 48 := by
  refine ⟨(l.reverse.takeWhile (· == 48)).length, ?_⟩
  have h : l.reverse.takeWhile (· == 48) = List.replicate (l.reverse.takeWhile (· == 48)).length 48 := by
    rw [List.eq_replicate_iff]
    refine ⟨rfl, fun b hb => ?_⟩
    have : ∀ (m : List UInt8), ∀ b ∈ m.takeWhile (· == (48 : UInt8)), (b == 48) = true := by
      intro m
      induction m with
      | nil => intro b hb; cases hb
      | cons a m ih =>
        intro b hb
        rw [List.takeWhile_cons] at hb
        split at hb
        · rename_i ha
          rcases List.mem_cons.1 hb with rfl | hb
          · exact ha
          · exact ih b hb
        · cases hb
    exact eq_of_beq (this _ b hb)
  unfold trimRightB
  have h2 : l = (l.reverse.dropWhile (· == 48)).reverse ++ (l.reverse.takeWhile (· == 48)).reverse := by
    rw [← List.reverse_append, List.takeWhile_append_dropWhile, List.reverse_reverse]
  conv => lhs; rw [h2]
  rw [h, List.reverse_replicate]
  simp
theorem trim_dig {l : List UInt8} (h : Dig l) : Dig (trimRightB l 48) := fun c hc => by
  obtain ⟨k, hk⟩ := trim_split l
  exact h c (by rw [hk]; exact List.mem_append_left _ hc)
theorem idxB_no {l : List UInt8} (h : Dig l) (m : List UInt8) : indexByte (l ++ 46 :: m) 46 = l.length := by
  induction l with
  | nil => rfl
  | cons a l ih =>
    have ha := h a List.mem_cons_self
    have hne : (a == 46) = false := by
      rw [beq_eq_false_iff_ne]
      intro e
      subst e
      exact absurd ha.1 (by decide)
    have hi := ih (fun c hc => h c (List.mem_cons_of_mem _ hc))
    show (if (a == 46) = true then (0 : Int) else if (indexByte (l ++ 46 :: m) 46 == -1) = true then -1 else indexByte (l ++ 46 :: m) 46 + 1) = _
    rw [hne, hi]
    have : (((l.length : Nat) : Int) == -1) = false := by rw [beq_eq_false_iff_ne]; omega
    rw [this]
    simp
theorem idxB_none {l : List UInt8} (h : Dig l) : indexByte l 46 = -1 := by
  induction l with
  | nil => rfl
  | cons a l ih =>
    have ha := h a List.mem_cons_self
    have hne : (a == 46) = false := by
      rw [beq_eq_false_iff_ne]
      intro e
      subst e
      exact absurd ha.1 (by decide)
    have hi := ih (fun c hc => h c (List.mem_cons_of_mem _ hc))
    show (if (a == 46) = true then (0 : Int) else if (indexByte l 46 == -1) = true then -1 else indexByte l 46 + 1) = _
    rw [hne, hi]
    rfl
theorem cut_dot {l m : List UInt8} (h : Dig l) : Lib.cut (l ++ 46 :: m) [46] = (l, m, true) := by
  unfold Lib.cut
  rw [index_one, idxB_no h]
  rw [if_pos (by omega)]
  simp
theorem cut_none {l : List UInt8} (h : Dig l) : Lib.cut l [46] = (l, [], false) := by
  unfold Lib.cut
  rw [index_one, idxB_none h]
  rfl
/-- a number's text -/
def Txt (neg : Bool) (n : Nat) (t : List UInt8) : Prop := ∃ J, 1 ≤ J ∧ n < 10 ^ (J + 20) ∧ (J = 1 ∨ 10 ^ (J + 19) ≤ n) ∧ t = tx neg (dlist n (J + 20))
theorem TxtQ.txt {neg : Bool} {n : Nat} {w w' : World} {e : Ending} (h : TxtQ neg n w e w') : ∃ t, Txt neg n t ∧ e = .returned (.string ⟨t.toArray⟩) ∧ Below w.heap.size w w' := by
  obtain ⟨K, hK, hn, ho, rfl, hb⟩ := h
  obtain ⟨J, rfl⟩ : ∃ J, K = J + 20 := ⟨K - 20, by omega⟩
  exact ⟨_, ⟨J, by omega, hn, by rcases ho with h | h; exact .inl (by omega); exact .inr h, rfl⟩, rfl, hb⟩
theorem Txt.unique {neg : Bool} {n : Nat} {t t' : List UInt8} (h : Txt neg n t) (h' : Txt neg n t') : t = t' := by
  obtain ⟨J, h1, h2, h3, rfl⟩ := h
  obtain ⟨J', k1, k2, k3, rfl⟩ := h'
  have : J = J' := by
    rcases Nat.lt_trichotomy J J' with h | h | h
    · rcases k3 with k3 | k3
      · omega
      · exact absurd (Nat.lt_of_lt_of_le h2 (Nat.pow_le_pow_right (by decide) (show J + 20 ≤ J' + 19 by omega))) (by omega)
    · exact h
    · rcases h3 with h3 | h3
      · omega
      · exact absurd (Nat.lt_of_lt_of_le k2 (Nat.pow_le_pow_right (by decide) (show J' + 20 ≤ J + 19 by omega))) (by omega)
  rw [this]
/-- a text's parts -/
theorem Txt.parts {neg : Bool} {n : Nat} {t : List UInt8} (h : Txt neg n t) : ∃ Wh Fr, Wh ≠ [] ∧ Dig Wh ∧ Dig Fr ∧ Fr.length ≤ 20 ∧ dv (Wh ++ Fr) * 10 ^ (20 - Fr.length) = n ∧
    t = (if neg then [45] else []) ++ (if Fr = [] then Wh else Wh ++ (46 :: Fr)) := by
  obtain ⟨J, h1, h2, h3, rfl⟩ := h
  have hlen := dlist_len n (J + 20)
  have hdg := dlist_dig n (J + 20)
  have hdv := dlist_dv n (J + 20)
  rw [Nat.mod_eq_of_lt h2] at hdv
  unfold tx
  generalize dlist n (J + 20) = D at hlen hdg hdv
  have hJ : D.length - 20 = J := by omega
  rw [hJ]
  obtain ⟨k, hk⟩ := trim_split (D.drop J)
  have hFl := trim_len (D.drop J) 48
  have hFd := trim_dig (hdg.drop J)
  generalize trimRightB (D.drop J) 48 = Fr at hk hFl hFd
  have hkl := congrArg List.length hk
  rw [List.length_append, List.length_replicate, List.length_drop, hlen] at hkl
  rw [List.length_drop, hlen] at hFl
  refine ⟨D.take J, Fr, ?_, hdg.take J, hFd, by omega, ?_, ?_⟩
  · intro e
    have := congrArg List.length e
    rw [List.length_take, hlen] at this
    simp only [List.length_nil] at this
    omega
  · have e : D = (D.take J ++ Fr) ++ List.replicate k 48 := by
      rw [List.append_assoc, ← hk, List.take_append_drop]
    have h4 : dv ((D.take J ++ Fr) ++ List.replicate k 48) = n := by rw [← e]; exact hdv
    rw [dv_append, dv_zeros, List.length_replicate] at h4
    rw [show 20 - Fr.length = k by omega]
    omega
  · cases neg
    · by_cases hF : Fr = []
      · simp [hF]
      · simp [hF]
    · by_cases hF : Fr = []
      · simp [hF]
      · simp [hF]
theorem hp_cons {a b : UInt8} {l : List UInt8} : hasPrefix (a :: l) [b] = (b == a) := by simp [hasPrefix, List.isPrefixOf]
theorem Txt.reads {neg : Bool} {n : Nat} {t : List UInt8} (h : Txt neg n t) : negOf t = neg ∧ ∃ Wh Fr, wholeOf t = Wh ∧ fracOf t = Fr ∧ Wh ≠ [] ∧ Dig (Wh ++ Fr) ∧ Fr.length ≤ 20 ∧ pnum t = n ∧ t = (if neg then [45] else []) ++ (if Fr = [] then Wh else Wh ++ (46 :: Fr)) := by
  obtain ⟨Wh, Fr, h1, h2, h3, h4, h5, rfl⟩ := h.parts
  obtain ⟨a, W, rfl⟩ : ∃ a W, Wh = a :: W := by
    cases Wh with
    | nil => exact absurd rfl h1
    | cons a W => exact ⟨a, W, rfl⟩
  have ha := h2 a List.mem_cons_self
  have hA : ∀ b : UInt8, b.toNat < 48 → (b == a) = false := fun b hb => by
    rw [beq_eq_false_iff_ne]
    intro e
    subst e
    omega
  have hT : ∃ T, (if Fr = [] then a :: W else (a :: W) ++ (46 :: Fr)) = a :: T := by
    split
    · exact ⟨W, rfl⟩
    · exact ⟨W ++ 46 :: Fr, rfl⟩
  have hc : Lib.cut (if Fr = [] then a :: W else (a :: W) ++ (46 :: Fr)) [46] = (a :: W, Fr, !Fr.isEmpty) := by
    split
    · rename_i e
      subst e
      exact cut_none h2
    · rename_i e
      rw [cut_dot h2]
      cases Fr with
      | nil => exact absurd rfl e
      | cons b F => rfl
  obtain ⟨T, hT⟩ := hT
  have hr : negOf ((if neg then [45] else []) ++ (if Fr = [] then a :: W else (a :: W) ++ (46 :: Fr))) = neg ∧ restOf ((if neg then [45] else []) ++ (if Fr = [] then a :: W else (a :: W) ++ (46 :: Fr))) = (if Fr = [] then a :: W else (a :: W) ++ (46 :: Fr)) := by
    cases neg with
    | true =>
      have hn : negOf ([45] ++ (if Fr = [] then a :: W else (a :: W) ++ (46 :: Fr))) = true := by
        unfold negOf
        show hasPrefix (45 :: _) [45] = true
        rw [hp_cons]
        rfl
      refine ⟨hn, ?_⟩
      unfold restOf
      show (if negOf ([45] ++ _) then _ else _) = _
      rw [hn, if_pos rfl]
      unfold trimPrefix
      show (if hasPrefix (45 :: _) [45] then _ else _) = _
      rw [hp_cons]
      rfl
    | false =>
      have hn : negOf ([] ++ (if Fr = [] then a :: W else (a :: W) ++ (46 :: Fr))) = false := by
        unfold negOf
        rw [List.nil_append, hT, hp_cons, hA 45 (by decide)]
      refine ⟨hn, ?_⟩
      unfold restOf
      show (if negOf ([] ++ _) then _ else _) = _
      rw [hn, if_neg (by decide)]
      unfold trimPrefix
      show (if hasPrefix ([] ++ _) [43] then _ else _) = _
      rw [List.nil_append, hT, hp_cons, hA 43 (by decide)]
      rfl
  refine ⟨hr.1, a :: W, Fr, ?_, ?_, h1, ?_, h4, ?_, rfl⟩
  · unfold wholeOf; rw [hr.2, hc]
  · unfold fracOf; rw [hr.2, hc]
  · intro c hcm
    rcases List.mem_append.1 hcm with h | h
    · exact h2 c h
    · exact h3 c h
  · unfold pnum wholeOf fracOf
    rw [hr.2, hc]
    exact h5
end Go.Proofs.Nw
namespace Go.Proofs.Nw
open Go.RowKit Go.Lib
attribute [local go_sem ↓] Go.wp_at_zero Go.wp_at_succ
theorem tx_len (neg : Bool) (D : List UInt8) (h : 20 ≤ D.length) : (tx neg D).length ≤ D.length + 2 := by
  have h1 := trim_len (D.drop (D.length - 20)) 48
  rw [List.length_drop] at h1
  have h2 : (if trimRightB (D.drop (D.length - 20)) 48 = [] then D.take (D.length - 20) else D.take (D.length - 20) ++ ([46] ++ trimRightB (D.drop (D.length - 20)) 48)).length ≤ D.length + 1 := by
    split
    · rw [List.length_take]; omega
    · simp only [List.length_append, List.length_take, List.length_cons, List.length_nil]; omega
  unfold tx
  cases neg
  · exact Nat.le_trans h2 (by omega)
  · simp only [if_true]
    rw [List.length_append]
    simp only [List.length_cons, List.length_nil]
    omega
/-- the canonical text of a number -/
def Cv (l : List UInt8) (neg : Bool) (n : Nat) : Prop := Txt neg n l ∧ n < 10 ^ 50 ∧ (neg = true → n ≠ 0)
theorem Cv.len {l : List UInt8} {neg : Bool} {n : Nat} (h : Cv l neg n) : l.length ≤ 60 := by
  obtain ⟨⟨J, h1, h2, h3, rfl⟩, h4, _⟩ := h
  have := tx_len neg (dlist n (J + 20)) (by rw [dlist_len]; omega)
  rw [dlist_len] at this
  have hJ : J ≤ 31 := by
    rcases h3 with h | h
    · omega
    · have := (Nat.pow_lt_pow_iff_right (a := 10) (by decide)).1 (Nat.lt_of_le_of_lt h h4)
      omega
  omega
theorem Cv.spec {l : List UInt8} {neg : Bool} {n : Nat} (h : Cv l neg n) : (fracOf l).length ≤ 20 ∧ pspec l = some (neg, n) := by
  obtain ⟨h1, Wh, Fr, h2, h3, h4, h5, h6, h7, _⟩ := h.1.reads
  refine ⟨by rw [h3]; exact h6, ?_⟩
  have hb : badT l = false := by
    unfold badT badB
    rw [h2, h3, (digB_iff _).2 h5]
    cases Wh with
    | nil => exact absurd rfl h4
    | cons a W => rfl
  unfold pspec
  have := h.len
  have hn := h.2.1
  rw [if_neg (fun h => by rcases h with h | h | h; (omega); (rw [hb] at h; cases h); (omega)), h1, h7]
  congr 2
  cases neg with
  | false => rfl
  | true => simp [h.2.2 rfl]
theorem Cv.eq {l : List UInt8} {neg neg' : Bool} {n n' : Nat} (h : Cv l neg n) (h' : Cv l neg' n') : neg = neg' ∧ n = n' := by
  have := h.spec.2.symm.trans h'.spec.2
  injection this with this
  injection this with h1 h2
  exact ⟨h1, h2⟩
/-- what canonical gives -/
def CanQ (l : List UInt8) (w : World) (e : Ending) (w' : World) : Prop := Below w.heap.size w w' ∧
  ((e = .returned (.tuple #[.agg #[.bool false, .slice none 0 0], .int .i64 1]) ∧ ∀ neg n, ¬ Cv l neg n) ∨
   (∃ neg n L A c, e = .returned (.tuple #[.agg #[.bool neg, .slice A L c], .int .i64 0]) ∧ WordsAt w' A n L ∧ Len n L ∧ L ≤ c ∧ (A = none → L = 0 ∧ c = 0) ∧ L ≤ 2000 ∧ Cv l neg n))
set_option maxRecDepth 100000 in
set_option maxHeartbeats 1000000 in
theorem canon_any (l : List UInt8) (m : Int) (w : World) (hm : w.cell? ⟨0, 0, none⟩ = some (.int .i64 m)) (hl : l.length ≤ 100000) :
    Calls Tryz.prog 63 #[.string ⟨l.toArray⟩] w (CanQ l w) := by
  go_enter Tryz.func63, Tryz.ntmps63
  go_wp2_with fail
  have hb0 : Below w.heap.size w (w.alloc (.cells #[.bool false, .slice none 0 0] 116)) := (Below.refl _ _).alloc (Nat.le_refl _) _
  have hH0 : (w.alloc (.cells #[.bool false, .slice none 0 0] 116)).heap[w.heap.size]? = some (.cells #[.bool false, .slice none 0 0] 116) := Go.Deep.blk_alloc_new _ _
  have hm0 : (w.alloc (.cells #[.bool false, .slice none 0 0] 116)).cell? ⟨0, 0, none⟩ = some (.int .i64 m) := (World.cell?_alloc_lt _ _ _ (cell_lt hm)).trans hm
  generalize w.alloc (.cells #[.bool false, .slice none 0 0] 116) = w0 at hb0 hH0 hm0 ⊢
  have hHs : w.heap.size < w0.heap.size := (Array.getElem?_eq_some_iff.1 hH0).1
  refine (parse_any l m w0 hm0 hl).mono ?_
  rintro e w1 ⟨hb1, ⟨code, rfl, hc, hns⟩ | ⟨neg, n, L, A, c, rfl, hW, hL, hLc, hnil, hl3, hn, hng, hl2, hbt, hsp⟩⟩
  · have hno := Lib.hid (show ∀ neg n, ¬ Cv l neg n from fun neg n h => by
      have h1 := hns h.spec.1
      rw [h.spec.2] at h1
      cases h1)
    have hH1 := (hb1.block _ hHs).trans hH0
    have c00 : w1.cell? ⟨w.heap.size, 0, none⟩ = some (.bool false) := by simp [World.cell?, hH1]
    have c01 : w1.cell? ⟨w.heap.size, 1, none⟩ = some (.slice none 0 0) := by simp [World.cell?, hH1]
    have f0 : ∀ j, w1.frozen? ⟨w.heap.size, j, none⟩ = false := fun j => by simp [World.frozen?, hH1]
    have hbw := hb0.trans (hb1.mono hb0.size)
    have hsz1 : w.heap.size < w1.heap.size := Nat.lt_of_lt_of_le hHs hb1.size
    clear hns
    go_wp2
    refine bodyPost_ret (results_num rfl _ _ w.heap.size 116 _ (0, 0) (by rfl) ((Go.Deep.blk_alloc_lt _ _ _ (by simp; omega)).trans (set_heap (set_heap hH1 0 _) 1 _)) (by simp)) rfl ⟨?_, .inl ⟨rfl, hno.out⟩⟩
    exact ((hbw.setCell (p := ⟨w.heap.size, 0, none⟩) (Nat.le_refl _) _).setCell (p := ⟨w.heap.size, 1, none⟩) (Nat.le_refl _) _).alloc (by simp; omega) _
  · have hH1 := (hb1.block _ hHs).trans hH0
    have hbw := hb0.trans (hb1.mono hb0.size)
    have hsz1 : w.heap.size < w1.heap.size := Nat.lt_of_lt_of_le hHs hb1.size
    have hng' := Lib.hid hng
    have hsp' := Lib.hid hsp
    have hn' := Lib.hid hn
    have hL' := Lib.hid hL
    clear hsp hng hn hbt hm0 hm hL
    go_upto_region 2 with fail
    have hT : (w1.alloc (.cells #[.bool neg, .slice A L c] 116)).heap[w1.heap.size]? = some (.cells #[.bool neg, .slice A L c] 116) := Go.Deep.blk_alloc_new _ _
    have hB2 : Below w.heap.size w (w1.alloc (.cells #[.bool neg, .slice A L c] 116)) := hbw.alloc (Nat.le_of_lt hsz1) _
    have hH2 : (w1.alloc (.cells #[.bool neg, .slice A L c] 116)).heap[w.heap.size]? = some (.cells #[.bool false, .slice none 0 0] 116) := (Go.Deep.blk_alloc_lt _ _ _ hsz1).trans hH1
    have hW2 := Lib.hid (hW.mono ((Below.refl w1.heap.size w1).alloc (Nat.le_refl _) (.cells #[.bool neg, .slice A L c] 116)))
    clear hW
    generalize w1.alloc (.cells #[.bool neg, .slice A L c] 116) = w2 at hT hB2 hH2 hW2 ⊢
    have hTs : w1.heap.size < w2.heap.size := (Array.getElem?_eq_some_iff.1 hT).1
    have t0 : w2.cell? ⟨w1.heap.size, 0, none⟩ = some (.bool neg) := by simp [World.cell?, hT]
    have t1 : w2.cell? ⟨w1.heap.size, 1, none⟩ = some (.slice A L c) := by simp [World.cell?, hT]
    go_wp2_with fail
    refine (text_any neg n L A c w2 hW2.out hL'.out (by omega) hLc).mono ?_
    intro e w3 hq
    obtain ⟨t, ht, rfl, hb3⟩ := hq.txt
    have hH3 := (hb3.block _ (Nat.lt_trans hsz1 hTs)).trans hH2
    have hT3 := (hb3.block _ hTs).trans hT
    have hW3 := Lib.hid (hW2.out.mono hb3)
    have hB3 := hB2.trans (hb3.mono hB2.size)
    have hsz3 := Nat.lt_of_lt_of_le hTs hb3.size
    have t0' : w3.cell? ⟨w1.heap.size, 0, none⟩ = some (.bool neg) := by simp [World.cell?, hT3]
    have t1' : w3.cell? ⟨w1.heap.size, 1, none⟩ = some (.slice A L c) := by simp [World.cell?, hT3]
    have c00 : w3.cell? ⟨w.heap.size, 0, none⟩ = some (.bool false) := by simp [World.cell?, hH3]
    have c01 : w3.cell? ⟨w.heap.size, 1, none⟩ = some (.slice none 0 0) := by simp [World.cell?, hH3]
    have f0 : ∀ j, w3.frozen? ⟨w.heap.size, j, none⟩ = false := fun j => by simp [World.frozen?, hH3]
    have hq1 : ((⟨t.toArray⟩ : ByteArray).toList == (⟨l.toArray⟩ : ByteArray).toList) = (t == l) := by simp
    generalize hSt : (⟨t.toArray⟩ : ByteArray) = St at hq1 ⊢
    generalize hSl : (⟨l.toArray⟩ : ByteArray) = Sl at hq1 ⊢
    have ht' := Lib.hid ht
    clear ht hq hW2 t0 t1 hT hb3 hSt hSl
    by_cases htl : t = l
    · subst htl
      have hq2 : (St.toList == Sl.toList) = true := hq1.trans (by simp)
      clear hq1
      go_wp2
      refine bodyPost_ret (results_num rfl _ _ w.heap.size 116 _ (0, 0) (by rfl) (set_heap (set_heap hH3 0 _) 1 _) (by simp)) rfl ⟨?_, .inr ⟨neg, n, L, A, c, ?_, ?_, hL'.out, hLc, hnil, hl3, ht'.out, hn'.out, hng'.out⟩⟩
      · exact (hB3.setCell (p := ⟨w.heap.size, 0, none⟩) (Nat.le_refl _) _).setCell (p := ⟨w.heap.size, 1, none⟩) (Nat.le_refl _) _
      · rfl
      · exact words_struct (cs := #[.bool neg, .slice none 0 0]) (words_struct hW3.out hH3 (no_u64 _ _ _ _) 0 _) (set_heap hH3 0 _) (no_u64 _ _ _ _) 1 _
    · have hq2 : (St.toList == Sl.toList) = false := hq1.trans (by simp [htl])
      have hno := Lib.hid (show ∀ neg n, ¬ Cv l neg n from fun neg' n' h => by
        have h1 := hsp'.out h.spec.1
        rw [h.spec.2] at h1
        injection h1 with h1
        injection h1 with h1 h2
        subst h1 h2
        exact htl (ht'.out.unique h.1))
      clear hq1
      go_wp2
      refine bodyPost_ret (results_num rfl _ _ w.heap.size 116 _ (0, 0) (by rfl) (set_heap (set_heap hH3 0 _) 1 _) (by simp)) rfl ⟨?_, .inl ⟨rfl, hno.out⟩⟩
      exact (hB3.setCell (p := ⟨w.heap.size, 0, none⟩) (Nat.le_refl _) _).setCell (p := ⟨w.heap.size, 1, none⟩) (Nat.le_refl _) _
end Go.Proofs.Nw
namespace Go.Proofs.Nw
open Go.RowKit Go.Lib
attribute [local go_sem ↓] Go.wp_at_zero Go.wp_at_succ
/-- what done gives for a number -/
def DoneV (z : Int) (t : List UInt8) (code : Int) : Prop := (z.natAbs < 10 ^ 50 ∧ code = 0 ∧ Txt (decide (z < 0)) z.natAbs t) ∨ (10 ^ 50 ≤ z.natAbs ∧ code = 40 ∧ t = [])
def DoneQ (z : Int) (w : World) (e : Ending) (w' : World) : Prop := ∃ (t : List UInt8) (code : Int), e = .returned (.tuple #[.string ⟨t.toArray⟩, .int .i64 code]) ∧ Below w.heap.size w w' ∧ DoneV z t code
def sv (neg : Bool) (n : Nat) : Int := if neg then -(n : Int) else n
theorem sv_abs (neg : Bool) (n : Nat) : (sv neg n).natAbs = n := by unfold sv; split <;> omega
theorem sv_neg {neg : Bool} {n L : Nat} (h : Len n L) : decide (sv neg n < 0) = (neg && decide (0 < L)) := by
  have h1 : 0 < L ↔ n ≠ 0 := by
    constructor
    · intro h0
      have := h.2 h0
      have := Nat.pow_pos (n := L - 1) Bs_pos
      omega
    · intro h0
      rcases Nat.eq_zero_or_pos L with e | e
      · subst e; exact absurd h.eq0 h0
      · exact e
  unfold sv
  cases neg with
  | false => simp
  | true =>
    simp only [if_true, Bool.true_and]
    by_cases h0 : 0 < L
    · rw [decide_eq_true h0, decide_eq_true (by have := h1.1 h0; omega)]
    · rw [decide_eq_false h0, decide_eq_false (by have : ¬ n ≠ 0 := fun e => h0 (h1.2 e); omega)]
set_option maxRecDepth 100000 in
set_option maxHeartbeats 1000000 in
theorem done_any (neg : Bool) (n L : Nat) (A : Option Addr) (c : Nat) (w : World) (hA : WordsAt w A n L) (hL : Len n L) (hl : L ≤ 3000) (hc : L ≤ c) :
    Calls Tryz.prog 64 #[.agg #[.bool neg, .slice A L c]] w (DoneQ (sv neg n) w) := by
  go_enter Tryz.func64, Tryz.ntmps64
  go_upto_region 1 with fail
  have hb0 : Below w.heap.size w (w.alloc (.cells #[.bool neg, .slice A L c] 116)) := (Below.refl _ _).alloc (Nat.le_refl _) _
  have hH0 : (w.alloc (.cells #[.bool neg, .slice A L c] 116)).heap[w.heap.size]? = some (.cells #[.bool neg, .slice A L c] 116) := Go.Deep.blk_alloc_new _ _
  generalize w.alloc (.cells #[.bool neg, .slice A L c] 116) = w0 at hb0 hH0 ⊢
  have hHs : w.heap.size < w0.heap.size := (Array.getElem?_eq_some_iff.1 hH0).1
  have c00 : w0.cell? ⟨w.heap.size, 0, none⟩ = some (.bool neg) := by simp [World.cell?, hH0]
  have c01 : w0.cell? ⟨w.heap.size, 1, none⟩ = some (.slice A L c) := by simp [World.cell?, hH0]
  have hA0 := Lib.hid (hA.mono hb0)
  have hL' := Lib.hid hL
  clear hA hL
  go_wp2_with fail
  by_cases hn : n < 10 ^ 50
  · refine (checked_ok neg n L A c w0 hA0.out hL'.out (by omega) hn).mono ?_
    rintro e w1 ⟨rfl, hb1⟩
    have hH1 := (hb1.block _ hHs).trans hH0
    have hB1 := hb0.trans (hb1.mono hb0.size)
    have hA1 := hA0.out.mono hb1
    have d00 : w1.cell? ⟨w.heap.size, 0, none⟩ = some (.bool neg) := by simp [World.cell?, hH1]
    have d01 : w1.cell? ⟨w.heap.size, 1, none⟩ = some (.slice A L c) := by simp [World.cell?, hH1]
    have f0 : ∀ j, w1.frozen? ⟨w.heap.size, j, none⟩ = false := fun j => by simp [World.frozen?, hH1]
    have hn' := Lib.hid hn
    clear hn hA0 c00 c01
    go_upto_region 4 with fail
    have hH2 : ((w1.setCell ⟨w.heap.size, 0, none⟩ (.bool (neg && decide (0 < L)))).setCell ⟨w.heap.size, 1, none⟩ (.slice A L c)).heap[w.heap.size]? = some (.cells #[.bool (neg && decide (0 < L)), .slice A L c] 116) := set_heap (set_heap hH1 0 _) 1 _
    have hA2 := Lib.hid (words_struct (cs := #[.bool (neg && decide (0 < L)), .slice A L c]) (words_struct hA1 hH1 (no_u64 _ _ _ _) 0 (.bool (neg && decide (0 < L)))) (set_heap hH1 0 _) (no_u64 _ _ _ _) 1 (.slice A L c))
    have hB2 := (hB1.setCell (p := ⟨w.heap.size, 0, none⟩) (Nat.le_refl _) (.bool (neg && decide (0 < L)))).setCell (p := ⟨w.heap.size, 1, none⟩) (Nat.le_refl _) (.slice A L c)
    clear hA1
    generalize (w1.setCell ⟨w.heap.size, 0, none⟩ (.bool (neg && decide (0 < L)))).setCell ⟨w.heap.size, 1, none⟩ (.slice A L c) = w2 at hH2 hA2 hB2 ⊢
    have d20 : w2.cell? ⟨w.heap.size, 0, none⟩ = some (.bool (neg && decide (0 < L))) := by simp [World.cell?, hH2]
    have d21 : w2.cell? ⟨w.heap.size, 1, none⟩ = some (.slice A L c) := by simp [World.cell?, hH2]
    have hsn := Lib.hid (sv_neg (neg := neg) hL'.out)
    generalize (neg && decide (0 < L)) = ng at hH2 d20 hsn ⊢
    clear d00 d01 f0
    go_wp2_with fail
    refine (text_any ng n L A c w2 hA2.out hL'.out hl hc).mono ?_
    intro e w3 hq
    obtain ⟨t, ht, rfl, hb3⟩ := hq.txt
    go_wp2
    go_ret2
    exact ⟨t, 0, rfl, hB2.trans (hb3.mono hB2.size), .inl ⟨by rw [sv_abs]; exact hn'.out, rfl, by rw [sv_abs, hsn.out]; exact ht⟩⟩
  · refine (checked_big neg n L A c w0 hA0.out hL'.out (by omega) (Nat.le_of_not_lt hn)).mono ?_
    rintro e w1 ⟨rfl, hb1⟩
    have hH1 := (hb1.block _ hHs).trans hH0
    have hB1 := hb0.trans (hb1.mono hb0.size)
    have d00 : w1.cell? ⟨w.heap.size, 0, none⟩ = some (.bool neg) := by simp [World.cell?, hH1]
    have d01 : w1.cell? ⟨w.heap.size, 1, none⟩ = some (.slice A L c) := by simp [World.cell?, hH1]
    have f0 : ∀ j, w1.frozen? ⟨w.heap.size, j, none⟩ = false := fun j => by simp [World.frozen?, hH1]
    have hn' := Lib.hid (Nat.le_of_not_lt hn)
    clear hn hA0 c00 c01
    go_wp2
    go_ret2
    exact ⟨[], 40, rfl, (hB1.setCell (p := ⟨w.heap.size, 0, none⟩) (Nat.le_refl _) _).setCell (p := ⟨w.heap.size, 1, none⟩) (Nat.le_refl _) _, .inr ⟨by rw [sv_abs]; exact hn'.out, rfl, rfl⟩⟩
theorem add_lt2001 {n m L M : Nat} (h : n < Bs ^ L) (h' : m < Bs ^ M) (hl : L ≤ 2000) (hm : M ≤ 2000) : n + m < Bs ^ 2001 :=
  sum_lt (Nat.lt_of_lt_of_le h (Nat.pow_le_pow_right Bs_pos hl)) (Nat.lt_of_lt_of_le h' (Nat.pow_le_pow_right Bs_pos hm))
theorem sub_lt' {n m L : Nat} (h : n < Bs ^ L) : n - m < Bs ^ L := Nat.lt_of_le_of_lt (Nat.sub_le _ _) h
theorem Sg.ge {c : Int} {n m : Nat} (h : Sg c n m) : decide (0 ≤ c) = decide (m ≤ n) := by
  obtain ⟨h1, _⟩ := h
  by_cases hc : c < 0
  · rw [decide_eq_false (by omega), decide_eq_false (by have := h1.1 hc; omega)]
  · rw [decide_eq_true (by omega), decide_eq_true (Nat.le_of_not_lt (fun e => hc (h1.2 e)))]
set_option maxRecDepth 100000 in
set_option maxHeartbeats 1000000 in
theorem sum_any (na nb : Bool) (n m L M : Nat) (A C : Option Addr) (ca cc : Nat) (w : World) (hA : WordsAt w A n L) (hC : WordsAt w C m M) (hL : Len n L) (hM : Len m M) (hl : L ≤ 2000) (hm' : M ≤ 2000) (hca : L ≤ ca) (hcc : M ≤ cc) (hnA : A = none → L = 0 ∧ ca = 0) (hnC : C = none → M = 0 ∧ cc = 0) :
    Calls Tryz.prog 36 #[.agg #[.bool na, .slice A L ca], .agg #[.bool nb, .slice C M cc]] w (DoneQ (sv na n + sv nb m) w) := by
  go_enter Tryz.func36, Tryz.ntmps36
  go_upto_region 1 with fail
  have hb0 : Below w.heap.size w ((w.alloc (.cells #[.bool na, .slice A L ca] 116)).alloc (.cells #[.bool nb, .slice C M cc] 116)) := ((Below.refl _ _).alloc (Nat.le_refl _) _).alloc (by simp) _
  have hH0 : ((w.alloc (.cells #[.bool na, .slice A L ca] 116)).alloc (.cells #[.bool nb, .slice C M cc] 116)).heap[w.heap.size]? = some (.cells #[.bool na, .slice A L ca] 116) := by
    rw [Go.Deep.blk_alloc_lt _ _ _ (by simp)]
    exact Go.Deep.blk_alloc_new _ _
  have hH1 : ((w.alloc (.cells #[.bool na, .slice A L ca] 116)).alloc (.cells #[.bool nb, .slice C M cc] 116)).heap[w.heap.size + 1]? = some (.cells #[.bool nb, .slice C M cc] 116) := by
    have := Go.Deep.blk_alloc_new (w.alloc (.cells #[.bool na, .slice A L ca] 116)) (.cells #[.bool nb, .slice C M cc] 116)
    rwa [show (w.alloc (.cells #[.bool na, .slice A L ca] 116)).heap.size = w.heap.size + 1 by simp] at this
  generalize (w.alloc (.cells #[.bool na, .slice A L ca] 116)).alloc (.cells #[.bool nb, .slice C M cc] 116) = w0 at hb0 hH0 hH1 ⊢
  have hs0 : w.heap.size < w0.heap.size := (Array.getElem?_eq_some_iff.1 hH0).1
  have hs1 : w.heap.size + 1 < w0.heap.size := (Array.getElem?_eq_some_iff.1 hH1).1
  have c00 : w0.cell? ⟨w.heap.size, 0, none⟩ = some (.bool na) := by simp [World.cell?, hH0]
  have c01 : w0.cell? ⟨w.heap.size, 1, none⟩ = some (.slice A L ca) := by simp [World.cell?, hH0]
  have c10 : w0.cell? ⟨w.heap.size + 1, 0, none⟩ = some (.bool nb) := by simp [World.cell?, hH1]
  have c11 : w0.cell? ⟨w.heap.size + 1, 1, none⟩ = some (.slice C M cc) := by simp [World.cell?, hH1]
  have hA0 := hA.mono hb0
  have hC0 := hC.mono hb0
  clear hA hC
  cases heq : (na == nb) with
  | true =>
    obtain rfl : na = nb := eq_of_beq heq
    go_wp2_with fail
    go_region_held3 (fun w' => w'.cell? ⟨w.heap.size, 0, none⟩ = some (.bool na) ∧ w'.cell? ⟨w.heap.size, 1, none⟩ = some (.slice A L ca) ∧ w'.cell? ⟨w.heap.size + 1, 1, none⟩ = some (.slice C M cc))
      (first | go_keep | exact ⟨(hb2.cell hs0).trans c00, (hb2.cell hs0).trans c01, (hb2.cell hs1).trans c11⟩ | exact ⟨(hb3.cell hz0).trans ((hb2.cell hs0).trans c00), (hb3.cell hz0).trans ((hb2.cell hs0).trans c01), (hb3.cell hz1).trans ((hb2.cell hs1).trans c11)⟩)
      (first | ((go_at_call 65; refine (plus_any n m L M A C ca cc _ (hA0.mono (Below.refl _ _).drew) (hC0.mono (Below.refl _ _).drew) hL.1 hM.1 (by omega) (by omega) hca hcc).mono ?_; rintro e w2 ⟨L2, A2, c2, rfl, hp1, hp2, hp3, hp4, hb2⟩; have hz0 := Nat.lt_of_lt_of_le hs0 hb2.size; have hz1 := Nat.lt_of_lt_of_le hs1 hb2.size)) | ((go_at_call 64; refine (done_any na (n + m) L2 A2 c2 _ hp3 hp1 (Nat.le_trans (hp1.le (add_lt2001 hL.1 hM.1 hl hm')) (by decide)) hp2).mono ?_; rintro e w3 ⟨t3, code3, rfl, hb3, hd⟩)))
    go_wp2
    go_ret2
    have hb4 := hb0.trans (((Below.refl w0.heap.size w0).drew.trans (hb2.trans (hb3.mono hb2.size))).mono hb0.size)
    refine ⟨t3, code3, rfl, hb4, ?_⟩
    have e : sv na (n + m) = sv na n + sv na m := by unfold sv; split <;> omega
    rw [← e]
    exact hd
  | false =>
    obtain rfl : nb = !na := by cases na <;> cases nb <;> first | rfl | cases heq
    go_upto_if 23 with (first | (go_at_call 66; refine (cmp_any n m L M A C ca cc _ hA0 hC0 hL hM (by omega) (by omega)).mono ?_; rintro e w1 ⟨cv, dq, rfl, rfl, hsg, _, _⟩))
    have k00 : (w0.drewN dq).cell? ⟨w.heap.size, 0, none⟩ = some (.bool na) := by simpa using c00
    have k01 : (w0.drewN dq).cell? ⟨w.heap.size, 1, none⟩ = some (.slice A L ca) := by simpa using c01
    have k10 : (w0.drewN dq).cell? ⟨w.heap.size + 1, 0, none⟩ = some (.bool !na) := by simpa using c10
    have k11 : (w0.drewN dq).cell? ⟨w.heap.size + 1, 1, none⟩ = some (.slice C M cc) := by simpa using c11
    have hb1 := below_drewN hb0 dq
    have hA1 := hA0.mono (below_drewN (Below.refl w0.heap.size w0) dq)
    have hC1 := hC0.mono (below_drewN (Below.refl w0.heap.size w0) dq)
    have hs0' : w.heap.size < (w0.drewN dq).heap.size := by simpa using hs0
    have hs1' : w.heap.size + 1 < (w0.drewN dq).heap.size := by simpa using hs1
    generalize w0.drewN dq = w1 at k00 k01 k10 k11 hb1 hA1 hC1 hs0' hs1' ⊢
    clear c00 c01 c10 c11 hA0 hC0 hb0 hs0 hs1 hH0 hH1
    by_cases hcv : 0 ≤ cv
    · have hmn : m ≤ n := by
        have := hsg.ge
        rw [decide_eq_true hcv] at this
        exact of_decide_eq_true this.symm
      clear hsg
      go_wp2_with fail
      go_region_held3 (fun w' => w'.cell? ⟨w.heap.size, 0, none⟩ = some (.bool na) ∧ w'.cell? ⟨w.heap.size, 1, none⟩ = some (.slice A L ca) ∧ w'.cell? ⟨w.heap.size + 1, 1, none⟩ = some (.slice C M cc))
        (first | go_keep | exact ⟨(hb2.cell hs0').trans k00, (hb2.cell hs0').trans k01, (hb2.cell hs1').trans k11⟩ | exact ⟨(hb3.cell hz0).trans ((hb2.cell hs0').trans k00), (hb3.cell hz0).trans ((hb2.cell hs0').trans k01), (hb3.cell hz1).trans ((hb2.cell hs1').trans k11)⟩)
        (first | ((go_at_call 67; refine (minus_any n m L M A C ca cc _ (hA1.mono (Below.refl _ _).drew) (hC1.mono (Below.refl _ _).drew) hL.1 hM.1 hmn (by omega) (by omega) hca hcc hnA).mono ?_; rintro e w2 ⟨L2, A2, c2, rfl, hp1, hp2, hp3, hp4, hb2⟩; have hz0 := Nat.lt_of_lt_of_le hs0' hb2.size; have hz1 := Nat.lt_of_lt_of_le hs1' hb2.size)) | ((go_at_call 64; refine (done_any na (n - m) L2 A2 c2 _ hp3 hp1 (Nat.le_trans (hp1.le (sub_lt' hL.1)) (by omega)) hp2).mono ?_; rintro e w3 ⟨t3, code3, rfl, hb3, hd⟩)))
      go_wp2
      go_ret2
      have hb4 := hb1.trans (((Below.refl w1.heap.size w1).drew.trans (hb2.trans (hb3.mono hb2.size))).mono hb1.size)
      refine ⟨t3, code3, rfl, hb4, ?_⟩
      have e : sv na (n - m) = sv na n + sv (!na) m := by cases na <;> simp [sv] <;> omega
      rw [← e]
      exact hd
    · have hmn : n ≤ m := by
        have := hsg.ge
        rw [decide_eq_false hcv] at this
        have := of_decide_eq_false this.symm
        omega
      clear hsg
      go_wp2_with fail
      go_region_held3 (fun w' => w'.cell? ⟨w.heap.size + 1, 0, none⟩ = some (.bool !na) ∧ w'.cell? ⟨w.heap.size, 1, none⟩ = some (.slice A L ca) ∧ w'.cell? ⟨w.heap.size + 1, 1, none⟩ = some (.slice C M cc))
        (first | go_keep | exact ⟨(hb2.cell hs1').trans k10, (hb2.cell hs0').trans k01, (hb2.cell hs1').trans k11⟩ | exact ⟨(hb3.cell hz1).trans ((hb2.cell hs1').trans k10), (hb3.cell hz0).trans ((hb2.cell hs0').trans k01), (hb3.cell hz1).trans ((hb2.cell hs1').trans k11)⟩)
        (first | ((go_at_call 67; refine (minus_any m n M L C A cc ca _ (hC1.mono (Below.refl _ _).drew) (hA1.mono (Below.refl _ _).drew) hM.1 hL.1 hmn (by omega) (by omega) hcc hca hnC).mono ?_; rintro e w2 ⟨L2, A2, c2, rfl, hp1, hp2, hp3, hp4, hb2⟩; have hz0 := Nat.lt_of_lt_of_le hs0' hb2.size; have hz1 := Nat.lt_of_lt_of_le hs1' hb2.size)) | ((go_at_call 64; refine (done_any (!na) (m - n) L2 A2 c2 _ hp3 hp1 (Nat.le_trans (hp1.le (sub_lt' hM.1)) (by omega)) hp2).mono ?_; rintro e w3 ⟨t3, code3, rfl, hb3, hd⟩)))
      go_wp2
      go_ret2
      have hb4 := hb1.trans (((Below.refl w1.heap.size w1).drew.trans (hb2.trans (hb3.mono hb2.size))).mono hb1.size)
      refine ⟨t3, code3, rfl, hb4, ?_⟩
      have e : sv (!na) (m - n) = sv na n + sv (!na) m := by cases na <;> simp [sv] <;> omega
      rw [← e]
      exact hd
end Go.Proofs.Nw
namespace Go.Proofs.Nw
open Go.RowKit Go.Lib
theorem pnum0 : pnum [48] = 0 := by
  have h1 : restOf [48] = [48] := rfl
  have hd : Dig [48] := fun c hc => by rw [List.mem_singleton.1 hc]; decide
  unfold pnum wholeOf fracOf
  rw [h1, cut_none hd]
  rfl
theorem txt_zero {neg : Bool} {n : Nat} {t : List UInt8} (h : Txt neg n t) (hn : neg = true → n ≠ 0) : t = [48] ↔ n = 0 := by
  constructor
  · intro e
    obtain ⟨_, Wh, Fr, _, _, _, _, _, h7, _⟩ := h.reads
    rw [e, pnum0] at h7
    exact h7.symm
  · intro e
    subst e
    obtain ⟨J, h1, h2, h3, rfl⟩ := h
    have : J = 1 := by
      rcases h3 with h | h
      · exact h
      · have := Nat.pow_pos (n := J + 19) (show 0 < 10 by decide)
        omega
    subst this
    cases neg with
    | true => exact absurd rfl (hn rfl)
    | false => decide +kernel
theorem txt_neg {neg : Bool} {n : Nat} {t : List UInt8} (h : Txt neg n t) : hasPrefix t [45] = neg := h.reads.1
def sgn (z : Int) : Int := if z < 0 then -1 else if z = 0 then 0 else 1
theorem sv_big {na nb : Bool} {n m : Nat} (hn : n < 10 ^ 50) (hm : m < 10 ^ 50) (h : 10 ^ 50 ≤ (sv na n - sv nb m).natAbs) : sgn (sv na n - sv nb m) = if na then -1 else 1 := by
  generalize 10 ^ 50 = B at *
  unfold sv sgn at *
  cases na <;> cases nb <;> simp only [if_true, if_false, Bool.false_eq_true] at h ⊢
  · omega
  · rw [if_neg (by omega), if_neg (by omega)]
  · rw [if_pos (by omega)]
  · omega
end Go.Proofs.Nw
namespace Go.Proofs.Nw
open Go.RowKit Go.Lib
attribute [local go_sem ↓] Go.wp_at_zero Go.wp_at_succ
theorem sv_not (b : Bool) (n : Nat) : sv (!b) n = - sv b n := by cases b <;> simp [sv]
set_option maxRecDepth 100000 in
set_option maxHeartbeats 1000000 in
theorem sub1_any (na nb : Bool) (n m L M : Nat) (A C : Option Addr) (ca cc : Nat) (w : World) (hA : WordsAt w A n L) (hC : WordsAt w C m M) (hL : Len n L) (hM : Len m M) (hl : L ≤ 2000) (hm' : M ≤ 2000) (hca : L ≤ ca) (hcc : M ≤ cc) (hnA : A = none → L = 0 ∧ ca = 0) (hnC : C = none → M = 0 ∧ cc = 0) :
    Calls Tryz.prog 35 #[.agg #[.bool na, .slice A L ca], .agg #[.bool nb, .slice C M cc]] w (DoneQ (sv na n - sv nb m) w) := by
  go_enter Tryz.func35, Tryz.ntmps35
  go_wp2_with fail
  have hb0 : Below w.heap.size w ((w.alloc (.cells #[.bool na, .slice A L ca] 116)).alloc (.cells #[.bool !nb, .slice C M cc] 116)) := ((Below.refl _ _).alloc (Nat.le_refl _) _).alloc (by simp) _
  refine (sum_any na (!nb) n m L M A C ca cc _ (hA.mono hb0) (hC.mono hb0) hL hM hl hm' hca hcc hnA hnC).mono ?_
  rintro e w1 ⟨t, code, rfl, hb1, hd⟩
  go_wp2
  go_ret2
  exact ⟨t, code, rfl, hb0.trans (hb1.mono hb0.size), by rw [Int.sub_eq_add_neg, ← sv_not]; exact hd⟩
/-- what Sub gives -/
def SubV (la lb t : List UInt8) (code : Int) : Prop := (∃ na n nb m, Cv la na n ∧ Cv lb nb m ∧ DoneV (sv na n - sv nb m) t code) ∨ ((∀ na n nb m, ¬ (Cv la na n ∧ Cv lb nb m)) ∧ t = [] ∧ code = 1)
def SubQ (la lb : List UInt8) (w : World) (e : Ending) (w' : World) : Prop := ∃ (t : List UInt8) (code : Int), e = .returned (.tuple #[.string ⟨t.toArray⟩, .int .i64 code]) ∧ Below w.heap.size w w' ∧ SubV la lb t code
set_option maxRecDepth 100000 in
set_option maxHeartbeats 1000000 in
theorem both_any (la lb : List UInt8) (m : Int) (w : World) (hm : w.cell? ⟨0, 0, none⟩ = some (.int .i64 m)) (hla : la.length ≤ 100000) (hlb : lb.length ≤ 100000) :
    Calls Tryz.prog 34 #[.string ⟨la.toArray⟩, .string ⟨lb.toArray⟩, .func (.func 35) #[] #[]] w (SubQ la lb w) := by
  go_enter Tryz.func34, Tryz.ntmps34
  go_upto_region 1 with fail
  go_wp2_with fail
  refine (canon_any la m w hm hla).mono ?_
  rintro e w1 ⟨hb1, hq1⟩
  have hm1 : w1.cell? ⟨0, 0, none⟩ = some (.int .i64 m) := (hb1.cell (cell_lt hm)).trans hm
  have hr1 : ∃ (na : Bool) (n L : Nat) (A : Option Addr) (c : Nat) (k1 : Int), e = .returned (.tuple #[.agg #[.bool na, .slice A L c], .int .i64 k1]) ∧ Hid ((k1 = 1 ∧ ∀ neg n, ¬ Cv la neg n) ∨ (k1 = 0 ∧ WordsAt w1 A n L ∧ Len n L ∧ L ≤ c ∧ (A = none → L = 0 ∧ c = 0) ∧ L ≤ 2000 ∧ Cv la na n)) := by
    rcases hq1 with ⟨rfl, h⟩ | ⟨neg, n, L, A, c, rfl, h⟩
    · exact ⟨false, 0, 0, none, 0, 1, rfl, .inl ⟨rfl, h⟩⟩
    · exact ⟨neg, n, L, A, c, 0, rfl, .inr ⟨rfl, h⟩⟩
  obtain ⟨na, n, L, A, ca, k1, rfl, hk1⟩ := hr1
  clear hq1
  go_upto_region 2 with fail
  have hB2 : Below w.heap.size w (w1.alloc (.cells #[.bool na, .slice A L ca] 116)) := hb1.alloc hb1.size _
  have hT2 : (w1.alloc (.cells #[.bool na, .slice A L ca] 116)).heap[w1.heap.size]? = some (.cells #[.bool na, .slice A L ca] 116) := Go.Deep.blk_alloc_new _ _
  have hm2 : (w1.alloc (.cells #[.bool na, .slice A L ca] 116)).cell? ⟨0, 0, none⟩ = some (.int .i64 m) := (World.cell?_alloc_lt _ _ _ (cell_lt hm1)).trans hm1
  have hk2 : Hid ((k1 = 1 ∧ ∀ neg n, ¬ Cv la neg n) ∨ (k1 = 0 ∧ WordsAt (w1.alloc (.cells #[.bool na, .slice A L ca] 116)) A n L ∧ Len n L ∧ L ≤ ca ∧ (A = none → L = 0 ∧ ca = 0) ∧ L ≤ 2000 ∧ Cv la na n)) := by
    rcases hk1.out with h | ⟨h1, h2, h3⟩
    · exact .inl h
    · exact .inr ⟨h1, h2.mono ((Below.refl _ _).alloc (Nat.le_refl _) _), h3⟩
  clear hk1
  generalize hG1 : w1.heap.size = G1 at *
  generalize w1.alloc (.cells #[.bool na, .slice A L ca] 116) = w2 at hB2 hT2 hm2 hk2 ⊢
  have hTs : G1 < w2.heap.size := (Array.getElem?_eq_some_iff.1 hT2).1
  go_wp2_with fail
  refine (canon_any lb m w2 hm2 hlb).mono ?_
  rintro e w3 ⟨hb3, hq3⟩
  have hr3 : ∃ (nb : Bool) (n' M : Nat) (C : Option Addr) (c : Nat) (k3 : Int), e = .returned (.tuple #[.agg #[.bool nb, .slice C M c], .int .i64 k3]) ∧ Hid ((k3 = 1 ∧ ∀ neg n, ¬ Cv lb neg n) ∨ (k3 = 0 ∧ WordsAt w3 C n' M ∧ Len n' M ∧ M ≤ c ∧ (C = none → M = 0 ∧ c = 0) ∧ M ≤ 2000 ∧ Cv lb nb n')) := by
    rcases hq3 with ⟨rfl, h⟩ | ⟨neg, n, L, A, c, rfl, h⟩
    · exact ⟨false, 0, 0, none, 0, 1, rfl, .inl ⟨rfl, h⟩⟩
    · exact ⟨neg, n, L, A, c, 0, rfl, .inr ⟨rfl, h⟩⟩
  obtain ⟨nb, n', M, C, cc, k3, rfl, hk3⟩ := hr3
  clear hq3
  go_upto_region 3 with fail
  have hb4 : Below w2.heap.size w2 (w3.alloc (.cells #[.bool nb, .slice C M cc] 116)) := hb3.alloc hb3.size _
  have hT4 := (hb4.block _ hTs).trans hT2
  have hS4 : (w3.alloc (.cells #[.bool nb, .slice C M cc] 116)).heap[w3.heap.size]? = some (.cells #[.bool nb, .slice C M cc] 116) := Go.Deep.blk_alloc_new _ _
  have hk4 : Hid ((k3 = 1 ∧ ∀ neg n, ¬ Cv lb neg n) ∨ (k3 = 0 ∧ WordsAt (w3.alloc (.cells #[.bool nb, .slice C M cc] 116)) C n' M ∧ Len n' M ∧ M ≤ cc ∧ (C = none → M = 0 ∧ cc = 0) ∧ M ≤ 2000 ∧ Cv lb nb n')) := by
    rcases hk3.out with h | ⟨h1, h2, h3⟩
    · exact .inl h
    · exact .inr ⟨h1, h2.mono ((Below.refl _ _).alloc (Nat.le_refl _) _), h3⟩
  have hB4 := hB2.trans (hb4.mono hB2.size)
  clear hk3
  generalize hG3 : w3.heap.size = G3 at *
  generalize w3.alloc (.cells #[.bool nb, .slice C M cc] 116) = w4 at hb4 hT4 hS4 hk4 hB4 ⊢
  rcases hk2.out with ⟨rfl, hno⟩ | ⟨rfl, hW, hL, hLc, hnil, hl2, hcv⟩
  · have hno' := Lib.hid hno
    clear hno
    go_wp2
    go_ret2
    exact ⟨[], 1, rfl, hB4, .inr ⟨fun na n nb m h => hno'.out na n h.1, rfl, rfl⟩⟩
  · rcases hk4.out with ⟨rfl, hno⟩ | ⟨rfl, hW', hL', hLc', hnil', hl2', hcv'⟩
    · have hno' := Lib.hid hno
      clear hno hW hL hnil
      go_wp2
      go_ret2
      exact ⟨[], 1, rfl, hB4, .inr ⟨fun na n nb m h => hno'.out nb m h.2, rfl, rfl⟩⟩
    · have t0 : w4.cell? ⟨G1, 0, none⟩ = some (.bool na) := by simp [World.cell?, hT4]
      have t1 : w4.cell? ⟨G1, 1, none⟩ = some (.slice A L ca) := by simp [World.cell?, hT4]
      have s0 : w4.cell? ⟨G3, 0, none⟩ = some (.bool nb) := by simp [World.cell?, hS4]
      have s1 : w4.cell? ⟨G3, 1, none⟩ = some (.slice C M cc) := by simp [World.cell?, hS4]
      have hX := sub1_any na nb n n' L M A C ca cc w4 (hW.mono hb4) hW' hL hL' hl2 hl2' hLc hLc' hnil hnil'
      have hcvs := Lib.hid (And.intro hcv hcv')
      clear hW hW' hL hL' hnil hnil' hcv hcv' hk2 hk4
      go_wp2_with fail
      refine hX.mono ?_
      rintro e w5 ⟨t, code, rfl, hb5, hd⟩
      clear hX
      go_wp2
      go_ret2
      exact ⟨t, code, rfl, hB4.trans (hb5.mono hB4.size), .inl ⟨na, n, nb, n', hcvs.out.1, hcvs.out.2, hd⟩⟩
set_option maxRecDepth 100000 in
set_option maxHeartbeats 1000000 in
theorem sub_any (la lb : List UInt8) (m : Int) (w : World) (hm : w.cell? ⟨0, 0, none⟩ = some (.int .i64 m)) (hla : la.length ≤ 100000) (hlb : lb.length ≤ 100000) :
    Calls Tryz.prog 18 #[.string ⟨la.toArray⟩, .string ⟨lb.toArray⟩] w (SubQ la lb w) := by
  go_enter Tryz.func18, Tryz.ntmps18
  go_wp2_with fail
  refine (both_any la lb m w hm hla hlb).mono ?_
  rintro e w1 ⟨t, code, rfl, hb, hv⟩
  go_wp2
  go_ret2
  exact ⟨t, code, rfl, hb, hv⟩
end Go.Proofs.Nw
namespace Go.Proofs.Nw
open Go.RowKit Go.Lib
attribute [local go_sem ↓] Go.wp_at_zero Go.wp_at_succ
def CmpV (la lb : List UInt8) (c code : Int) : Prop := (∃ na n nb m, Cv la na n ∧ Cv lb nb m ∧ c = sgn (sv na n - sv nb m) ∧ code = 0) ∨ ((∀ na n nb m, ¬ (Cv la na n ∧ Cv lb nb m)) ∧ c = 0 ∧ code = 1)
def CmpQ (la lb : List UInt8) (w : World) (e : Ending) (w' : World) : Prop := ∃ c code : Int, e = .returned (.tuple #[.int .i64 c, .int .i64 code]) ∧ Below w.heap.size w w' ∧ CmpV la lb c code
set_option maxRecDepth 100000 in
set_option maxHeartbeats 1000000 in
theorem Cmp_any (la lb : List UInt8) (m : Int) (w : World) (hm : w.cell? ⟨0, 0, none⟩ = some (.int .i64 m)) (hla : la.length ≤ 100000) (hlb : lb.length ≤ 100000) :
    Calls Tryz.prog 11 #[.string ⟨la.toArray⟩, .string ⟨lb.toArray⟩] w (CmpQ la lb w) := by
  go_enter Tryz.func11, Tryz.ntmps11
  go_upto_region 1 with fail
  go_wp2_with fail
  refine (sub_any la lb m w hm hla hlb).mono ?_
  rintro e w1 ⟨t, code, rfl, hb, hv⟩
  rcases hv with ⟨na, n, nb, k, hca, hcb, ⟨hz, rfl, ht⟩ | ⟨hz, rfl, rfl⟩⟩ | ⟨hno, rfl, rfl⟩
  · have h0 := txt_zero ht (fun h => by simp at h; omega)
    have hn := txt_neg ht
    have hq : ((⟨t.toArray⟩ : ByteArray).toList == [48]) = decide (sv na n - sv nb k = 0) := by
      have e1 : (⟨t.toArray⟩ : ByteArray).toList = t := by simp
      rw [e1]
      by_cases hz0 : sv na n - sv nb k = 0
      · rw [decide_eq_true hz0, h0.2 (by omega)]
        rfl
      · rw [decide_eq_false hz0]
        have : t ≠ [48] := fun e => hz0 (by have := h0.1 e; omega)
        simpa using this
    have hvs := Lib.hid (And.intro hca hcb)
    clear hca hcb h0 ht hz
    generalize hSt : (⟨t.toArray⟩ : ByteArray) = St at hq ⊢
    have hStd : St.data.toList = t := by rw [← hSt]
    generalize hzz : sv na n - sv nb k = z at hq hn
    have hzz' := Lib.hid hzz
    clear hzz hSt
    rcases Int.lt_trichotomy z 0 with h | h | h
    · rw [decide_eq_false (by omega)] at hq
      rw [decide_eq_true h] at hn
      have hn2 : hasPrefix St.data.toList [45] = true := by rw [hStd]; exact hn
      have hs := Lib.hid (show (-1 : Int) = sgn z by unfold sgn; rw [if_pos h])
      clear hStd h
      go_wp2_with (first | (go_at_call 19; refine (Tryz.strings_HasPrefix _ _ _).mono ?_; rintro e w2 ⟨rfl, rfl⟩))
      go_ret2
      exact ⟨-1, 0, rfl, hb, .inl ⟨na, n, nb, k, hvs.out.1, hvs.out.2, by rw [hzz'.out]; exact hs.out, rfl⟩⟩
    · rw [decide_eq_true h] at hq
      have hs := Lib.hid (show (0 : Int) = sgn z by unfold sgn; rw [if_neg (by omega), if_pos h])
      clear hStd h hn
      go_wp2_with (first | (go_at_call 19; refine (Tryz.strings_HasPrefix _ _ _).mono ?_; rintro e w2 ⟨rfl, rfl⟩))
      go_ret2
      exact ⟨0, 0, rfl, hb, .inl ⟨na, n, nb, k, hvs.out.1, hvs.out.2, by rw [hzz'.out]; exact hs.out, rfl⟩⟩
    · rw [decide_eq_false (by omega)] at hq
      rw [decide_eq_false (by omega)] at hn
      have hn2 : hasPrefix St.data.toList [45] = false := by rw [hStd]; exact hn
      have hs := Lib.hid (show (1 : Int) = sgn z by unfold sgn; rw [if_neg (by omega), if_neg (by omega)])
      clear hStd h
      go_wp2_with (first | (go_at_call 19; refine (Tryz.strings_HasPrefix _ _ _).mono ?_; rintro e w2 ⟨rfl, rfl⟩))
      go_ret2
      exact ⟨1, 0, rfl, hb, .inl ⟨na, n, nb, k, hvs.out.1, hvs.out.2, by rw [hzz'.out]; exact hs.out, rfl⟩⟩
  · have hn := txt_neg hca.1
    have hs := Lib.hid (sv_big hca.2.1 hcb.2.1 hz)
    have hvs := Lib.hid (And.intro hca hcb)
    clear hca hcb hz
    generalize hSt : (⟨la.toArray⟩ : ByteArray) = St
    have hStd : St.data.toList = la := by rw [← hSt]
    have hn2 : hasPrefix St.data.toList [45] = na := by rw [hStd]; exact hn
    clear hStd hSt hn
    cases na with
    | true =>
      go_wp2_with (first | (go_at_call 19; refine (Tryz.strings_HasPrefix _ _ _).mono ?_; rintro e w2 ⟨rfl, rfl⟩))
      go_ret2
      exact ⟨-1, 0, rfl, hb, .inl ⟨true, n, nb, k, hvs.out.1, hvs.out.2, hs.out.symm, rfl⟩⟩
    | false =>
      go_wp2_with (first | (go_at_call 19; refine (Tryz.strings_HasPrefix _ _ _).mono ?_; rintro e w2 ⟨rfl, rfl⟩))
      go_ret2
      exact ⟨1, 0, rfl, hb, .inl ⟨false, n, nb, k, hvs.out.1, hvs.out.2, hs.out.symm, rfl⟩⟩
  · have hno' := Lib.hid hno
    clear hno
    go_wp2
    go_ret2
    exact ⟨0, 1, rfl, hb, .inr ⟨hno'.out, rfl, rfl⟩⟩
/-- what Parse gives -/
def PrV (l t : List UInt8) (code : Int) : Prop := ((∃ neg n, Cv l neg n) ∧ code = 0 ∧ t = l) ∨ ((∀ neg n, ¬ Cv l neg n) ∧ (code ≠ 0 ∨ t ≠ l))
def PrQ (l : List UInt8) (w : World) (e : Ending) (w' : World) : Prop := ∃ (t : List UInt8) (code : Int), e = .returned (.tuple #[.string ⟨t.toArray⟩, .int .i64 code]) ∧ Below w.heap.size w w' ∧ PrV l t code
set_option maxRecDepth 100000 in
set_option maxHeartbeats 1000000 in
theorem Parse_any (l : List UInt8) (m : Int) (w : World) (hm : w.cell? ⟨0, 0, none⟩ = some (.int .i64 m)) (hl : l.length ≤ 100000) :
    Calls Tryz.prog 17 #[.string ⟨l.toArray⟩] w (PrQ l w) := by
  go_enter Tryz.func17, Tryz.ntmps17
  go_upto_region 1 with fail
  go_wp2_with fail
  refine (parse_any l m w hm hl).mono ?_
  rintro e w1 ⟨hb1, ⟨code, rfl, hc, hns⟩ | ⟨neg, n, L, A, c, rfl, hW, hL, hLc, hnil, hl3, hn, hng, hl2, hbt, hsp⟩⟩
  · have hno := Lib.hid (show ∀ neg n, ¬ Cv l neg n from fun neg n h => by
      have h1 := hns h.spec.1
      rw [h.spec.2] at h1
      cases h1)
    clear hns
    go_wp2
    go_ret2
    exact ⟨[], code, rfl, hb1.alloc hb1.size _, .inr ⟨hno.out, .inl hc⟩⟩
  · have hng' := Lib.hid hng
    have hsp' := Lib.hid hsp
    have hn' := Lib.hid hn
    have hL' := Lib.hid hL
    clear hsp hng hn hbt hL
    go_upto_region 2 with fail
    have hT : (w1.alloc (.cells #[.bool neg, .slice A L c] 116)).heap[w1.heap.size]? = some (.cells #[.bool neg, .slice A L c] 116) := Go.Deep.blk_alloc_new _ _
    have hB2 : Below w.heap.size w (w1.alloc (.cells #[.bool neg, .slice A L c] 116)) := hb1.alloc hb1.size _
    have hW2 := Lib.hid (hW.mono ((Below.refl w1.heap.size w1).alloc (Nat.le_refl _) (.cells #[.bool neg, .slice A L c] 116)))
    clear hW
    generalize w1.alloc (.cells #[.bool neg, .slice A L c] 116) = w2 at hT hB2 hW2 ⊢
    have t0 : w2.cell? ⟨w1.heap.size, 0, none⟩ = some (.bool neg) := by simp [World.cell?, hT]
    have t1 : w2.cell? ⟨w1.heap.size, 1, none⟩ = some (.slice A L c) := by simp [World.cell?, hT]
    go_wp2_with fail
    refine (text_any neg n L A c w2 hW2.out hL'.out (by omega) hLc).mono ?_
    intro e w3 hq
    obtain ⟨t, ht, rfl, hb3⟩ := hq.txt
    have ht' := Lib.hid ht
    clear ht hq
    go_wp2
    go_ret2
    refine ⟨t, 0, rfl, hB2.trans (hb3.mono hB2.size), ?_⟩
    by_cases htl : t = l
    · subst htl
      exact .inl ⟨⟨neg, n, ht'.out, hn'.out, hng'.out⟩, rfl, rfl⟩
    · refine .inr ⟨fun neg' n' h => ?_, .inr htl⟩
      have h1 := hsp'.out h.spec.1
      rw [h.spec.2] at h1
      injection h1 with h1
      injection h1 with h1 h2
      subst h1 h2
      exact htl (ht'.out.unique h.1)
end Go.Proofs.Nw
