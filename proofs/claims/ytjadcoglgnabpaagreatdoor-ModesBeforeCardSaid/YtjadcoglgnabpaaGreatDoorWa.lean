import Derived.Test.YtjadcoglgnabpaaGreatDoorProg
import Derived.WalkKit
import Derived.WalkSpells
import Derived.Lib.Hide
import Derived.Below
import Derived.Laws.OwnMore
import Derived.Deep.AppendLies
import Derived.Deep.Draws
import Derived.Deep.QuietTactic
import Derived.BigQuiet
import Derived.Deep.OwnRows
import Derived.Laws.AppendOwn
import Derived.Lib.SliceRun
import Derived.Lib.ConvBytes
import Derived.Deep.RegionHeld3
import Derived.Deep.DrawnRows
set_option linter.all false
set_option linter.unusedVariables false
set_option maxHeartbeats 2000000
set_option exponentiation.threshold 5000
namespace Go.Proofs.Nw
/-- what one word counts up to -/
def Bs : Nat := 1000000000
theorem Bs_eq : Bs = 1000000000 := rfl
theorem Bs_pos : 0 < Bs := by decide
theorem pow_pos' (k : Nat) : 0 < Bs ^ k := Nat.pow_pos Bs_pos
/-- word j of a number -/
def wd (n j : Nat) : Nat := n / Bs ^ j % Bs
theorem wd_lt (n j : Nat) : wd n j < 1000000000 := Nat.mod_lt _ Bs_pos
theorem div_step (n j : Nat) : n / Bs ^ j = Bs * (n / Bs ^ (j + 1)) + wd n j := by
  unfold wd
  rw [Nat.pow_succ, ← Nat.div_div_eq_div_mul]
  exact (Nat.div_add_mod _ _).symm
theorem lt_of_div {n m d : Nat} (h : n / d < m / d) : n < m := by
  rcases Nat.lt_or_ge n m with hh | hh
  · exact hh
  · exact absurd (Nat.div_le_div_right (c := d) hh) (by omega)
theorem wd_cmp {n m j : Nat} (hd : n / Bs ^ (j + 1) = m / Bs ^ (j + 1)) (h : wd n j < wd m j) : n < m := by
  apply lt_of_div (d := Bs ^ j)
  rw [div_step n, div_step m, hd]
  omega
theorem div_eq {n m j : Nat} (hd : n / Bs ^ (j + 1) = m / Bs ^ (j + 1)) (h : wd n j = wd m j) : n / Bs ^ j = m / Bs ^ j := by
  rw [div_step n, div_step m, hd, h]
/-- L words are just as many as a number has -/
def Len (n L : Nat) : Prop := n < Bs ^ L ∧ (0 < L → Bs ^ (L - 1) ≤ n)
theorem Len.lt {n m L M : Nat} (h : Len n L) (h' : Len m M) (hl : L < M) : n < m := by
  have h1 := h.1
  have h2 := h'.2 (by omega)
  have h3 : Bs ^ L ≤ Bs ^ (M - 1) := Nat.pow_le_pow_right Bs_pos (by omega)
  omega
theorem Len.zero : Len 0 0 := ⟨by simp, fun h => by omega⟩
theorem Len.eq0 {n : Nat} (h : Len n 0) : n = 0 := by have := h.1; simp at this; exact this
/-- how two numbers compare -/
def Sg (c : Int) (n m : Nat) : Prop := (c < 0 ↔ n < m) ∧ (c = 0 ↔ n = m)
theorem Sg.len {n m L M : Nat} (h : Len n L) (h' : Len m M) (hl : L ≠ M) : Sg ((L : Int) - M) n m := by
  rcases Nat.lt_or_gt_of_ne hl with hh | hh
  · have := h.lt h' hh
    exact ⟨by constructor <;> intro <;> omega, by constructor <;> intro <;> omega⟩
  · have := h'.lt h hh
    exact ⟨by constructor <;> intro <;> omega, by constructor <;> intro <;> omega⟩
theorem Sg.wd {n m j : Nat} (hd : n / Bs ^ (j + 1) = m / Bs ^ (j + 1)) (h : wd n j ≠ wd m j) : Sg ((wd n j : Int) - wd m j) n m := by
  rcases Nat.lt_or_gt_of_ne h with hh | hh
  · have := wd_cmp hd hh
    exact ⟨by constructor <;> intro <;> omega, by constructor <;> intro <;> omega⟩
  · have := wd_cmp hd.symm hh
    exact ⟨by constructor <;> intro <;> omega, by constructor <;> intro <;> omega⟩
theorem Sg.refl (n : Nat) : Sg 0 n n := ⟨by constructor <;> intro <;> omega, by simp⟩
/-- the highest word is none of the number's -/
theorem Len.drop {n j : Nat} (h : n < Bs ^ (j + 1)) (h0 : wd n j = 0) : n < Bs ^ j := by
  have h1 := div_step n j
  rw [Nat.div_eq_of_lt h, h0] at h1
  have := (Nat.div_eq_zero_iff).1 (show n / Bs ^ j = 0 by omega)
  have := pow_pos' j
  omega
theorem Len.stay {n j : Nat} (h : n < Bs ^ (j + 1)) (h0 : wd n j ≠ 0) : Len n (j + 1) := by
  refine ⟨h, fun _ => ?_⟩
  rw [Nat.add_sub_cancel]
  rcases Nat.lt_or_ge n (Bs ^ j) with hh | hh
  · exact absurd (show wd n j = 0 by unfold Go.Proofs.Nw.wd; rw [Nat.div_eq_of_lt hh]; rfl) h0
  · exact hh
end Go.Proofs.Nw
namespace Go.Proofs.Nw
theorem wd_zero {n L j : Nat} (h : n < Bs ^ L) (hj : L ≤ j) : wd n j = 0 := by
  unfold wd
  have : Bs ^ L ≤ Bs ^ j := Nat.pow_le_pow_right Bs_pos hj
  rw [Nat.div_eq_of_lt (by omega)]
  rfl
/-- what the words below k carry over -/
def car (n m k : Nat) : Nat := (n % Bs ^ k + m % Bs ^ k) / Bs ^ k
theorem mod_step (n k : Nat) : n % Bs ^ (k + 1) = n % Bs ^ k + Bs ^ k * wd n k := by
  unfold wd
  rw [Nat.pow_succ, Nat.mod_mul]
theorem car_zero (n m : Nat) : car n m 0 = 0 := by simp [car, Nat.mod_one]
theorem car_le (n m k : Nat) : car n m k ≤ 1 := by
  have h1 := Nat.mod_lt n (pow_pos' k)
  have h2 := Nat.mod_lt m (pow_pos' k)
  unfold car
  have : (n % Bs ^ k + m % Bs ^ k) / Bs ^ k < 2 := (Nat.div_lt_iff_lt_mul (pow_pos' k)).2 (by omega)
  omega
theorem wd_congr {a b k : Nat} (h : a % Bs ^ (k + 1) = b % Bs ^ (k + 1)) : wd a k = wd b k := by
  have key : ∀ x, wd x k = x % Bs ^ (k + 1) / Bs ^ k := fun x => by
    rw [mod_step, Nat.add_mul_div_left _ _ (pow_pos' k), Nat.div_eq_of_lt (Nat.mod_lt _ (pow_pos' k)), Nat.zero_add]
  rw [key, key, h]
theorem car_step (n m k : Nat) : car n m k + wd n k + wd m k = Bs * car n m (k + 1) + wd (n + m) k := by
  have h0 : (n % Bs ^ (k + 1) + m % Bs ^ (k + 1)) / Bs ^ k = car n m k + wd n k + wd m k := by
    rw [mod_step, mod_step]
    have : n % Bs ^ k + Bs ^ k * wd n k + (m % Bs ^ k + Bs ^ k * wd m k) = (n % Bs ^ k + m % Bs ^ k) + Bs ^ k * (wd n k + wd m k) := by rw [Nat.mul_add]; omega
    rw [this, Nat.add_mul_div_left _ _ (pow_pos' k)]
    unfold car
    omega
  rw [← h0, div_step]
  congr 1
  exact wd_congr (by rw [← Nat.add_mod])
end Go.Proofs.Nw
namespace Go.Proofs.Nw
theorem sum_lt {n m K : Nat} (h : n < Bs ^ K) (h' : m < Bs ^ K) : n + m < Bs ^ (K + 1) := by
  rw [Nat.pow_succ]
  have : Bs ^ K * 2 ≤ Bs ^ K * Bs := Nat.mul_le_mul_left _ (by decide)
  omega
end Go.Proofs.Nw
namespace Go.Proofs.Nw
theorem car_div {n m k x y : Nat} (hx : wd n k = x) (hy : wd m k = y) : (car n m k + x + y) / 1000000000 = car n m (k + 1) ∧ (car n m k + x + y) % 1000000000 = wd (n + m) k := by
  have h := car_step n m k
  have h2 := wd_lt (n + m) k
  rw [hx, hy, Bs_eq] at h
  omega
end Go.Proofs.Nw
namespace Go.Proofs.Nw
open Go.RowKit Go.Lib
/-- the first words of a number stand here -/
def WordsAt (w : World) (A : Option Addr) (n L : Nat) : Prop := 0 < L → ∃ a : Addr, A = some a ∧ a.block < w.heap.size ∧ ∀ (j : Nat), j < L → w.cell? (a.add j) = some (.int .u64 (wd n j : Nat))
theorem ret_slc {A : Option Addr} {k k' c : Nat} (h : k = k') : Ending.returned (.slice A k c) = .returned (.slice A k' c) := by rw [h]
def SomeLen (n : Nat) (A : Option Addr) (cap : Nat) (w : World) (e : Ending) (w' : World) : Prop := ∃ L, Len n L ∧ L ≤ cap ∧ e = .returned (.slice A L cap) ∧ w = w'
theorem norm_any (n L : Nat) (A : Option Addr) (cap : Nat) (w : World) (hA : WordsAt w A n L) (hn : n < Bs ^ L) (hl : L ≤ 100000) (hcap : L ≤ cap) :
    Calls Tryz.prog 80 #[.slice A L cap] w (SomeLen n A cap w) := by
  go_enter Tryz.func80, Tryz.ntmps80
  go_wp2
  go_loop [0] (fun x => ∃ k, x = .slice A k cap ∧ k ≤ L ∧ Hid (n < Bs ^ k)) (fun x => match x with | .slice _ k _ => k | _ => 0)
  case atStart => exact ⟨_, rfl, Nat.le_refl _, Lib.hid hn⟩
  case round =>
    obtain ⟨k, rfl, hk, hnk⟩ := hrel
    clear hn
    cases k with
    | zero =>
      go_wp2
      go_ret
      exact ⟨0, ⟨hnk.out, fun h => by omega⟩, Nat.zero_le _, rfl, rfl⟩
    | succ j =>
      obtain ⟨a, rfl, _, hc⟩ := hA (by omega)
      have hcj := hc j (by omega)
      have hlt := wd_lt n j
      by_cases hv : wd n j = 0
      · have h1 := Lib.hid (Len.drop hnk.out hv)
        rw [hv] at hcj
        clear hc hlt hv hA
        go_wp2
        go_round
        case rel => exact ⟨j, rfl, by omega, h1⟩
        case measure => simp
      · have h1 := Lib.hid (Len.stay hnk.out hv)
        generalize wd n j = v at hcj hlt hv
        clear hc hA
        go_wp2
        go_ret
        exact ⟨_, h1.out, by omega, rfl, rfl⟩
def SomeCmp (n m : Nat) (w : World) (e : Ending) (w' : World) : Prop := ∃ (c : Int) (k : Nat), e = .returned (.int .i64 c) ∧ w' = w.drewN k ∧ Sg c n m ∧ -1000000000 ≤ c ∧ c ≤ 1000000000
theorem cmp_any (n m L M : Nat) (A C : Option Addr) (ca cc : Nat) (w : World) (hA : WordsAt w A n L) (hC : WordsAt w C m M) (hn : Len n L) (hm : Len m M) (hl : L ≤ 100000) (hm' : M ≤ 100000) :
    Calls Tryz.prog 66 #[.slice A L ca, .slice C M cc] w (SomeCmp n m w) := by
  by_cases hLM : L = M
  · subst hLM
    go_enter Tryz.func66, Tryz.ntmps66
    go_wp2
    go_loopw [5] (fun i wr => ∃ (k q : Nat), k ≤ L ∧ i = .int .i64 ((k : Int) - 1) ∧ wr = w.drewN q ∧ Hid (n / Bs ^ k = m / Bs ^ k)) (fun i _ => (intOf i + 1).toNat)
    case atStart => exact ⟨L, 0, Nat.le_refl _, rfl, rfl, Lib.hid (by rw [Nat.div_eq_of_lt hn.1, Nat.div_eq_of_lt hm.1])⟩
    case round =>
      obtain ⟨k, q, hk, rfl, rfl, hd⟩ := hrel
      cases k with
      | zero =>
        have hd0 : n = m := by simpa using hd.out
        subst hd0
        go_wp2
        go_ret
        exact ⟨0, q, rfl, rfl, Sg.refl _, by decide, by decide⟩
      | succ j =>
        obtain ⟨a, rfl, _, hc⟩ := hA (by omega)
        obtain ⟨c, rfl, _, hc'⟩ := hC (by omega)
        have hcj := hc j (by omega)
        have hcj' := hc' j (by omega)
        have hlt := wd_lt n j
        have hlt' := wd_lt m j
        rw [show ((j + 1 : Nat) : Int) - 1 = (j : Int) by omega]
        by_cases hv : wd n j = wd m j
        · have hd' := Lib.hid (div_eq hd.out hv)
          rw [hv] at hcj
          generalize wd m j = y at hcj hcj' hlt'
          clear hd hc hc' hlt hv hA hC hn hm
          go_wp2
          go_quiet (fail)
          go_wp2
          go_roundw
          case rel => exact ⟨j, _, by omega, by go_num, rfl, hd'⟩
          case measure => simp [intOf]
        · have he := Lib.hid (Sg.wd hd.out hv)
          generalize wd n j = x at he hcj hlt hv
          generalize wd m j = y at he hcj' hlt' hv
          clear hd hc hc' hA hC hn hm
          go_wp2
          go_quiet (fail)
          go_wp2
          go_quiet (fail)
          go_wp2
          go_ret
          exact ⟨_, _, rfl, by rw [World.drewN_drewN, World.drewN_drewN], he.out, by omega, by omega⟩
  · have he := Lib.hid (Sg.len hn hm hLM)
    clear hn hm hA hC
    go_enter Tryz.func66, Tryz.ntmps66
    go_wp2
    go_ret
    exact ⟨_, 0, rfl, rfl, he.out, by omega, by omega⟩
end Go.Proofs.Nw
namespace Go.Proofs.Nw
open Go.RowKit Go.Lib
theorem info54 : (Tryz.prog.info? 170).map (fun i => (i.zero, i.size, i.bytes)) = some (some (.int .u64 0), 1, 8) := by kernel_rfl
theorem und28 : Tryz.prog.underlying 114 = some (.slice 170) := by kernel_rfl
theorem addr_block (a : Addr) (n : Nat) : (a.add n).block = a.block := by unfold Addr.add; split <;> rfl
theorem row_next {n' k : Nat} {v : Int} (hv : v = (wd n' k : Nat)) (j : Nat) : (if j = k then Value.int .u64 v else if j < k then .int .u64 (wd n' j : Nat) else .int .u64 0) = if j < k + 1 then .int .u64 (wd n' j : Nat) else .int .u64 0 := by
  by_cases h : j = k
  · subst h
    rw [if_pos rfl, if_pos (by omega), hv]
  · rw [if_neg h]
    by_cases h2 : j < k
    · rw [if_pos h2, if_pos (by omega)]
    · rw [if_neg h2, if_neg (by omega)]
theorem add0 (b j : Nat) : Addr.add ⟨b, 0, none⟩ j = ⟨b, j, none⟩ := by
  unfold Addr.add
  split
  · rename_i h; rw [h]
  · simp
theorem WordsAt.less {w : World} {A : Option Addr} {n L L' : Nat} (h : WordsAt w A n L) (hl : L' ≤ L) : WordsAt w A n L' := fun h0 => by
  obtain ⟨a, h1, h2, h3⟩ := h (by omega)
  exact ⟨a, h1, h2, fun j hj => h3 j (by omega)⟩
/-- a number in memory of the call's own -/
def Made (n : Nat) (w : World) (e : Ending) (w' : World) : Prop := ∃ L a cap, e = .returned (.slice (some a) L cap) ∧ Len n L ∧ L ≤ cap ∧ WordsAt w' (some a) n L ∧ w.heap.size ≤ a.block ∧ Below w.heap.size w w'
set_option maxRecDepth 10000 in
theorem plus_lt (n m L M : Nat) (A C : Option Addr) (ca cc : Nat) (w : World) (hA : WordsAt w A n L) (hC : WordsAt w C m M) (hn : n < Bs ^ L) (hm : m < Bs ^ M) (hl : L ≤ 90000) (hm' : M ≤ 90000) (hca : L ≤ ca) (hcc : M ≤ cc) (hle : L < M) :
    Calls Tryz.prog 65 #[.slice A L ca, .slice C M cc] w (Made (n + m) w) := by
  have hLK : L ≤ M := by omega
  have hMK : M ≤ M := by omega
  have hmk := run_make_row' (P := Tryz.prog) 114 170 (.int .u64 0) 8 und28 info54 rfl .i64 .i64 (M + 1) (by omega) (by omega)
  have hi1 : ((M + 1 : Nat) : Int) = (M : Int) + 1 := by omega
  rw [hi1] at hmk
  clear hi1
  have hS := Lib.hid (show n + m < Bs ^ (M + 1) from sum_lt (Nat.lt_of_lt_of_le hn (Nat.pow_le_pow_right Bs_pos hLK)) (Nat.lt_of_lt_of_le hm (Nat.pow_le_pow_right Bs_pos hMK)))
  go_enter Tryz.func65, Tryz.ntmps65
  go_wp2
  go_loopw [6, 17] (fun c i wr => ∃ k : Nat, k ≤ M + 1 ∧ i = .int .i64 k ∧ c = .int .u64 (car n m k : Nat) ∧ Below w.heap.size w wr ∧ wr.heap.size = w.heap.size + 1 ∧ wr.rowIs w.heap.size 170 (M + 1) (fun j => if j < k then .int .u64 (wd (n + m) j : Nat) else .int .u64 0)) (fun _ i _ => M + 1 - (intOf i).toNat)
  case atStart => exact ⟨0, by omega, rfl, by rw [car_zero]; rfl, (Below.refl _ _).alloc (Nat.le_refl _) _, by simp, by simpa using World.rowIs_made w (.int .u64 0) _ 170⟩
  case round =>
    rename_i wr _
    obtain ⟨k, hk, rfl, rfl, hb, hz, hr⟩ := hrel
    have hfin : ∀ (x y : Nat), wd n k = x → wd m k = y → ∀ v u : Int, v = ((car n m k + x + y : Nat) : Int) % 1000000000 → u = ((car n m k + x + y : Nat) : Int) / 1000000000 →
        Hid (v = (wd (n + m) k : Nat) ∧ u = (car n m (k + 1) : Nat)) := by
      intro x y hx hy v u hv hu
      obtain ⟨e1, e2⟩ := car_div hx hy
      exact Lib.hid ⟨by rw [hv]; omega, by rw [hu]; omega⟩
    by_cases hlt : k < M + 1
    · have hc1 := car_le n m k
      have hw1 := wd_lt n k
      have hw2 := wd_lt m k
      have hfr := hr.frozen k
      have hck := hr.cell (i := k) hlt
      rw [if_neg (Nat.lt_irrefl k)] at hck
      by_cases h1 : k < L
      · by_cases h2 : k < M
        · obtain ⟨a, rfl, ha, hc⟩ := hA (by omega)
          obtain ⟨c, rfl, hb', hc'⟩ := hC (by omega)
          have hcj := hb.cell (p := a.add k) (by rw [addr_block]; exact ha)
          rw [hc k h1] at hcj
          have hcj' := hb.cell (p := c.add k) (by rw [addr_block]; exact hb')
          rw [hc' k h2] at hcj'
          have hf := hfin _ _ rfl rfl
          generalize wd n k = x at hcj hf hw1
          generalize wd m k = y at hcj' hf hw2
          clear hfin hA hC hc hc' hn hm
          go_wp2
          go_roundw
          case rel =>
            obtain ⟨e1, e2⟩ := (hf _ _ rfl rfl).out
            exact ⟨k + 1, by omega, by go_num, congrArg (Value.int .u64) (by omega), hb.setCell (Nat.le_refl _) _, by simpa using hz, (hr.set k _).congr fun j _ => row_next (by omega) j⟩
          case measure => simp [intOf] <;> omega
        · omega
      · by_cases h2 : k < M
        · obtain ⟨a, rfl, ha, hc⟩ := hC (by omega)
          have hcj := hb.cell (p := a.add k) (by rw [addr_block]; exact ha)
          rw [hc k h2] at hcj
          have hf := hfin 0 _ (wd_zero hn (by omega)) rfl
          generalize wd m k = x at hcj hf hw2
          clear hfin hA hC hc hn hm hw1
          go_wp2
          go_roundw
          case rel =>
            obtain ⟨e1, e2⟩ := (hf _ _ rfl rfl).out
            exact ⟨k + 1, by omega, by go_num, congrArg (Value.int .u64) (by omega), hb.setCell (Nat.le_refl _) _, by simpa using hz, (hr.set k _).congr fun j _ => row_next (by omega) j⟩
          case measure => simp [intOf] <;> omega
        · have hf := hfin 0 0 (wd_zero hn (by omega)) (wd_zero hm (by omega))
          clear hfin hA hC hn hm hw1 hw2
          go_wp2
          go_roundw
          case rel =>
            obtain ⟨e1, e2⟩ := (hf _ _ rfl rfl).out
            exact ⟨k + 1, by omega, by go_num, congrArg (Value.int .u64) (by omega), hb.setCell (Nat.le_refl _) _, by simpa using hz, (hr.set k _).congr fun j _ => row_next (by omega) j⟩
          case measure => simp [intOf] <;> omega
    · have hke : k = M + 1 := by omega
      have hwords : WordsAt wr (some ⟨w.heap.size, 0, none⟩) (n + m) (M + 1) := fun _ => ⟨_, rfl, by show w.heap.size < wr.heap.size; omega, fun j hj => by
        rw [add0, hr.cell hj, if_pos (by omega)]⟩
      clear hfin hA hC hn hm hr
      subst hke
      go_wp2_with (go_at_call 80; refine (norm_any (n + m) _ _ _ _ hwords hS.out (by omega) (Nat.le_refl _)).mono ?_; rintro e w' ⟨L', hL, hL', rfl, rfl⟩)
      go_ret
      exact ⟨L', _, _, rfl, hL, hL', hwords.less hL', Nat.le_refl _, hb⟩
set_option maxRecDepth 10000 in
theorem plus_ge (n m L M : Nat) (A C : Option Addr) (ca cc : Nat) (w : World) (hA : WordsAt w A n L) (hC : WordsAt w C m M) (hn : n < Bs ^ L) (hm : m < Bs ^ M) (hl : L ≤ 90000) (hm' : M ≤ 90000) (hca : L ≤ ca) (hcc : M ≤ cc) (hle : M ≤ L) :
    Calls Tryz.prog 65 #[.slice A L ca, .slice C M cc] w (Made (n + m) w) := by
  have hLK : L ≤ L := by omega
  have hMK : M ≤ L := by omega
  have hmk := run_make_row' (P := Tryz.prog) 114 170 (.int .u64 0) 8 und28 info54 rfl .i64 .i64 (L + 1) (by omega) (by omega)
  have hi1 : ((L + 1 : Nat) : Int) = (L : Int) + 1 := by omega
  rw [hi1] at hmk
  clear hi1
  have hS := Lib.hid (show n + m < Bs ^ (L + 1) from sum_lt (Nat.lt_of_lt_of_le hn (Nat.pow_le_pow_right Bs_pos hLK)) (Nat.lt_of_lt_of_le hm (Nat.pow_le_pow_right Bs_pos hMK)))
  go_enter Tryz.func65, Tryz.ntmps65
  go_wp2
  go_loopw [6, 17] (fun c i wr => ∃ k : Nat, k ≤ L + 1 ∧ i = .int .i64 k ∧ c = .int .u64 (car n m k : Nat) ∧ Below w.heap.size w wr ∧ wr.heap.size = w.heap.size + 1 ∧ wr.rowIs w.heap.size 170 (L + 1) (fun j => if j < k then .int .u64 (wd (n + m) j : Nat) else .int .u64 0)) (fun _ i _ => L + 1 - (intOf i).toNat)
  case atStart => exact ⟨0, by omega, rfl, by rw [car_zero]; rfl, (Below.refl _ _).alloc (Nat.le_refl _) _, by simp, by simpa using World.rowIs_made w (.int .u64 0) _ 170⟩
  case round =>
    rename_i wr _
    obtain ⟨k, hk, rfl, rfl, hb, hz, hr⟩ := hrel
    have hfin : ∀ (x y : Nat), wd n k = x → wd m k = y → ∀ v u : Int, v = ((car n m k + x + y : Nat) : Int) % 1000000000 → u = ((car n m k + x + y : Nat) : Int) / 1000000000 →
        Hid (v = (wd (n + m) k : Nat) ∧ u = (car n m (k + 1) : Nat)) := by
      intro x y hx hy v u hv hu
      obtain ⟨e1, e2⟩ := car_div hx hy
      exact Lib.hid ⟨by rw [hv]; omega, by rw [hu]; omega⟩
    by_cases hlt : k < L + 1
    · have hc1 := car_le n m k
      have hw1 := wd_lt n k
      have hw2 := wd_lt m k
      have hfr := hr.frozen k
      have hck := hr.cell (i := k) hlt
      rw [if_neg (Nat.lt_irrefl k)] at hck
      by_cases h1 : k < L
      · by_cases h2 : k < M
        · obtain ⟨a, rfl, ha, hc⟩ := hA (by omega)
          obtain ⟨c, rfl, hb', hc'⟩ := hC (by omega)
          have hcj := hb.cell (p := a.add k) (by rw [addr_block]; exact ha)
          rw [hc k h1] at hcj
          have hcj' := hb.cell (p := c.add k) (by rw [addr_block]; exact hb')
          rw [hc' k h2] at hcj'
          have hf := hfin _ _ rfl rfl
          generalize wd n k = x at hcj hf hw1
          generalize wd m k = y at hcj' hf hw2
          clear hfin hA hC hc hc' hn hm
          go_wp2
          go_roundw
          case rel =>
            obtain ⟨e1, e2⟩ := (hf _ _ rfl rfl).out
            exact ⟨k + 1, by omega, by go_num, congrArg (Value.int .u64) (by omega), hb.setCell (Nat.le_refl _) _, by simpa using hz, (hr.set k _).congr fun j _ => row_next (by omega) j⟩
          case measure => simp [intOf] <;> omega
        · obtain ⟨a, rfl, ha, hc⟩ := hA (by omega)
          have hcj := hb.cell (p := a.add k) (by rw [addr_block]; exact ha)
          rw [hc k h1] at hcj
          have hf := hfin _ 0 rfl (wd_zero hm (by omega))
          generalize wd n k = x at hcj hf hw1
          clear hfin hA hC hc hn hm hw2
          go_wp2
          go_roundw
          case rel =>
            obtain ⟨e1, e2⟩ := (hf _ _ rfl rfl).out
            exact ⟨k + 1, by omega, by go_num, congrArg (Value.int .u64) (by omega), hb.setCell (Nat.le_refl _) _, by simpa using hz, (hr.set k _).congr fun j _ => row_next (by omega) j⟩
          case measure => simp [intOf] <;> omega
      · by_cases h2 : k < M
        · omega
        · have hf := hfin 0 0 (wd_zero hn (by omega)) (wd_zero hm (by omega))
          clear hfin hA hC hn hm hw1 hw2
          go_wp2
          go_roundw
          case rel =>
            obtain ⟨e1, e2⟩ := (hf _ _ rfl rfl).out
            exact ⟨k + 1, by omega, by go_num, congrArg (Value.int .u64) (by omega), hb.setCell (Nat.le_refl _) _, by simpa using hz, (hr.set k _).congr fun j _ => row_next (by omega) j⟩
          case measure => simp [intOf] <;> omega
    · have hke : k = L + 1 := by omega
      have hwords : WordsAt wr (some ⟨w.heap.size, 0, none⟩) (n + m) (L + 1) := fun _ => ⟨_, rfl, by show w.heap.size < wr.heap.size; omega, fun j hj => by
        rw [add0, hr.cell hj, if_pos (by omega)]⟩
      clear hfin hA hC hn hm hr
      subst hke
      go_wp2_with (go_at_call 80; refine (norm_any (n + m) _ _ _ _ hwords hS.out (by omega) (Nat.le_refl _)).mono ?_; rintro e w' ⟨L', hL, hL', rfl, rfl⟩)
      go_ret
      exact ⟨L', _, _, rfl, hL, hL', hwords.less hL', Nat.le_refl _, hb⟩
end Go.Proofs.Nw
namespace Go.Proofs.Nw
open Go.RowKit Go.Lib
def wlist (n L : Nat) : List Value := (List.range L).map fun j => .int .u64 (wd n j : Nat)
theorem wlist_get {n L j : Nat} (hj : j < L) : (wlist n L)[j]? = some (.int .u64 (wd n j : Nat)) := by simp [wlist, hj]
def Own (n L : Nat) (w : World) (e : Ending) (w' : World) : Prop := ∃ v, e = .returned v ∧ w'.ownsRow w.heap.size 170 1 v L (wlist n L) ∧ Below w.heap.size w w' ∧ w.heap.size ≤ w'.heap.size
set_option maxRecDepth 100000 in
theorem clone_any (n L : Nat) (A : Option Addr) (ca : Nat) (w : World) (hA : WordsAt w A n L) (hl : L ≤ 90000) (h0 : A = none → L = 0 ∧ ca = 0) :
    Calls Tryz.prog 93 #[.slice A L ca] w (Own n L w) := by
  obtain ⟨i0, hi, hz0, hz1, hz2⟩ := info_parts info54
  have he : ∀ (w : World), (binOp .eql 114 (.slice A L ca) (.slice none 0 0)).run Tryz.prog w = .ok (.bool A.isNone) w := fun w => Lib.run_eql_slice_nil w 114 170 A L ca 0 0 und28
  cases A with
  | none =>
    obtain ⟨rfl, rfl⟩ := h0 rfl
    have he' : ∀ (w : World), (binOp .eql 114 (.slice none 0 0) (.slice none 0 0)).run Tryz.prog w = .ok (.bool true) w := he
    clear he
    go_enter Tryz.func93, Tryz.ntmps93
    go_wp2
    go_ret
    exact ⟨_, rfl, ⟨rfl, .inl ⟨rfl, rfl⟩⟩, Below.refl _ _, Nat.le_refl _⟩
  | some a =>
    have he' : ∀ (w : World), (binOp .eql 114 (.slice (some a) L ca) (.slice none 0 0)).run Tryz.prog w = .ok (.bool false) w := he
    have hown : (w.alloc (.cells #[] 170)).ownsRow w.heap.size 170 1 (.slice (some ⟨w.heap.size, 0, none⟩) 0 0) 0 [] := ⟨rfl, .inr ⟨w.heap.size, 0, #[], rfl, Nat.le_refl _, Go.Deep.blk_alloc_new _ _, Nat.le_refl _, Nat.zero_le _, rfl, rfl⟩⟩
    have hnews : ∀ (j : Nat) u, (wlist n L)[j]? = some u → (w.alloc (.cells #[] 170)).cell? (a.add j) = some u := fun j u hu => by
      have hj : j < L := by have := (List.getElem?_eq_some_iff.1 hu).1; simpa [wlist] using this
      obtain ⟨a', e, hb, hc⟩ := hA (by omega)
      injection e with e; subst e
      rw [World.cell?_alloc_lt _ _ _ (by rw [addr_block]; exact hb), hc j hj, ← hu, wlist_get hj]
    have h1 : ∀ u ∈ wlist n L, u.oneCell' = true := fun u hu => by
      obtain ⟨j, _, rfl⟩ := List.mem_map.1 hu
      rfl
    have hH := Lib.hid hnews
    have hh1 := Lib.hid h1
    have hO := Lib.hid hown
    clear he hnews h1 hA hown
    go_enter Tryz.func93, Tryz.ntmps93
    go_wp2_with (at_builtin; refine wpList_append_own _ rfl (.tmp 5) (.tmp 6) 114 rfl w.heap.size 170 i0 (.int .u64 0) 1 8 und28 hi hz0 hz1 hz2 rfl (by decide) _ 0 [] rfl hO.out a L ca (wlist n L) rfl (by simp [wlist]) hH.out hh1.out (by unfold maxLen; omega) (by omega) (by simp) ?_; rintro v' w1 hown' hgrow hnil)
    go_ret
    exact ⟨_, rfl, by simpa using hown', ((Below.refl _ _).alloc (Nat.le_refl _) _).grown hgrow (by simp) (fun k hk => by have hk' : some w.heap.size = some k := hk; injection hk' with hk'; omega), by have := hgrow.size; simp at this; omega⟩
/-- a copy of a number's words, in a block of the call's own -/
def Cloned (n L : Nat) (w : World) (e : Ending) (w' : World) : Prop := ∃ A cap, e = .returned (.slice A L cap) ∧ L ≤ cap ∧ cap ≤ maxLen ∧ Below w.heap.size w w' ∧ (A = none → L = 0 ∧ cap = 0) ∧
  (0 < L → ∃ b f, A = some ⟨b, 0, none⟩ ∧ w.heap.size ≤ b ∧ w'.rowIs b 170 cap f ∧ ∀ (j : Nat), j < L → f j = .int .u64 (wd n j : Nat))
theorem clone_num (n L : Nat) (A : Option Addr) (ca : Nat) (w : World) (hA : WordsAt w A n L) (hl : L ≤ 90000) (h0 : A = none → L = 0 ∧ ca = 0) :
    Calls Tryz.prog 93 #[.slice A L ca] w (Cloned n L w) := by
  refine (clone_any n L A ca w hA hl h0).mono fun e w' h => ?_
  obtain ⟨v, rfl, hown, hb, _⟩ := h
  obtain ⟨_, h⟩ := hown
  rcases h with ⟨rfl, rfl⟩ | ⟨g, cap, cur, rfl, hg, hh, hc, hcm, hs, ht⟩
  · exact ⟨none, 0, rfl, Nat.le_refl _, Nat.zero_le _, hb, fun _ => ⟨rfl, rfl⟩, fun h => absurd h (Nat.lt_irrefl _)⟩
  · refine ⟨_, cap, rfl, hc, hcm, hb, (fun h => by cases h), fun _ => ⟨g, fun j => (cur[j]?).getD undef, rfl, hg, ⟨cur, hh, by omega, fun i hi => ?_⟩, fun j hj => ?_⟩⟩
    · have : i < cur.size := by omega
      simp [this]
    · have h1 : cur[j]? = (cur.toList.take (L * 1))[j]? := by
        rw [List.getElem?_take, if_pos (by omega)]
        simp
      show (cur[j]?).getD undef = _
      rw [h1, ht, wlist_get hj]
      rfl
end Go.Proofs.Nw
namespace Go.Proofs.Nw
/-- what the product's words below k carry over, above i -/
def cmNum (P x m i k : Nat) : Nat := P % Bs ^ (i + k) + x * (m % Bs ^ k) * Bs ^ i
def cm (P x m i k : Nat) : Nat := cmNum P x m i k / Bs ^ (i + k)
theorem cmNum_step (P x m i k : Nat) : cmNum P x m i (k + 1) = cmNum P x m i k + Bs ^ (i + k) * (wd P (i + k) + x * wd m k) := by
  unfold cmNum
  rw [← Nat.add_assoc, mod_step P, mod_step m, Nat.pow_add, Nat.mul_add, Nat.add_mul, Nat.mul_add]
  have : x * (Bs ^ k * wd m k) * Bs ^ i = Bs ^ i * Bs ^ k * (x * wd m k) := by ac_rfl
  rw [this]
  omega
theorem cm_zero (P x m i : Nat) : cm P x m i 0 = 0 := by
  unfold cm cmNum
  simp only [Nat.pow_zero, Nat.mod_one, Nat.mul_zero, Nat.zero_mul, Nat.add_zero]
  exact Nat.div_eq_of_lt (Nat.mod_lt _ (pow_pos' i))
theorem cmNum_div (P x m i k : Nat) : cmNum P x m i (k + 1) / Bs ^ (i + k) = cm P x m i k + (wd P (i + k) + x * wd m k) := by
  rw [cmNum_step, Nat.add_mul_div_left _ _ (pow_pos' _)]
  rfl
theorem cmNum_mod (P x m i k : Nat) : (P + x * m * Bs ^ i) % Bs ^ (i + k) = cmNum P x m i k % Bs ^ (i + k) := by
  unfold cmNum
  have h : x * m * Bs ^ i = x * (m % Bs ^ k) * Bs ^ i + Bs ^ (i + k) * (x * (m / Bs ^ k)) := by
    have h1 := Nat.mod_add_div m (Bs ^ k)
    calc x * m * Bs ^ i = x * (m % Bs ^ k + Bs ^ k * (m / Bs ^ k)) * Bs ^ i := by rw [h1]
      _ = _ := by
        rw [Nat.mul_add, Nat.add_mul, Nat.pow_add]
        congr 1
        ac_rfl
  rw [h, ← Nat.add_assoc, Nat.add_mul_mod_self_left, Nat.mod_add_mod]
theorem cm_step (P x m i k : Nat) : cm P x m i (k + 1) = (cm P x m i k + (wd P (i + k) + x * wd m k)) / Bs ∧ wd (P + x * m * Bs ^ i) (i + k) = (cm P x m i k + (wd P (i + k) + x * wd m k)) % Bs := by
  rw [← cmNum_div]
  refine ⟨?_, ?_⟩
  · unfold cm
    rw [← Nat.add_assoc, Nat.pow_succ, Nat.div_div_eq_div_mul]
  · rw [wd_congr (b := cmNum P x m i (k + 1))]
    · rfl
    · rw [Nat.add_assoc, cmNum_mod]
theorem cm_lt {P x m i k : Nat} (hx : x < Bs) : cm P x m i k < Bs := by
  unfold cm
  rw [Nat.div_lt_iff_lt_mul (pow_pos' _)]
  unfold cmNum
  have h1 := Nat.mod_lt P (pow_pos' (i + k))
  have h2 := Nat.mod_lt m (pow_pos' k)
  have h3 : x * (m % Bs ^ k) * Bs ^ i ≤ (Bs - 1) * Bs ^ k * Bs ^ i := Nat.mul_le_mul_right _ (Nat.mul_le_mul (by omega) (by omega))
  have h4 : (Bs - 1) * Bs ^ k * Bs ^ i = (Bs - 1) * Bs ^ (i + k) := by rw [Nat.pow_add]; ac_rfl
  have h5 : Bs * Bs ^ (i + k) = (Bs - 1) * Bs ^ (i + k) + Bs ^ (i + k) := by rw [← Nat.succ_mul]; rfl
  omega
theorem new_lt {P x m i M : Nat} (hP : P < Bs ^ (i + M)) (hm : m < Bs ^ M) (hx : x < Bs) : P + x * m * Bs ^ i < Bs ^ (i + 1 + M) := by
  have h3 : x * m * Bs ^ i ≤ (Bs - 1) * Bs ^ M * Bs ^ i := Nat.mul_le_mul_right _ (Nat.mul_le_mul (by omega) (by omega))
  have h4 : (Bs - 1) * Bs ^ M * Bs ^ i = (Bs - 1) * Bs ^ (i + M) := by rw [Nat.pow_add]; ac_rfl
  have h5 : Bs ^ (i + 1 + M) = (Bs - 1) * Bs ^ (i + M) + Bs ^ (i + M) := by
    rw [show i + 1 + M = (i + M) + 1 by omega, Nat.pow_succ, Nat.mul_comm, ← Nat.succ_mul]; rfl
  omega
theorem cm_last {P x m i M : Nat} (hP : P < Bs ^ (i + M)) (hm : m < Bs ^ M) (hx : x < Bs) : wd (P + x * m * Bs ^ i) (i + M) = cm P x m i M := by
  have h : cmNum P x m i M = P + x * m * Bs ^ i := by
    unfold cmNum
    rw [Nat.mod_eq_of_lt hP, Nat.mod_eq_of_lt hm]
  unfold wd cm
  rw [h, Nat.mod_eq_of_lt]
  rw [Nat.div_lt_iff_lt_mul (pow_pos' _)]
  have := new_lt hP hm hx
  rw [show i + 1 + M = (i + M) + 1 by omega, Nat.pow_succ, Nat.mul_comm (Bs ^ (i + M))] at this
  exact this
theorem low_wd {P x m i j : Nat} (h : j < i) : wd (P + x * m * Bs ^ i) j = wd P j := by
  apply wd_congr
  have : Bs ^ i = Bs ^ (j + 1) * Bs ^ (i - (j + 1)) := by rw [← Nat.pow_add]; congr 1; omega
  rw [this, show x * m * (Bs ^ (j + 1) * Bs ^ (i - (j + 1))) = Bs ^ (j + 1) * (x * m * Bs ^ (i - (j + 1))) by ac_rfl, Nat.add_mul_mod_self_left]
/-- the product with a number's first i words -/
def prod (n m i : Nat) : Nat := n % Bs ^ i * m
theorem prod_zero (n m : Nat) : prod n m 0 = 0 := by simp [prod, Nat.mod_one]
theorem prod_step (n m i : Nat) : prod n m (i + 1) = prod n m i + wd n i * m * Bs ^ i := by
  unfold prod
  rw [mod_step, Nat.add_mul]
  congr 1
  ac_rfl
theorem prod_lt {n m i M : Nat} (hm : m < Bs ^ M) : prod n m i < Bs ^ (i + M) := by
  unfold prod
  have h1 := Nat.mod_lt n (pow_pos' i)
  rw [Nat.pow_add]
  have h2 : n % Bs ^ i * m ≤ n % Bs ^ i * Bs ^ M := Nat.mul_le_mul_left _ (by omega)
  have h3 : n % Bs ^ i * Bs ^ M < Bs ^ i * Bs ^ M := Nat.mul_lt_mul_of_pos_right h1 (pow_pos' M)
  omega
theorem prod_all {n m L : Nat} (hn : n < Bs ^ L) : prod n m L = n * m := by
  unfold prod
  rw [Nat.mod_eq_of_lt hn]
theorem xy_le {x y : Nat} (hx : x < 1000000000) (hy : y < 1000000000) : x * y ≤ 999999998000000001 := Nat.mul_le_mul (show x ≤ 999999999 by omega) (show y ≤ 999999999 by omega)
end Go.Proofs.Nw
namespace Go.Proofs.Nw
open Go.RowKit Go.Lib
/-- a number in memory -/
def MadeO (n : Nat) (w : World) (e : Ending) (w' : World) : Prop := ∃ L A cap, e = .returned (.slice A L cap) ∧ Len n L ∧ L ≤ cap ∧ WordsAt w' A n L ∧ (A = none → L = 0 ∧ cap = 0) ∧ Below w.heap.size w w'
theorem Len.le {n L k : Nat} (h : Len n L) (hk : n < Bs ^ k) : L ≤ k := by
  rcases Nat.lt_or_ge k L with hh | hh
  · have h2 := h.2 (by omega)
    have h3 : Bs ^ k ≤ Bs ^ (L - 1) := Nat.pow_le_pow_right Bs_pos (by omega)
    omega
  · exact hh
theorem borrow {n m k x y d c c' : Nat} (hmn : m ≤ n) (hx : wd n k = x) (hy : wd m k = y) (hd : wd (n - m) k = d) (hc : car (n - m) m k = c) (hc' : car (n - m) m (k + 1) = c') :
    (x < y + c → c' = 1 ∧ d + (y + c) = x + 1000000000) ∧ (¬ x < y + c → c' = 0 ∧ d + (y + c) = x) := by
  have h := car_step (n - m) m k
  rw [Nat.sub_add_cancel hmn, hx, hy, hd, hc, hc', Bs_eq] at h
  have h1 := car_le (n - m) m (k + 1)
  have h2 := wd_lt (n - m) k
  rw [hc'] at h1
  rw [hd] at h2
  have : c' = 0 ∨ c' = 1 := by omega
  rcases this with rfl | rfl <;> omega
theorem row_next1 {n' k : Nat} {v : Int} (f : Nat → Value) (hv : v = (wd n' k : Nat)) (j : Nat) : (if j = k then Value.int .u64 v else if j < k then .int .u64 (wd n' j : Nat) else f j) = if j < k + 1 then .int .u64 (wd n' j : Nat) else f j := by
  by_cases h : j = k
  · subst h
    rw [if_pos rfl, if_pos (by omega), hv]
  · rw [if_neg h]
    by_cases h2 : j < k
    · rw [if_pos h2, if_pos (by omega)]
    · rw [if_neg h2, if_neg (by omega)]
theorem row_next2 {n' k : Nat} {v : Int} (u : Value) (f : Nat → Value) (hv : v = (wd n' k : Nat)) (j : Nat) : (if j = k then Value.int .u64 v else if j = k then u else if j < k then .int .u64 (wd n' j : Nat) else f j) = if j < k + 1 then .int .u64 (wd n' j : Nat) else f j := by
  rw [← row_next1 f hv j]
  by_cases h : j = k
  · rw [if_pos h, if_pos h]
  · rw [if_neg h, if_neg h, if_neg h]
set_option maxRecDepth 100000 in
theorem minus_any (n m L M : Nat) (A C : Option Addr) (ca cc : Nat) (w : World) (hA : WordsAt w A n L) (hC : WordsAt w C m M) (hn : n < Bs ^ L) (hm : m < Bs ^ M) (hmn : m ≤ n) (hl : L ≤ 90000) (hm' : M ≤ 90000) (hca : L ≤ ca) (_hcc : M ≤ cc) (h0 : A = none → L = 0 ∧ ca = 0) :
    Calls Tryz.prog 67 #[.slice A L ca, .slice C M cc] w (MadeO (n - m) w) := by
  have hcl := clone_num n L A ca w hA hl h0
  have hS := Lib.hid (show n - m < Bs ^ L from by omega)
  clear h0 hA
  go_enter Tryz.func67, Tryz.ntmps67
  go_wp2_with (go_at_call 93; refine hcl.mono ?_; rintro e w1 ⟨A', cap, rfl, hcap, hcm, hb1, h0', hrow⟩)
  go_loopw [6, 13] (fun c i wr => ∃ k : Nat, k ≤ L ∧ i = .int .i64 k ∧ c = .int .u64 (car (n - m) m k : Nat) ∧ Below w.heap.size w wr ∧ wr.heap.size = w1.heap.size ∧ (0 < L → ∃ (b : Nat) (f : Nat → Value), A' = some ⟨b, 0, none⟩ ∧ w.heap.size ≤ b ∧ wr.rowIs b 170 cap (fun j => if j < k then .int .u64 (wd (n - m) j : Nat) else f j) ∧ ∀ (j : Nat), j < L → f j = .int .u64 (wd n j : Nat))) (fun _ i _ => L - (intOf i).toNat)
  case atStart =>
    exact ⟨0, by omega, rfl, by rw [car_zero]; rfl, hb1, rfl, fun h => by obtain ⟨b, f, h1, h2, h3, h4⟩ := hrow h; exact ⟨b, f, h1, h2, h3.congr fun j _ => by simp, h4⟩⟩
  case round =>
    rename_i wr _
    obtain ⟨k, hk, rfl, rfl, hb, hz, hr⟩ := hrel
    by_cases hlt : k < L
    · obtain ⟨b, f, rfl, hbb, hr, hf⟩ := hr (by omega)
      have hc1 := car_le (n - m) m k
      have hw1 := wd_lt n k
      have hfr := hr.frozen k
      have hck := hr.cell (i := k) (by omega)
      rw [if_neg (Nat.lt_irrefl k), hf k hlt] at hck
      by_cases h2 : k < M
      · obtain ⟨c, rfl, hb', hc'⟩ := hC (by omega)
        have hcj := hb.cell (p := c.add k) (by rw [addr_block]; exact hb')
        rw [hc' k h2] at hcj
        have hbo := Lib.hid (borrow (k := k) hmn rfl rfl rfl rfl rfl)
        have hw2 := wd_lt m k
        generalize wd n k = x at hck hbo hw1
        generalize wd m k = y at hcj hbo hw2
        generalize hcr : car (n - m) m k = cr at hbo hc1 ⊢
        by_cases hx : x < y + cr
        · have hE := Lib.hid (hbo.out.1 hx)
          clear hbo hC hc' hn hm hcl hrow hcr
          go_wp2
          go_roundw
          case rel =>
            obtain ⟨e1, e2⟩ := hE.out
            exact ⟨k + 1, by omega, by go_num, congrArg (Value.int .u64) (by omega), (hb.setCell hbb _).setCell hbb _, by simpa using hz, fun _ => ⟨b, f, rfl, hbb, ((hr.set k _).set k _).congr fun j _ => row_next2 _ f (by omega) j, hf⟩⟩
          case measure => simp [intOf] <;> omega
        · have hE := Lib.hid (hbo.out.2 hx)
          clear hbo hC hc' hn hm hcl hrow hcr
          go_wp2
          go_roundw
          case rel =>
            obtain ⟨e1, e2⟩ := hE.out
            exact ⟨k + 1, by omega, by go_num, congrArg (Value.int .u64) (by omega), hb.setCell hbb _, by simpa using hz, fun _ => ⟨b, f, rfl, hbb, (hr.set k _).congr fun j _ => row_next1 f (by omega) j, hf⟩⟩
          case measure => simp [intOf] <;> omega
      · have hbo := Lib.hid (borrow (k := k) hmn rfl (wd_zero hm (by omega)) rfl rfl rfl)
        generalize wd n k = x at hck hbo hw1
        generalize hcr : car (n - m) m k = cr at hbo hc1 ⊢
        by_cases hx : x < 0 + cr
        · have hE := Lib.hid (hbo.out.1 hx)
          clear hbo hC hn hm hcl hrow hcr
          go_wp2
          go_roundw
          case rel =>
            obtain ⟨e1, e2⟩ := hE.out
            exact ⟨k + 1, by omega, by go_num, congrArg (Value.int .u64) (by omega), (hb.setCell hbb _).setCell hbb _, by simpa using hz, fun _ => ⟨b, f, rfl, hbb, ((hr.set k _).set k _).congr fun j _ => row_next2 _ f (by omega) j, hf⟩⟩
          case measure => simp [intOf] <;> omega
        · have hE := Lib.hid (hbo.out.2 hx)
          clear hbo hC hn hm hcl hrow hcr
          go_wp2
          go_roundw
          case rel =>
            obtain ⟨e1, e2⟩ := hE.out
            exact ⟨k + 1, by omega, by go_num, congrArg (Value.int .u64) (by omega), hb.setCell hbb _, by simpa using hz, fun _ => ⟨b, f, rfl, hbb, (hr.set k _).congr fun j _ => row_next1 f (by omega) j, hf⟩⟩
          case measure => simp [intOf] <;> omega
    · have hke : k = L := by omega
      subst hke
      have hwords : WordsAt wr A' (n - m) k := fun h => by
        obtain ⟨b, f, rfl, hbb, hr, hf⟩ := hr h
        exact ⟨_, rfl, hr.lt, fun j hj => by rw [add0, hr.cell (by omega), if_pos (by omega)]⟩
      clear hr hC hn hm hcl hrow
      go_wp2_with (go_at_call 80; refine (norm_any (n - m) _ _ _ _ hwords hS.out (by omega) hcap).mono ?_; rintro e w' ⟨L', hL, hL', rfl, rfl⟩)
      go_ret
      have hlk := hL.le hS.out
      exact ⟨L', _, _, rfl, hL, hL', hwords.less hlk, fun h => ⟨by have := (h0' h).2; omega, (h0' h).2⟩, hb⟩
theorem plus_any (n m L M : Nat) (A C : Option Addr) (ca cc : Nat) (w : World) (hA : WordsAt w A n L) (hC : WordsAt w C m M) (hn : n < Bs ^ L) (hm : m < Bs ^ M) (hl : L ≤ 90000) (hm' : M ≤ 90000) (hca : L ≤ ca) (hcc : M ≤ cc) :
    Calls Tryz.prog 65 #[.slice A L ca, .slice C M cc] w (MadeO (n + m) w) := by
  have key : ∀ e w', Made (n + m) w e w' → MadeO (n + m) w e w' := fun e w' ⟨L', a, cap, h1, h2, h3, h4, _, h6⟩ => ⟨L', some a, cap, h1, h2, h3, h4, (fun h => by cases h), h6⟩
  rcases Nat.lt_or_ge L M with h | h
  · exact (plus_lt n m L M A C ca cc w hA hC hn hm hl hm' hca hcc h).mono key
  · exact (plus_ge n m L M A C ca cc w hA hC hn hm hl hm' hca hcc h).mono key
end Go.Proofs.Nw
namespace Go.Proofs.Nw
open Go.RowKit Go.Lib
theorem row_mid (A B : Nat → Nat) {s s' : Nat} {v : Int} (hv : v = (A s : Nat)) (hs : s' = s + 1) (j : Nat) : (if j = s then Value.int .u64 v else .int .u64 ((if j < s then A j else B j : Nat) : Nat)) = .int .u64 ((if j < s' then A j else B j : Nat) : Nat) := by
  subst hs
  by_cases h : j = s
  · subst h
    rw [if_pos rfl, if_pos (by omega), hv]
  · rw [if_neg h]
    by_cases h2 : j < s
    · rw [if_pos h2, if_pos (by omega)]
    · rw [if_neg h2, if_neg (by omega)]
theorem row_end {n m i q P x : Nat} (hP : P < Bs ^ (i + q)) (hm : m < Bs ^ q) (hx : x < Bs) (hst : Go.Proofs.Nw.prod n m (i + 1) = P + x * m * Bs ^ i) (j : Nat) :
    (if j = i + q then cm P x m i q else if j < i + q then wd (P + x * m * Bs ^ i) j else wd P j) = wd (Go.Proofs.Nw.prod n m (i + 1)) j := by
  rw [hst]
  by_cases h : j = i + q
  · rw [if_pos h, h, cm_last hP hm hx]
  · rw [if_neg h]
    by_cases h2 : j < i + q
    · rw [if_pos h2]
    · rw [if_neg h2, wd_zero hP (by omega), wd_zero (new_lt hP hm hx) (by omega)]
set_option maxRecDepth 100000 in
theorem times_any (n m L M : Nat) (A C : Option Addr) (ca cc : Nat) (w : World) (hA : WordsAt w A n L) (hC : WordsAt w C m M) (hn : n < Bs ^ L) (hm : m < Bs ^ M) (hl : L ≤ 40000) (hm' : M ≤ 40000) (hca : L ≤ ca) (hcc : M ≤ cc) :
    Calls Tryz.prog 56 #[.slice A L ca, .slice C M cc] w (MadeO (n * m) w) := by
  have hmk := run_make_row' (P := Tryz.prog) 114 170 (.int .u64 0) 8 und28 info54 rfl .i64 .i64 (L + M) (by omega) (by omega)
  have hi1 : ((L + M : Nat) : Int) = (L : Int) + M := by omega
  rw [hi1] at hmk
  clear hi1
  have hS := Lib.hid (show n * m < Bs ^ (L + M) from by rw [Nat.pow_add]; exact Nat.mul_lt_mul_of_lt_of_lt hn hm)
  go_enter Tryz.func56, Tryz.ntmps56
  go_wp2
  go_loopw [19] (fun i wr => ∃ k : Nat, k ≤ L ∧ i = .int .i64 k ∧ Below w.heap.size w wr ∧ wr.heap.size = w.heap.size + 1 ∧ wr.rowIs w.heap.size 170 (L + M) (fun j => .int .u64 (wd (prod n m k) j : Nat))) (fun i _ => L - (intOf i).toNat)
  case atStart => exact ⟨0, by omega, rfl, (Below.refl _ _).alloc (Nat.le_refl _) _, by simp, by rw [prod_zero]; simpa [Go.Proofs.Nw.wd] using World.rowIs_made w (.int .u64 0) (L + M) 170⟩
  case round =>
    rename_i wr _
    obtain ⟨i, hi, rfl, hb, hz, hr⟩ := hrel
    by_cases hlt : i < L
    · obtain ⟨a, rfl, ha, hc⟩ := hA (by omega)
      have hcj := hb.cell (p := a.add i) (by rw [addr_block]; exact ha)
      rw [hc i hlt] at hcj
      have hw1 := wd_lt n i
      have hP := Lib.hid (prod_lt (n := n) (i := i) hm)
      have hst := Lib.hid (prod_step n m i)
      generalize prod n m i = P at hr hP hst
      generalize wd n i = x at hcj hw1 hst
      clear hc hA hn
      go_wp2
      go_loopw [8, 26] (fun c kk wr' => ∃ q : Nat, q ≤ M ∧ kk = .int .i64 q ∧ c = .int .u64 (cm P x m i q : Nat) ∧ Below w.heap.size w wr' ∧ wr'.heap.size = w.heap.size + 1 ∧ wr'.rowIs w.heap.size 170 (L + M) (fun j => .int .u64 ((if j < i + q then wd (P + x * m * Bs ^ i) j else wd P j : Nat) : Nat))) (fun _ kk _ => M - (intOf kk).toNat)
      case atStart => exact ⟨0, by omega, rfl, by rw [cm_zero]; rfl, hb, hz, hr.congr fun j _ => by
        by_cases h : j < i
        · rw [if_pos (by omega), low_wd h]
        · rw [if_neg (by omega)]⟩
      case round =>
        rename_i wr' _
        obtain ⟨q, hq, rfl, rfl, hb2, hz2, hr2⟩ := hrel
        clear hb hr hcj
        by_cases hlt2 : q < M
        · obtain ⟨c, rfl, hb', hc'⟩ := hC (by omega)
          have hcj := hb2.cell (p := c.add q) (by rw [addr_block]; exact hb')
          rw [hc' q hlt2] at hcj
          have hfr := hr2.frozen (i + q)
          have hck := hr2.cell (i := i + q) (by omega)
          rw [if_neg (Nat.lt_irrefl _)] at hck
          have hw2 := wd_lt m q
          have hw3 := wd_lt P (i + q)
          have hcm := cm_lt (P := P) (m := m) (i := i) (k := q) hw1
          have hstep := Lib.hid (cm_step P x m i q)
          have hxy := xy_le hw1 hw2
          generalize wd m q = y at hcj hw2 hstep hxy
          generalize wd P (i + q) = p at hck hw3 hstep
          generalize cm P x m i q = cr at hcm hstep ⊢
          clear hc' hC hm hP
          rw [Bs_eq] at hcm
          go_wp2
          go_roundw
          case rel =>
            obtain ⟨e1, e2⟩ := hstep.out
            exact ⟨q + 1, by omega, by go_num, congrArg (Value.int .u64) (by rw [e1, Bs_eq]; omega), hb2.setCell (Nat.le_refl _) _, by simpa using hz2, (hr2.set (i + q) _).congr fun j _ => row_mid _ _ (by rw [e2, Bs_eq]; omega) (by omega) j⟩
          case measure => simp [intOf] <;> omega
        · have hqe : q = M := by omega
          subst hqe
          have hl := Lib.hid (row_end (n := n) hP.out hm hw1 hst.out)
          have hfr := hr2.frozen (i + q)
          have hck := hr2.cell (i := i + q) (by omega)
          rw [if_neg (Nat.lt_irrefl _), wd_zero hP.out (Nat.le_refl _)] at hck
          have hcm := cm_lt (P := P) (m := m) (i := i) (k := q) hw1
          generalize cm P x m i q = cr at hcm hl ⊢
          clear hC hm hP
          rw [Bs_eq] at hcm
          go_wp2
          go_roundw
          case rel =>
            exact ⟨i + 1, by omega, by go_num, hb2.setCell (Nat.le_refl _) _, by simpa using hz2, (hr2.set (i + q) _).congr fun j _ => by rw [← hl.out j]; split <;> rfl⟩
          case measure => simp [intOf] <;> omega
    · have hie : i = L := by omega
      subst hie
      rw [prod_all hn] at hr
      have hwords : WordsAt wr (some ⟨w.heap.size, 0, none⟩) (n * m) (i + M) := fun _ => ⟨_, rfl, by show w.heap.size < wr.heap.size; omega, fun j hj => by rw [add0, hr.cell hj]⟩
      clear hr hA hC hn hm
      go_wp2_with (go_at_call 80; refine (norm_any (n * m) _ _ _ _ hwords hS.out (by omega) (Nat.le_refl _)).mono ?_; rintro e w' ⟨L', hL, hL', rfl, rfl⟩)
      go_ret
      exact ⟨L', _, _, rfl, hL, hL', hwords.less hL', (fun h => by cases h), hb⟩
end Go.Proofs.Nw
namespace Go.Proofs.Nw
/-- the value of decimal digits -/
def dv (l : List UInt8) : Nat := l.foldl (fun n c => 10 * n + (c.toNat - 48)) 0
def Dig (l : List UInt8) : Prop := ∀ c ∈ l, 48 ≤ c.toNat ∧ c.toNat ≤ 57
theorem dv_go (l : List UInt8) (n : Nat) : l.foldl (fun n c => 10 * n + (c.toNat - 48)) n = n * 10 ^ l.length + dv l := by
  induction l generalizing n with
  | nil => simp [dv]
  | cons c l ih =>
    unfold dv
    rw [List.foldl_cons, List.foldl_cons, ih, ih (10 * 0 + _), List.length_cons, Nat.pow_succ]
    generalize 10 ^ l.length = p
    generalize c.toNat - 48 = d
    simp only [Nat.mul_zero, Nat.zero_add, Nat.add_mul]
    rw [show 10 * n * p = n * (p * 10) by ac_rfl]
    omega
theorem dv_append (l m : List UInt8) : dv (l ++ m) = dv l * 10 ^ m.length + dv m := by
  unfold dv
  rw [List.foldl_append, dv_go]
  rfl
theorem dv_snoc (l : List UInt8) (c : UInt8) : dv (l ++ [c]) = 10 * dv l + (c.toNat - 48) := by
  unfold dv
  rw [List.foldl_append]
  rfl
theorem dv_lt {l : List UInt8} (h : Dig l) : dv l < 10 ^ l.length := by
  induction l with
  | nil => simp [dv]
  | cons c l ih =>
    have := ih fun c' hc => h c' (List.mem_cons_of_mem _ hc)
    rw [show c :: l = [c] ++ l from rfl, dv_append]
    have h1 := h c (List.mem_cons_self)
    simp only [dv, List.foldl_cons, List.foldl_nil, List.length_append, List.length_singleton] at this ⊢
    rw [Nat.pow_add, Nat.pow_one]
    have : (10 * 0 + (c.toNat - 48)) * 10 ^ l.length ≤ 9 * 10 ^ l.length := Nat.mul_le_mul_right _ (by omega)
    omega
theorem dv_nil : dv [] = 0 := rfl
theorem Dig.take {l : List UInt8} (h : Dig l) (n : Nat) : Dig (l.take n) := fun c hc => h c (List.mem_of_mem_take hc)
theorem Dig.drop {l : List UInt8} (h : Dig l) (n : Nat) : Dig (l.drop n) := fun c hc => h c (List.mem_of_mem_drop hc)
/-- one round of fromDigits: the digits from k on, of the first r -/
theorem dv_chunk {l : List UInt8} {r k : Nat} (hr : r ≤ l.length) (hk : k = r - 9) : dv (l.take r) = dv (l.take k) * Bs + dv ((l.take r).drop k) := by
  have h : l.take r = l.take k ++ (l.take r).drop k := by
    conv => lhs; rw [← List.take_append_drop k (l.take r)]
    rw [List.take_take, Nat.min_eq_left (by omega)]
  conv => lhs; rw [h]
  rw [dv_append]
  rcases Nat.lt_or_ge r 9 with hh | hh
  · have : k = 0 := by omega
    subst this
    simp [dv_nil]
  · have : ((l.take r).drop k).length = 9 := by simp; omega
    rw [this]; rfl
end Go.Proofs.Nw
namespace Go.Proofs.Nw
open Go.RowKit Go.Lib
attribute [local go_sem ↓] Go.wp_at_zero Go.wp_at_succ
theorem und9 : Tryz.prog.underlying 9 = some .string := by kernel_rfl
theorem und55 : Tryz.prog.underlying 126 = some (.slice 5) := by kernel_rfl
theorem und5 : Tryz.prog.underlying 5 = some (.int .u8) := by kernel_rfl
theorem bytes_below {B : Nat} {a w : World} (h : Below B a w) (hB : B ≤ w.heap.size) (e : TypeId) (s : ByteArray) : Below B a (bytesWorld w e s) := by
  refine h.trans ⟨rfl, rfl, rfl, ?_, fun j hj => bytesWorld_at_old w e s j (by omega)⟩
  rw [bytesWorld_size]; omega
theorem own_of_block {w w' : World} {base : Nat} {e : TypeId} {size : Nat} {v : Value} {n : Nat} {xs : List Value} (h : w.ownsRow base e size v n xs) (hb : ∀ k, k < w.heap.size → w'.heap[k]? = w.heap[k]?) : w'.ownsRow base e size v n xs := by
  obtain ⟨h1, h | ⟨g, cap, cur, rfl, h2, h3, h4⟩⟩ := h
  · exact ⟨h1, .inl h⟩
  · refine ⟨h1, .inr ⟨g, cap, cur, rfl, h2, ?_, h4⟩⟩
    obtain ⟨hlt, _⟩ := Array.getElem?_eq_some_iff.1 h3
    rw [hb g hlt]; exact h3
theorem dv_take {l : List UInt8} {q : Nat} (h : q < l.length) : dv (l.take (q + 1)) = 10 * dv (l.take q) + ((l.getD q 0).toNat - 48) := by
  have : l.take (q + 1) = l.take q ++ [l.getD q 0] := by
    rw [List.take_succ]
    simp [List.getD, h]
  rw [this, dv_snoc]
theorem getD_dig {l : List UInt8} {q : Nat} (hd : Dig l) (h : q < l.length) : 48 ≤ (l.getD q 0).toNat ∧ (l.getD q 0).toNat ≤ 57 := hd _ (by
  have : l.getD q 0 = l[q] := by simp [List.getD, h]
  rw [this]; exact List.getElem_mem h)
theorem dv_take_lt {l : List UInt8} {q : Nat} (hd : Dig l) (h : q ≤ 9) : dv (l.take q) < 1000000000 := by
  have h1 := dv_lt (hd.take q)
  have h2 : 10 ^ (l.take q).length ≤ 10 ^ 9 := Nat.pow_le_pow_right (by decide) (by simp; omega)
  have : (10 : Nat) ^ 9 = 1000000000 := rfl
  omega
theorem step_dv {D X Y A x i : Nat} (h : D = X * Bs ^ i + A) (h' : X = Y * Bs + x) : D = Y * Bs ^ (i + 1) + (A + x * Bs ^ i) := by
  subst h'
  rw [h, Nat.add_mul, Nat.pow_succ, Nat.mul_assoc, Nat.mul_comm Bs]
  omega
theorem snoc_lt {A x i : Nat} (hA : A < Bs ^ i) (hx : x < Bs) : A + x * Bs ^ i < Bs ^ (i + 1) := by
  have h1 : x * Bs ^ i ≤ (Bs - 1) * Bs ^ i := Nat.mul_le_mul_right _ (by omega)
  have h5 : Bs ^ (i + 1) = (Bs - 1) * Bs ^ i + Bs ^ i := by rw [Nat.pow_succ, Nat.mul_comm, ← Nat.succ_mul]; rfl
  omega
theorem wlist_snoc {A x i : Nat} (hA : A < Bs ^ i) (hx : x < Bs) : wlist A i ++ [Value.int .u64 (x : Nat)] = wlist (A + x * Bs ^ i) (i + 1) := by
  unfold wlist
  rw [List.range_succ, List.map_append, List.map_singleton]
  congr 1
  · apply List.map_congr_left
    intro j hj
    have := low_wd (P := A) (x := x) (m := 1) (List.mem_range.1 hj)
    rw [Nat.mul_one] at this
    rw [this]
  · congr 2
    unfold wd
    rw [Nat.add_mul_div_right _ _ (pow_pos' i), Nat.div_eq_of_lt hA, Nat.zero_add, Nat.mod_eq_of_lt hx]
theorem own_ge {w : World} {base : Nat} {e : TypeId} {size : Nat} {v : Value} {n : Nat} {xs : List Value} (h : w.ownsRow base e size v n xs) {k : Nat} (hk : v.ownBlock = some k) : base ≤ k := by
  obtain ⟨_, ⟨rfl, _⟩ | ⟨g, cap, cur, rfl, h2, _⟩⟩ := h
  · cases hk
  · have hk' : some g = some k := hk
    injection hk' with hk'
    omega
theorem own_words {w : World} {base : Nat} {v : Value} {A n : Nat} (h : w.ownsRow base 170 1 v n (wlist A n)) : ∃ P cap, v = .slice P n cap ∧ n ≤ cap ∧ WordsAt w P A n ∧ (P = none → n = 0 ∧ cap = 0) := by
  obtain ⟨_, ⟨rfl, rfl⟩ | ⟨g, cap, cur, rfl, h2, hh, hc, hcm, hs, ht⟩⟩ := h
  · exact ⟨none, 0, rfl, Nat.le_refl _, fun h => absurd h (Nat.lt_irrefl _), fun _ => ⟨rfl, rfl⟩⟩
  · refine ⟨_, cap, rfl, hc, fun _ => ⟨_, rfl, (Array.getElem?_eq_some_iff.1 hh).1, fun j hj => ?_⟩, (fun h => by cases h)⟩
    have h1 : cur[j]? = (cur.toList.take (n * 1))[j]? := by
      rw [List.getElem?_take, if_pos (by omega)]
      simp
    rw [ht, wlist_get hj] at h1
    rw [add0]
    simp [World.cell?, hh, h1]
set_option maxRecDepth 100000 in
theorem from_any (s : ByteArray) (w : World) (hd : Dig s.data.toList) (hz : s.size ≤ 100000) :
    Calls Tryz.prog 55 #[.string s] w (MadeO (dv s.data.toList) w) := by
  have hcv := fun (w : World) (s : ByteArray) => Lib.run_convert_string_bytes (P := Tryz.prog) w 9 126 5 s und9 und55 und5
  obtain ⟨i0, hi0, hz0, hz1, hz2⟩ := info_parts info54
  go_enter Tryz.func55, Tryz.ntmps55
  go_wp2
  go_loopw [0, 3] (fun t v wr => ∃ (i r A : Nat), t = .string (s.extract 0 r) ∧ r ≤ s.size ∧ A < Bs ^ i ∧ i + r ≤ s.size ∧ dv s.data.toList = dv (s.data.toList.take r) * Bs ^ i + A ∧ wr.ownsRow w.heap.size 170 1 v i (wlist A i) ∧ Below w.heap.size w wr ∧ w.heap.size ≤ wr.heap.size) (fun t _ _ => match t with | .string s => s.size | _ => 0)
  case atStart =>
    exact ⟨0, s.size, 0, by rw [ByteArray.extract_zero_size], Nat.le_refl _, by decide, by omega, by rw [List.take_of_length_le (by simp)]; simp, World.ownsRow_nil _ _ _ _, Below.refl _ _, Nat.le_refl _⟩
  case round =>
    rename World => wr0
    obtain ⟨i, r, A, rfl, hr, hA, hi, hdv, hown, hb, hsz⟩ := hrel
    have hsr : (s.extract 0 r).size = r := by simp; omega
    by_cases h0 : r = 0
    · subst h0
      obtain ⟨P, cap, rfl, hcap, hwords, hP⟩ := own_words hown
      have hdv' : Hid (dv s.data.toList = A) := Lib.hid (by simpa [dv_nil] using hdv)
      have hS := Lib.hid hA
      clear hdv hA hown hd
      go_wp2_with (go_at_call 80; refine (norm_any A _ _ _ _ hwords hS.out (by omega) hcap).mono ?_; rintro e w' ⟨L', hL, hL', rfl, rfl⟩)
      go_ret
      have hlk := hL.le hS.out
      rw [hdv'.out]
      exact ⟨L', _, _, rfl, hL, hL', hwords.less hlk, fun h => ⟨by have := (hP h).2; omega, (hP h).2⟩, hb⟩
    · have hck := dv_chunk (l := s.data.toList) (r := r) (k := r - 9) (by simpa using hr) rfl
      by_cases h9 : r ≤ 9
      · go_wp2
        generalize hS : (s.extract 0 r).extract 0 r = S
        have hSl : S.data.toList = (s.data.toList.take r).drop (r - 9) := by rw [← hS, show r - 9 = 0 by omega]; simp [ByteArray.data_extract, List.extract_eq_take_drop]
        have hSd : Dig S.data.toList := hSl ▸ (hd.take r).drop _
        have hSn : S.data.toList.length = r - (r - 9) := by rw [hSl]; simp; omega
        have hSs : S.size = r - (r - 9) := by rw [← hSn]; simp
        have hcell := bytesWorld_cell wr0 5 S
        have hsz1 := bytesWorld_size wr0 5 S
        have hb1 := bytes_below hb hsz 5 S
        have hown1 := own_of_block (w' := bytesWorld wr0 5 S) hown (fun k hk => bytesWorld_at_old wr0 5 S k hk)
        generalize bytesWorld wr0 5 S = W1 at hcell hsz1 hb1 hown1
        go_loopw [5, 20] (fun c kk w2 => ∃ q : Nat, q ≤ r - (r - 9) ∧ kk = .int .i64 q ∧ c = .int .u64 (dv (S.data.toList.take q) : Nat) ∧ w2 = W1) (fun _ kk _ => r - (r - 9) - (intOf kk).toNat)
        case atStart => exact ⟨0, by omega, rfl, rfl, rfl⟩
        case round =>
          obtain ⟨q, hq, rfl, rfl, rfl⟩ := hrel
          by_cases hlt : q < r - (r - 9)
          · have hcj := hcell q (by omega)
            obtain ⟨hc1, hc2⟩ := getD_dig hSd (q := q) (by omega)
            have hdt := Lib.hid (dv_take (l := S.data.toList) (q := q) (by omega))
            have hdl := dv_take_lt (l := S.data.toList) (q := q) hSd (by omega)
            generalize (S.data.toList.getD q 0).toNat = c at hcj hc1 hc2 hdt
            generalize dv (S.data.toList.take q) = v at hdt hdl ⊢
            clear hcell hS
            go_wp2
            go_roundw
            case rel =>
              exact ⟨q + 1, by omega, by go_num, congrArg (Value.int .u64) (by rw [hdt.out]; omega), by trivial⟩
            case measure => simp [intOf] <;> omega
          · have hqe : q = r - (r - 9) := by omega
            have hdq : dv (S.data.toList.take q) = dv ((s.data.toList.take r).drop (r - 9)) := by rw [List.take_of_length_le (by omega), hSl]
            have hdl : dv ((s.data.toList.take r).drop (r - 9)) < 1000000000 := by rw [← hdq]; exact dv_take_lt hSd (by omega)
            rw [hdq]
            generalize dv ((s.data.toList.take r).drop (r - 9)) = x at hck hdl ⊢
            clear hcell hS hSl hSd hSn hdq
            go_wp2
            have hnew : (wr.alloc (.cells #[.int .u64 (x : Nat)] 170)).heap[wr0.heap.size + 1]? = some (.cells #[.int .u64 (x : Nat)] 170) := by rw [← hsz1]; exact Go.Deep.blk_alloc_new wr _
            go_region_held3 (fun _ => True) (trivial)
              ((refine step_append_lies _ (by rfl) _ _ _ (by rfl) w.heap.size 170 i0 _ 1 8 und28 hi0 hz0 hz1 hz2 rfl (by omega) _ i (wlist A i) (by rfl) (by first | exact (hown1.alloc _).drew | exact hown1.alloc _)
                    ⟨wr0.heap.size + 1, 0, none⟩ 1 1 [.int .u64 x] (by rfl) (by rfl) (World.news_of_block (cs := #[.int .u64 x]) (t := 170) (fr := (0, 0)) hnew) (by simp [Value.oneCell'])
                    (by omega) (by unfold maxLen; omega) (by omega) (by simp; omega) (wr0.heap.size + 2) (by simp; omega) ?_; intro gg cap w3 hown3 hgrow hat hlt3))
            all_goals
              try go_wp2
              have hxB : x < Bs := hdl
              refine ⟨⟨i + 1, r - 9, A + x * Bs ^ i, ?_, by omega, snoc_lt hA hxB, by omega, step_dv hdv hck, (wlist_snoc hA hxB ▸ hown3), ?_, ?_⟩, ?_⟩
              · rw [show r - 9 = 0 by omega]; simp
              · exact Below.grown (by first | exact (hb1.alloc (by omega) _).drew | exact hb1.alloc (by omega) _) hgrow (by simp; omega) (fun k hk => own_ge hown1 hk)
              · have := hgrow.size; simp at this; omega
              · simp; omega
      · have hx1 : (0 : Int) ≤ (r : Int) - 9 := by omega
        have hx2 : (r : Int) - 9 ≤ (r : Int) := by omega
        have hx3 : ((r : Int) - 9).toNat = r - 9 := by omega
        go_wp2
        generalize hS : (s.extract 0 r).extract (r - 9) r = S
        have hSl : S.data.toList = (s.data.toList.take r).drop (r - 9) := by rw [← hS]; simp [ByteArray.data_extract, List.extract_eq_take_drop]; rw [List.drop_take]
        have hSd : Dig S.data.toList := hSl ▸ (hd.take r).drop _
        have hSn : S.data.toList.length = r - (r - 9) := by rw [hSl]; simp; omega
        have hSs : S.size = r - (r - 9) := by rw [← hSn]; simp
        have hcell := bytesWorld_cell wr0 5 S
        have hsz1 := bytesWorld_size wr0 5 S
        have hb1 := bytes_below hb hsz 5 S
        have hown1 := own_of_block (w' := bytesWorld wr0 5 S) hown (fun k hk => bytesWorld_at_old wr0 5 S k hk)
        generalize bytesWorld wr0 5 S = W1 at hcell hsz1 hb1 hown1
        go_loopw [5, 20] (fun c kk w2 => ∃ q : Nat, q ≤ r - (r - 9) ∧ kk = .int .i64 q ∧ c = .int .u64 (dv (S.data.toList.take q) : Nat) ∧ w2 = W1) (fun _ kk _ => r - (r - 9) - (intOf kk).toNat)
        case atStart => exact ⟨0, by omega, rfl, rfl, rfl⟩
        case round =>
          obtain ⟨q, hq, rfl, rfl, rfl⟩ := hrel
          by_cases hlt : q < r - (r - 9)
          · have hcj := hcell q (by omega)
            obtain ⟨hc1, hc2⟩ := getD_dig hSd (q := q) (by omega)
            have hdt := Lib.hid (dv_take (l := S.data.toList) (q := q) (by omega))
            have hdl := dv_take_lt (l := S.data.toList) (q := q) hSd (by omega)
            generalize (S.data.toList.getD q 0).toNat = c at hcj hc1 hc2 hdt
            generalize dv (S.data.toList.take q) = v at hdt hdl ⊢
            clear hcell hS
            go_wp2
            go_roundw
            case rel =>
              exact ⟨q + 1, by omega, by go_num, congrArg (Value.int .u64) (by rw [hdt.out]; omega), by trivial⟩
            case measure => simp [intOf] <;> omega
          · have hqe : q = r - (r - 9) := by omega
            have hdq : dv (S.data.toList.take q) = dv ((s.data.toList.take r).drop (r - 9)) := by rw [List.take_of_length_le (by omega), hSl]
            have hdl : dv ((s.data.toList.take r).drop (r - 9)) < 1000000000 := by rw [← hdq]; exact dv_take_lt hSd (by omega)
            rw [hdq]
            generalize dv ((s.data.toList.take r).drop (r - 9)) = x at hck hdl ⊢
            clear hcell hS hSl hSd hSn hdq
            go_wp2
            have hnew : (wr.alloc (.cells #[.int .u64 (x : Nat)] 170)).heap[wr0.heap.size + 1]? = some (.cells #[.int .u64 (x : Nat)] 170) := by rw [← hsz1]; exact Go.Deep.blk_alloc_new wr _
            have hx2 : (r : Int) - 9 ≤ ((s.extract 0 r).size : Int) := by omega
            have hx3 : (r : Int) - 9 ≤ (r : Int) := by omega
            have hx4 : (0 : Int) ≤ (r : Int) - 9 := by omega
            have hx5 : ((r : Int) - 9).toNat = r - 9 := by omega
            have hx6 : (9 : Int) ≤ (r : Int) := by omega
            go_region_held3 (fun _ => True) (trivial)
              ((refine step_append_lies _ (by rfl) _ _ _ (by rfl) w.heap.size 170 i0 _ 1 8 und28 hi0 hz0 hz1 hz2 rfl (by omega) _ i (wlist A i) (by rfl) (by first | exact (hown1.alloc _).drew | exact hown1.alloc _)
                    ⟨wr0.heap.size + 1, 0, none⟩ 1 1 [.int .u64 x] (by rfl) (by rfl) (World.news_of_block (cs := #[.int .u64 x]) (t := 170) (fr := (0, 0)) hnew) (by simp [Value.oneCell'])
                    (by omega) (by unfold maxLen; omega) (by omega) (by simp; omega) (wr0.heap.size + 2) (by simp; omega) ?_; intro gg cap w3 hown3 hgrow hat hlt3))
            all_goals
              try go_wp2
              have hxB : x < Bs := hdl
              refine ⟨⟨i + 1, r - 9, A + x * Bs ^ i, ?_, by omega, snoc_lt hA hxB, by omega, step_dv hdv hck, (wlist_snoc hA hxB ▸ hown3), ?_, ?_⟩, ?_⟩
              · congr 1; rw [ByteArray.extract_extract]; congr 1; omega
              · exact Below.grown (by first | exact (hb1.alloc (by omega) _).drew | exact hb1.alloc (by omega) _) hgrow (by simp; omega) (fun k hk => own_ge hown1 hk)
              · have := hgrow.size; simp at this; omega
              · simp; omega
end Go.Proofs.Nw
