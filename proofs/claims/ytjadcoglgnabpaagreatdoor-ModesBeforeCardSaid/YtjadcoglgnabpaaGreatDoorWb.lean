import Derived.Test.YtjadcoglgnabpaaGreatDoorWa
import Derived.Test.YtjadcoglgnabpaaGreatDoorSh
import Derived.Laws.AppendOwnNone
import Derived.Laws.ResultCell
import Derived.Laws.Rows
import Derived.RegionTactic
import Derived.Laws.IdiomStrings
import Derived.BigQuiet
set_option linter.all false
set_option linter.unusedVariables false
set_option maxHeartbeats 2000000
set_option exponentiation.threshold 5000
namespace Go.Proofs.Nw
open Go.RowKit Go.Lib
theorem rep_len (n : Nat) : (repeatL [48] n).length = n := by rw [repeatL_length]; simp
theorem rep_dig (n : Nat) : Dig (repeatL [48] n) := by
  induction n with
  | zero => exact fun _ h => by cases h
  | succ n ih =>
    intro c hc
    rcases List.mem_append.1 (show c ∈ [48] ++ repeatL [48] n from hc) with h | h
    · rw [List.mem_singleton.1 h]; decide
    · exact ih c h
theorem rep_dv (n : Nat) : dv (repeatL [48] n) = 0 := by
  induction n with
  | zero => rfl
  | succ n ih =>
    show dv ([48] ++ repeatL [48] n) = 0
    rw [dv_append, ih]
    show 0 * _ + 0 = 0
    omega
theorem pow_data (n : Nat) : (({ data := #[49] } : ByteArray) ++ { data := (repeatL [48] n).toArray }).data.toList = [49] ++ repeatL [48] n := by simp [ByteArray.data_append]
theorem pow_dv (n : Nat) : dv ([49] ++ repeatL [48] n) = 10 ^ n := by
  rw [dv_append, rep_dv, rep_len]
  show 1 * 10 ^ n + 0 = _
  omega
theorem pow_dig (n : Nat) : Dig ([49] ++ repeatL [48] n) := fun c hc => by
  rcases List.mem_append.1 hc with h | h
  · rw [List.mem_singleton.1 h]; decide
  · exact rep_dig n c h
theorem pow_size (n : Nat) : (({ data := #[49] } : ByteArray) ++ { data := (repeatL [48] n).toArray }).size = n + 1 := by
  have : ∀ b : ByteArray, b.size = b.data.toList.length := fun b => by simp
  rw [this, pow_data, List.length_append, rep_len]
  simp; omega
theorem pow10_any (n : Nat) (w : World) (hn : n ≤ 1000) : Calls Tryz.prog 57 #[.int .i64 n] w (MadeO (10 ^ n) w) := by
  have hl := rep_len n
  go_enter Tryz.func57, Tryz.ntmps57
  go_wp2_with (first | (go_at_call 81; refine (Tryz.strings_Repeat ⟨#[48]⟩ n _ (by omega) (by simp [ByteArray.size]; omega)).mono ?_; rintro e w1 ⟨rfl, hb1⟩) | (go_at_call 55; refine (from_any _ _ (by rw [pow_data]; exact pow_dig n) (by rw [pow_size]; omega)).mono ?_; rintro e w2 ⟨L, A, cap, rfl, h1, h2, h3, h4, h6⟩))
  go_ret
  rw [pow_data, pow_dv] at h1 h3
  exact ⟨L, A, cap, rfl, h1, h2, h3, h4, hb1.trans (h6.mono hb1.size)⟩
end Go.Proofs.Nw
namespace Go.Proofs.Nw
/-- the quotient's words from k on -/
def Hi (Q k : Nat) : Prop := Q % Bs ^ k = 0
theorem Hi.zero (k : Nat) : Hi 0 k := by simp [Hi]
theorem Hi.eq {Q k : Nat} (h : Hi Q k) : Q = Bs ^ k * (Q / Bs ^ k) := by
  have := Nat.mod_add_div Q (Bs ^ k)
  unfold Hi at h
  omega
theorem Hi.next {Q k x : Nat} (h : Hi Q (k + 1)) (hx : x < Bs) : Hi (Q + x * Bs ^ k) k ∧ (∀ j, wd (Q + x * Bs ^ k) j = if j = k then x else wd Q j) := by
  have hq := h.eq
  rw [Nat.pow_succ] at hq
  generalize Q / (Bs ^ k * Bs) = z at hq
  subst hq
  have e : Bs ^ k * Bs * z + x * Bs ^ k = Bs ^ k * (Bs * z + x) := by rw [Nat.mul_add]; ac_rfl
  refine ⟨by unfold Hi; rw [e]; exact Nat.mul_mod_right _ _, fun j => ?_⟩
  rw [e]
  unfold wd
  by_cases h1 : j = k
  · subst h1
    rw [if_pos rfl, Nat.mul_div_cancel_left _ (pow_pos' j), Nat.mul_add_mod, Nat.mod_eq_of_lt hx]
  · rw [if_neg h1]
    rcases Nat.lt_or_ge j k with h2 | h2
    · have : Bs ^ k = Bs ^ j * (Bs * Bs ^ (k - j - 1)) := by rw [← Nat.pow_succ', ← Nat.pow_add]; congr 1; omega
      rw [this]
      have e1 : Bs ^ j * (Bs * Bs ^ (k - j - 1)) * (Bs * z + x) = Bs ^ j * (Bs * (Bs ^ (k - j - 1) * (Bs * z + x))) := by ac_rfl
      have e2 : Bs ^ j * (Bs * Bs ^ (k - j - 1)) * Bs * z = Bs ^ j * (Bs * (Bs ^ (k - j - 1) * Bs * z)) := by ac_rfl
      rw [e1, e2, Nat.mul_div_cancel_left _ (pow_pos' j), Nat.mul_div_cancel_left _ (pow_pos' j), Nat.mul_mod_right, Nat.mul_mod_right]
    · have : Bs ^ j = Bs ^ k * (Bs * Bs ^ (j - k - 1)) := by rw [← Nat.pow_succ', ← Nat.pow_add]; congr 1; omega
      rw [this, Nat.mul_div_mul_left _ _ (pow_pos' k), Nat.mul_assoc, Nat.mul_div_mul_left _ _ (pow_pos' k), ← Nat.div_div_eq_div_mul, ← Nat.div_div_eq_div_mul, Nat.mul_div_cancel_left _ Bs_pos, Nat.mul_add_div Bs_pos, Nat.div_eq_of_lt hx, Nat.add_zero]
theorem Hi.lt {Q k x L : Nat} (h : Hi Q (k + 1)) (hx : x < Bs) (hk : k < L) (hQ : Q < Bs ^ L) : Q + x * Bs ^ k < Bs ^ L := by
  have hq := h.eq
  have e : Bs ^ L = Bs ^ (k + 1) * Bs ^ (L - k - 1) := by rw [← Nat.pow_add]; congr 1; omega
  rw [e] at hQ ⊢
  generalize Q / Bs ^ (k + 1) = z at hq
  subst hq
  have hz : z < Bs ^ (L - k - 1) := Nat.lt_of_mul_lt_mul_left hQ
  have h1 : Bs ^ (k + 1) * (z + 1) ≤ Bs ^ (k + 1) * Bs ^ (L - k - 1) := Nat.mul_le_mul_left _ (by omega)
  have h2 : x * Bs ^ k < Bs ^ (k + 1) := by rw [Nat.pow_succ, Nat.mul_comm (Bs ^ k)]; exact Nat.mul_lt_mul_of_pos_right hx (pow_pos' k)
  rw [Nat.mul_add] at h1
  omega
end Go.Proofs.Nw
namespace Go.Proofs.Nw
open Go.RowKit Go.Lib
theorem WordsAt.mono {w w' : World} {A : Option Addr} {n L : Nat} (h : WordsAt w A n L) (hb : Below w.heap.size w w') : WordsAt w' A n L := fun h0 => by
  obtain ⟨a, h1, h2, h3⟩ := h h0
  exact ⟨a, h1, Nat.lt_of_lt_of_le h2 hb.size, fun j hj => (hb.cell (by rw [addr_block]; exact h2)).trans (h3 j hj)⟩
theorem grown_refl (w : World) (row : Option Nat) : w.grownBy w row := ⟨rfl, rfl, rfl, Nat.le_refl _, fun _ _ _ => rfl⟩
set_option maxRecDepth 100000 in
/-- append(row of the call's own, words...) -/
theorem wpl_words {w : World} {ops : Array Oper} {rest : List Oper} {o : Oper} {a : Act} {Q : Exit → Act → World → Prop} (hgd : o.guard = none) (s x : Operand)
    (ho : o.op = .call { callee := .builtin .append, args := #[s, x], argTypes := #[114, 114] })
    (base : Nat) (v : Value) (n : Nat) (xs : List Value) (hs : a.eval s = v) (hown : w.ownsRow base 170 1 v n xs) (P : Option Addr) (R LR c : Nat) (hx : a.eval x = .slice P LR c)
    (hW : WordsAt w P R LR) (hP : P = none → LR = 0 ∧ c = 0) (h63 : n + LR ≤ 200000) (hbase : base ≤ w.heap.size)
    (h : ∀ v' w', w'.ownsRow base 170 1 v' (n + LR) (xs ++ wlist R LR) → w.grownBy w' v.ownBlock → wpList Tryz.prog ops Q rest (a.put o.dst v') w') : wpList Tryz.prog ops Q (o :: rest) a w := by
  obtain ⟨i0, hi0, hz0, hz1, hz2⟩ := info_parts info54
  cases P with
  | none =>
    obtain ⟨rfl, rfl⟩ := hP rfl
    refine wpList_append_own_none hgd s x 114 ho base 170 i0 1 und28 hi0 v n xs hs hown hx (h _ _ ?_ (grown_refl _ _))
    simpa [wlist] using hown
  | some ad =>
    refine wpList_append_own w hgd s x 114 ho base 170 i0 (.int .u64 0) 1 8 und28 hi0 hz0 hz1 hz2 rfl (by decide) v n xs hs hown ad LR c (wlist R LR) hx (by simp [wlist]) (fun j u hu => ?_) (fun u hu => ?_) (by unfold maxLen; omega) (by omega) hbase (fun v' w' h1 h2 _ => h v' w' h1 h2)
    · have hj : j < LR := by have := (List.getElem?_eq_some_iff.1 hu).1; simpa [wlist] using this
      obtain ⟨a', e, hb, hc⟩ := hW (by omega)
      injection e with e; subst e
      rw [hc j hj, ← hu, wlist_get hj]
    · obtain ⟨j, _, rfl⟩ := List.mem_map.1 hu
      rfl
theorem wd_cons0 {B R x : Nat} (hx : x < B) : (R * B + x) / B ^ 0 % B = x := by
  rw [Nat.pow_zero, Nat.div_one, Nat.mul_comm R, Nat.mul_add_mod, Nat.mod_eq_of_lt hx]
theorem wd_consS {B R x : Nat} (j : Nat) (hB : 0 < B) (hx : x < B) : (R * B + x) / B ^ (j + 1) % B = R / B ^ j % B := by
  rw [Nat.pow_succ', ← Nat.div_div_eq_div_mul, Nat.mul_comm R, Nat.mul_add_div hB, Nat.div_eq_of_lt hx, Nat.add_zero]
theorem wlist_cons {x R L : Nat} (hx : x < Bs) : [Value.int .u64 (x : Nat)] ++ wlist R L = wlist (R * Bs + x) (1 + L) := by
  have h0 : wd (R * Bs + x) 0 = x := wd_cons0 hx
  have hS : ∀ j, wd (R * Bs + x) (j + 1) = wd R j := fun j => wd_consS j Bs_pos hx
  generalize R * Bs + x = N at h0 hS
  unfold wlist
  rw [Nat.add_comm 1, List.range_succ_eq_map, List.map_cons, h0, List.map_map]
  show _ :: _ = _ :: _
  congr 1
  exact List.map_congr_left fun j _ => (congrArg (fun n : Nat => Value.int .u64 (n : Int)) (hS j)).symm
theorem cons_lt {x R L : Nat} (hR : R < Bs ^ L) (hx : x < Bs) : R * Bs + x < Bs ^ (1 + L) := by
  rw [Nat.add_comm 1, Nat.pow_succ]
  have : (R + 1) * Bs ≤ Bs ^ L * Bs := Nat.mul_le_mul_right _ hR
  rw [Nat.add_mul] at this
  omega
end Go.Proofs.Nw
namespace Go.Proofs.Nw
open Go.RowKit Go.Lib
def OverQ (m L : Nat) (w : World) (e : Ending) (w' : World) : Prop := ∃ Q LQ AQ cq R LR AR cr, e = .returned (.tuple #[.slice AQ LQ cq, .slice AR LR cr]) ∧
  (Len Q LQ ∧ LQ ≤ cq ∧ WordsAt w' AQ Q LQ ∧ (AQ = none → LQ = 0 ∧ cq = 0) ∧ LQ ≤ L) ∧ (Len R LR ∧ LR ≤ cr ∧ WordsAt w' AR R LR ∧ (AR = none → LR = 0 ∧ cr = 0) ∧ R < m) ∧ Below w.heap.size w w'
theorem own_one (w : World) (x : Nat) : (w.alloc (.cells #[.int .u64 (x : Nat)] 170)).ownsRow w.heap.size 170 1 (.slice (some ⟨w.heap.size, 0, none⟩) 1 1) 1 [.int .u64 (x : Nat)] :=
  ⟨rfl, .inr ⟨w.heap.size, 1, _, rfl, Nat.le_refl _, Go.Deep.blk_alloc_new _ _, Nat.le_refl _, by decide, rfl, rfl⟩⟩
theorem words_one (w : World) {x : Nat} (hx : x < Bs) : WordsAt (w.alloc (.cells #[.int .u64 (x : Nat)] 170)) (some ⟨w.heap.size, 0, none⟩) x 1 := fun _ => ⟨_, rfl, by simp, fun j hj => by
  have : j = 0 := by omega
  subst this
  have h := Go.Deep.blk_alloc_new w (.cells #[.int .u64 (x : Nat)] 170)
  have hw : wd x 0 = x := by unfold wd; rw [Nat.pow_zero, Nat.div_one, Nat.mod_eq_of_lt hx]
  rw [add0, hw]
  unfold World.cell?
  rw [h]
  rfl⟩
theorem own_ge' {w : World} {base : Nat} {e : TypeId} {size : Nat} {a : Addr} {L c n : Nat} {xs : List Value} (h : w.ownsRow base e size (.slice (some a) L c) n xs) : base ≤ a.block := by
  obtain ⟨_, ⟨h1, _⟩ | ⟨g, cap, cur, h1, h2, _⟩⟩ := h
  · cases h1
  · injection h1 with h1
    injection h1 with h1
    rw [h1]; exact h2
theorem own_words2 {w : World} {base : Nat} {v : Value} {A n : Nat} (h : w.ownsRow base 170 1 v n (wlist A n)) : ∃ P cap, v = .slice P n cap ∧ n ≤ cap ∧ WordsAt w P A n ∧ (P = none → n = 0 ∧ cap = 0) ∧ (∀ a, P = some a → base ≤ a.block) := by
  obtain ⟨P, cap, rfl, h1, h2, h3⟩ := own_words h
  refine ⟨P, cap, rfl, h1, h2, h3, fun a ha => ?_⟩
  subst ha
  exact own_ge' h
theorem words_set {w : World} {P : Option Addr} {n L b j : Nat} (h : WordsAt w P n L) (hP : ∀ a, P = some a → b ≠ a.block) (v : Value) : WordsAt (w.setCell ⟨b, j, none⟩ v) P n L := fun h0 => by
  obtain ⟨a, h1, h2, h3⟩ := h h0
  refine ⟨a, h1, by simpa using h2, fun i hi => ?_⟩
  rw [← h3 i hi]
  exact World.cell?_of_block (Go.Deep.blk_setCell_other _ _ _ _ (by rw [addr_block]; exact (hP a h1).symm))
theorem below_drewN {B : Nat} {a w : World} (h : Below B a w) (n : Nat) : Below B a (w.drewN n) := ⟨h.os, h.tape, h.output, h.size, h.block⟩
set_option maxRecDepth 100000 in
theorem over_any (n m L M : Nat) (A C : Option Addr) (ca cc : Nat) (w : World) (hA : WordsAt w A n L) (hC : WordsAt w C m M) (hn : n < Bs ^ L) (hm : Len m M) (h0 : 0 < m) (hl : L ≤ 30000) (hm' : M ≤ 30000) (hca : L ≤ ca) (hcc : M ≤ cc) :
    Calls Tryz.prog 82 #[.slice A L ca, .slice C M cc] w (OverQ m L w) := by
  have hmk := run_make_row' (P := Tryz.prog) 114 170 (.int .u64 0) 8 und28 info54 rfl .i64 .i64 L (by omega) (by omega)
  go_enter Tryz.func82, Tryz.ntmps82
  go_wp2
  go_loopw [5, 6] (fun r i wr => ∃ (k R LR : Nat) (P : Option Addr) (c Q : Nat), k ≤ L ∧ i = .int .i64 ((k : Int) - 1) ∧ r = .slice P LR c ∧ (Len R LR ∧ LR ≤ c ∧ WordsAt wr P R LR ∧ (P = none → LR = 0 ∧ c = 0) ∧ R < m) ∧ (Hi Q k ∧ Q < Bs ^ L) ∧ wr.rowIs w.heap.size 170 L (fun j => .int .u64 (wd Q j : Nat)) ∧ Below w.heap.size w wr ∧ w.heap.size < wr.heap.size) (fun _ i _ => (intOf i + 1).toNat)
  case atStart => exact ⟨L, 0, 0, none, 0, 0, Nat.le_refl _, rfl, rfl, ⟨Len.zero, Nat.le_refl _, fun h => absurd h (Nat.lt_irrefl _), fun _ => ⟨rfl, rfl⟩, h0⟩, ⟨Hi.zero _, pow_pos' _⟩, by simpa [Go.Proofs.Nw.wd] using World.rowIs_made w (.int .u64 0) L 170, (Below.refl _ _).alloc (Nat.le_refl _) _, by simp⟩
  case round =>
    rename World => wr0
    obtain ⟨k, R, LR, P, c, Q, hk, rfl, rfl, ⟨hR1, hR2, hR3, hR4, hR5⟩, ⟨hQ1, hQ2⟩, hr, hb, hsz⟩ := hrel
    cases k with
    | zero =>
      have hwords : WordsAt wr0 (some ⟨w.heap.size, 0, none⟩) Q L := fun _ => ⟨_, rfl, hsz, fun j hj => by rw [add0, hr.cell hj]⟩
      clear hr hA hC hn
      go_wp2_with (go_at_call 80; refine (norm_any Q L _ L _ hwords hQ2 (by omega) (Nat.le_refl _)).mono ?_; rintro e w5 ⟨LQ, hLQ, hLQ1, rfl, rfl⟩)
      go_ret2
      exact ⟨Q, LQ, _, _, R, LR, P, c, rfl, ⟨hLQ, hLQ1, hwords.less hLQ1, (fun h => by cases h), hLQ1⟩, ⟨hR1, hR2, hR3, hR4, hR5⟩, hb⟩
    | succ j =>
      obtain ⟨a, rfl, ha, hc⟩ := hA (by omega)
      have hcj := hb.cell (p := a.add j) (by rw [addr_block]; exact ha)
      rw [hc j (by omega)] at hcj
      have hx := wd_lt n j
      generalize wd n j = x at hcj hx
      have hxB : x < Bs := hx
      rw [show ((j + 1 : Nat) : Int) - 1 = (j : Int) by omega]
      have hLR := hR1.le (Nat.lt_trans hR5 hm.1)
      have hW1 := hR3.mono ((Below.refl wr0.heap.size wr0).alloc (Nat.le_refl _) (.cells #[.int .u64 (x : Nat)] 170))
      have hO := own_one wr0 x
      clear hc
      go_wp2_with (first | (at_builtin; refine wpl_words (by rfl) _ _ (by rfl) wr0.heap.size _ 1 [.int .u64 (x : Nat)] (by rfl) hO P R LR c (by rfl) hW1 hR4 (by omega) (by simp) ?_; rintro v' w1 hown hgrow) | fail)
      have hown' : w1.ownsRow wr0.heap.size 170 1 v' (1 + LR) (wlist (R * Bs + x) (1 + LR)) := wlist_cons hxB ▸ hown
      have hb1 : Below w.heap.size w w1 := (hb.alloc (by omega) _).grown hgrow (by simp; omega) (fun k hk => by have hk' : some wr0.heap.size = some k := hk; injection hk' with hk'; omega)
      have hb01 : Below wr0.heap.size wr0 w1 := ((Below.refl _ _).alloc (Nat.le_refl _) _).grown hgrow (by simp) (fun k hk => by have hk' : some wr0.heap.size = some k := hk; injection hk' with hk'; omega)
      have hlt1 := Lib.hid (cons_lt (x := x) hR1.1 hxB)
      have hm1 := Lib.hid (show R * Bs + x < Bs * m from by
        have : (R + 1) * Bs ≤ m * Bs := Nat.mul_le_mul_right _ hR5
        rw [Nat.add_mul] at this
        rw [Nat.mul_comm Bs]
        omega)
      clear hown hW1 hO hgrow hR3
      generalize R * Bs + x = R1 at hown' hlt1 hm1
      obtain ⟨P1, c1, rfl, hc1, hw1, hP1, hP2⟩ := own_words2 hown'
      refine (norm_any R1 (1 + LR) P1 c1 w1 hw1 hlt1.out (by omega) hc1).mono ?_
      rintro e w2 ⟨L2, hL2, hL2c, rfl, rfl⟩
      go_wp2
      have hL2' := hL2.le hlt1.out
      have hCw := hC.mono hb1
      go_loopw [7, 8] (fun lo hi wr => ∃ l h : Nat, lo = .int .u64 l ∧ hi = .int .u64 h ∧ l < h ∧ h ≤ 1000000000 ∧ Hid (l * m ≤ R1 ∧ R1 < h * m) ∧ Below w1.heap.size w1 wr) (fun lo hi _ => (intOf hi - intOf lo).toNat)
      case atStart => exact ⟨0, 1000000000, rfl, rfl, by omega, by omega, Lib.hid ⟨by omega, hm1.out⟩, Below.refl _ _⟩
      case round =>
        rename World => w3
        obtain ⟨l, h, rfl, rfl, hlh, hh, hin, hb3⟩ := hrel
        by_cases hgt : l + 1 < h
        · have hmid : ((l : Int) + h) / 2 = ((l + h) / 2 : Nat) := by omega
          have hmidB : (l + h) / 2 < Bs := by show _ < 1000000000; omega
          have hal := (Below.refl w3.heap.size w3).alloc (Nat.le_refl _) (.cells #[.int .u64 ((l + h) / 2 : Nat)] 170)
          have hb4 := hb3.alloc hb3.size (.cells #[.int .u64 ((l + h) / 2 : Nat)] 170)
          have hC4 := hCw.mono hb4
          have hone := words_one w3 hmidB
          have hR4' := (hw1.less hL2').mono hb4
          clear hw1 hown' hr hC hCw
          generalize hmq : (l + h) / 2 = mid at hmid hmidB hal hb4 hC4 hone hR4'
          go_wp2_with (go_at_call 56; rw [hmid]; refine (times_any m mid M 1 C _ cc 1 _ hC4 hone hm.1 (by rw [Nat.pow_one]; exact hmidB) (by omega) (by omega) hcc (Nat.le_refl _)).mono ?_; rintro e w5 ⟨Lp, Ap, cp, rfl, hp1, hp2, hp3, hp4, hp5⟩)
          have hb5 := hb4.trans (hp5.mono hb4.size)
          refine (cmp_any (m * mid) R1 Lp L2 Ap P1 cp c1 _ hp3 (hR4'.mono hp5) hp1 hL2 (Nat.le_trans (hp1.le (k := M + 1) (by rw [Nat.pow_succ]; exact Nat.mul_lt_mul_of_lt_of_lt hm.1 hmidB)) (by omega)) (by omega)).mono ?_
          rintro e w6 ⟨cv, dq, rfl, rfl, hsg, hcv1, hcv2⟩
          have hb6 := below_drewN hb5 dq
          have hin1 := Lib.hid hsg
          clear hsg hp3 hR4' hC4 hone hp1 hal hp5 hb4 hb5
          by_cases hcv : cv ≤ 0
          · have hle := Lib.hid (show mid * m ≤ R1 from by
              rw [Nat.mul_comm]
              have h1 := hin1.out.1
              have h2 := hin1.out.2
              rcases Int.lt_or_eq_of_le hcv with h3 | h3
              · exact Nat.le_of_lt (h1.1 h3)
              · exact Nat.le_of_eq (h2.1 h3))
            go_wp2
            go_roundw
            case rel => exact ⟨mid, h, rfl, rfl, by omega, hh, Lib.hid ⟨hle.out, hin.out.2⟩, hb6⟩
            case measure => simp [intOf] <;> omega
          · have hle := Lib.hid (show R1 < mid * m from by
              rw [Nat.mul_comm mid]
              have h1 := hin1.out.1
              have h2 := hin1.out.2
              rcases Nat.lt_or_ge R1 (m * mid) with h3 | h3
              · exact h3
              · rcases Nat.lt_or_eq_of_le h3 with h4 | h4
                · exact absurd (Int.le_of_lt (h1.2 h4)) hcv
                · exact absurd (Int.le_of_eq (h2.2 h4)) hcv)
            go_wp2
            go_roundw
            case rel => exact ⟨l, mid, rfl, rfl, by omega, by omega, Lib.hid ⟨hin.out.1, hle.out⟩, hb6⟩
            case measure => simp [intOf] <;> omega
        · have hle := Lib.hid (show m * l ≤ R1 ∧ R1 < m * l + m from by
            have h1 := hin.out
            have : h = l + 1 := by omega
            rw [this, Nat.add_mul, Nat.one_mul] at h1
            rw [Nat.mul_comm m]
            exact h1)
          have hlB : l < Bs := by show _ < 1000000000; omega
          have hr3 := hr.of_block ((hb3.block _ (Nat.lt_of_lt_of_le hsz hb01.size)).trans (hb01.block _ hsz))
          have hfr := hr3.frozen j
          have hck := hr3.cell (i := j) (by omega)
          have hbw : Below w.heap.size w w3 := hb1.trans (hb3.mono hb1.size)
          have hnq : ∀ a, P1 = some a → w.heap.size ≠ a.block := fun a ha => by have := hP2 a ha; omega
          have hws := words_set (b := w.heap.size) (j := j) ((hw1.less hL2').mono hb3) hnq (.int .u64 (l : Nat))
          have hbs := hbw.setCell (p := ⟨w.heap.size, j, none⟩) (Nat.le_refl _) (.int .u64 (l : Nat))
          have hrs := hr3.set j (.int .u64 (l : Nat))
          have hPn : P1 = none → L2 = 0 ∧ c1 = 0 := fun h => by have := (hP1 h).1; omega
          have hsz5 : (w3.setCell ⟨w.heap.size, j, none⟩ (.int .u64 (l : Nat))).heap.size = w3.heap.size := by simp
          have hone5 := words_one (w3.setCell ⟨w.heap.size, j, none⟩ (.int .u64 (l : Nat))) hlB
          rw [hsz5] at hone5
          have hal5 := (Below.refl _ (w3.setCell ⟨w.heap.size, j, none⟩ (.int .u64 (l : Nat)))).alloc (Nat.le_refl _) (.cells #[.int .u64 (l : Nat)] 170)
          have hws5 := hws.mono hal5
          have hbs5 := hbs.alloc hbs.size (.cells #[.int .u64 (l : Nat)] 170)
          have hC5 := hC.mono hbs5
          have hrs5 := hrs.alloc (.cells #[.int .u64 (l : Nat)] 170)
          have hszs5 : w.heap.size < ((w3.setCell ⟨w.heap.size, j, none⟩ (.int .u64 (l : Nat))).alloc (.cells #[.int .u64 (l : Nat)] 170)).heap.size := by
            have := hb3.size; have := hb01.size; simp; omega
          clear hws hbs hrs hw1 hown' hr hr3 hC hCw
          go_wp2_with (go_at_call 80; refine (norm_any l 1 _ 1 _ hone5 (by rw [Nat.pow_one]; exact hlB) (by omega) (Nat.le_refl _)).mono ?_; rintro e w5 ⟨Ll, hLl, hLl1, rfl, rfl⟩)
          go_wp2_with (go_at_call 56; refine (times_any m l M Ll C _ cc 1 _ hC5 (hone5.less (hLl.le (k := 1) (by rw [Nat.pow_one]; exact hlB))) hm.1 hLl.1 (by omega) (by omega) hcc hLl1).mono ?_; rintro e w6 ⟨Lp, Ap, cp, rfl, hp1, hp2, hp3, hp4, hp5⟩)
          go_wp2_with (go_at_call 67; refine (minus_any R1 (m * l) L2 Lp P1 Ap c1 cp _ (hws5.mono hp5) hp3 hL2.1 hp1.1 hle.out.1 (by omega) (Nat.le_trans (hp1.le (k := M + 1) (by rw [Nat.pow_succ]; exact Nat.mul_lt_mul_of_lt_of_lt hm.1 hlB)) (by omega)) hL2c hp2 hPn).mono ?_; rintro e w7 ⟨Lr, Ar, cr, rfl, hr1, hr2, hr3, hr4, hr5⟩)
          have hb6 := hbs5.trans (hp5.mono hbs5.size)
          have hb7 := hb6.trans (hr5.mono hb6.size)
          have hrow7 := hrs5.of_block ((hr5.block _ (Nat.lt_of_lt_of_le hszs5 hp5.size)).trans (hp5.block _ hszs5))
          have hRm : R1 - m * l < m := by have := hle.out; omega
          obtain ⟨hN1, hN2⟩ := hQ1.next hlB
          have hfin := hrow7.congr (g := fun i => .int .u64 (wd (Q + l * Bs ^ j) i : Nat)) fun i _ => by
            rw [hN2 i]
            by_cases hij : i = j
            · rw [if_pos hij, if_pos hij]
            · rw [if_neg hij, if_neg hij]
          have hQL := hQ1.lt hlB (by omega) hQ2
          have hsz7 := Nat.lt_of_lt_of_le hszs5 (Nat.le_trans hp5.size hr5.size)
          clear hp5 hr5 hrow7 hrs5 hws5 hC5 hone5 hal5 hp3 hbs5 hb6 hN2
          go_wp2
          go_roundw
          case rel => exact ⟨j, R1 - m * l, Lr, Ar, cr, Q + l * Bs ^ j, by omega, by go_num, rfl, ⟨hr1, hr2, hr3, hr4, hRm⟩, ⟨hN1, hQL⟩, hfin, hb7, hsz7⟩
          case measure => simp [intOf] <;> omega
end Go.Proofs.Nw
namespace Go.Proofs.Nw
open Go.RowKit Go.Lib
theorem ways_even (w : World) : Calls Tryz.prog 59 #[.string ⟨#[101, 118, 101, 110]⟩] w (fun e w' => e = .returned (.func (.func 84) #[] #[]) ∧ w = w') := by
  go_enter Tryz.func59, Tryz.ntmps59
  go_wp2
  go_ret
  exact ⟨rfl, rfl⟩
def SomeBool (w : World) (e : Ending) (w' : World) : Prop := ∃ b, e = .returned (.bool b) ∧ w = w'
theorem even_any (neg odd none : Bool) (h : Int) (w : World) : Calls Tryz.prog 84 #[.bool neg, .bool odd, .int .i64 h, .bool none] w (SomeBool w) := by
  go_enter Tryz.func84, Tryz.ntmps84
  go_wp2
  all_goals go_ret
  all_goals exact ⟨_, rfl, rfl⟩
def CutQ (L : Nat) (w : World) (e : Ending) (w' : World) : Prop := ∃ x, x < Bs ^ (L + 1) ∧ MadeO x w e w'
set_option maxRecDepth 100000 in
theorem cut_any (neg : Bool) (n m L M : Nat) (A C : Option Addr) (ca cc : Nat) (w : World) (hA : WordsAt w A n L) (hC : WordsAt w C m M) (hn : n < Bs ^ L) (hm : Len m M) (h0 : 0 < m) (hl : L ≤ 30000) (hm' : M ≤ 30000) (hca : L ≤ ca) (hcc : M ≤ cc) :
    Calls Tryz.prog 58 #[.bool neg, .slice A L ca, .slice C M cc, .func (.func 84) #[] #[]] w (CutQ L w) := by
  go_enter Tryz.func58, Tryz.ntmps58
  go_wp2_with fail
  refine (over_any n m L M A C ca cc w hA hC hn hm h0 hl hm' hca hcc).mono ?_
  rintro e w1 ⟨Q, LQ, AQ, cq, R, LR, AR, cr, rfl, ⟨hQ1, hQ2, hQ3, hQ4, hQ5⟩, ⟨hR1, hR2, hR3, hR4, hR5⟩, hb⟩
  have hLR := hR1.le (Nat.lt_trans hR5 hm.1)
  have hCw := hC.mono hb
  have hQw := Lib.hid hQ3
  clear hA hC
  have hQ4' := Lib.hid hQ4
  clear hQ4
  rcases Nat.eq_zero_or_pos LQ with hz | hz
  · subst hz
    go_wp2_with fail
    refine (plus_any R R LR LR AR AR cr cr _ hR3 hR3 hR1.1 hR1.1 (by omega) (by omega) hR2 hR2).mono ?_
    rintro e w2 ⟨Lp, Ap, cp, rfl, hp1, hp2, hp3, hp4, hp5⟩
    have hLp := hp1.le (sum_lt hR1.1 hR1.1)
    go_wp2_with fail
    refine (cmp_any (R + R) m Lp M Ap C cp cc _ hp3 (hCw.mono hp5) hp1 hm (by omega) (by omega)).mono ?_
    rintro e w3 ⟨cv, dq, rfl, rfl, _, _, _⟩
    have hb3 := below_drewN (hb.trans (hp5.mono hb.size)) dq
    have hW3 := Lib.hid (hQw.out.mono (below_drewN hp5 dq))
    clear hp3 hCw hR3 hQw hp5 hb
    go_wp2_with fail
    refine (even_any _ _ _ _ _).mono ?_
    rintro e w4 ⟨bb, rfl, rfl⟩
    generalize w2.drewN dq = w3 at hb3 hW3 ⊢
    have hone := words_one w3 (x := 1) (by decide)
    have hal := (Below.refl w3.heap.size w3).alloc (Nat.le_refl _) (.cells #[.int .u64 (1 : Nat)] 170)
    have hb4 := hb3.alloc hb3.size (.cells #[.int .u64 (1 : Nat)] 170)
    have hW4 := Lib.hid (hW3.out.mono hal)
    have hQlt : Q < Bs ^ L := Nat.lt_of_lt_of_le hQ1.1 (Nat.pow_le_pow_right Bs_pos hQ5)
    have hQ2' := Lib.hid (show Q + 1 < Bs ^ (L + 1) from Nat.lt_of_le_of_lt hQlt (Nat.pow_lt_pow_right (by decide) (Nat.lt_succ_self L)))
    cases bb with
    | false =>
      go_wp2
      go_ret
      exact ⟨Q, Nat.lt_of_succ_lt hQ2'.out, 0, AQ, cq, rfl, hQ1, hQ2, hW3.out, (fun h => ⟨rfl, (hQ4'.out h).2⟩), hb3⟩
    | true =>
      go_wp2_with fail
      refine (plus_any Q 1 0 1 AQ _ cq 1 _ hW4.out hone hQ1.1 (by decide) (by omega) (by omega) hQ2 (Nat.le_refl _)).mono ?_
      rintro e w5 ⟨Ls, As, cs, rfl, hs1, hs2, hs3, hs4, hs5⟩
      go_wp2
      go_ret
      exact ⟨Q + 1, hQ2'.out, Ls, As, cs, rfl, hs1, hs2, hs3, hs4, hb4.trans (hs5.mono hb4.size)⟩
  · obtain ⟨aq, rfl, haq, hcq⟩ := hQ3 hz
    have hc0 := hcq 0 hz
    have hwq := wd_lt Q 0
    rw [show aq.add 0 = aq from by obtain ⟨ab, ao, ap⟩ := aq; unfold Addr.add; split <;> simp_all] at hc0
    clear hcq
    generalize wd Q 0 = q0 at hc0 hwq
    go_wp2_with fail
    refine (plus_any R R LR LR AR AR cr cr _ hR3 hR3 hR1.1 hR1.1 (by omega) (by omega) hR2 hR2).mono ?_
    rintro e w2 ⟨Lp, Ap, cp, rfl, hp1, hp2, hp3, hp4, hp5⟩
    have hLp := hp1.le (sum_lt hR1.1 hR1.1)
    go_wp2_with fail
    refine (cmp_any (R + R) m Lp M Ap C cp cc _ hp3 (hCw.mono hp5) hp1 hm (by omega) (by omega)).mono ?_
    rintro e w3 ⟨cv, dq, rfl, rfl, _, _, _⟩
    have hb3 := below_drewN (hb.trans (hp5.mono hb.size)) dq
    have hW3 := Lib.hid (hQw.out.mono (below_drewN hp5 dq))
    clear hp3 hCw hR3 hQw hp5 hb
    go_wp2_with fail
    refine (even_any _ _ _ _ _).mono ?_
    rintro e w4 ⟨bb, rfl, rfl⟩
    generalize w2.drewN dq = w3 at hb3 hW3 ⊢
    have hone := words_one w3 (x := 1) (by decide)
    have hal := (Below.refl w3.heap.size w3).alloc (Nat.le_refl _) (.cells #[.int .u64 (1 : Nat)] 170)
    have hb4 := hb3.alloc hb3.size (.cells #[.int .u64 (1 : Nat)] 170)
    have hW4 := Lib.hid (hW3.out.mono hal)
    have hQlt : Q < Bs ^ L := Nat.lt_of_lt_of_le hQ1.1 (Nat.pow_le_pow_right Bs_pos hQ5)
    have hQ2' := Lib.hid (show Q + 1 < Bs ^ (L + 1) from Nat.lt_of_le_of_lt hQlt (Nat.pow_lt_pow_right (by decide) (Nat.lt_succ_self L)))
    cases bb with
    | false =>
      go_wp2
      go_ret
      exact ⟨Q, Nat.lt_of_succ_lt hQ2'.out, LQ, (some aq), cq, rfl, hQ1, hQ2, hW3.out, hQ4'.out, hb3⟩
    | true =>
      go_wp2_with fail
      refine (plus_any Q 1 LQ 1 (some aq) _ cq 1 _ hW4.out hone hQ1.1 (by decide) (by omega) (by omega) hQ2 (Nat.le_refl _)).mono ?_
      rintro e w5 ⟨Ls, As, cs, rfl, hs1, hs2, hs3, hs4, hs5⟩
      go_wp2
      go_ret
      exact ⟨Q + 1, hQ2'.out, Ls, As, cs, rfl, hs1, hs2, hs3, hs4, hb4.trans (hs5.mono hb4.size)⟩
end Go.Proofs.Nw
namespace Go.Proofs.Nw
open Go.RowKit Go.Lib
attribute [local go_sem ↓] Go.wp_at_zero Go.wp_at_succ
theorem und30 : ∃ d, Tryz.prog.underlying 116 = some d ∧ (match d with | .struct _ | .array _ _ => true | _ => false) = true := by
  have h : (Tryz.prog.underlying 116).map (fun d => match d with | .struct _ | .array _ _ => true | _ => false) = some true := by kernel_rfl
  cases hd : Tryz.prog.underlying 116 with
  | none => rw [hd] at h; cases h
  | some d => rw [hd] at h; exact ⟨d, rfl, Option.some.inj h⟩
theorem size30 : (Tryz.prog.info? 116).map (·.size) = some 2 := by kernel_rfl
theorem results_num {fn : Func} {p u : Tmp} (h : fn.results = #[.cell p 116, .tmp u]) (tmps : Array Value) (w : World) (g : Nat) (t : TypeId) (cs : Array Value) (fr : Nat × Nat)
    (hp : tmps.getD p undef = .pointer (some ⟨g, 0, none⟩)) (hg : w.heap[g]? = some (.cells cs t fr)) (hs : cs.size = 2) :
    (results fn tmps).run Tryz.prog w = .ok (.tuple #[.agg cs, tmps.getD u undef]) w := by
  obtain ⟨d, hu, hd⟩ := und30
  rw [results_cell_tmp h, hp]
  simp [asAddr, run_loadVar_row w g t 116 cs fr d hg hu (by cases d <;> first | rfl | exact hd) (hs ▸ size30), Result.andThen]
theorem set_heap {w : World} {b : Nat} {cs : Array Value} {t : TypeId} {fr : Nat × Nat} (h : w.heap[b]? = some (.cells cs t fr)) (i : Nat) (v : Value) : (w.setCell ⟨b, i, none⟩ v).heap[b]? = some (.cells (cs.setIfInBounds i v) t fr) := by
  simp [World.setCell, Array.getElem?_modify, h]
theorem set_heap_other {w : World} {b b' : Nat} (hb : b' ≠ b) (i : Nat) (v : Value) : (w.setCell ⟨b, i, none⟩ v).heap[b']? = w.heap[b']? := Go.Deep.blk_setCell_other _ _ _ _ hb
set_option maxRecDepth 100000 in
theorem checked_ok (neg : Bool) (n L : Nat) (A : Option Addr) (c : Nat) (w : World) (hA : WordsAt w A n L) (hL : Len n L) (hl : L ≤ 30000) (hn : n < 10 ^ 50) :
    Calls Tryz.prog 60 #[.agg #[.bool neg, .slice A L c]] w (fun e w' => e = .returned (.tuple #[.agg #[.bool (neg && decide (0 < L)), .slice A L c], .int .i64 0]) ∧ Below w.heap.size w w') := by
  go_enter Tryz.func60, Tryz.ntmps60
  go_wp2_with fail
  have hb0 : Below w.heap.size w ((w.alloc (.cells #[.bool neg, .slice A L c] 116)).alloc (.cells #[.bool false, .slice none 0 0] 116)) := ((Below.refl _ _).alloc (Nat.le_refl _) _).alloc (by simp) _
  have hc1 : ((w.alloc (.cells #[.bool neg, .slice A L c] 116)).alloc (.cells #[.bool false, .slice none 0 0] 116)).cell? ⟨w.heap.size, 1, none⟩ = some (.slice A L c) := by
    rw [World.cell?_alloc_lt _ _ _ (by simp)]
    unfold World.cell?
    rw [Go.Deep.blk_alloc_new]
    rfl
  have hsz0 : ((w.alloc (.cells #[.bool neg, .slice A L c] 116)).alloc (.cells #[.bool false, .slice none 0 0] 116)).heap.size = w.heap.size + 2 := by simp
  have hh0 : ((w.alloc (.cells #[.bool neg, .slice A L c] 116)).alloc (.cells #[.bool false, .slice none 0 0] 116)).heap[w.heap.size]? = some (.cells #[.bool neg, .slice A L c] 116) := by
    rw [Go.Deep.blk_alloc_lt _ _ _ (by simp)]
    exact Go.Deep.blk_alloc_new _ _
  have hh1 : ((w.alloc (.cells #[.bool neg, .slice A L c] 116)).alloc (.cells #[.bool false, .slice none 0 0] 116)).heap[w.heap.size + 1]? = some (.cells #[.bool false, .slice none 0 0] 116) := by
    have := Go.Deep.blk_alloc_new (w.alloc (.cells #[.bool neg, .slice A L c] 116)) (.cells #[.bool false, .slice none 0 0] 116)
    rwa [show (w.alloc (.cells #[.bool neg, .slice A L c] 116)).heap.size = w.heap.size + 1 by simp] at this
  generalize (w.alloc (.cells #[.bool neg, .slice A L c] 116)).alloc (.cells #[.bool false, .slice none 0 0] 116) = w0 at hb0 hc1 hsz0 hh0 hh1 ⊢
  have hA0 : WordsAt w0.drew A n L := hA.mono hb0.drew
  have hB6 : 10 ^ 50 < Bs ^ 6 := by decide +kernel
  have hSn := Lib.hid hn
  clear hn
  go_region_held3 (fun w' => w'.cell? ⟨w.heap.size, 1, none⟩ = some (.slice A L c)) (first | go_keep | (rw [hb1.cell (by simp; omega)]; assumption))
    (first | ((go_at_call 57; refine (pow10_any 50 _ (by omega)).mono ?_; rintro e w1 ⟨L1, A1, c1, rfl, hp1, hp2, hp3, hp4, hb1⟩)) | ((go_at_call 66; refine (cmp_any n (10 ^ 50) L L1 A A1 c c1 _ (hA0.mono hb1) hp3 hL hp1 (by omega) (Nat.le_trans (hp1.le hB6) (by decide))).mono ?_; rintro e w2 ⟨cv, dq, rfl, rfl, hsg, _, _⟩)))
  have hcv : cv < 0 := hsg.1.2 hSn.out
  have hbw : Below w0.heap.size w0 w1 := (Below.refl _ _).drew.trans hb1
  have hk0 : (w1.drewN dq).heap[w.heap.size]? = some (.cells #[.bool neg, .slice A L c] 116) := (hbw.block _ (by omega)).trans hh0
  have hk1 : (w1.drewN dq).heap[w.heap.size + 1]? = some (.cells #[.bool false, .slice none 0 0] 116) := (hbw.block _ (by omega)).trans hh1
  have hbz : Below w.heap.size w (w1.drewN dq) := below_drewN (hb0.trans (hbw.mono hb0.size)) dq
  generalize w1.drewN dq = w2 at hk0 hk1 hbz ⊢
  have c00 : w2.cell? ⟨w.heap.size, 0, none⟩ = some (.bool neg) := by simp [World.cell?, hk0]
  have c01 : w2.cell? ⟨w.heap.size, 1, none⟩ = some (.slice A L c) := by simp [World.cell?, hk0]
  have c10 : w2.cell? ⟨w.heap.size + 1, 0, none⟩ = some (.bool false) := by simp [World.cell?, hk1]
  have c11 : w2.cell? ⟨w.heap.size + 1, 1, none⟩ = some (.slice none 0 0) := by simp [World.cell?, hk1]
  have f0 : ∀ j, w2.frozen? ⟨w.heap.size, j, none⟩ = false := fun j => by simp [World.frozen?, hk0]
  have f1 : ∀ j, w2.frozen? ⟨w.heap.size + 1, j, none⟩ = false := fun j => by simp [World.frozen?, hk1]
  clear hp3 hA0 hA hsg hh0 hh1 hbw hb1 hc1 hb0
  cases neg with
  | false =>
    go_wp2
    refine bodyPost_ret (results_num rfl _ _ (w.heap.size + 1) 116 _ (0, 0) (by rfl) (set_heap (set_heap ((set_heap_other (by omega) 0 _).trans hk1) 0 _) 1 _) (by simp)) rfl ⟨?_, ?_⟩
    · simp
    · exact ((hbz.setCell (p := ⟨w.heap.size, 0, none⟩) (Nat.le_refl _) _).setCell (p := ⟨w.heap.size + 1, 0, none⟩) (by simp) _).setCell (p := ⟨w.heap.size + 1, 1, none⟩) (by simp) _
  | true =>
    go_wp2
    refine bodyPost_ret (results_num rfl _ _ (w.heap.size + 1) 116 _ (0, 0) (by rfl) (set_heap (set_heap ((set_heap_other (by omega) 0 _).trans hk1) 0 _) 1 _) (by simp)) rfl ⟨?_, ?_⟩
    · simp
    · exact ((hbz.setCell (p := ⟨w.heap.size, 0, none⟩) (Nat.le_refl _) _).setCell (p := ⟨w.heap.size + 1, 0, none⟩) (by simp) _).setCell (p := ⟨w.heap.size + 1, 1, none⟩) (by simp) _
set_option maxRecDepth 100000 in
theorem checked_big (neg : Bool) (n L : Nat) (A : Option Addr) (c : Nat) (w : World) (hA : WordsAt w A n L) (hL : Len n L) (hl : L ≤ 30000) (hn : 10 ^ 50 ≤ n) :
    Calls Tryz.prog 60 #[.agg #[.bool neg, .slice A L c]] w (fun e w' => e = .returned (.tuple #[.agg #[.bool false, .slice none 0 0], .int .i64 40]) ∧ Below w.heap.size w w') := by
  go_enter Tryz.func60, Tryz.ntmps60
  go_wp2_with fail
  have hb0 : Below w.heap.size w ((w.alloc (.cells #[.bool neg, .slice A L c] 116)).alloc (.cells #[.bool false, .slice none 0 0] 116)) := ((Below.refl _ _).alloc (Nat.le_refl _) _).alloc (by simp) _
  have hc1 : ((w.alloc (.cells #[.bool neg, .slice A L c] 116)).alloc (.cells #[.bool false, .slice none 0 0] 116)).cell? ⟨w.heap.size, 1, none⟩ = some (.slice A L c) := by
    rw [World.cell?_alloc_lt _ _ _ (by simp)]
    unfold World.cell?
    rw [Go.Deep.blk_alloc_new]
    rfl
  have hsz0 : ((w.alloc (.cells #[.bool neg, .slice A L c] 116)).alloc (.cells #[.bool false, .slice none 0 0] 116)).heap.size = w.heap.size + 2 := by simp
  have hh0 : ((w.alloc (.cells #[.bool neg, .slice A L c] 116)).alloc (.cells #[.bool false, .slice none 0 0] 116)).heap[w.heap.size]? = some (.cells #[.bool neg, .slice A L c] 116) := by
    rw [Go.Deep.blk_alloc_lt _ _ _ (by simp)]
    exact Go.Deep.blk_alloc_new _ _
  have hh1 : ((w.alloc (.cells #[.bool neg, .slice A L c] 116)).alloc (.cells #[.bool false, .slice none 0 0] 116)).heap[w.heap.size + 1]? = some (.cells #[.bool false, .slice none 0 0] 116) := by
    have := Go.Deep.blk_alloc_new (w.alloc (.cells #[.bool neg, .slice A L c] 116)) (.cells #[.bool false, .slice none 0 0] 116)
    rwa [show (w.alloc (.cells #[.bool neg, .slice A L c] 116)).heap.size = w.heap.size + 1 by simp] at this
  generalize (w.alloc (.cells #[.bool neg, .slice A L c] 116)).alloc (.cells #[.bool false, .slice none 0 0] 116) = w0 at hb0 hc1 hsz0 hh0 hh1 ⊢
  have hA0 : WordsAt w0.drew A n L := hA.mono hb0.drew
  have hB6 : 10 ^ 50 < Bs ^ 6 := by decide +kernel
  have hSn := Lib.hid hn
  clear hn
  go_region_held3 (fun w' => w'.cell? ⟨w.heap.size, 1, none⟩ = some (.slice A L c)) (first | go_keep | (rw [hb1.cell (by simp; omega)]; assumption))
    (first | ((go_at_call 57; refine (pow10_any 50 _ (by omega)).mono ?_; rintro e w1 ⟨L1, A1, c1, rfl, hp1, hp2, hp3, hp4, hb1⟩)) | ((go_at_call 66; refine (cmp_any n (10 ^ 50) L L1 A A1 c c1 _ (hA0.mono hb1) hp3 hL hp1 (by omega) (Nat.le_trans (hp1.le hB6) (by decide))).mono ?_; rintro e w2 ⟨cv, dq, rfl, rfl, hsg, _, _⟩)))
  have hcv : ¬ cv < 0 := fun h => absurd (hsg.1.1 h) (Nat.not_lt.2 hSn.out)
  have hbw : Below w0.heap.size w0 w1 := (Below.refl _ _).drew.trans hb1
  have hk0 : (w1.drewN dq).heap[w.heap.size]? = some (.cells #[.bool neg, .slice A L c] 116) := (hbw.block _ (by omega)).trans hh0
  have hk1 : (w1.drewN dq).heap[w.heap.size + 1]? = some (.cells #[.bool false, .slice none 0 0] 116) := (hbw.block _ (by omega)).trans hh1
  have hbz : Below w.heap.size w (w1.drewN dq) := below_drewN (hb0.trans (hbw.mono hb0.size)) dq
  generalize w1.drewN dq = w2 at hk0 hk1 hbz ⊢
  have c00 : w2.cell? ⟨w.heap.size, 0, none⟩ = some (.bool neg) := by simp [World.cell?, hk0]
  have c01 : w2.cell? ⟨w.heap.size, 1, none⟩ = some (.slice A L c) := by simp [World.cell?, hk0]
  have c10 : w2.cell? ⟨w.heap.size + 1, 0, none⟩ = some (.bool false) := by simp [World.cell?, hk1]
  have c11 : w2.cell? ⟨w.heap.size + 1, 1, none⟩ = some (.slice none 0 0) := by simp [World.cell?, hk1]
  have f0 : ∀ j, w2.frozen? ⟨w.heap.size, j, none⟩ = false := fun j => by simp [World.frozen?, hk0]
  have f1 : ∀ j, w2.frozen? ⟨w.heap.size + 1, j, none⟩ = false := fun j => by simp [World.frozen?, hk1]
  clear hp3 hA0 hA hsg hh0 hh1 hbw hb1 hc1 hb0
  go_wp2
  refine bodyPost_ret (results_num rfl _ _ (w.heap.size + 1) 116 _ (0, 0) (by rfl) (set_heap (set_heap hk1 0 _) 1 _) (by simp)) rfl ⟨?_, ?_⟩
  · simp
  · exact (hbz.setCell (p := ⟨w.heap.size + 1, 0, none⟩) (by simp) _).setCell (p := ⟨w.heap.size + 1, 1, none⟩) (by simp) _
end Go.Proofs.Nw
namespace Go.Proofs.Nw
open Go.RowKit Go.Lib
attribute [local go_sem ↓] Go.wp_at_zero Go.wp_at_succ
/-- the first i and the last i of K cells exchanged -/
def rv (f : Nat → Value) (K i : Nat) (p : Nat) : Value := if p < K ∧ (p < i ∨ K ≤ p + i) then f (K - 1 - p) else f p
theorem rv_next {f : Nat → Value} {K p q : Nat} (hq : q = K - 1 - p) (hpq : p < q) (hqK : q < K) (j : Nat) : (if j = q then f p else if j = p then f q else rv f K p j) = rv f K (p + 1) j := by
  unfold rv
  by_cases h1 : j = q
  · subst h1
    rw [if_pos rfl, if_pos (by omega)]
    congr 1; omega
  · rw [if_neg h1]
    by_cases h2 : j = p
    · subst h2
      rw [if_pos rfl, if_pos (by omega)]
      congr 1
    · rw [if_neg h2]
      by_cases h3 : j < K ∧ (j < p ∨ K ≤ j + p)
      · rw [if_pos h3, if_pos (by omega)]
      · rw [if_neg h3, if_neg (by omega)]
set_option maxRecDepth 100000 in
theorem rev_any (w : World) (g K cap : Nat) (f : Nat → Value) (hr : w.rowIs g 5 cap f) (hK : K ≤ cap) (hb8 : ∀ p, p < K → ∃ u : Int, f p = .int .u8 u ∧ 0 ≤ u ∧ u < 256) (hk : K ≤ 100000) (base : Nat) (hg : base ≤ g) :
    Calls Tryz.prog 88 #[.slice (some ⟨g, 0, none⟩) K cap] w (fun e w' => e = .returned (.tuple #[]) ∧ w'.rowIs g 5 cap (rv f K (K / 2)) ∧ Below base w w') := by
  have hidx : ∀ w : World, w.heap.size = w.heap.size := fun _ => rfl
  go_enter Tryz.func88, Tryz.ntmps88
  go_wp2
  go_loopw [2, 3] (fun i j wr => ∃ p : Nat, 2 * p ≤ K ∧ i = .int .i64 p ∧ j = .int .i64 ((K : Int) - 1 - p) ∧ wr.rowIs g 5 cap (rv f K p) ∧ Below base w wr) (fun i _ _ => K - (intOf i).toNat)
  case atStart => exact ⟨0, by omega, rfl, by simp, hr.congr fun p _ => by unfold rv; rw [if_neg (by omega)], Below.refl _ _⟩
  case round =>
    rename World => wr0
    obtain ⟨p, hp, rfl, rfl, hr1, hb1⟩ := hrel
    by_cases hlt : 2 * p + 1 < K
    · obtain ⟨q, hq⟩ : ∃ q, q = K - 1 - p := ⟨_, rfl⟩
      have hqi : (K : Int) - 1 - p = (q : Int) := by omega
      rw [hqi]
      have c1 := hr1.cell (i := p) (by omega)
      have c2 := hr1.cell (i := q) (by omega)
      have f1 := hr1.frozen p
      have f2 := hr1.frozen q
      obtain ⟨u, hu, hu0, hu1⟩ := hb8 p (by omega)
      obtain ⟨v, hv, hv0, hv1⟩ := hb8 q (by omega)
      rw [show rv f K p p = .int .u8 u from by unfold rv; rw [if_neg (by omega), hu]] at c1
      rw [show rv f K p q = .int .u8 v from by unfold rv; rw [if_neg (by omega), hv]] at c2
      have b1 : (0 : Int) ≤ (p : Int) := by omega
      have b2 : (p : Int) < (K : Int) := by omega
      have b3 : (0 : Int) ≤ (q : Int) := by omega
      have b4 : (q : Int) < (K : Int) := by omega
      have b5 : (p : Int) < (q : Int) := by omega
      have hne : p ≠ q := by omega
      have hqh := Lib.hid hq
      clear hr hq hqi
      go_wp2
      go_region
      go_wp2
      go_roundw
      case rel =>
        have hq := hqh.out
        exact ⟨p + 1, by omega, by go_num, by go_num, (((hr1.set p _).set q _).drew).congr fun j _ => by rw [← hu, ← hv]; exact rv_next hq (by omega) (by omega) j, ((hb1.setCell (p := ⟨g, p, none⟩) hg _).setCell (p := ⟨g, q, none⟩) hg _).drew⟩
      case measure => simp [intOf] <;> omega
    · have hpe : p = K / 2 := by omega
      subst hpe
      clear hr
      go_wp2
      go_end0
      exact ⟨rfl, hr1, hb1⟩
theorem rv_half {f : Nat → Value} {K j : Nat} (hj : j < K) : rv f K (K / 2) j = f (K - 1 - j) := by
  unfold rv
  by_cases h : j < K ∧ (j < K / 2 ∨ K ≤ j + K / 2)
  · rw [if_pos h]
  · rw [if_neg h]
    congr 1; omega
end Go.Proofs.Nw
namespace Go.Proofs.Nw
open Go.RowKit Go.Lib
/-- digit i of a number -/
def dgt (n i : Nat) : Nat := n / 10 ^ i % 10
def blist (n k : Nat) : List Value := (List.range k).map fun i => .int .u8 (48 + dgt n i : Nat)
theorem blist_snoc (n k : Nat) : blist n k ++ [Value.int .u8 (48 + dgt n k : Nat)] = blist n (k + 1) := by
  unfold blist
  rw [List.range_succ, List.map_append]
  rfl
theorem blist_snoc' (n k : Nat) : blist n k ++ [Value.int .u8 (48 + (dgt n k : Int))] = blist n (k + 1) := by
  rw [← blist_snoc]
  congr 3
theorem mod_div_mod {x j : Nat} (hj : j < 9) : x % Bs / 10 ^ j % 10 = x / 10 ^ j % 10 := by
  have h : Bs = 10 ^ j * 10 ^ (9 - j) := by
    rw [← Nat.pow_add, show j + (9 - j) = 9 by omega]; rfl
  rw [h, Nat.mod_mul_right_div_self]
  exact Nat.mod_mod_of_dvd _ ⟨10 ^ (8 - j), by rw [show 9 - j = (8 - j) + 1 by omega, Nat.pow_succ, Nat.mul_comm]⟩
theorem dgt_wd {n i j : Nat} (hj : j < 9) : wd n i / 10 ^ j % 10 = dgt n (9 * i + j) := by
  unfold wd dgt
  rw [mod_div_mod hj, Nat.pow_add, ← Nat.div_div_eq_div_mul, Nat.pow_mul]
  rfl
theorem dgt_lt (n i : Nat) : dgt n i < 10 := Nat.mod_lt _ (by decide)
theorem info5 : (Tryz.prog.info? 5).map (fun i => (i.zero, i.size, i.bytes)) = some (some (.int .u8 0), 1, 1) := by kernel_rfl
theorem own_form {w : World} {base : Nat} {e : TypeId} {size : Nat} {v : Value} {n : Nat} {xs : List Value} (h : w.ownsRow base e size v n xs) : ∃ P cap, v = .slice P n cap := by
  obtain ⟨_, ⟨rfl, rfl⟩ | ⟨g, cap, cur, rfl, _⟩⟩ := h
  · exact ⟨_, _, rfl⟩
  · exact ⟨_, _, rfl⟩
theorem own_take {w : World} {base : Nat} {e : TypeId} {P : Option Addr} {cap K : Nat} {xs : List Value} (h : w.ownsRow base e 1 (.slice P (K + 1) cap) (K + 1) xs) : w.ownsRow base e 1 (.slice P K cap) K (xs.take K) := by
  obtain ⟨h1, ⟨_, h0⟩ | ⟨g, cap', cur, hv, h2, h3, h4, h5, h6, h7⟩⟩ := h
  · exact absurd h0 (by omega)
  · injection hv with e1 e2 e3
    subst e1; subst e3
    exact ⟨by simp; omega, .inr ⟨g, cap, cur, rfl, h2, h3, by omega, h5, h6, by rw [← h7, List.take_take]; congr 1; omega⟩⟩
theorem own_cell {w : World} {base : Nat} {e : TypeId} {P : Option Addr} {cap n j : Nat} {xs : List Value} (h : w.ownsRow base e 1 (.slice P n cap) n xs) (hj : j < n) : ∃ g, P = some ⟨g, 0, none⟩ ∧ n ≤ cap ∧ w.cell? ⟨g, j, none⟩ = xs[j]? := by
  obtain ⟨h1, ⟨_, h0⟩ | ⟨g, cap', cur, hv, h2, h3, h4, h5, h6, h7⟩⟩ := h
  · exact absurd h0 (by omega)
  · injection hv with e1 e2 e3
    refine ⟨g, e1, by omega, ?_⟩
    rw [← h7, List.getElem?_take, if_pos (by omega)]
    simp [World.cell?, h3]
theorem blist_take (n K : Nat) : (blist n (K + 1)).take K = blist n K := by
  rw [← blist_snoc, List.take_left' (by simp [blist])]
theorem blist_get {n K j : Nat} (hj : j < K) : (blist n K)[j]? = some (.int .u8 (48 + (dgt n j : Int))) := by
  simp [blist, hj]
theorem dgt_drop {n K : Nat} (h : n < 10 ^ (K + 1)) (h0 : dgt n K = 0) : n < 10 ^ K := by
  unfold dgt at h0
  have h1 : n / 10 ^ K < 10 := (Nat.div_lt_iff_lt_mul (Nat.pow_pos (by decide))).2 (by rw [Nat.pow_succ, Nat.mul_comm] at h; exact h)
  rw [Nat.mod_eq_of_lt h1] at h0
  rcases (Nat.div_eq_zero_iff).1 h0 with h2 | h2
  · have := Nat.pow_pos (a := 10) (n := K) (by decide); omega
  · exact h2
theorem dgt_stay {n K : Nat} (h0 : dgt n K ≠ 0) : 10 ^ K ≤ n := by
  rcases Nat.lt_or_ge n (10 ^ K) with h | h
  · exact absurd (show dgt n K = 0 by unfold dgt; rw [Nat.div_eq_of_lt h]) h0
  · exact h
theorem dgt_above {n K : Nat} (h : n < 10 ^ K) : dgt n K = 0 := by unfold dgt; rw [Nat.div_eq_of_lt h]
theorem own_row {w : World} {base n : Nat} {P : Option Addr} {K cap : Nat} (h : w.ownsRow base 5 1 (.slice P K cap) K (blist n K)) (hK : 0 < K) : ∃ (g : Nat) (f : Nat → Value), P = some ⟨g, 0, none⟩ ∧ base ≤ g ∧ w.rowIs g 5 cap f ∧ K ≤ cap ∧ ∀ (j : Nat), j < K → f j = .int .u8 (48 + (dgt n j : Int)) := by
  obtain ⟨h1, ⟨_, h0⟩ | ⟨g, cap', cur, hv, h2, h3, h4, h5, h6, h7⟩⟩ := h
  · exact absurd h0 (by omega)
  · injection hv with e1 e2 e3
    subst e3
    refine ⟨g, fun j => (cur[j]?).getD undef, e1, h2, ⟨cur, h3, by omega, fun i hi => ?_⟩, h4, fun j hj => ?_⟩
    · have : i < cur.size := by omega
      simp [this]
    · have h8 : cur[j]? = (cur.toList.take (K * 1))[j]? := by
        rw [List.getElem?_take, if_pos (by omega)]
        simp
      show (cur[j]?).getD undef = _
      rw [h8, h7, blist_get hj]
      rfl
/-- the digits, the highest first -/
def dlist (n K : Nat) : List UInt8 := ((List.range K).map fun i => UInt8.ofNat (48 + dgt n i)).reverse
theorem dlist_len (n K : Nat) : (dlist n K).length = K := by simp [dlist]
theorem dlist_get {n K j : Nat} (hj : j < (dlist n K).length) : ((dlist n K)[j].toNat : Int) = 48 + (dgt n (K - 1 - j) : Int) := by
  have h := dgt_lt n (K - 1 - j)
  have hj' : j < K := by rw [dlist_len] at hj; exact hj
  have h2 : (dlist n K)[j]? = some (UInt8.ofNat (48 + dgt n (K - 1 - j))) := by
    unfold dlist
    rw [List.getElem?_reverse (by simpa using hj')]
    simp only [List.getElem?_map, List.length_map, List.length_range]
    rw [List.getElem?_range (by omega)]
    rfl
  obtain ⟨_, h3⟩ := List.getElem?_eq_some_iff.1 h2
  rw [h3, UInt8.toNat_ofNat']
  omega
def lenOf : Value → Nat | .slice _ K _ => K | _ => 0
def DigQ (n least : Nat) (w : World) (e : Ending) (w' : World) : Prop := ∃ K, least ≤ K ∧ n < 10 ^ K ∧ (K = least ∨ 10 ^ (K - 1) ≤ n) ∧ e = .returned (.string ⟨(dlist n K).toArray⟩) ∧ Below w.heap.size w w'
set_option maxRecDepth 100000 in
theorem digits_any (n L least : Nat) (A : Option Addr) (c : Nat) (w : World) (hA : WordsAt w A n L) (hL : Len n L) (hl : L ≤ 3000) (hc : L ≤ c) (hle : least ≤ 30000) (hle0 : 0 < least) :
    Calls Tryz.prog 61 #[.slice A L c, .int .i64 least] w (DigQ n least w) := by
  obtain ⟨i0, hi0, hz0, hz1, hz2⟩ := info_parts info5
  go_enter Tryz.func61, Tryz.ntmps61
  go_wp2
  go_loopw [5, 10] (fun b i wr => ∃ k : Nat, k ≤ L ∧ i = .int .i64 k ∧ wr.ownsRow w.heap.size 5 1 b (9 * k) (blist n (9 * k)) ∧ Below w.heap.size w wr) (fun _ i _ => L - (intOf i).toNat)
  case atStart => exact ⟨0, Nat.zero_le _, rfl, World.ownsRow_nil _ _ _ _, Below.refl _ _⟩
  case round =>
    obtain ⟨k, hk, rfl, hown, hb⟩ := hrel
    by_cases hlt : k < L
    · obtain ⟨a, rfl, ha, hcl⟩ := hA (by omega)
      have hcj := hb.cell (p := a.add k) (by rw [addr_block]; exact ha)
      rw [hcl k hlt] at hcj
      have hw1 := wd_lt n k
      have hdg : ∀ j, j < 9 → wd n k / 10 ^ j % 10 = dgt n (9 * k + j) := fun j hj => dgt_wd hj
      have hdg := Lib.hid hdg
      generalize wd n k = x at hcj hw1 hdg
      clear hcl hA
      go_wp2
      go_loopw [5, 7, 14] (fun b t j wr => ∃ q : Nat, q ≤ 9 ∧ j = .int .i64 q ∧ t = .int .u64 (x / 10 ^ q : Nat) ∧ wr.ownsRow w.heap.size 5 1 b (9 * k + q) (blist n (9 * k + q)) ∧ Below w.heap.size w wr) (fun _ _ j _ => 9 - (intOf j).toNat)
      case atStart => exact ⟨0, by omega, rfl, by simp, hown, hb⟩
      case round =>
        rename World => wr0
        obtain ⟨q, hq, rfl, rfl, hown1, hb1⟩ := hrel
        by_cases hlt2 : q < 9
        · obtain ⟨Pb, cb, rfl⟩ := own_form hown1
          have hd := hdg.out q hlt2
          have hdl := dgt_lt n (9 * k + q)
          have hxl : x / 10 ^ q ≤ x := Nat.div_le_self _ _
          have hxs := Lib.hid (show x / 10 ^ (q + 1) = x / 10 ^ q / 10 by rw [Nat.pow_succ, Nat.div_div_eq_div_mul])
          have hsn := Lib.hid (blist_snoc' n (9 * k + q))
          generalize x / 10 ^ q = y at hd hxl hxs ⊢
          generalize dgt n (9 * k + q) = d at hd hdl hsn
          have hyd : ((y : Int) % 10) = (d : Int) := by omega
          clear hown hdg
          go_wp2_with (at_builtin; go_loud (refine wpList_append_own _ (by rfl) _ _ 126 (by rfl) w.heap.size 5 i0 (.int .u8 0) 1 1 und55 hi0 hz0 hz1 hz2 rfl (by decide) _ (9 * k + q) (blist n (9 * k + q)) (by rfl) (own_of_block hown1 (fun i hi => Go.Deep.blk_alloc_lt _ _ _ hi)) ⟨wr0.heap.size, 0, none⟩ 1 1 [.int .u8 (48 + (d : Int))] (by rfl) (by rfl) (World.news_of_block (cs := #[.int .u8 (48 + (d : Int))]) (t := 5) (fr := (0, 0)) (Go.Deep.blk_alloc_new wr0 _)) (by simp [Value.oneCell']) (by unfold maxLen; omega) (by omega) (by have := hb1.size; simp; omega) ?_; rintro v' w1 hown2 hgrow hnil))
          refine ⟨⟨q + 1, by omega, by go_num, congrArg (Value.int .u64) (by rw [hxs.out]; omega), hsn.out ▸ hown2, ?_⟩, ?_⟩
          · exact (hb1.alloc hb1.size _).grown hgrow (by have := hb1.size; simp; omega) (fun k hk => own_ge hown1 hk)
          · simp [intOf]; omega
        · have hqe : q = 9 := by omega
          subst hqe
          go_wp2
          go_roundw
          case rel => exact ⟨k + 1, by omega, by go_num, hown1, hb1⟩
          case measure => simp [intOf] <;> omega
    · have hke : k = L := by omega
      subst hke
      clear hA
      have hn9 : n < 10 ^ (9 * k) := by
        have := hL.1
        rw [show Bs = 10 ^ 9 from rfl, ← Nat.pow_mul] at this
        exact this
      go_wp2
      go_loopw [5] (fun b wr => ∃ K : Nat, K ≤ 9 * k ∧ Hid (n < 10 ^ K) ∧ wr.ownsRow w.heap.size 5 1 b K (blist n K) ∧ Below w.heap.size w wr) (fun b _ => lenOf b)
      case atStart => exact ⟨9 * k, Nat.le_refl _, Lib.hid hn9, hown, hb⟩
      case round =>
        rename World => wr0
        obtain ⟨K, hK, hnK, hown1, hb1⟩ := hrel
        obtain ⟨Pb, cb, rfl⟩ := own_form hown1
        clear hown hn9
        by_cases hgt : least < K
        · obtain ⟨J, rfl⟩ : ∃ J, K = J + 1 := ⟨K - 1, by omega⟩
          obtain ⟨g, rfl, hcap, hcell⟩ := own_cell hown1 (j := J) (by omega)
          rw [blist_get (by omega)] at hcell
          by_cases hd0 : dgt n J = 0
          · have hlt' := Lib.hid (dgt_drop hnK.out hd0)
            have hown2 := own_take hown1
            rw [blist_take] at hown2
            rw [hd0] at hcell
            have hx1 : ((J + 1 : Nat) : Int) - 1 = (J : Int) := by omega
            go_wp2
            exact ⟨⟨J, by omega, hlt', hown2, hb1⟩, Nat.lt_succ_self J⟩
          · have hst := Lib.hid (show J + 1 ≤ least ∨ (least < J + 1 ∧ 10 ^ (J + 1 - 1) ≤ n) from .inr ⟨hgt, dgt_stay hd0⟩)
            have hdl := dgt_lt n J
            have hx1 : ((J + 1 : Nat) : Int) - 1 = (J : Int) := by omega
            generalize dgt n J = d at hd0 hcell hdl
            have hdb : ((48 : Int) + (d : Int) == 48) = false := by rw [beq_eq_false_iff_ne]; omega
            go_wp2
            go_loopw [5] (fun b wr => ∃ K : Nat, K ≤ 27000 + least ∧ Hid (n < 10 ^ K) ∧ Hid (K ≤ least ∨ (least < K ∧ 10 ^ (K - 1) ≤ n)) ∧ wr.ownsRow w.heap.size 5 1 b K (blist n K) ∧ Below w.heap.size w wr) (fun b _ => least - lenOf b)
            case atStart => exact ⟨J + 1, by omega, hnK, hst, hown1, hb1⟩
            case round =>
              rename World => wr1
              obtain ⟨K4, hK4, hn4, hor, hown4, hb4⟩ := hrel
              clear hown1
              obtain ⟨P4, c4, rfl⟩ := own_form hown4
              by_cases hlt4 : K4 < least
              · have hd4 := dgt_above hn4.out
                have hsn := Lib.hid (blist_snoc' n K4)
                rw [hd4] at hsn
                have hn5 := Lib.hid (show n < 10 ^ (K4 + 1) from Nat.lt_of_lt_of_le hn4.out (Nat.pow_le_pow_right (by decide) (by omega)))
                go_wp2_with (at_builtin; refine wpList_append_own _ (by rfl) _ _ 126 (by rfl) w.heap.size 5 i0 (.int .u8 0) 1 1 und55 hi0 hz0 hz1 hz2 rfl (by decide) _ K4 (blist n K4) (by rfl) (own_of_block hown4 (fun i hi => Go.Deep.blk_alloc_lt _ _ _ hi)) ⟨wr1.heap.size, 0, none⟩ 1 1 [.int .u8 48] (by rfl) (by rfl) (World.news_of_block (cs := #[.int .u8 48]) (t := 5) (fr := (0, 0)) (Go.Deep.blk_alloc_new wr1 _)) (by simp [Value.oneCell']) (by unfold maxLen; omega) (by omega) (by have := hb4.size; simp; omega) ?_; rintro v' w1 hown5 hgrow hnil)
                have hown6 : w1.ownsRow w.heap.size 5 1 v' (K4 + 1) (blist n (K4 + 1)) := hsn.out ▸ hown5
                have hb6 : Below w.heap.size w w1 := (hb4.alloc hb4.size _).grown hgrow (by have := hb4.size; simp; omega) (fun k hk => own_ge hown4 hk)
                obtain ⟨P6, c6, rfl⟩ := own_form hown6
                go_roundw
                case rel => exact ⟨K4 + 1, by omega, hn5, Lib.hid (.inl (by omega)), hown6, hb6⟩
                case measure => show least - (K4 + 1) < least - K4; omega
              · have hor' := Lib.hid (show K4 = least ∨ 10 ^ (K4 - 1) ≤ n from by rcases hor.out with h | h; exact .inl (by omega); exact .inr h.2)
                have hge : least ≤ K4 := by omega
                clear hor
                obtain ⟨g4, f4, rfl, hg4, hrow4, hKc4, hf4⟩ := own_row hown4 (by omega)
                go_wp2_with fail
                refine (rev_any wr1 g4 K4 c4 f4 hrow4 hKc4 (fun p hp => ⟨_, hf4 p hp, by have := dgt_lt n p; omega, by have := dgt_lt n p; omega⟩) (by omega) w.heap.size hg4).mono ?_
                rintro e w2 ⟨rfl, hrow5, hb5⟩
                have hconv := run_convert_bytes_back (P := Tryz.prog) w2 126 9 5 ⟨g4, 0, none⟩ c4 (dlist n K4) und55 und5 und9 (fun j hj => by
                  have hj' : j < K4 := by rw [dlist_len] at hj; exact hj
                  rw [add0, hrow5.cell (by omega), rv_half hj', hf4 _ (by omega), dlist_get hj])
                rw [dlist_len] at hconv
                clear hrow4 hrow5 hf4 hown4
                go_wp2
                go_ret
                exact ⟨K4, hge, hn4.out, hor'.out, rfl, hb4.trans hb5⟩
        · have hst := Lib.hid (show K ≤ least ∨ (least < K ∧ 10 ^ (K - 1) ≤ n) from .inl (by omega))
          go_wp2
          go_loopw [5] (fun b wr => ∃ K : Nat, K ≤ 27000 + least ∧ Hid (n < 10 ^ K) ∧ Hid (K ≤ least ∨ (least < K ∧ 10 ^ (K - 1) ≤ n)) ∧ wr.ownsRow w.heap.size 5 1 b K (blist n K) ∧ Below w.heap.size w wr) (fun b _ => least - lenOf b)
          case atStart => exact ⟨K, by omega, hnK, hst, hown1, hb1⟩
          case round =>
            rename World => wr1
            obtain ⟨K4, hK4, hn4, hor, hown4, hb4⟩ := hrel
            clear hown1
            obtain ⟨P4, c4, rfl⟩ := own_form hown4
            by_cases hlt4 : K4 < least
            · have hd4 := dgt_above hn4.out
              have hsn := Lib.hid (blist_snoc' n K4)
              rw [hd4] at hsn
              have hn5 := Lib.hid (show n < 10 ^ (K4 + 1) from Nat.lt_of_lt_of_le hn4.out (Nat.pow_le_pow_right (by decide) (by omega)))
              go_wp2_with (at_builtin; refine wpList_append_own _ (by rfl) _ _ 126 (by rfl) w.heap.size 5 i0 (.int .u8 0) 1 1 und55 hi0 hz0 hz1 hz2 rfl (by decide) _ K4 (blist n K4) (by rfl) (own_of_block hown4 (fun i hi => Go.Deep.blk_alloc_lt _ _ _ hi)) ⟨wr1.heap.size, 0, none⟩ 1 1 [.int .u8 48] (by rfl) (by rfl) (World.news_of_block (cs := #[.int .u8 48]) (t := 5) (fr := (0, 0)) (Go.Deep.blk_alloc_new wr1 _)) (by simp [Value.oneCell']) (by unfold maxLen; omega) (by omega) (by have := hb4.size; simp; omega) ?_; rintro v' w1 hown5 hgrow hnil)
              have hown6 : w1.ownsRow w.heap.size 5 1 v' (K4 + 1) (blist n (K4 + 1)) := hsn.out ▸ hown5
              have hb6 : Below w.heap.size w w1 := (hb4.alloc hb4.size _).grown hgrow (by have := hb4.size; simp; omega) (fun k hk => own_ge hown4 hk)
              obtain ⟨P6, c6, rfl⟩ := own_form hown6
              go_roundw
              case rel => exact ⟨K4 + 1, by omega, hn5, Lib.hid (.inl (by omega)), hown6, hb6⟩
              case measure => show least - (K4 + 1) < least - K4; omega
            · have hor' := Lib.hid (show K4 = least ∨ 10 ^ (K4 - 1) ≤ n from by rcases hor.out with h | h; exact .inl (by omega); exact .inr h.2)
              have hge : least ≤ K4 := by omega
              clear hor
              obtain ⟨g4, f4, rfl, hg4, hrow4, hKc4, hf4⟩ := own_row hown4 (by omega)
              go_wp2_with fail
              refine (rev_any wr1 g4 K4 c4 f4 hrow4 hKc4 (fun p hp => ⟨_, hf4 p hp, by have := dgt_lt n p; omega, by have := dgt_lt n p; omega⟩) (by omega) w.heap.size hg4).mono ?_
              rintro e w2 ⟨rfl, hrow5, hb5⟩
              have hconv := run_convert_bytes_back (P := Tryz.prog) w2 126 9 5 ⟨g4, 0, none⟩ c4 (dlist n K4) und55 und5 und9 (fun j hj => by
                have hj' : j < K4 := by rw [dlist_len] at hj; exact hj
                rw [add0, hrow5.cell (by omega), rv_half hj', hf4 _ (by omega), dlist_get hj])
              rw [dlist_len] at hconv
              clear hrow4 hrow5 hf4 hown4
              go_wp2
              go_ret
              exact ⟨K4, hge, hn4.out, hor'.out, rfl, hb4.trans hb5⟩
end Go.Proofs.Nw
namespace Go.Proofs.Nw
open Go.RowKit Go.Lib
theorem ba_app (a b : List UInt8) : ((⟨a.toArray⟩ : ByteArray) ++ ⟨b.toArray⟩) = ⟨(a ++ b).toArray⟩ := by
  apply ByteArray.ext
  simp [ByteArray.data_append]
theorem ba_ex (D : List UInt8) (i j : Nat) : (⟨D.toArray⟩ : ByteArray).extract i j = ⟨((D.drop i).take (j - i)).toArray⟩ := by
  apply ByteArray.ext
  simp [ByteArray.data_extract]
theorem ba_isEmpty {G : List UInt8} (h : G ≠ []) : (⟨G.toArray⟩ : ByteArray).toList.isEmpty = false := by
  have : (⟨G.toArray⟩ : ByteArray).toList = G := by simp
  rw [this]
  cases G with
  | nil => exact absurd rfl h
  | cons a l => rfl
theorem dropWhile_len (p : UInt8 → Bool) : ∀ l : List UInt8, (l.dropWhile p).length ≤ l.length
  | [] => Nat.le_refl _
  | a :: l => by
    rw [List.dropWhile_cons]
    split
    · exact Nat.le_succ_of_le (dropWhile_len p l)
    · exact Nat.le_refl _
theorem trim_len (l : List UInt8) (c : UInt8) : (trimRightB l c).length ≤ l.length := by
  unfold trimRightB
  rw [List.length_reverse]
  have := dropWhile_len (· == c) l.reverse
  rwa [List.length_reverse] at this
/-- a number's text out of its digits -/
def tx (neg : Bool) (D : List UInt8) : List UInt8 :=
  let whole := D.take (D.length - 20)
  let frac := trimRightB (D.drop (D.length - 20)) 48
  let t := if frac = [] then whole else whole ++ ([46] ++ frac)
  if neg then [45] ++ t else t
def TxtQ (neg : Bool) (n : Nat) (w : World) (e : Ending) (w' : World) : Prop := ∃ K, 21 ≤ K ∧ n < 10 ^ K ∧ (K = 21 ∨ 10 ^ (K - 1) ≤ n) ∧ e = .returned (.string ⟨(tx neg (dlist n K)).toArray⟩) ∧ Below w.heap.size w w'
set_option maxRecDepth 100000 in
set_option maxHeartbeats 1000000 in
theorem text_any (neg : Bool) (n L : Nat) (A : Option Addr) (c : Nat) (w : World) (hA : WordsAt w A n L) (hL : Len n L) (hl : L ≤ 3000) (hc : L ≤ c) :
    Calls Tryz.prog 33 #[.agg #[.bool neg, .slice A L c]] w (TxtQ neg n w) := by
  go_enter Tryz.func33, Tryz.ntmps33
  go_wp2_with fail
  have hal := (Below.refl w.heap.size w).alloc (Nat.le_refl _) (.cells #[.bool neg, .slice A L c] 116)
  refine (digits_any n L 21 A c _ (hA.mono hal) hL hl hc (by decide) (by decide)).mono ?_
  rintro e w1 ⟨K, hK, hnK, hor, rfl, hb1⟩
  have hb := hal.trans (hb1.mono hal.size)
  have c0 : w1.cell? ⟨w.heap.size, 0, none⟩ = some (.bool neg) := by
    rw [hb1.cell (by simp)]
    unfold World.cell?
    rw [Go.Deep.blk_alloc_new]
    rfl
  have hKb : K ≤ 27001 := by
    rcases hor with h | h
    · omega
    · have h2 := hL.1
      rw [show Bs = 10 ^ 9 from rfl, ← Nat.pow_mul] at h2
      have h3 := (Nat.pow_lt_pow_iff_right (a := 10) (by decide)).1 (Nat.lt_of_le_of_lt h h2)
      omega
  obtain ⟨J, rfl⟩ : ∃ J, K = J + 20 := ⟨K - 20, by omega⟩
  have hJ0 : (0 : Int) ≤ (J : Int) := by omega
  have hJ1 : (J : Int) ≤ (J : Int) + 20 := by omega
  have hJ2 : ((J : Int) + 20 - 20) = J := by omega
  have hDl := dlist_len n (J + 20)
  generalize hDe : dlist n (J + 20) = D at hDl ⊢
  have hDh := Lib.hid hDe
  clear hDe
  have hsz : ({ data := D.toArray } : ByteArray).size = J + 20 := by rw [← hDl]; simp [ByteArray.size]
  generalize hS : ({ data := D.toArray } : ByteArray) = S at hsz ⊢
  have hSh := Lib.hid hS
  clear hS
  clear hb1 hA hL
  have hJ3 : (0:Int) ≤ (S.size : Int) - 20 := by omega
  have hJ4 : (S.size : Int) - 20 ≤ (S.size : Int) := by omega
  go_wp2_with fail
  go_quiet ((go_at_call 62; refine Calls.quiet_of_same (Tryz.strings_TrimRight_one _ 48 (by decide) _ ?_); (simp; omega)))
  have c1 : (w1.drewN nq).cell? ⟨w.heap.size, 0, none⟩ = some (.bool neg) := by simpa using c0
  generalize hF : trimRightB (S.extract J (J + 20)).data.toList 48 = F
  have hFh := Lib.hid hF
  clear hF
  have hb2 : Below w.heap.size w (w1.drewN nq) := below_drewN hb nq
  have eS0 := Lib.hid (show S.extract 0 J = ⟨(D.take J).toArray⟩ by rw [← hSh.out, ba_ex]; simp)
  have eF := Lib.hid (show trimRightB (D.drop J) 48 = F by
    rw [← hFh.out, ← hSh.out, ba_ex]
    have : (D.drop J).take (J + 20 - J) = D.drop J := List.take_of_length_le (by rw [List.length_drop]; omega)
    rw [this])
  have eJ := Lib.hid (show D.length - 20 = J by omega)
  have hFl := Lib.hid (show F.length ≤ 20 by
    have := trim_len (D.drop J) 48
    rw [eF.out, List.length_drop] at this
    omega)
  by_cases hFe : F = []
  · subst hFe
    cases neg
    · go_wp2
      go_ret
      refine ⟨J + 20, hK, hnK, hor, ?_, hb2⟩
      show Ending.returned (.string (S.extract 0 J)) = _
      rw [hDh.out, eS0.out]
      unfold tx
      rw [eJ.out, eF.out]
      rfl
    · go_wp2
      go_ret
      refine ⟨J + 20, hK, hnK, hor, ?_, hb2⟩
      show Ending.returned (.string ({ data := #[45] } ++ S.extract 0 J)) = _
      rw [hDh.out, eS0.out, show (#[45] : Array UInt8) = [45].toArray from rfl, ba_app]
      unfold tx
      rw [eJ.out, eF.out]
      rfl
  · have hFne : ({ data := F.toArray } : ByteArray) ≠ { data := #[] } := fun e => hFe (by simpa using congrArg (fun b : ByteArray => b.data.toList) e)
    generalize hG : ({ data := F.toArray } : ByteArray) = G at hFne ⊢
    have hGh := Lib.hid hG
    clear hG
    have hFb : G.toList.isEmpty = false := by
      rw [← hGh.out]
      exact ba_isEmpty hFe
    have hGs : (G.size : Int) ≤ 20 := by
      have := hFl.out
      rw [← hGh.out]
      simp only [ByteArray.size, List.size_toArray]
      omega
    have hFe' := Lib.hid hFe
    clear hFne hFe
    cases neg
    · go_wp2
      go_ret
      refine ⟨J + 20, hK, hnK, hor, ?_, hb2⟩
      show Ending.returned (.string (S.extract 0 J ++ ({ data := #[46] } ++ G))) = _
      rw [hDh.out, eS0.out, ← hGh.out, show (#[46] : Array UInt8) = [46].toArray from rfl, ba_app, ba_app]
      unfold tx
      rw [eJ.out, eF.out]
      simp only [if_neg hFe'.out]
      rfl
    · go_wp2
      go_ret
      refine ⟨J + 20, hK, hnK, hor, ?_, hb2⟩
      show Ending.returned (.string ({ data := #[45] } ++ (S.extract 0 J ++ ({ data := #[46] } ++ G)))) = _
      rw [hDh.out, eS0.out, ← hGh.out, show (#[46] : Array UInt8) = [46].toArray from rfl, show (#[45] : Array UInt8) = [45].toArray from rfl, ba_app, ba_app, ba_app]
      unfold tx
      rw [eJ.out, eF.out]
      simp only [if_neg hFe'.out]
      rfl
end Go.Proofs.Nw
