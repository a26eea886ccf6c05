import Derived.Test.YtjadcoglgnabpaaGreatDoorWd
import Derived.Deep.CutBlock
set_option linter.all false
set_option linter.unusedVariables false
set_option maxHeartbeats 2000000
set_option exponentiation.threshold 5000
namespace Go.Proofs.Nw
open Go.RowKit Go.Lib
attribute [local go_sem ↓] Go.wp_at_zero Go.wp_at_succ
def RdE (l : List UInt8) (e : Ending) : Prop := ∃ code, e = .returned (.tuple #[.agg #[.bool false, .slice none 0 0], .int .i64 code]) ∧ code ≠ 0 ∧ ((fracOf l).length ≤ 20 → pspec l = none)
def RdN (l : List UInt8) (w : World) (e : Ending) : Prop := ∃ neg E A c, e = .returned (.tuple #[.agg #[.bool neg, .slice A E.length c], .int .i64 0]) ∧ DigsAt w A E ∧ Dg E ∧ trimD E = E ∧ E.length ≤ c ∧ (A = none → c = 0) ∧ E.length ≤ 50 ∧ (neg = true → E ≠ []) ∧ l.length ≤ 200 ∧ badT l = false ∧ ((fracOf l).length ≤ 20 → pspec l = some (neg, nv E))
def RdQ (l : List UInt8) (w : World) (e : Ending) (w' : World) : Prop := Below w.heap.size w w' ∧ (RdE l e ∨ RdN l w' e)
theorem und33 : ∃ d, Tryz.prog.underlying 41 = some d ∧ (match d with | .struct _ | .array _ _ => true | _ => false) = true := by
  have h : (Tryz.prog.underlying 41).map (fun d => match d with | .struct _ | .array _ _ => true | _ => false) = some true := by kernel_rfl
  cases hd : Tryz.prog.underlying 41 with
  | none => rw [hd] at h; cases h
  | some d => rw [hd] at h; exact ⟨d, rfl, Option.some.inj h⟩
theorem size33 : (Tryz.prog.info? 41).map (·.size) = some 2 := by kernel_rfl
theorem results_num33 {fn : Func} {p u : Tmp} (h : fn.results = #[.cell p 41, .tmp u]) (tmps : Array Value) (w : World) (g : Nat) (t : TypeId) (cs : Array Value) (fr : Nat × Nat)
    (hp : tmps.getD p undef = .pointer (some ⟨g, 0, none⟩)) (hg : w.heap[g]? = some (.cells cs t fr)) (hs : cs.size = 2) :
    (results fn tmps).run Tryz.prog w = .ok (.tuple #[.agg cs, tmps.getD u undef]) w := by
  obtain ⟨d, hu, hd⟩ := und33
  rw [results_cell_tmp h, hp]
  simp [asAddr, run_loadVar_row w g t 41 cs fr d hg hu (by cases d <;> first | rfl | exact hd) (hs ▸ size33), Result.andThen]
theorem u8_ne {c k : UInt8} (h : c ≠ k) (n : Int) (hk : (k.toNat : Int) = n) : ((c.toNat : Int) == n) = false := by
  rw [beq_eq_false_iff_ne, ← hk]
  intro e
  exact h (UInt8.toNat_inj.1 (by omega))
theorem rest45 (r : List UInt8) : negOf (45 :: r) = true ∧ restOf (45 :: r) = r := by
  have h : negOf (45 :: r) = true := by unfold negOf; rw [hp_cons]; rfl
  refine ⟨h, ?_⟩
  unfold restOf trimPrefix
  rw [h, hp_cons]
  rfl
theorem rest43 (r : List UInt8) : negOf (43 :: r) = false ∧ restOf (43 :: r) = r := by
  have h : negOf (43 :: r) = false := by unfold negOf; rw [hp_cons]; rfl
  refine ⟨h, ?_⟩
  unfold restOf trimPrefix
  rw [h, hp_cons, hp_cons]
  rfl
def sgB (l : List UInt8) : Bool := hasPrefix l [43] || hasPrefix l [45]
theorem sgB_cons (c : UInt8) (r : List UInt8) : sgB (c :: r) = ((43 : UInt8) == c || (45 : UInt8) == c) := by simp [sgB, hp_cons]
theorem rest_no {l : List UInt8} (h : sgB l = false) : negOf l = false ∧ restOf l = l := by
  unfold sgB at h
  rw [Bool.or_eq_false_iff] at h
  refine ⟨h.2, ?_⟩
  unfold restOf trimPrefix
  rw [show negOf l = false from h.2, h.1]
  rfl
theorem sgB_split {l : List UInt8} (h : sgB l = true) : ∃ c r, l = c :: r ∧ (c = 43 ∨ c = 45) := by
  cases l with
  | nil => cases h
  | cons c r =>
    rw [sgB_cons] at h
    refine ⟨c, r, rfl, ?_⟩
    simp at h
    rcases h with h | h
    · exact .inl h.symm
    · exact .inr h.symm
theorem scan_bad {c : UInt8} {r D : List UInt8} {b : Nat} {p : Bool} (hp : ¬ (c = 46 ∧ p = false)) (h : isDig c = false) : scan (c :: r) D b p = none := by
  unfold scan
  rw [if_neg hp, h]
  rfl
theorem scan_dig {c : UInt8} {r D : List UInt8} {b : Nat} {p : Bool} (hp : ¬ (c = 46 ∧ p = false)) (h : isDig c = true) : scan (c :: r) D b p = scan r (D ++ [c]) (if p then b + 1 else b) p := by
  conv => lhs; unfold scan
  rw [if_neg hp, if_pos h]
theorem dig46 : isDig 46 = false := by decide
theorem dvals_snoc (D : List UInt8) (c : UInt8) : dvals (D ++ [c]) = dvals D ++ [c.toNat - 48] := List.map_append
theorem digs_struct {w : World} {A : Option Addr} {D : List Nat} {H : Nat} {cs : Array Value} {t : TypeId} {fr : Nat × Nat} (h : DigsAt w A D) (hH : w.heap[H]? = some (.cells cs t fr)) (hno : ∀ (k : Nat) (x : Int), cs[k]? ≠ some (.int .i64 x)) (i : Nat) (v : Value) : DigsAt (w.setCell ⟨H, i, none⟩ v) A D := fun h0 => by
  obtain ⟨a, rfl, hb, hc⟩ := h h0
  have hne : H ≠ a.block := by
    intro e
    have h1 := hc 0 h0
    have ha : a.add 0 = a := by simp [Addr.add]
    rw [ha] at h1
    unfold World.cell? at h1
    rw [← e, hH] at h1
    simp only at h1
    split at h1
    · cases h1
    · exact hno _ _ h1
  refine ⟨a, rfl, by simpa using hb, fun j hj => ?_⟩
  rw [← hc j hj]
  exact World.cell?_of_block (Go.Deep.blk_setCell_other _ _ _ _ (by rw [addr_block]; exact hne.symm))
theorem no_i64 (b : Bool) (A : Option Addr) (L c : Nat) (k : Nat) (x : Int) : (#[Value.bool b, Value.slice A L c] : Array Value)[k]? ≠ some (.int .i64 x) := by
  intro h
  rcases k with _ | _ | k
  · cases h
  · cases h
  · simp at h
theorem trim_zero {E : List Nat} (ht : trimD E = E) : nv E = 0 ↔ E = [] := by
  constructor
  · intro h
    apply Classical.byContradiction
    intro hne
    have := trim_ge (D := E) (by rw [ht]; exact hne)
    rw [ht, h] at this
    have := Nat.pow_pos (n := E.length - 1) (show 0 < 10 by decide)
    omega
  · intro h; rw [h]; rfl
theorem trim_big {E : List Nat} (hd : Dg E) (ht : trimD E = E) : 10 ^ 50 ≤ nv E ↔ 50 < E.length := by
  constructor
  · intro h
    have := nv_lt hd
    have := (Nat.pow_lt_pow_iff_right (a := 10) (by decide)).1 (Nat.lt_of_le_of_lt h this)
    exact this
  · intro h
    have := trim_ge (D := E) (by rw [ht]; intro e; rw [e] at h; cases h)
    rw [ht] at this
    exact Nat.le_trans (Nat.pow_le_pow_right (by decide) (by omega)) this
set_option maxRecDepth 100000 in
set_option maxHeartbeats 1000000 in
theorem read_any (l : List UInt8) (w : World) (hl : l.length ≤ 100000) : Calls Tryz.prog 20 #[.string ⟨l.toArray⟩] w (RdQ l w) := by
  have hsz : (⟨l.toArray⟩ : ByteArray).size = l.length := by simp [ByteArray.size]
  have hSi : ∀ (j : Nat) (h : j < l.length), ((⟨l.toArray⟩ : ByteArray)[j]'(by rw [hsz]; exact h)) = l[j] := fun j h => by simp [ByteArray.getElem_eq_getElem_data]
  go_enter Tryz.func20, Tryz.ntmps20
  by_cases hlen : 200 < l.length
  · have : (200 : Int) < (l.length : Int) := by omega
    go_wp2
    refine bodyPost_ret (results_num33 rfl _ _ w.heap.size 41 _ (0, 0) (by rfl) (Go.Deep.blk_alloc_new _ _) (by simp)) rfl ⟨(Below.refl _ _).alloc (Nat.le_refl _) _, .inl ⟨2, rfl, by decide, fun _ => ?_⟩⟩
    exact if_pos (.inl (by omega))
  · have : ¬ (200 : Int) < (l.length : Int) := by omega
    go_upto_region 5 with fail
    have hb0 : Below w.heap.size w ((w.alloc (.cells #[.bool false, .slice none 0 0] 41)).alloc (.cells #[.bool false, .slice none 0 0] 41)) := ((Below.refl _ _).alloc (Nat.le_refl _) _).alloc (by simp) _
    have hH0 : ((w.alloc (.cells #[.bool false, .slice none 0 0] 41)).alloc (.cells #[.bool false, .slice none 0 0] 41)).heap[w.heap.size]? = some (.cells #[.bool false, .slice none 0 0] 41) := by
      rw [Go.Deep.blk_alloc_lt _ _ _ (by simp)]
      exact Go.Deep.blk_alloc_new _ _
    have hH1 : ((w.alloc (.cells #[.bool false, .slice none 0 0] 41)).alloc (.cells #[.bool false, .slice none 0 0] 41)).heap[w.heap.size + 1]? = some (.cells #[.bool false, .slice none 0 0] 41) := by
      have := Go.Deep.blk_alloc_new (w.alloc (.cells #[.bool false, .slice none 0 0] 41)) (.cells #[.bool false, .slice none 0 0] 41)
      rwa [show (w.alloc (.cells #[.bool false, .slice none 0 0] 41)).heap.size = w.heap.size + 1 by simp] at this
    have hz0 : ((w.alloc (.cells #[.bool false, .slice none 0 0] 41)).alloc (.cells #[.bool false, .slice none 0 0] 41)).heap.size = w.heap.size + 2 := by simp
    generalize (w.alloc (.cells #[.bool false, .slice none 0 0] 41)).alloc (.cells #[.bool false, .slice none 0 0] 41) = w0 at hb0 hH0 hH1 hz0 ⊢
    generalize hS : (⟨l.toArray⟩ : ByteArray) = S at hsz hSi ⊢
    clear hS
    go_cut [26] from 14 to 26 (fun s wx => s = .bool (sgB l) ∧ wx = w0)
    case first =>
      cases l with
      | nil =>
        go_wp2
        go_meet
        case rel => exact ⟨rfl, rfl⟩
      | cons c r =>
        have hS0 : ∀ h : 0 < S.size, S[0]'h = c := fun h => hSi 0 (by simp)
        have hz1 : 0 < S.size := by rw [hsz]; simp
        have hsg := Lib.hid (sgB_cons c r)
        clear hSi
        by_cases h43 : c = 43
        · subst h43
          go_wp2
          go_meet
          case rel => exact ⟨by rw [hsg.out]; rfl, rfl⟩
        · have h43' : ((c.toNat : Int) == 43) = false := u8_ne h43 43 rfl
          by_cases h45 : c = 45
          · subst h45
            go_wp2
            go_meet
            case rel => exact ⟨by rw [hsg.out]; rfl, rfl⟩
          · have h45' : ((c.toNat : Int) == 45) = false := u8_ne h45 45 rfl
            have hsf := Lib.hid (show sgB (c :: r) = false by rw [hsg.out]; simp [Ne.symm h43, Ne.symm h45])
            go_wp2
            go_meet
            case rel => exact ⟨by rw [hsf.out], rfl⟩
    case rest =>
      obtain ⟨rfl, rfl⟩ := hcut
      have c10 : wc.cell? ⟨w.heap.size + 1, 0, none⟩ = some (.bool false) := by simp [World.cell?, hH1]
      have f10 : wc.frozen? ⟨w.heap.size + 1, 0, none⟩ = false := by simp [World.frozen?, hH1]
      go_upto_if 26 with fail
      go_cut [5] from 26 to 30 (fun s wx => ∃ k : Nat, s = .int .i64 (k : Int) ∧ wx.heap[w.heap.size + 1]? = some (.cells #[.bool (negOf l), .slice none 0 0] 41) ∧ wx.heap[w.heap.size]? = some (.cells #[.bool false, .slice none 0 0] 41) ∧ Below w.heap.size w wx ∧ wx.heap.size = w.heap.size + 2 ∧ Hid (l.drop k = restOf l) ∧ k ≤ l.length)
      case first =>
        cases hsg : sgB l with
        | false =>
          have hr := rest_no hsg
          have hn := Lib.hid hr.1
          have hr2 := Lib.hid hr.2
          clear hr hsg
          go_wp2
          go_meet
          case rel => exact ⟨0, rfl, by rw [hn.out]; exact hH1, hH0, hb0, hz0, Lib.hid hr2.out.symm, Nat.zero_le _⟩
        | true =>
          obtain ⟨c, r, rfl, hc⟩ := sgB_split hsg
          have hS0 : ∀ h : 0 < S.size, S[0]'h = c := fun h => hSi 0 (by simp)
          have hz1 : 0 < S.size := by rw [hsz]; simp
          clear hSi hsg
          rcases hc with rfl | rfl
          · have hr := rest43 r
            have hn := Lib.hid hr.1
            have hr2 := Lib.hid hr.2
            clear hr
            go_wp2
            go_meet
            case rel => exact ⟨1, rfl, by rw [hn.out]; exact set_heap hH1 0 _, (set_heap_other (by omega) 0 _).trans hH0, hb0.setCell (p := ⟨w.heap.size + 1, 0, none⟩) (by simp) _, by simpa using hz0, Lib.hid (by rw [hr2.out]; rfl), by simp⟩
          · have hr := rest45 r
            have hn := Lib.hid hr.1
            have hr2 := Lib.hid hr.2
            clear hr
            go_wp2
            go_meet
            case rel => exact ⟨1, rfl, by rw [hn.out]; exact set_heap hH1 0 _, (set_heap_other (by omega) 0 _).trans hH0, hb0.setCell (p := ⟨w.heap.size + 1, 0, none⟩) (by simp) _, by simpa using hz0, Lib.hid (by rw [hr2.out]; rfl), by simp⟩
      case rest =>
        clear c10 f10 hH0 hH1 hb0 hz0
        obtain ⟨k0, rfl, hH1, hH0, hb0, hz0, hrest, hk0⟩ := hcut
        obtain ⟨i0, hi0, hzz0, hzz1, hzz2⟩ := info_parts info3
        go_wp2
        go_loopw [5, 6, 7, 8] (fun i d b p wr => ∃ (k : Nat) (D : List UInt8) (bn : Nat) (pt : Bool), i = .int .i64 (k : Int) ∧ b = .int .i64 (bn : Int) ∧ p = .bool pt ∧ k ≤ l.length ∧ bn ≤ D.length ∧ D.length ≤ k ∧ Hid (scan (l.drop k) D bn pt = scan (restOf l) [] 0 false) ∧ Hid (Dig D) ∧ wr.ownsRow wc.heap.size 3 1 d D.length (ilist (dvals D)) ∧ Below wc.heap.size wc wr) (fun i _ _ _ _ => l.length - (intOf i).toNat)
        case atStart => exact ⟨k0, [], 0, false, rfl, rfl, rfl, hk0, Nat.le_refl _, Nat.zero_le _, Lib.hid (by rw [hrest.out]), Lib.hid (fun c h => by cases h), World.ownsRow_nil _ _ _ _, Below.refl _ _⟩
        case round =>
          rename World => wr
          obtain ⟨k, D, bn, pt, rfl, rfl, rfl, hk, hbn, hDk, hsc, hDd, hown, hb⟩ := hrel
          have hszz := hb.size
          by_cases hlt : k < l.length
          · have hc := hSi k hlt
            have hdr := List.drop_eq_getElem_cons hlt
            have hlt' : (k : Int) < (l.length : Int) := by omega
            have hltS : k < S.size := by omega
            have hstep := hsc.out
            rw [hdr] at hstep
            have hc8 := (l[k]).toNat_lt
            generalize l[k] = c at hc hstep hc8
            clear hdr hsc hSi
            have hcS : ∀ h : k < S.size, S[k]'h = c := fun _ => hc
            clear hc
            by_cases hp : c = 46 ∧ pt = false
            · obtain ⟨rfl, rfl⟩ := hp
              have hst := Lib.hid (show scan (l.drop (k + 1)) D bn true = scan (restOf l) [] 0 false by rw [← hstep]; rfl)
              clear hstep
              go_wp2
              go_roundw
              case rel => exact ⟨k + 1, D, bn, true, by go_num, rfl, rfl, by omega, hbn, by omega, hst, hDd, hown, hb⟩
              case measure => simp [intOf]; omega
            · have hJ0 := (hb.block _ (by omega)).trans hH0
              have c00 : wr.cell? ⟨w.heap.size, 0, none⟩ = some (.bool false) := by simp [World.cell?, hJ0]
              have c01 : wr.cell? ⟨w.heap.size, 1, none⟩ = some (.slice none 0 0) := by simp [World.cell?, hJ0]
              have f00 : ∀ j, wr.frozen? ⟨w.heap.size, j, none⟩ = false := fun j => by simp [World.frozen?, hJ0]
              have hBr := hb0.trans (hb.mono hb0.size)
              cases hdc : isDig c with
              | false =>
                have hbad := Lib.hid (scan_none (hstep.symm.trans (scan_bad hp hdc)))
                have hX := digit_any c wr
                rw [show (decide (48 ≤ c.toNat) && decide (c.toNat ≤ 57)) = false from hdc] at hX
                have hX' := Lib.hid hX
                clear hstep hX hdc hown hDd
                by_cases h46 : c = 46
                · obtain rfl : pt = true := by
                    cases pt with
                    | true => rfl
                    | false => exact absurd ⟨h46, rfl⟩ hp
                  subst h46
                  clear hp
                  go_wp2_with fail
                  refine hX'.out.mono ?_
                  rintro e w6 ⟨rfl, rfl⟩
                  go_wp2
                  refine bodyPost_ret (results_num33 rfl _ _ w.heap.size 41 _ (0, 0) (by rfl) (set_heap (set_heap hJ0 0 _) 1 _) (by simp)) rfl ⟨(hBr.setCell (p := ⟨w.heap.size, 0, none⟩) (Nat.le_refl _) _).setCell (p := ⟨w.heap.size, 1, none⟩) (Nat.le_refl _) _, .inl ⟨5, rfl, by decide, fun _ => if_pos (.inr (.inl hbad.out))⟩⟩
                · have h46' : ((c.toNat : Int) == 46) = false := u8_ne h46 46 rfl
                  clear hp h46
                  go_wp2_with fail
                  refine hX'.out.mono ?_
                  rintro e w6 ⟨rfl, rfl⟩
                  go_wp2
                  refine bodyPost_ret (results_num33 rfl _ _ w.heap.size 41 _ (0, 0) (by rfl) (set_heap (set_heap hJ0 0 _) 1 _) (by simp)) rfl ⟨(hBr.setCell (p := ⟨w.heap.size, 0, none⟩) (Nat.le_refl _) _).setCell (p := ⟨w.heap.size, 1, none⟩) (Nat.le_refl _) _, .inl ⟨5, rfl, by decide, fun _ => if_pos (.inr (.inl hbad.out))⟩⟩
              | true =>
                have h46 : c ≠ 46 := fun e => by subst e; cases hdc
                have h46' : ((c.toNat : Int) == 46) = false := u8_ne h46 46 rfl
                have hst := Lib.hid ((scan_dig hp hdc).symm.trans hstep)
                have hX := digit_any c wr
                rw [show (decide (48 ≤ c.toNat) && decide (c.toNat ≤ 57)) = true from hdc] at hX
                have hX' := Lib.hid hX
                have hc48 : 48 ≤ c.toNat ∧ c.toNat ≤ 57 := by simpa [isDig] using hdc
                have hDd2 := Lib.hid (show Dig (D ++ [c]) from fun x hx => by
                  rcases List.mem_append.1 hx with h | h
                  · exact hDd.out x h
                  · rw [List.mem_singleton.1 h]; exact hc48)
                have hds := Lib.hid (show ilist (dvals (D ++ [c])) = ilist (dvals D) ++ ilist [c.toNat - 48] by rw [dvals_snoc, ilist_append])
                have hcx : ((c.toNat : Int) - 48) = ((c.toNat - 48 : Nat) : Int) := by omega
                have hA1 := digs_one wr (c.toNat - 48)
                have hown2 := hown.alloc (.cells #[.int .i64 ((c.toNat - 48 : Nat) : Int)] 3)
                have hal : Below wc.heap.size wc (wr.alloc (.cells #[.int .i64 ((c.toNat - 48 : Nat) : Int)] 3)) := hb.alloc hszz _
                clear hstep hX hdc hp h46 hDd c00 c01 f00 hJ0
                go_wp2_with fail
                refine hX'.out.mono ?_
                rintro e w6 ⟨rfl, rfl⟩
                cases pt with
                | false =>
                  go_wp2_with (at_builtin; refine wpl_digs (by rfl) _ _ (by rfl) wc.heap.size _ D.length (ilist (dvals D)) (by rfl) hown2 (some ⟨wr.heap.size, 0, none⟩) [c.toNat - 48] 1 (by rfl) hA1 (fun h => by cases h) (by simp; omega) (by simp; omega) ?_; rintro v7 w7 hown7 hgr7)
                  have hown8 : w7.ownsRow wc.heap.size 3 1 v7 (D ++ [c]).length (ilist (dvals (D ++ [c]))) := by
                    rw [hds.out, List.length_append]
                    exact hown7
                  have hb8 := hal.grown hgr7 (by simp; omega) (fun k hk => own_ge hown2 hk)
                  clear hown7 hown2 hown hX' hA1
                  go_roundw
                  case rel => exact ⟨k + 1, D ++ [c], bn, false, by go_num, by go_num, rfl, by omega, by rw [List.length_append]; simp only [List.length_cons, List.length_nil]; omega, by rw [List.length_append]; simp only [List.length_cons, List.length_nil]; omega, hst, hDd2, hown8, hb8⟩
                  case measure => simp [intOf]; omega
                | true =>
                  go_wp2_with (at_builtin; refine wpl_digs (by rfl) _ _ (by rfl) wc.heap.size _ D.length (ilist (dvals D)) (by rfl) hown2 (some ⟨wr.heap.size, 0, none⟩) [c.toNat - 48] 1 (by rfl) hA1 (fun h => by cases h) (by simp; omega) (by simp; omega) ?_; rintro v7 w7 hown7 hgr7)
                  have hown8 : w7.ownsRow wc.heap.size 3 1 v7 (D ++ [c]).length (ilist (dvals (D ++ [c]))) := by
                    rw [hds.out, List.length_append]
                    exact hown7
                  have hb8 := hal.grown hgr7 (by simp; omega) (fun k hk => own_ge hown2 hk)
                  clear hown7 hown2 hown hX' hA1
                  go_roundw
                  case rel => exact ⟨k + 1, D ++ [c], bn + 1, true, by go_num, by go_num, rfl, by omega, by rw [List.length_append]; simp only [List.length_cons, List.length_nil]; omega, by rw [List.length_append]; simp only [List.length_cons, List.length_nil]; omega, hst, hDd2, hown8, hb8⟩
                  case measure => simp [intOf]; omega
          · have hke : k = l.length := by omega
            subst hke
            have hlt' : ¬ ((l.length : Int) < (l.length : Int)) := by omega
            have hsc2 := hsc.out
            rw [List.drop_length] at hsc2
            obtain ⟨rfl, rfl, hdg⟩ := scan_rest (hsc2.symm.trans rfl)
            clear hsc hsc2 hSi
            have hpn : pnum l = dv (wholeOf l ++ fracOf l) * 10 ^ (20 - (fracOf l).length) := rfl
            have hbt : badT l = badB (wholeOf l ++ fracOf l) := rfl
            have hfl : (fracOf l).length ≤ (wholeOf l ++ fracOf l).length := by rw [List.length_append]; omega
            generalize hQ : wholeOf l ++ fracOf l = Q at *
            obtain ⟨fr, hfr⟩ : ∃ fr, fr = (fracOf l).length := ⟨_, rfl⟩
            rw [← hfr] at hpn hfl ⊢
            have hpn' := Lib.hid hpn
            have hbt' := Lib.hid hbt
            have hfr' := Lib.hid hfr
            have hDl : (dvals Q).length = Q.length := List.length_map _
            obtain ⟨A, c, rfl, hc, hA⟩ := own_digs hown
            have hnil : A = none → c = 0 := fun e => own_nil hown _ _ (by rw [e])
            have hdv := Lib.hid (dvals_nv Q)
            have hDg := dvals_dg hdg
            have hemp := Lib.hid (show Q.isEmpty = true ↔ Q.length = 0 from by cases Q <;> simp)
            have hdB := Lib.hid ((digB_iff Q).2 hdg)
            have hJ0 := (hb.block _ (by omega)).trans hH0
            have hJ1 := (hb.block _ (by omega)).trans hH1
            have hBr := hb0.trans (hb.mono hb0.size)
            have hszr : w.heap.size + 1 < wr.heap.size := by omega
            clear hpn hbt hfr hown hdg hQ hH0 hH1 hb hb0
            rw [hDl] at hc ⊢
            have hA' := Lib.hid hA
            have c00 : wr.cell? ⟨w.heap.size, 0, none⟩ = some (.bool false) := by simp [World.cell?, hJ0]
            have c01 : wr.cell? ⟨w.heap.size, 1, none⟩ = some (.slice none 0 0) := by simp [World.cell?, hJ0]
            have f00 : ∀ j, wr.frozen? ⟨w.heap.size, j, none⟩ = false := fun j => by simp [World.frozen?, hJ0]
            have c10 : wr.cell? ⟨w.heap.size + 1, 0, none⟩ = some (.bool (negOf l)) := by simp [World.cell?, hJ1]
            have c11 : wr.cell? ⟨w.heap.size + 1, 1, none⟩ = some (.slice none 0 0) := by simp [World.cell?, hJ1]
            have f10 : ∀ j, wr.frozen? ⟨w.heap.size + 1, j, none⟩ = false := fun j => by simp [World.frozen?, hJ1]
            clear hA
            by_cases hz : Q.length = 0
            · have hbad := Lib.hid (show badT l = true by rw [hbt'.out]; unfold badB; rw [hemp.out.2 hz]; rfl)
              go_wp2
              refine bodyPost_ret (results_num33 rfl _ _ w.heap.size 41 _ (0, 0) (by rfl) (set_heap (set_heap hJ0 0 _) 1 _) (by simp)) rfl ⟨(hBr.setCell (p := ⟨w.heap.size, 0, none⟩) (Nat.le_refl _) _).setCell (p := ⟨w.heap.size, 1, none⟩) (Nat.le_refl _) _, .inl ⟨5, rfl, by decide, fun _ => if_pos (.inr (.inl hbad.out))⟩⟩
            · have hgood := Lib.hid (show badT l = false by
                rw [hbt'.out]
                unfold badB
                rw [hdB.out]
                cases he : Q.isEmpty with
                | true => exact absurd (hemp.out.1 he) hz
                | false => rfl)
              have hQl : Q.length ≤ 200 := by omega
              go_upto_if 66 with fail
              go_cut [] from 61 to 79 (fun wx => ∃ E A c, wx.heap[w.heap.size + 1]? = some (.cells #[.bool (negOf l), .slice A E.length c] 41) ∧ wx.heap[w.heap.size]? = some (.cells #[.bool false, .slice none 0 0] 41) ∧ Hid (DigsAt wx A E) ∧ Dg E ∧ trimD E = E ∧ E.length ≤ c ∧ (A = none → c = 0) ∧ E.length ≤ 300 ∧ Hid (fr ≤ 20 → nv E = pnum l) ∧ Below w.heap.size w wx)
              case first =>
                by_cases hk : fr ≤ 20
                · have hk1 : (fr : Int) ≤ 20 := by omega
                  have hx : (20 : Int) - fr = ((20 - fr : Nat) : Int) := by omega
                  have hX := zeros_any (dvals Q) A c (20 - fr) wr hA'.out hnil (by omega) (by omega)
                  rw [hDl] at hX
                  have hval := Lib.hid (show nv (dvals Q ++ List.replicate (20 - fr) 0) = pnum l by
                    rw [nv_append, nv_zeros, hdv.out, List.length_replicate, hpn'.out]
                    rfl)
                  have hE0d : Dg (dvals Q ++ List.replicate (20 - fr) 0) := fun d hd => by
                    rcases List.mem_append.1 hd with h | h
                    · exact hDg d h
                    · rw [List.eq_of_mem_replicate h]; decide
                  have hE0l : (dvals Q ++ List.replicate (20 - fr) 0).length ≤ 300 := by rw [List.length_append, List.length_replicate, hDl]; omega
                  generalize dvals Q ++ List.replicate (20 - fr) 0 = E0 at hX hval hE0d hE0l
                  go_wp2_with fail
                  refine hX.mono ?_
                  rintro e w1 ⟨A1, c1, rfl, hc1, hA1, hn1, hb1⟩
                  clear hX
                  have hK0 := (hb1.block _ (by omega)).trans hJ0
                  have hK1 := (hb1.block _ (by omega)).trans hJ1
                  have d11 : w1.cell? ⟨w.heap.size + 1, 1, none⟩ = some (.slice none 0 0) := by simp [World.cell?, hK1]
                  have g11 : w1.frozen? ⟨w.heap.size + 1, 1, none⟩ = false := by simp [World.frozen?, hK1]
                  have hB1 := hBr.trans (hb1.mono hBr.size)
                  have hY := trim_any E0 A1 c1 w1 hA1 hc1 (by omega)
                  have hY' := Lib.hid hY
                  clear hY hA1
                  go_wp2_with fail
                  refine hY'.out.mono ?_
                  rintro e w2 ⟨A2, c2, rfl, hc2, hA2, hn2, rfl⟩
                  have hA2' := Lib.hid hA2
                  have hn2' := Lib.hid (hn2 hn1)
                  clear hA2 hn2 hY'
                  have hE2l : (trimD E0).length ≤ 300 := Nat.le_trans (List.dropWhile_sublist _).length_le hE0l
                  go_wp2
                  go_meet
                  case rel => exact ⟨trimD E0, A2, c2, set_heap hK1 1 _, (set_heap_other (by omega) 1 _).trans hK0, Lib.hid (digs_struct hA2'.out hK1 (no_i64 _ _ _ _) 1 _), trim_dg hE0d, trim_trim E0, hc2, hn2'.out, hE2l, Lib.hid (fun _ => (nv_trim E0).trans hval.out), hB1.setCell (p := ⟨w.heap.size + 1, 1, none⟩) (by simp) _⟩
                · have hk1 : ¬ (fr : Int) ≤ 20 := by omega
                  have hx : (fr : Int) - 20 = ((fr - 20 : Nat) : Int) := by omega
                  have hX := dcut_any (negOf l) (dvals Q) A c (fr - 20) wr hA'.out hDg (by omega) hnil (by omega) (by omega) (by omega)
                  rw [hDl] at hX
                  have c10' := c10
                  go_wp2_with fail
                  refine hX.mono ?_
                  rintro e w1 ⟨E, hE1, hE2, hE3, A1, c1, rfl, hc1, hA1, hn1, hb1⟩
                  clear hX
                  have hK0 := (hb1.block _ (by omega)).trans hJ0
                  have hK1 := (hb1.block _ (by omega)).trans hJ1
                  have d11 : w1.cell? ⟨w.heap.size + 1, 1, none⟩ = some (.slice none 0 0) := by simp [World.cell?, hK1]
                  have g11 : w1.frozen? ⟨w.heap.size + 1, 1, none⟩ = false := by simp [World.frozen?, hK1]
                  have hB1 := hBr.trans (hb1.mono hBr.size)
                  have hA1' := Lib.hid hA1
                  clear hA1
                  go_wp2
                  go_meet
                  case rel => exact ⟨E, A1, c1, set_heap hK1 1 _, (set_heap_other (by omega) 1 _).trans hK0, Lib.hid (digs_struct hA1'.out hK1 (no_i64 _ _ _ _) 1 _), hE1, hE2, hc1, hn1, by omega, Lib.hid (fun h => absurd h hk), hB1.setCell (p := ⟨w.heap.size + 1, 1, none⟩) (by simp) _⟩
              case rest =>
                clear c00 c01 f00 c10 c11 f10 hA' hJ0 hJ1 hBr
                obtain ⟨E, A5, c5, hL1, hL0, hA5, hE1, hE2, hc5, hn5, hE5, hv5, hB5⟩ := hcut
                have hsz5 : w.heap.size + 1 < wc.heap.size := (Array.getElem?_eq_some_iff.1 hL1).1
                have c00 : wc.cell? ⟨w.heap.size, 0, none⟩ = some (.bool false) := by simp [World.cell?, hL0]
                have c01 : wc.cell? ⟨w.heap.size, 1, none⟩ = some (.slice none 0 0) := by simp [World.cell?, hL0]
                have f00 : ∀ j, wc.frozen? ⟨w.heap.size, j, none⟩ = false := fun j => by simp [World.frozen?, hL0]
                have c10 : wc.cell? ⟨w.heap.size + 1, 0, none⟩ = some (.bool (negOf l)) := by simp [World.cell?, hL1]
                have c11 : wc.cell? ⟨w.heap.size + 1, 1, none⟩ = some (.slice A5 E.length c5) := by simp [World.cell?, hL1]
                have f10 : ∀ j, wc.frozen? ⟨w.heap.size + 1, j, none⟩ = false := fun j => by simp [World.frozen?, hL1]
                have hl200 := Lib.hid (show l.length ≤ 200 by omega)
                have htz := Lib.hid (trim_zero hE2)
                have htb := Lib.hid (trim_big hE1 hE2)
                have hfin := Lib.hid (show ¬ 50 < E.length → (fracOf l).length ≤ 20 → pspec l = some (negOf l && decide (nv E ≠ 0), nv E) from fun h50 hfr2 => by
                  have hv := hv5.out (by rw [hfr'.out]; exact hfr2)
                  unfold pspec
                  rw [← hv, if_neg (fun h => by
                    rcases h with h | h | h
                    · exact absurd hl200.out (by omega)
                    · rw [hgood.out] at h; cases h
                    · exact h50 (htb.out.1 h))])
                have hbig := Lib.hid (show 50 < E.length → (fracOf l).length ≤ 20 → pspec l = none from fun h50 hfr2 => by
                  have hv := hv5.out (by rw [hfr'.out]; exact hfr2)
                  exact if_pos (.inr (.inr (by rw [← hv]; exact htb.out.2 h50))))
                clear hDg
                by_cases hEe : E = []
                · subst hEe
                  have hpp := Lib.hid (hfin.out (by decide))
                  clear hfin hbig
                  go_wp2
                  refine bodyPost_ret (results_num33 rfl _ _ w.heap.size 41 _ (0, 0) (by rfl) (set_heap (set_heap ((set_heap_other (by omega) 0 _).trans hL0) 0 _) 1 _) (by simp)) rfl ⟨((hB5.setCell (p := ⟨w.heap.size + 1, 0, none⟩) (by simp) _).setCell (p := ⟨w.heap.size, 0, none⟩) (Nat.le_refl _) _).setCell (p := ⟨w.heap.size, 1, none⟩) (Nat.le_refl _) _, .inr ⟨false, [], A5, c5, rfl, fun h => absurd h (Nat.lt_irrefl _), hE1, hE2, Nat.zero_le _, hn5, by decide, (fun h => by cases h), hl200.out, hgood.out, fun h => ?_⟩⟩
                  rw [hpp.out h]
                  cases negOf l <;> rfl
                · have hl0 : E.length ≠ 0 := fun h => hEe (List.eq_nil_of_length_eq_zero h)
                  have hnz : decide (nv E ≠ 0) = true := decide_eq_true (fun h => hEe (htz.out.1 h))
                  rw [hnz, Bool.and_true] at hfin
                  have hEe' := Lib.hid hEe
                  clear hEe hnz htz
                  by_cases h50 : 50 < E.length
                  · have hpp := Lib.hid (hbig.out h50)
                    clear hfin hbig htb
                    go_wp2
                    refine bodyPost_ret (results_num33 rfl _ _ w.heap.size 41 _ (0, 0) (by rfl) (set_heap (set_heap hL0 0 _) 1 _) (by simp)) rfl ⟨(hB5.setCell (p := ⟨w.heap.size, 0, none⟩) (Nat.le_refl _) _).setCell (p := ⟨w.heap.size, 1, none⟩) (Nat.le_refl _) _, .inl ⟨40, rfl, by decide, hpp.out⟩⟩
                  · have hpp := Lib.hid (hfin.out h50)
                    clear hfin hbig htb
                    go_wp2
                    refine bodyPost_ret (results_num33 rfl _ _ w.heap.size 41 _ (0, 0) (by rfl) (set_heap (set_heap hL0 0 _) 1 _) (by simp)) rfl ⟨(hB5.setCell (p := ⟨w.heap.size, 0, none⟩) (Nat.le_refl _) _).setCell (p := ⟨w.heap.size, 1, none⟩) (Nat.le_refl _) _, .inr ⟨negOf l, E, A5, c5, rfl, ?_, hE1, hE2, hc5, hn5, by omega, fun _ => hEe'.out, hl200.out, hgood.out, hpp.out⟩⟩
                    exact digs_struct (cs := #[.bool (negOf l), .slice none 0 0]) (digs_struct hA5.out hL0 (no_i64 _ _ _ _) 0 _) (set_heap hL0 0 _) (no_i64 _ _ _ _) 1 _
end Go.Proofs.Nw
namespace Go.Proofs.Nw
open Go.RowKit Go.Lib
theorem nv_inj : ∀ {D F : List Nat}, Dg D → Dg F → D.length = F.length → nv D = nv F → D = F
  | [], [], _, _, _, _ => rfl
  | [], _ :: _, _, _, h, _ => by cases h
  | _ :: _, [], _, _, h, _ => by cases h
  | d :: D, f :: F, hD, hF, hl, hv => by
    have hl' : D.length = F.length := by simpa using hl
    rw [nv_cons, nv_cons, hl'] at hv
    have h1 := nv_lt (D := D) (fun x hx => hD x (List.mem_cons_of_mem _ hx))
    have h2 := nv_lt (D := F) (fun x hx => hF x (List.mem_cons_of_mem _ hx))
    rw [hl'] at h1
    have hp : 0 < 10 ^ F.length := Nat.pow_pos (by decide)
    have hdf : d = f := by
      have e1 : (d * 10 ^ F.length + nv D) / 10 ^ F.length = d := by
        rw [Nat.mul_comm, Nat.mul_add_div hp, Nat.div_eq_of_lt h1]; omega
      have e2 : (f * 10 ^ F.length + nv F) / 10 ^ F.length = f := by
        rw [Nat.mul_comm, Nat.mul_add_div hp, Nat.div_eq_of_lt h2]; omega
      rw [← e1, hv, e2]
    subst hdf
    rw [nv_inj (fun x hx => hD x (List.mem_cons_of_mem _ hx)) (fun x hx => hF x (List.mem_cons_of_mem _ hx)) hl' (by omega)]
theorem trimR_snoc (l : List UInt8) (c : UInt8) : trimRightB (l ++ [c]) 48 = if c = 48 then trimRightB l 48 else l ++ [c] := by
  unfold trimRightB
  rw [List.reverse_append]
  simp only [List.reverse_cons, List.reverse_nil, List.nil_append, List.singleton_append, List.dropWhile_cons]
  by_cases h : c = 48
  · subst h; simp
  · have : (c == 48) = false := by simpa using h
    rw [this, if_neg h]
    simp
theorem trimR_nil : trimRightB [] 48 = [] := rfl
/-- the digits that text writes -/
theorem pad_eq {E : List Nat} {n K : Nat} (hd : Dg E) (hv : nv E = n) (hl : E.length ≤ K) (hK : n < 10 ^ K) : List.replicate (K - E.length) 0 ++ E = dvals (dlist n K) := by
  refine nv_inj ?_ (dvals_dg (dlist_dig n K)) ?_ ?_
  · intro d hd'
    rcases List.mem_append.1 hd' with h | h
    · rw [List.eq_of_mem_replicate h]; decide
    · exact hd d h
  · rw [List.length_append, List.length_replicate]
    unfold dvals
    rw [List.length_map, dlist_len]
    omega
  · rw [nv_append, nv_zeros, dvals_nv, dlist_dv, Nat.mod_eq_of_lt hK, hv]
    omega
/-- what text has written behind the sign, behind i digits -/
def wr (D : List UInt8) (J i : Nat) : List UInt8 := if i ≤ J then D.take i else D.take J ++ (46 :: (D.take i).drop J)
theorem wr_next {D : List UInt8} {J i : Nat} (hi : i < D.length) (hJ : J ≤ D.length) : wr D J (i + 1) = (if i = J then wr D J i ++ [46] else wr D J i) ++ [D[i]] := by
  unfold wr
  have ht : D.take (i + 1) = D.take i ++ [D[i]] := by rw [List.take_add_one, List.getElem?_eq_getElem hi]; rfl
  by_cases h1 : i < J
  · rw [if_pos (by omega), if_neg (by omega), if_pos (by omega), ht]
  · by_cases h2 : i = J
    · subst h2
      rw [if_neg (by omega), if_pos rfl, if_pos (Nat.le_refl _), ht, List.append_assoc]
      have hl : (D.take i).length = i := by rw [List.length_take]; omega
      rw [List.drop_append_of_le_length (by omega), List.drop_of_length_le (by omega)]
      rfl
    · rw [if_neg (by omega), if_neg h2, if_neg (by omega), ht]
      have hl : (D.take i).length = i := by rw [List.length_take]; omega
      rw [List.drop_append_of_le_length (by omega)]
      simp
/-- the end of what text writes -/
theorem wr_end {D : List UInt8} {J t : Nat} {neg : Bool} (hJ : D.length - 20 = J) (h20 : 20 ≤ D.length) (ht1 : J ≤ t) (ht2 : t ≤ D.length) (h : (D.take t).drop J = trimRightB (D.drop J) 48) : (if neg then [45] else []) ++ wr D J t = tx neg D := by
  unfold tx
  rw [hJ, ← h]
  have hl : ((D.take t).drop J).length = t - J := by rw [List.length_drop, List.length_take]; omega
  unfold wr
  by_cases he : t ≤ J
  · have : t = J := by omega
    subst this
    have hn : (D.take t).drop t = [] := List.eq_nil_of_length_eq_zero (by omega)
    rw [if_pos (Nat.le_refl _), hn]
    cases neg <;> rfl
  · have hn : (D.take t).drop J ≠ [] := fun e => by rw [e] at hl; simp at hl; omega
    rw [if_neg he]
    simp only [if_neg hn]
    cases neg <;> rfl
theorem trim_step {D : List UInt8} {J t : Nat} (h1 : J < t) (h2 : t ≤ D.length) (h0 : D[t - 1]'(by omega) = 48) : trimRightB ((D.take t).drop J) 48 = trimRightB ((D.take (t - 1)).drop J) 48 := by
  obtain ⟨s, rfl⟩ : ∃ s, t = s + 1 := ⟨t - 1, by omega⟩
  simp only [Nat.add_sub_cancel] at h0 ⊢
  have ht : D.take (s + 1) = D.take s ++ [D[s]] := by rw [List.take_add_one, List.getElem?_eq_getElem (by omega)]; rfl
  rw [ht, h0, List.drop_append_of_le_length (by rw [List.length_take]; omega), trimR_snoc, if_pos rfl]
theorem trim_stop {D : List UInt8} {J t : Nat} (h1 : J < t) (h2 : t ≤ D.length) (h0 : D[t - 1]'(by omega) ≠ 48) : trimRightB ((D.take t).drop J) 48 = (D.take t).drop J := by
  obtain ⟨s, rfl⟩ : ∃ s, t = s + 1 := ⟨t - 1, by omega⟩
  simp only [Nat.add_sub_cancel] at h0
  have ht : D.take (s + 1) = D.take s ++ [D[s]] := by rw [List.take_add_one, List.getElem?_eq_getElem (by omega)]; rfl
  rw [ht, List.drop_append_of_le_length (by rw [List.length_take]; omega), trimR_snoc, if_neg h0]
end Go.Proofs.Nw
namespace Go.Proofs.Nw
open Go.RowKit Go.Lib
attribute [local go_sem ↓] Go.wp_at_zero Go.wp_at_succ
def bytes (C : List UInt8) : List Value := C.map fun c => .int .u8 (c.toNat : Nat)
theorem bytes_append (C B : List UInt8) : bytes (C ++ B) = bytes C ++ bytes B := List.map_append
set_option maxRecDepth 100000 in
/-- append(bytes of the call's own, one byte) -/
theorem wpl_byte {w : World} {ops : Array Oper} {rest : List Oper} {o : Oper} {a : Act} {Q : Exit → Act → World → Prop} (hgd : o.guard = none) (s x : Operand)
    (ho : o.op = .call { callee := .builtin .append, args := #[s, x], argTypes := #[126, 126] })
    (base : Nat) (v : Value) (n : Nat) (xs : List Value) (hs : a.eval s = v) (hown : w.ownsRow base 5 1 v n xs) (H : Nat) (u : Value) (hx : a.eval x = .slice (some ⟨H, 0, none⟩) 1 1)
    (hcell : w.cell? ⟨H, 0, none⟩ = some u) (h1 : u.oneCell' = true) (h63 : n + 1 ≤ 300000) (hbase : base ≤ w.heap.size)
    (h : ∀ v' w', w'.ownsRow base 5 1 v' (n + 1) (xs ++ [u]) → w.grownBy w' v.ownBlock → wpList Tryz.prog ops Q rest (a.put o.dst v') w') : wpList Tryz.prog ops Q (o :: rest) a w := by
  obtain ⟨i0, hi0, hz0, hz1, hz2⟩ := info_parts info5
  refine wpList_append_own w hgd s x 126 ho base 5 i0 (.int .u8 0) 1 1 und55 hi0 hz0 hz1 hz2 rfl (by decide) v n xs hs hown ⟨H, 0, none⟩ 1 1 [u] hx (by rfl) (fun j u' hu => ?_) (fun u' hu => ?_) (by unfold maxLen; omega) (by omega) hbase (fun v' w' h1 h2 _ => h v' w' h1 h2)
  · have hj : j = 0 := by have := (List.getElem?_eq_some_iff.1 hu).1; simp at this; omega
    subst hj
    rw [show Addr.add ⟨H, 0, none⟩ 0 = ⟨H, 0, none⟩ by simp [Addr.add], hcell]
    exact hu
  · rw [List.mem_singleton.1 hu]; exact h1
def DTxtQ (neg : Bool) (n : Nat) (w : World) (e : Ending) (w' : World) : Prop := ∃ t, Txt neg n t ∧ e = .returned (.string ⟨t.toArray⟩) ∧ Below w.heap.size w w'
theorem own_bytes {w : World} {base : Nat} {v : Value} {C : List UInt8} (h : w.ownsRow base 5 1 v C.length (bytes C)) (hC : C ≠ []) : ∃ g cap, v = .slice (some ⟨g, 0, none⟩) C.length cap ∧ ∀ (j : Nat) (hj : j < C.length), w.cell? (Addr.add ⟨g, 0, none⟩ j) = some (.int .u8 ((C[j]'hj).toNat : Int)) := by
  rcases h.2 with ⟨rfl, h0⟩ | ⟨g, cap, cur, rfl, hb, hg, hnc, hcm, hcs, htake⟩
  · exact absurd (List.eq_nil_of_length_eq_zero h0) hC
  · exact ⟨g, cap, rfl, fun j hj => h.cells (g := g) rfl j _ (by simp [bytes, hj])⟩
theorem cell_new (w : World) (u : Value) (t : TypeId) : (w.alloc (.cells #[u] t)).cell? ⟨w.heap.size, 0, none⟩ = some u := by
  unfold World.cell?
  rw [Go.Deep.blk_alloc_new]
  rfl
set_option maxRecDepth 100000 in
set_option maxHeartbeats 1000000 in
theorem dtext_any (neg : Bool) (E : List Nat) (A : Option Addr) (c : Nat) (w : World) (hA : DigsAt w A E) (hE : Dg E) (ht : trimD E = E) (hc : E.length ≤ c) (hnil : A = none → c = 0) (hl : E.length ≤ 1000) :
    Calls Tryz.prog 21 #[.agg #[.bool neg, .slice A E.length c]] w (DTxtQ neg (nv E) w) := by
  go_enter Tryz.func21, Tryz.ntmps21
  go_upto_region 1 with fail
  have hb0 : Below w.heap.size w (w.alloc (.cells #[.bool neg, .slice A E.length c] 41)) := (Below.refl _ _).alloc (Nat.le_refl _) _
  have hH0 : (w.alloc (.cells #[.bool neg, .slice A E.length c] 41)).heap[w.heap.size]? = some (.cells #[.bool neg, .slice A E.length c] 41) := Go.Deep.blk_alloc_new _ _
  have hA0 := hA.mono hb0
  generalize w.alloc (.cells #[.bool neg, .slice A E.length c] 41) = w0 at hb0 hH0 hA0 ⊢
  have hHs : w.heap.size < w0.heap.size := (Array.getElem?_eq_some_iff.1 hH0).1
  have c00 : w0.cell? ⟨w.heap.size, 0, none⟩ = some (.bool neg) := by simp [World.cell?, hH0]
  have c01 : w0.cell? ⟨w.heap.size, 1, none⟩ = some (.slice A E.length c) := by simp [World.cell?, hH0]
  have hA0' := Lib.hid hA0
  clear hA hA0
  go_wp2
  go_loopw [3] (fun x wr => ∃ (j : Nat) (A' : Option Addr) (c' : Nat), x = .slice A' (j + E.length) c' ∧ Hid (DigsAt wr A' (List.replicate j 0 ++ E)) ∧ j + E.length ≤ c' ∧ (A' = none → c' = 0) ∧ (j = 0 ∨ j + E.length ≤ 21) ∧ Below w0.heap.size w0 wr) (fun x _ => 21 - lenOf x)
  case atStart => exact ⟨0, A, c, by rw [Nat.zero_add], Lib.hid (by simpa using hA0'.out), by omega, hnil, .inl rfl, Below.refl _ _⟩
  case round =>
    rename World => wr1
    obtain ⟨j, A', c', rfl, hD, hc', hnil', hor, hb⟩ := hrel
    have hhs := hb.size
    by_cases hlt : j + E.length < 21
    · have hlt' : ((j : Int) + (E.length : Int)) < 21 := by omega
      have hal : Below w0.heap.size w0 (wr1.alloc (.cells #[.int .i64 0] 3)) := hb.alloc hhs _
      have hal1 : Below wr1.heap.size wr1 (wr1.alloc (.cells #[.int .i64 0] 3)) := (Below.refl _ _).alloc (Nat.le_refl _) _
      have hown : (wr1.alloc (.cells #[.int .i64 0] 3)).ownsRow wr1.heap.size 3 1 (.slice (some ⟨wr1.heap.size, 0, none⟩) 1 1) 1 (ilist [0]) :=
        ⟨rfl, .inr ⟨wr1.heap.size, 1, #[.int .i64 0], rfl, Nat.le_refl _, Go.Deep.blk_alloc_new _ _, Nat.le_refl _, by decide, rfl, rfl⟩⟩
      have hDl : (List.replicate j 0 ++ E).length = j + E.length := by rw [List.length_append, List.length_replicate]
      have hDA := hD.out.mono hal1
      have hrep := Lib.hid (show [0] ++ (List.replicate j 0 ++ E) = List.replicate (j + 1) 0 ++ E by rw [List.replicate_succ]; rfl)
      generalize List.replicate j 0 ++ E = F at hD hDl hDA hrep
      clear hD
      go_wp2_with (at_builtin; refine wpl_digs (by rfl) _ _ (by rfl) wr1.heap.size _ 1 (ilist [0]) (by rfl) hown A' F c' (by rw [hDl]; rfl) hDA hnil' (by omega) (by simp) ?_; rintro v7 w7 hown7 hgr7)
      have hown8 : w7.ownsRow wr1.heap.size 3 1 v7 (1 + F.length) (ilist (List.replicate (j + 1) 0 ++ E)) := by
        rw [← hrep.out, ilist_append]
        exact hown7
      obtain ⟨A8, c8, rfl, hc8, hA8⟩ := own_digs hown8
      have hn8 := own_nil hown8
      have hb8 := hal.grown hgr7 (by simp; omega) (fun k hk => Nat.le_trans hhs (own_ge hown hk))
      have hl8 : (List.replicate (j + 1) 0 ++ E).length = j + 1 + E.length := by rw [List.length_append, List.length_replicate]
      have hA8' := Lib.hid hA8
      rw [hl8] at hc8 ⊢
      clear hown hown7 hown8 hgr7 hDA hA8
      go_roundw
      case rel => exact ⟨j + 1, A8, c8, rfl, hA8', hc8, fun e => hn8 _ _ (by rw [e]), .inr (by omega), hb8⟩
      case measure => simp [lenOf]; omega
    · have hlt' : ¬ ((j : Int) + (E.length : Int)) < 21 := by omega
      obtain ⟨J, hJ⟩ : ∃ J, j + E.length = J + 20 := ⟨j + E.length - 20, by omega⟩
      have hnK : nv E < 10 ^ (J + 20) := Nat.lt_of_lt_of_le (nv_lt hE) (Nat.pow_le_pow_right (by decide) (by omega))
      have hpad := pad_eq hE rfl (show E.length ≤ J + 20 by omega) hnK
      rw [show J + 20 - E.length = j by omega] at hpad
      rw [hpad] at hD
      have hTx := Lib.hid (show ∀ t, t = tx neg (dlist (nv E) (J + 20)) → Txt neg (nv E) t from fun t e => ⟨J, by omega, hnK, by
        rcases hor with h | h
        · right
          have hne : trimD E ≠ [] := by rw [ht]; intro e; rw [e] at hJ hlt; simp at hJ hlt; omega
          have := trim_ge hne
          rw [ht, show E.length = J + 20 by omega] at this
          exact this
        · left; omega, e⟩)
      have hDl := dlist_len (nv E) (J + 20)
      have hDd := dlist_dig (nv E) (J + 20)
      generalize dlist (nv E) (J + 20) = D at hD hTx hDl hDd
      rw [hJ] at hc' ⊢
      have hB1 := hb0.trans (hb.mono hb0.size)
      have hH1 := (hb.block _ hHs).trans hH0
      have d00 : wr1.cell? ⟨w.heap.size, 0, none⟩ = some (.bool neg) := by simp [World.cell?, hH1]
      have hJ1 : 1 ≤ J := by omega
      have hKb : J + 20 ≤ 2000 := by omega
      generalize hKe : J + 20 = K at hc' hDl hpad hnK hKb ⊢
      have hJ0 : (K : Int) - 20 = (J : Int) := by omega
      have hlt2 : ¬ (K : Int) < 21 := by omega
      clear c00 c01 hA0' hH0 hpad hnK hlt hlt' hJ hor ht
      go_upto_if 16 with fail
      go_cut [4] from 9 to 19 (fun x wx => wx.ownsRow wr1.heap.size 5 1 x (if neg then [45] else ([] : List UInt8)).length (bytes (if neg then [45] else [])) ∧ Below wr1.heap.size wr1 wx)
      case first =>
        cases neg with
        | false =>
          go_wp2
          go_meet
          case rel => exact ⟨World.ownsRow_nil _ _ _ _, Below.refl _ _⟩
        | true =>
          have hal : Below wr1.heap.size wr1 (wr1.alloc (.cells #[.int .u8 45] 5)) := (Below.refl _ _).alloc (Nat.le_refl _) _
          have hce : (wr1.alloc (.cells #[.int .u8 45] 5)).cell? ⟨wr1.heap.size, 0, none⟩ = some (.int .u8 45) := by
            unfold World.cell?
            rw [Go.Deep.blk_alloc_new]
            rfl
          have hno : (wr1.alloc (.cells #[.int .u8 45] 5)).ownsRow wr1.heap.size 5 1 (.slice none 0 0) 0 [] := World.ownsRow_nil _ _ _ _
          go_wp2_with (at_builtin; refine wpl_byte (by rfl) _ _ (by rfl) wr1.heap.size _ 0 [] (by rfl) hno wr1.heap.size (.int .u8 45) (by rfl) hce (by rfl) (by omega) (by simp) ?_; rintro v7 w7 hown7 hgr7)
          go_meet
          case rel => exact ⟨hown7, hal.grown hgr7 (by simp) (fun k hk => by cases hk)⟩
      case rest =>
        obtain ⟨hown, hbc⟩ := hcut
        have hDc := Lib.hid (hD.out.mono hbc)
        have hBc := hB1.trans (hbc.mono hB1.size)
        have hbase := hbc.size
        generalize hsg : (if neg then [45] else ([] : List UInt8)) = sg at hown
        have hsg' := Lib.hid hsg
        have hsl : sg.length ≤ 1 := by rw [← hsg]; cases neg <;> decide
        have hown' := Lib.hid hown
        have hbc' := Lib.hid hbc
        clear hsg d00 hH1 hb hown hbc
        go_upto_block 2 with fail
        go_cut [5] from 22 to 36 (fun x wx => ∃ t : Nat, x = .int .i64 (t : Int) ∧ J ≤ t ∧ t ≤ K ∧ wx = wc ∧ Hid ((D.take t).drop J = trimRightB (D.drop J) 48))
        case first =>
          go_wp2_with fail
          go_loopw [5] (fun x wr => ∃ t : Nat, x = .int .i64 (t : Int) ∧ J ≤ t ∧ t ≤ K ∧ wr = wc ∧ Hid (trimRightB ((D.take t).drop J) 48 = trimRightB (D.drop J) 48)) (fun x _ => (intOf x).toNat)
          case atStart => exact ⟨K, rfl, by omega, Nat.le_refl _, rfl, Lib.hid (by rw [List.take_of_length_le (by omega)])⟩
          case round =>
            obtain ⟨t, rfl, htJ, htK, rfl, htr⟩ := hrel
            by_cases heq : t = J
            · subst heq
              have hgt : ¬ ((t : Int) < (t : Int)) := by omega
              have hfin := Lib.hid (show (D.take t).drop t = trimRightB (D.drop t) 48 by
                rw [← htr.out, List.drop_of_length_le (by rw [List.length_take]; omega)]
                rfl)
              clear htr
              go_wp2
              go_meet
              case rel => exact ⟨t, rfl, Nat.le_refl _, htK, rfl, hfin⟩
            · have hgt : (J : Int) < (t : Int) := by omega
              obtain ⟨a, rfl, _, hcell⟩ := hDc.out (by unfold dvals; rw [List.length_map]; omega)
              have hj := hcell (t - 1) (by unfold dvals; rw [List.length_map]; omega)
              have hdv : (dvals D)[t - 1]'(by unfold dvals; rw [List.length_map]; omega) = (D[t - 1]'(by omega)).toNat - 48 := by simp [dvals]
              rw [hdv] at hj
              have hst := Lib.hid (trim_step (D := D) (J := J) (t := t) (by omega) (by omega))
              have hsp := Lib.hid (trim_stop (D := D) (J := J) (t := t) (by omega) (by omega))
              have hdg := hDd (D[t - 1]'(by omega)) (List.getElem_mem _)
              generalize D[t - 1]'(by omega) = x at hj hst hsp hdg
              have hix : ((t : Int) - 1) = ((t - 1 : Nat) : Int) := by omega
              have hix0 : (0 : Int) ≤ (t : Int) - 1 := by omega
              clear hcell hdv
              by_cases hx : x = 48
              · subst hx
                have h1 := Lib.hid ((hst.out rfl).symm.trans htr.out)
                clear hst hsp htr
                go_wp2
                go_roundw
                case rel => exact ⟨t - 1, rfl, by omega, by omega, by trivial, h1⟩
                case measure => simp [intOf]; omega
              · have hne : (((x.toNat - 48 : Nat) : Int) == 0) = false := by
                  rw [beq_eq_false_iff_ne]
                  intro e
                  exact hx (UInt8.toNat_inj.1 (show x.toNat = 48 by omega))
                have h1 := Lib.hid ((hsp.out hx).symm.trans htr.out)
                clear hst hsp htr
                go_wp2
                go_meet
                case rel => exact ⟨t, rfl, htJ, htK, rfl, h1⟩
        case rest =>
          obtain ⟨t, rfl, htJ, htK, rfl, htr⟩ := hcut
          have hwr0 : wr D J 0 = [] := by unfold wr; rw [if_pos (Nat.zero_le _)]; rfl
          go_wp2
          go_loopw [4, 6] (fun b i w3 => ∃ k : Nat, i = .int .i64 (k : Int) ∧ k ≤ t ∧ w3.ownsRow wr1.heap.size 5 1 b (sg ++ wr D J k).length (bytes (sg ++ wr D J k)) ∧ Below wr1.heap.size wr1 w3) (fun _ i _ => t - (intOf i).toNat)
          case atStart => exact ⟨0, rfl, Nat.zero_le _, by rw [hwr0, List.append_nil, ← hsg'.out]; rw [hsg'.out]; exact hown'.out, hbc'.out⟩
          case round =>
            rename World => w3
            obtain ⟨k, rfl, hk, hown3, hb3⟩ := hrel
            have hbs3 := hb3.size
            by_cases hkt : k < t
            · have hkt' : (k : Int) < (t : Int) := by omega
              obtain ⟨a, hAe, hab, _⟩ := hD.out (by unfold dvals; rw [List.length_map]; omega)
              obtain ⟨a', hAe', _, hcell⟩ := (hD.out.mono hb3) (by unfold dvals; rw [List.length_map]; omega)
              obtain rfl : a' = a := by rw [hAe] at hAe'; injection hAe' with h; exact h.symm
              subst hAe
              have hj := hcell k (by unfold dvals; rw [List.length_map]; omega)
              have hdv : (dvals D)[k]'(by unfold dvals; rw [List.length_map]; omega) = (D[k]'(by omega)).toNat - 48 := by simp [dvals]
              rw [hdv] at hj
              have hnx := Lib.hid (wr_next (D := D) (J := J) (i := k) (by omega) (by omega))
              have hdg := hDd (D[k]'(by omega)) (List.getElem_mem _)
              generalize D[k]'(by omega) = x at hj hnx hdg
              have hwl : (wr D J k).length ≤ 3000 := by
                unfold wr
                split
                · rw [List.length_take]; omega
                · simp only [List.length_append, List.length_cons, List.length_drop, List.length_take]; omega
              have hxx : (48 : Int) + ((x.toNat - 48 : Nat) : Int) = ((x.toNat : Nat) : Int) := by omega
              have hxb : (x.toNat : Int) < 256 := by omega
              clear hcell hdv
              by_cases hkJ : k = J
              · subst hkJ
                rw [if_pos rfl] at hnx
                have hX1 := cell_new w3 (.int .u8 46) 5
                have hO1 := hown3.alloc (.cells #[.int .u8 46] 5)
                have hal1 : Below wr1.heap.size wr1 (w3.alloc (.cells #[.int .u8 46] 5)) := hb3.alloc hbs3 _
                have hbytes : bytes (sg ++ wr D k (k + 1)) = bytes (sg ++ wr D k k) ++ [.int .u8 46] ++ [.int .u8 ((x.toNat : Nat) : Int)] := by
                  rw [hnx.out, ← List.append_assoc, ← List.append_assoc, bytes_append, bytes_append]
                  rfl
                have hlen2 : (sg ++ wr D k (k + 1)).length = (sg ++ wr D k k).length + 1 + 1 := by
                  rw [hnx.out]
                  simp only [List.length_append, List.length_cons, List.length_nil]
                  omega
                have hln : (sg ++ wr D k k).length ≤ 4000 := by rw [List.length_append]; omega
                have hby := Lib.hid hbytes
                have hle2 := Lib.hid hlen2
                generalize (sg ++ wr D k k).length = n at hown3 hO1 hln hle2
                generalize bytes (sg ++ wr D k k) = xs at hown3 hO1 hby
                clear hnx hbytes hlen2 hwl
                go_upto_region 15 with (at_builtin; refine wpl_byte (by rfl) _ _ (by rfl) wr1.heap.size _ n xs (by rfl) hO1 w3.heap.size (.int .u8 46) (by rfl) hX1 (by rfl) (by omega) (by simp; omega) ?_; rintro v7 w7 hown7 hgr7)
                have hb7 := hal1.grown hgr7 (by simp; omega) (fun k hk => own_ge hO1 hk)
                have hs7 : wr1.heap.size ≤ w7.heap.size := by have := hgr7.size; simp at this; omega
                have hO7 := hown7.alloc (.cells #[.int .u8 ((x.toNat : Nat) : Int)] 5)
                have hX7 := cell_new w7 (.int .u8 ((x.toNat : Nat) : Int)) 5
                have hj2 : w7.cell? (a'.add k) = some (.int .i64 ((x.toNat - 48 : Nat) : Int)) := by
                  exact (hb7.cell (by rw [addr_block]; exact hab)).trans ((hb3.cell (by rw [addr_block]; exact hab)).symm.trans hj)
                go_wp2_with (at_builtin; refine wpl_byte (by rfl) _ _ (by rfl) wr1.heap.size _ (n + 1) (xs ++ [.int .u8 46]) (by rfl) hO7 w7.heap.size (.int .u8 ((x.toNat : Nat) : Int)) (by rfl) hX7 (by rfl) (by omega) (by simp; omega) ?_; rintro v8 w8 hown8 hgr8)
                have hb8 := (hb7.alloc hb7.size (.cells #[.int .u8 ((x.toNat : Nat) : Int)] 5)).grown hgr8 (by have := hb7.size; simp; omega) (fun k hk => own_ge hown7 hk)
                have hown9 : w8.ownsRow wr1.heap.size 5 1 v8 (sg ++ wr D k (k + 1)).length (bytes (sg ++ wr D k (k + 1))) := by
                  rw [hby.out, hle2.out]
                  exact hown8
                clear hown8 hown7 hO1 hown3
                go_roundw
                case rel => exact ⟨k + 1, by go_num, by omega, hown9, hb8⟩
                case measure => simp [intOf]; omega
              · have hkJ' : ((k : Int) == (J : Int)) = false := by rw [beq_eq_false_iff_ne]; omega
                rw [if_neg hkJ] at hnx
                have hX1 := cell_new w3 (.int .u8 ((x.toNat : Nat) : Int)) 5
                have hO1 := hown3.alloc (.cells #[.int .u8 ((x.toNat : Nat) : Int)] 5)
                have hal1 : Below wr1.heap.size wr1 (w3.alloc (.cells #[.int .u8 ((x.toNat : Nat) : Int)] 5)) := hb3.alloc hbs3 _
                have hbytes : bytes (sg ++ wr D J (k + 1)) = bytes (sg ++ wr D J k) ++ [.int .u8 ((x.toNat : Nat) : Int)] := by
                  rw [hnx.out, ← List.append_assoc, bytes_append]
                  rfl
                have hlen2 : (sg ++ wr D J (k + 1)).length = (sg ++ wr D J k).length + 1 := by
                  rw [hnx.out]
                  simp only [List.length_append, List.length_cons, List.length_nil]
                  omega
                have hln : (sg ++ wr D J k).length ≤ 4000 := by rw [List.length_append]; omega
                have hby := Lib.hid hbytes
                have hle2 := Lib.hid hlen2
                generalize (sg ++ wr D J k).length = n at hown3 hO1 hln hle2
                generalize bytes (sg ++ wr D J k) = xs at hown3 hO1 hby
                clear hnx hbytes hlen2 hwl
                go_wp2_with (at_builtin; refine wpl_byte (by rfl) _ _ (by rfl) wr1.heap.size _ n xs (by rfl) hO1 w3.heap.size (.int .u8 ((x.toNat : Nat) : Int)) (by rfl) hX1 (by rfl) (by omega) (by simp; omega) ?_; rintro v7 w7 hown7 hgr7)
                have hb7 := hal1.grown hgr7 (by simp; omega) (fun k hk => own_ge hO1 hk)
                have hown9 : w7.ownsRow wr1.heap.size 5 1 v7 (sg ++ wr D J (k + 1)).length (bytes (sg ++ wr D J (k + 1))) := by
                  rw [hby.out, hle2.out]
                  exact hown7
                clear hown7 hO1 hown3
                go_roundw
                case rel => exact ⟨k + 1, by go_num, by omega, hown9, hb7⟩
                case measure => simp [intOf]; omega
            · have hke : k = t := by omega
              subst hke
              have hend := Lib.hid (hTx.out (sg ++ wr D J k) (by rw [← hsg'.out]; exact wr_end (by omega) (by omega) htJ (by omega) htr.out))
              have hC : sg ++ wr D J k ≠ [] := by
                intro e
                have := congrArg List.length e
                unfold wr at this
                split at this
                · simp only [List.length_append, List.length_take, List.length_nil] at this; omega
                · simp only [List.length_append, List.length_take, List.length_cons, List.length_nil] at this; omega
              generalize sg ++ wr D J k = C at hown3 hend hC
              obtain ⟨g, cap, rfl, hcl⟩ := own_bytes hown3 hC
              have hconv := run_convert_bytes_back (P := Tryz.prog) w3 126 9 5 ⟨g, 0, none⟩ cap C und55 und5 und9 hcl
              have hkt' : ¬ (k : Int) < (k : Int) := by omega
              clear hcl hown3 hD hwr0
              go_wp2
              go_ret
              exact ⟨C, hend.out, rfl, hB1.trans (hb3.mono hB1.size)⟩
end Go.Proofs.Nw
