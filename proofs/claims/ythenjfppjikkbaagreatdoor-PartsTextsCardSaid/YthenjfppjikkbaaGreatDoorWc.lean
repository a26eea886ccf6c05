/- The walks of texts, join, Eval and of the law PartsTexts. Conditions: what works() answers is handed in as a hypothesis. -/
import Derived.Test.YthenjfppjikkbaaGreatDoorWb
import Derived.Lib.AppendStr
set_option linter.all false
set_option linter.unusedVariables false
set_option maxHeartbeats 2000000
namespace Go.Proofs.Pt
open Go.RowKit Go.Lib
attribute [local go_sem ↓] Go.wp_at_zero Go.wp_at_succ
def partV (l : List UInt8) : Value := .agg (partOf l).toArray
set_option maxRecDepth 100000 in
theorem valid_any (l : List UInt8) (v : Bool) (hv : isTxt ⟨l.toArray⟩ = v) (w : World) (hl : l.length ≤ 100000) :
    Calls Tryz.prog 19 #[partV l] w fun e w' => e = .returned (.bool v) ∧ Below w.heap.size w w' := by
  have hit := isText_b ⟨l.toArray⟩ v hv
  unfold partV partOf xz
  go_enter Tryz.func19, Tryz.ntmps19
  go_wp2_with (go_at_call 7; refine (hit _ (by simpa [ByteArray.size] using hl)).mono ?_; rintro e w1 ⟨rfl, hb⟩)
  go_ret
  exact ⟨rfl, ((Below.refl _ w).alloc (Nat.le_refl _) _).trans (hb.mono (by simp))⟩
theorem two_boxes (w : World) (cs ds : Array Value) (t t' : TypeId) : Below w.heap.size w ((w.alloc (.cells cs t)).alloc (.cells ds t')) ∧ ((w.alloc (.cells cs t)).alloc (.cells ds t')).heap[w.heap.size]? = some (.cells cs t) ∧ ((w.alloc (.cells cs t)).alloc (.cells ds t')).heap[w.heap.size + 1]? = some (.cells ds t') := by
  refine ⟨((Below.refl _ _).alloc (Nat.le_refl _) _).alloc (by simp) _, ?_, ?_⟩
  · rw [Go.Deep.blk_alloc_lt _ _ _ (by simp)]
    exact Go.Deep.blk_alloc_new _ _
  · have := Go.Deep.blk_alloc_new (w.alloc (.cells cs t)) (.cells ds t')
    rwa [show (w.alloc (.cells cs t)).heap.size = w.heap.size + 1 by simp] at this
theorem und56 : ∃ d, Tryz.prog.underlying 56 = some d ∧ d.isRow = true := by
  have h : (Tryz.prog.underlying 56).map (fun d => d.isRow) = some true := by kernel_rfl
  cases hd : Tryz.prog.underlying 56 with
  | none => rw [hd] at h; cases h
  | some d => rw [hd] at h; exact ⟨d, rfl, by injection h⟩
theorem size56 : (Tryz.prog.info? 56).map (·.size) = some 18 := by kernel_rfl
theorem wpList_part {ops : Array Oper} {rest : List Oper} {op : Oper} {a : Act} {w : World} {Q : Exit → Act → World → Prop} (l : List UInt8) (hgd : op.guard = none) (x : Operand) (ho : op.op = .load 56 x)
    (b : Nat) (hx : a.eval x = .pointer (some ⟨b, 0, none⟩)) (hc : w.rangeAt b 0 (partOf l))
    (h : wpList Tryz.prog ops Q rest (a.put op.dst (partV l)) w) : wpList Tryz.prog ops Q (op :: rest) a w := by
  obtain ⟨d, hd, hr⟩ := und56
  exact wpList_load_mid hgd 56 x ho b 0 hx (partOf l) d hc hd hr size56 h
theorem part_range {w : World} {b : Nat} {l : List UInt8} (h : w.heap[b]? = some (.cells (partOf l).toArray 56 (0, 0))) : w.rangeAt b 0 (partOf l) :=
  fun j v hv => by rw [cell_of_row w b (0 + j) _ _ _ h, Nat.zero_add]; simpa using hv
set_option maxRecDepth 100000 in
theorem texts_any (l : List UInt8) (q : Option Addr) (ht : isTxt ⟨l.toArray⟩ = true) (w : World) (hl : l.length ≤ 100000) :
    Calls Tryz.prog 18 #[.agg #[.pointer q], partV l] w fun e w' => ∃ g, e = .returned (.tuple #[.slice (some ⟨g, 0, none⟩) 1 1, .int .i64 0]) ∧ w'.cell? ⟨g, 0, none⟩ = some (.string ⟨l.toArray⟩) ∧ Below w.heap.size w w' := by
  have hva := valid_any l true ht
  obtain ⟨hb0, hH0, hH1⟩ := two_boxes w #[.pointer q] (partOf l).toArray 74 56
  unfold partV partOf xz at hva ⊢
  unfold partOf xz at hb0 hH1 hH0
  go_enter Tryz.func18, Tryz.ntmps18
  go_upto_region 1 with fail
  generalize (w.alloc _).alloc _ = w0 at hb0 hH0 hH1 ⊢
  have hrg : w0.rangeAt (w.heap.size + 1) 0 (partOf l) := part_range hH1
  have hs1 : w.heap.size + 1 < w0.heap.size := (Array.getElem?_eq_some_iff.1 hH1).1
  go_wp2_with (first | (refine wpList_part l rfl (.tmp 3) rfl _ rfl hrg ?_; unfold partV partOf xz) | (go_at_call 19; refine (hva _ hl).mono ?_; rintro e w1 ⟨rfl, hb1⟩; have hG := (hb1.block _ hs1).trans hH1; have c0 : w1.cell? ⟨w.heap.size + 1, 0, none⟩ = some (.string ⟨l.toArray⟩) := (by simp [World.cell?, hG]); have c1 : w1.cell? ⟨w.heap.size + 1, 1, none⟩ = some (.bool false) := (by simp [World.cell?, hG])))
  go_ret2
  refine ⟨w1.heap.size, rfl, ?_, ((hb0.trans (hb1.mono hb0.size)).alloc (Nat.le_trans hb0.size hb1.size) _)⟩
  rw [Lib.cell_of_heap (heap_alloc_new w1 _)]
  rfl
end Go.Proofs.Pt
namespace Go.Proofs.Pt
open Go.RowKit Go.Lib
set_option maxRecDepth 100000 in
theorem check0_used (b : Nat) (w : World) (h0 : w.cell? ⟨b, 0, none⟩ = some (.pointer (some ⟨b, 0, none⟩))) :
    Calls Tryz.prog 26 #[.pointer (some ⟨b, 0, none⟩)] w fun e w' => e = .returned (.tuple #[]) ∧ w' = w := by
  obtain ⟨j, hj, hjs⟩ := Option.map_eq_some_iff.1 (show (Tryz.prog.info? 63).map (·.size) = some 2 by kernel_rfl)
  go_enter Tryz.func26, Tryz.ntmps26
  go_wp2
  rw [Lib.run_neq_ptr_same w _ (te := 63) (by kernel_rfl) hj]
  go_wp2
  go_end0
  exact ⟨rfl, rfl⟩
set_option maxRecDepth 100000 in
theorem check0_fresh (b : Nat) (w : World) (h0 : w.cell? ⟨b, 0, none⟩ = some (.pointer none)) (hsh : w.shape? b = some (63, 2)) (hfz : w.frozen? ⟨b, 0, none⟩ = false) :
    Calls Tryz.prog 26 #[.pointer (some ⟨b, 0, none⟩)] w fun e w' => e = .returned (.tuple #[]) ∧ w' = w.setCell ⟨b, 0, none⟩ (.pointer (some ⟨b, 0, none⟩)) := by
  obtain ⟨j, hj, hjs⟩ := Option.map_eq_some_iff.1 (show (Tryz.prog.info? 63).map (·.size) = some 2 by kernel_rfl)
  go_enter Tryz.func26, Tryz.ntmps26
  go_wp2
  rw [Lib.run_to_unsafe w ⟨b, 0, none⟩ (t := 63) (by kernel_rfl) (by kernel_rfl) hj (by rw [hjs]; decide) hsh (Nat.zero_lt_succ 1)]
  simp only [Result.andThen]
  rw [Oper.upon_value]
  go_wp2
  rw [run_callFunc_extern Tryz.func39 (by kernel_rfl) (by kernel_rfl) (by kernel_rfl) (e := Extern.AbiNoEscape.same) (by kernel_rfl)]
  rw [Lib.run_noEscape]
  simp only [Result.andThen]
  rw [Oper.upon_value]
  go_wp2
  rw [Lib.run_from_unsafe w ⟨b, 0, none⟩ (u := 63) (by kernel_rfl) (by kernel_rfl) hj hsh (by kernel_rfl)]
  simp only [Result.andThen]
  rw [Oper.upon_value]
  go_wp2
  go_end0
  exact ⟨rfl, rfl⟩
theorem check0_any (B b : Nat) (bs : List Value) (w : World) (h : Lib.IsBuilder 63 5 B b bs w) :
    Calls Tryz.prog 26 #[.pointer (some ⟨b, 0, none⟩)] w fun e w' => e = .returned (.tuple #[]) ∧ (Lib.BuilderAt 63 5 B b (.pointer (some ⟨b, 0, none⟩)) bs w' ∧ Below B w w') := by
  rcases h with h | h
  · refine (check0_fresh b w h.cell0 h.shape h.frozen0).mono ?_
    rintro e w' ⟨rfl, rfl⟩
    exact ⟨rfl, h.used _, (Below.refl B w).setCell (p := ⟨b, 0, none⟩) h.1 _⟩
  · refine (check0_used b w h.cell0).mono ?_
    rintro e w' ⟨rfl, rfl⟩
    exact ⟨rfl, h, Below.refl B _⟩
set_option maxHeartbeats 2000000 in
set_option maxRecDepth 100000 in
theorem writeStr (B b : Nat) (bs : List Value) (s : ByteArray) (w : World) (h : Lib.IsBuilder 63 5 B b bs w) (hlen : bs.length + s.size ≤ 140737488355328) (hBw : B ≤ w.heap.size) :
    Calls Tryz.prog 21 #[.pointer (some ⟨b, 0, none⟩), .string s] w fun e w' => e = .returned (.tuple #[.int .i64 s.size, .nilIface]) ∧ (Lib.BuilderAt 63 5 B b (.pointer (some ⟨b, 0, none⟩)) (bs ++ Lib.strCells s) w' ∧ Below B w w') := by
  obtain ⟨i0, hi, hz0, hz1, hz2⟩ := info_parts infoByte
  go_enter Tryz.func21, Tryz.ntmps21
  go_wp2_with (go_at_call 26; refine (check0_any B b bs _ h).mono ?_)
  rintro e w1 ⟨rfl, h1, hb1⟩
  obtain ⟨hB, v, hbk, hown, hne⟩ := h1
  have c0 : w1.cell? ⟨b, 0, none⟩ = some (.pointer (some ⟨b, 0, none⟩)) := by rw [Lib.cell_of_heap hbk]; rfl
  have c1 : w1.cell? ⟨b, 1, none⟩ = some v := by rw [Lib.cell_of_heap hbk]; rfl
  go_wp2_with (at_builtin; refine Lib.wpList_append_own_string _ rfl _ _ 61 9 rfl B 5 i0 (by kernel_rfl) (by kernel_rfl) hi hz0 hz1 hz2 _ _ _ rfl hown s rfl ?c3 ?c4 ?c5 ?_)
  case c3 => unfold maxLen; omega
  case c4 => omega
  case c5 => have := hb1.size; omega
  intro v' w2 hown' hgrow _
  have hlt : b < w1.heap.size := (Array.getElem?_eq_some_iff.1 hbk).1
  have hb2 : w2.heap[b]? = some (.cells #[.pointer (some ⟨b, 0, none⟩), v] 63 (0, 0)) := by
    rw [hgrow.block b hlt (fun e => hne e.symm)]
    exact hbk
  have d0 : w2.cell? ⟨b, 0, none⟩ = some (.pointer (some ⟨b, 0, none⟩)) := by rw [Lib.cell_of_heap hb2]; rfl
  have d1 : w2.cell? ⟨b, 1, none⟩ = some v := by rw [Lib.cell_of_heap hb2]; rfl
  have f1 : w2.frozen? ⟨b, 1, none⟩ = false := Lib.frozen_of_heap hb2 1
  obtain ⟨ao, n', cap, rfl⟩ : ∃ ao n' cap, v' = .slice ao n' cap := by
    rcases hown'.2 with ⟨hv, _⟩ | ⟨g, cap, cur, hv, _⟩
    · exact ⟨_, _, _, hv⟩
    · exact ⟨_, _, _, hv⟩
  go_wp2
  go_ret2
  refine ⟨rfl, ?_, ?_⟩
  · exact Lib.BuilderAt.put (T := 63) (e := 5) hB hb2 (bs' := bs ++ Lib.strCells s) (by simpa [Lib.strCells_length] using hown') (by decide)
  · exact (hb1.grown hgrow (by have := hb1.size; omega) (fun k hk => (hown.lt k hk).1)).setCell (p := ⟨b, 1, none⟩) hB _
end Go.Proofs.Pt
namespace Go.Proofs.Pt
open Go.RowKit Go.Lib
attribute [local go_sem ↓] Go.wp_at_zero Go.wp_at_succ
theorem setCells_below {B b : Nat} {a : World} (hb : B ≤ b) : ∀ (vs : List Value) (o : Nat) (w : World), Below B a w → Below B a (w.setCells b o vs)
  | [], _, _, h => h
  | v :: r, o, w, h => setCells_below hb r (o + 1) _ (h.setCell (p := ⟨b, o, none⟩) hb v)
theorem part_len (l : List UInt8) : (partOf l).length = 18 := rfl
theorem wpList_storePart {ops : Array Oper} {rest : List Oper} {op : Oper} {a : Act} {w : World} {Q : Exit → Act → World → Prop} (l : List UInt8) (hgd : op.guard = none) (x y : Operand) (ho : op.op = .store 56 x y)
    (b : Nat) (cs : Array Value) (hx : a.eval x = .pointer (some ⟨b, 0, none⟩)) (hy : a.eval y = partV l) (hb : w.heap[b]? = some (.cells cs 56 (0, 0))) (hcs : cs.size = 18)
    (h : ∀ w', w'.rangeAt b 0 (partOf l) → Below b w w' → wpList Tryz.prog ops Q rest (a.put op.dst undef) w') : wpList Tryz.prog ops Q (op :: rest) a w := by
  have hth : w.there b 0 (partOf l).toArray.size := fun j hj => by
    have hj' : j < 18 := by simpa [part_len] using hj
    constructor
    · rw [Nat.zero_add, cell_of_row w b j _ _ _ hb, Array.getElem?_eq_getElem (by omega)]
      rfl
    · rw [Nat.zero_add]
      exact Lib.frozen_of_heap hb j
  refine wpList_store_mid hgd 56 x y ho b 0 _ hx hy hth ?_ ?_ (h _ ?_ ?_)
  · rw [size56]; rfl
  · exact all_oneCell_toArray (by simp [partOf, xz, Value.oneCell'])
  · have := World.rangeAt_setCells_same w b 0 (partOf l) (by simpa using hth)
    simpa using this
  · exact setCells_below (Nat.le_refl _) _ _ _ (Below.refl _ _)
theorem cell_lt {w : World} {a : Addr} {v : Value} (h : w.cell? a = some v) : a.block < w.heap.size := World.block_lt_of_cell? w a h
theorem isB_below {T e : TypeId} {B b : Nat} {bs : List Value} {w w' : World} (h : Lib.IsBuilder T e B b bs w) (hb : Below w.heap.size w w') : Lib.IsBuilder T e B b bs w' := by
  have key : ∀ {p : Value}, Lib.BuilderAt T e B b p bs w → Lib.BuilderAt T e B b p bs w' := by
    intro p hp
    have hlt := hp.lt
    obtain ⟨hB, v, hbk, hown, hne⟩ := hp
    exact ⟨hB, v, (hb.block b hlt).trans hbk, hown.kept (row := none) ⟨hb.os, hb.tape, hb.output, hb.size, fun k hk _ => hb.block k hk⟩ (by cases hv : v.ownBlock <;> simp), hne⟩
  rcases h with h | h
  · exact .inl (key h)
  · exact .inr (key h)
theorem rlt {T e : TypeId} {B b : Nat} {bs : List Value} {w : World} (h : Lib.IsBuilder T e B b bs w) : b < w.heap.size := by
  rcases h with h | h
  · exact h.lt
  · exact h.lt
set_option maxRecDepth 100000 in
set_option maxHeartbeats 2000000 in
theorem join_any (l : List UInt8) (q : Option Addr) (g cap : Nat) (ht : isTxt ⟨l.toArray⟩ = true) (w : World) (hl : l.length ≤ 1000) (hg : g < w.heap.size) (hr : w.rangeAt g 0 (partOf l)) :
    Calls Tryz.prog 17 #[.slice (some ⟨g, 0, none⟩) 1 cap, .func (.func 18) #[.agg #[.pointer q]] #[]] w fun e w' => e = .returned (.tuple #[.string ⟨l.toArray⟩, .int .i64 0]) ∧ Below w.heap.size w w' := by
  have htx := texts_any l q ht
  go_enter Tryz.func17, Tryz.ntmps17
  go_upto_region 2 with fail
  have hB0 : Lib.IsBuilder 63 5 w.heap.size w.heap.size [] (w.alloc (.cells #[.pointer none, .slice none 0 0] 63)) :=
    .inl ⟨Nat.le_refl _, .slice none 0 0, heap_alloc_new w _, World.ownsRow_nil _ _ _ _, by simp [Value.ownBlock]⟩
  have hbA := (Below.refl w.heap.size w).alloc (Nat.le_refl _) (.cells #[.pointer none, .slice none 0 0] 63)
  generalize w.alloc (.cells #[.pointer none, .slice none 0 0] 63) = w0 at hB0 hbA ⊢
  go_wp2
  go_loopw [14] (fun i wr => Below w.heap.size w wr ∧ w.heap.size < wr.heap.size ∧ ((i = .int .i64 0 ∧ Lib.IsBuilder 63 5 w.heap.size w.heap.size [] wr) ∨ (i = .int .i64 1 ∧ Lib.IsBuilder 63 5 w.heap.size w.heap.size (Lib.byteCells l) wr))) (fun i _ => 1 - (RowKit.intOf i).toNat)
  case atStart => exact ⟨hbA, rlt hB0, .inl ⟨rfl, hB0⟩⟩
  case round =>
    obtain ⟨hbr, hlt, hor⟩ := hrel
    rcases hor with ⟨rfl, hI⟩ | ⟨rfl, hI⟩
    · have hrg : wr.rangeAt g 0 (partOf l) := fun j v hv => (hbr.cell (p := ⟨g, 0 + j, none⟩) hg).trans (hr j v hv)
      go_wp2_with (first | (refine wpList_part l rfl (.tmp 16) rfl g rfl hrg ?_) | (refine wpList_storePart l rfl (.tmp 8) (.tmp 17) rfl wr.heap.size _ rfl rfl (heap_alloc_new wr _) (by rfl) ?_; intro w2 hr2 hb2) | (refine wpList_part l rfl (.tmp 8) rfl _ rfl hr2 ?_) | (go_at_call 18; refine (htx _ (by omega)).mono ?_; rintro e w3 ⟨g3, rfl, hc3, hb3⟩))
      have hbw2 : Below wr.heap.size wr w3 := ((Below.refl _ wr).alloc (Nat.le_refl _) _).trans (hb2.trans (hb3.mono (by have := hb2.size; simp at this; omega)))
      have hI3 := isB_below hI hbw2
      have hbr3 := hbr.trans (hbw2.mono (by omega))
      have hz3 : g3 < w3.heap.size := cell_lt hc3
      clear hrg hr2 hb2 hb3 hbw2 hbr hI
      go_loopw [11] (fun i wq => Below w.heap.size w wq ∧ ((i = .int .i64 0 ∧ Lib.IsBuilder 63 5 w.heap.size w.heap.size [] wq ∧ wq.cell? ⟨g3, 0, none⟩ = some (.string ⟨l.toArray⟩)) ∨ (i = .int .i64 1 ∧ Lib.IsBuilder 63 5 w.heap.size w.heap.size (Lib.byteCells l) wq))) (fun i _ => 1 - (RowKit.intOf i).toNat)
      case atStart => exact ⟨hbr3, .inl ⟨rfl, hI3, hc3⟩⟩
      case round =>
        obtain ⟨hbq, hor⟩ := hrel
        rcases hor with ⟨rfl, hIq, hcq⟩ | ⟨rfl, hIq⟩
        · have hln := Tryz.Builder_Len w.heap.size w.heap.size [] wr hIq
          have hws := writeStr w.heap.size w.heap.size [] ⟨l.toArray⟩ wr hIq (by simp [ByteArray.size]; omega) hbq.size
          go_wp2_with (first | (go_at_call 24; refine hln.mono ?_; rintro e w4 ⟨rfl, rfl⟩) | (go_at_call 21; refine hws.mono ?_; rintro e w5 ⟨rfl, h5, hb5⟩))
          have hb5' := hbq.trans hb5
          go_roundw
          case rel => exact ⟨hb5', .inr ⟨rfl, .inr h5⟩⟩
          case measure => simp [RowKit.intOf]
        · have hltq := rlt hIq
          go_wp2
          exact ⟨⟨hbq, hltq, .inr ⟨rfl, hIq⟩⟩, by simp [RowKit.intOf]⟩
    · have hln := Tryz.Builder_Len w.heap.size w.heap.size _ wr hI
      have hnl : ¬ (1048576 : Int) < ((Lib.byteCells l).length : Nat) := by rw [Lib.byteCells_length]; omega
      have hst := Tryz.Builder_String_any w.heap.size w.heap.size l wr hI hbr.size
      go_wp2_with (first | (go_at_call 24; refine hln.mono ?_; rintro e w4 ⟨rfl, rfl⟩) | (go_at_call 25; refine hst.mono ?_; rintro e w5 ⟨rfl, hb5⟩))
      go_ret2
      exact ⟨rfl, hbr.trans hb5⟩
end Go.Proofs.Pt
namespace Go.Proofs.Pt
open Go.RowKit Go.Lib
attribute [local go_sem ↓] Go.wp_at_zero Go.wp_at_succ
set_option maxRecDepth 100000 in
theorem eval_any (l : List UInt8) (q : Addr) (g cap : Nat) (ht : isTxt ⟨l.toArray⟩ = true) (w : World) (hl : l.length ≤ 1000) (hg : g < w.heap.size) (hr : w.rangeAt g 0 (partOf l)) :
    Calls Tryz.prog 8 #[.slice (some ⟨g, 0, none⟩) 1 cap, .pointer (some q)] w fun e w' => e = .returned (.tuple #[.string ⟨l.toArray⟩, .int .i64 0]) ∧ Below w.heap.size w w' := by
  have hmf : ∀ (fn : Fn) (first cap : Array Value) (w : World), (Instr.makeFunc fn first cap).run Tryz.prog w = .ok (.func fn first cap) w := fun _ _ _ _ => rfl
  have hj := join_any l (some q) g cap ht w hl hg hr
  go_enter Tryz.func8, Tryz.ntmps8
  go_wp2_with (go_at_call 17; refine hj.mono ?_; rintro e w1 ⟨rfl, hb⟩)
  go_ret2
  exact ⟨rfl, hb⟩
end Go.Proofs.Pt
namespace Go.Proofs.Pt
open Go.RowKit Go.Lib
attribute [local go_sem ↓] Go.wp_at_zero Go.wp_at_succ
/-- what was there below B is there, and the run's own words are as they were (the tape aside) -/
structure Bel (B : Nat) (w w' : World) : Prop where
  os : w'.os = w.os
  output : w'.output = w.output
  size : w.heap.size ≤ w'.heap.size
  block : ∀ k, k < B → w'.heap[k]? = w.heap[k]?
theorem Bel.of {B : Nat} {w w' : World} (h : Below B w w') : Bel B w w' := ⟨h.os, h.output, h.size, h.block⟩
theorem Bel.refl (w : World) : Bel w.heap.size w w := .of (Below.refl _ _)
theorem Bel.trans {B : Nat} {a b c : World} (h : Bel B a b) (k : Bel B b c) : Bel B a c := ⟨k.os.trans h.os, k.output.trans h.output, Nat.le_trans h.size k.size, fun i hi => (k.block i hi).trans (h.block i hi)⟩
theorem Bel.mono {B C : Nat} {a b : World} (h : Bel B a b) (hC : C ≤ B) : Bel C a b := ⟨h.os, h.output, h.size, fun i hi => h.block i (Nat.lt_of_lt_of_le hi hC)⟩
def WorksT (F : Nat) (w : World) : Prop := ∀ w', Bel w.heap.size w w' → Calls Tryz.prog F #[] w' (fun e w'' => e = .returned (.bool true) ∧ Bel w'.heap.size w' w'')
theorem works_below {F : Nat} {w w' : World} (h : WorksT F w) (hb : Below w.heap.size w w') : Calls Tryz.prog F #[] w' (fun e w'' => e = .returned (.bool true) ∧ Bel w.heap.size w w'') :=
  (h w' (.of hb)).mono fun _ _ ⟨he, hb'⟩ => ⟨he, (Bel.of hb).trans (hb'.mono hb.size)⟩
theorem own_range {w : World} {B g cap : Nat} {l : List UInt8} (h : w.ownsRow B 56 18 (.slice (some ⟨g, 0, none⟩) 1 cap) 1 (partOf l)) : g < w.heap.size ∧ w.rangeAt g 0 (partOf l) ∧ 1 ≤ cap := by
  rcases h.2 with ⟨h', _⟩ | ⟨g', cap', cur, h', _, hg, hc, _⟩
  · simp at h'
  · simp only [Value.slice.injEq, Option.some.injEq, Addr.mk.injEq, and_true, true_and] at h'
    obtain ⟨rfl, rfl⟩ := h'
    refine ⟨(Array.getElem?_eq_some_iff.1 hg).1, fun j v hv => ?_, hc⟩
    have hj : j < 18 := by have := (List.getElem?_eq_some_iff.1 hv).1; simpa [part_len] using this
    rw [Nat.zero_add, h.cellAt j (by omega)]
    exact hv
theorem range_below {w w' : World} {g : Nat} {cs : List Value} (h : w.rangeAt g 0 cs) (hg : g < w.heap.size) (hb : Below w.heap.size w w') : w'.rangeAt g 0 cs :=
  fun j v hv => (hb.cell (p := ⟨g, 0 + j, none⟩) hg).trans (h j v hv)
set_option maxRecDepth 100000 in
set_option maxHeartbeats 2000000 in
theorem PartsTexts_any (l : List UInt8) (w : World) (hW : WorksT 4 w) :
    Calls Tryz.prog 3 #[.string ⟨l.toArray⟩] w (fun e w' => e = .returned (.bool true) ∧ Bel w.heap.size w w') := by
  have hsz : (⟨l.toArray⟩ : ByteArray).size = l.length := by simp [ByteArray.size]
  by_cases hlen : 1000 < l.length
  · have hli : (1000 : Int) < ((⟨l.toArray⟩ : ByteArray).size : Int) := by omega
    have hwk := works_below hW (Below.refl _ _)
    go_enter Tryz.func3, Tryz.ntmps3
    go_wp2_with (go_at_call 4; refine hwk.mono ?_; rintro e w1 ⟨rfl, hb1⟩)
    go_ret
    exact ⟨rfl, hb1⟩
  · have hli : ¬ (1000 : Int) < ((⟨l.toArray⟩ : ByteArray).size : Int) := by omega
    have hT : (⟨(dbl l).toArray⟩ : ByteArray).data.toList = dbl l := rfl
    have hTs : (⟨(dbl l).toArray⟩ : ByteArray).size ≤ 100000 := by have := dbl_len l; simp [ByteArray.size]; omega
    have htw := twice_any ⟨l.toArray⟩
    have hit := isText_b ⟨l.toArray⟩
    cases ht : isTxt ⟨l.toArray⟩ with
    | false =>
      have ht2 := (isTxt_twice l).trans ht
      go_enter Tryz.func3, Tryz.ntmps3
      go_wp2_with (first | (go_at_call 6; refine (htw _ (by omega)).mono ?_; rintro e w1 ⟨rfl, rfl⟩) | (go_at_call 5; refine (parse_bad _ _ hTs ht2).mono ?_; rintro e w2 ⟨rfl, hb2⟩) | (go_at_call 7; refine (hit _ ht _ (by omega)).mono ?_; rintro e w3 ⟨rfl, hb3⟩; have hwk := works_below hW (hb2.trans (hb3.mono hb2.size))) | (go_at_call 4; refine hwk.mono ?_; rintro e w4 ⟨rfl, hb4⟩))
      go_ret
      exact ⟨rfl, hb4⟩
    | true =>
      have ht2 := (isTxt_twice l).trans ht
      have hpo := parse_ok l ⟨(dbl l).toArray⟩
      by_cases hne : l = []
      · subst hne
        go_enter Tryz.func3, Tryz.ntmps3
        go_wp2_with (first | (go_at_call 6; refine (htw _ (by omega)).mono ?_; rintro e w1 ⟨rfl, rfl⟩) | (go_at_call 5; refine (hpo _ (by omega) hT ht2).mono ?_; rintro e w2 ⟨hb2, he2, _⟩; obtain rfl := he2 rfl) | (go_at_call 7; refine (hit _ ht _ (by omega)).mono ?_; rintro e w3 ⟨rfl, hb3⟩; have hwk := works_below hW (hb2.trans (hb3.mono hb2.size))) | (go_at_call 4; refine hwk.mono ?_; rintro e w4 ⟨rfl, hb4⟩))
        go_ret
        exact ⟨rfl, hb4⟩
      · have hne2 : (⟨l.toArray⟩ : ByteArray) ≠ ⟨#[]⟩ := fun e => hne (by simpa using congrArg (fun b : ByteArray => b.data.toList) e)
        have hne3 : l.isEmpty = false := by simpa using hne
        have hev := eval_any l
        go_enter Tryz.func3, Tryz.ntmps3
        go_wp2_with (first | (go_at_call 6; refine (htw _ (by omega)).mono ?_; rintro e w1 ⟨rfl, rfl⟩) | (go_at_call 5; refine (hpo _ (by omega) hT ht2).mono ?_; rintro e w2 ⟨hb2, _, he2⟩; obtain ⟨g, cap, rfl, hown⟩ := he2 hne; obtain ⟨hg2, hr2, hc2⟩ := own_range hown) | (go_at_call 7; refine (hit _ ht _ (by omega)).mono ?_; rintro e w3 ⟨rfl, hb3⟩; have hr3 := range_below hr2 hg2 hb3; have hg3 := Nat.lt_of_lt_of_le hg2 hb3.size) | (go_at_call 8; refine (hev _ g cap ht _ (by omega) (by simp; omega) (World.rangeAt_alloc hr3 _)).mono ?_; rintro e w5 ⟨rfl, hb5⟩; have hr5 := range_below (World.rangeAt_alloc hr3 _) (by simp; omega) hb5; have c0 := hr5 0 _ rfl; have c1 := hr5 1 _ rfl; have hwk := works_below hW ((hb2.trans (hb3.mono hb2.size)).trans (((Below.refl _ _).alloc (Nat.le_refl _) _).trans (hb5.mono (by simp)) |>.mono (Nat.le_trans hb2.size hb3.size)))) | (go_at_call 4; refine hwk.mono ?_; rintro e w6 ⟨rfl, hb6⟩))
        go_ret
        exact ⟨rfl, hb6⟩
end Go.Proofs.Pt
