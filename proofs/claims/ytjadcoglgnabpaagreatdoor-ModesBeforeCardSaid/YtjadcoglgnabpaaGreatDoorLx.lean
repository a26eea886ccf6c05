/- What the liftings of ModesBefore and ModesOrder share. Conditions: none beyond the given row's own. -/
import Derived.Test.YtjadcoglgnabpaaGreatDoorRows
import Derived.WalkKit
import Derived.ProofKit
import Derived.Handy
import Derived.Lay
import Derived.SevenTiedAt
import Derived.Carry
import Derived.HandedShaped
import Derived.Shelf.Vars
import Derived.Test.YtjadcoglgnabpaaGreatDoorWkRun
import Derived.Test.YtjadcoglgnabpaaGreatDoorWf
import Derived.Test.YtjadcoglgnabpaaGreatDoorJo
namespace Go.Proofs.YtjadcoglgnabpaaGreatDoor
set_option maxRecDepth 1000000
open Go.ChangeShapes Go.WideShapes Go.ChangeAt Go.RowKit Go.Abs Go.Proofs.Nw

theorem handed_both {H : Type} {enc : TypeId × Value → H} {a : Assume} {C : Checked} {os : Os} {f : FuncId} {fn : Func} {s : ChangeSpec} {conds : List PathCond} {apart fresh handsOn again : Bool} {X : World → Array Value → Prop}
    (_hX : ∀ (w w' : World) (args : Array Value), w.heap = w'.heap → X w args → X w' args)
    (own : ownKnob C.prog.godebug = none) (started : os.Started) (noInit : C.prog.inits.idxOf? f = none) (hfn : C.prog.funcs[f]? = some fn)
    (witness : ∃ (w : World) (tape : Tape) (i : Input), w.os = os ∧ (w.forCall tape i).Shaped C.prog ∧ i.vars = [] ∧ Input.okWide C.prog (w.forCall tape i) .any w.heap.size f i ∧
      ((s.pre enc C.prog fn conds apart (w.forCall tape i).memory i.args ∧ X (w.forCall tape i).memory i.args) ∧ sizedMet enc C.prog fn (OpenSpec.ofChange s) apart (w.forCall tape i).memory i.args) ∧ a.holds C.prog (lone (Frame.enter C.prog f i.args .normal) [] (w.forCall tape i)))
    (contract : ∀ (W : World) (base : Nat) (args : Array Value) (ds gs : List (DataW H)) (before : List MemPlace),
      (∀ (j : Nat) t v, fn.params[j]? = some t → args[j]? = some v → Value.okWide C.prog W .any base t v) →
      DataW.Whole enc C.prog fn.params.toList s.vars apart W args.toList ds gs before → W.ShapedOpen C.prog →
      Calls C.prog f args W fun e W' => ∃ v, e = .returned v ∧ s.post enc C.prog fn apart fresh handsOn again W args v W') :
    ReturnsInHanded a C os f .any (fun w args => (s.pre enc C.prog fn conds apart w args ∧ X w args) ∧ sizedMet enc C.prog fn (OpenSpec.ofChange s) apart w args) (s.post enc C.prog fn apart fresh handsOn again) := by
  refine returnsInHanded_of_calls own started noInit witness ?_
  intro w tape i _ hsh _ hok hpre _
  obtain ⟨_, _, _, fn', hfn', _, _, _, _, hval⟩ := hok
  have e : fn' = fn := Option.some.inj (hfn'.symm.trans hfn)
  subst e
  obtain ⟨⟨⟨ds, gs, before, hw, _⟩, _⟩, _⟩ := hpre
  have hw' := DataW.Whole.of_heap (w' := w.forCall tape i) (by rfl) hw
  refine (contract (w.forCall tape i) w.heap.size i.args ds gs before hval hw' hsh).mono fun e W' ⟨v, he, hp⟩ => ?_
  subst he
  exact ChangeSpec.post_blind hp

theorem mbOwn : ownKnob Tryz.prog.godebug = none := by kernel_rfl
theorem mbLaidOut : laidOutB Tryz.prog = true := laidOut_eq
theorem mbRec : Tryz.prog.readableRec 23 = true := by kernel_rfl
theorem mbRow : 23 < Tryz.prog.types.size := of_decide_eq_true (by kernel_rfl)
theorem mbCells : Tryz.prog.cellTypes Tryz.prog.depth 23 = some [3, 9, 3] := by kernel_rfl
theorem mbSize : Tryz.prog.cellsOf 23 = 3 := by kernel_rfl
theorem cell_int {W : World} {b : Nat} {v : Value} (h : Cell.okWide Tryz.prog W .any b 3 v) : ∃ n : Int, v = .int .i64 n := by
  simp only [Cell.okWide, Tryz.underlying3] at h
  cases v <;> simp_all [Cell.ok, Tryz.underlying3]
theorem cell_str {W : World} {b : Nat} {v : Value} (h : Cell.okWide Tryz.prog W .any b 9 v) : ∃ s, v = .string s := by
  simp only [Cell.okWide, Tryz.underlying9] at h
  cases v <;> simp_all [Cell.ok, Tryz.underlying9]
/-- a Rank is three cells: a number, a text, a number -/
theorem rank_form {W : World} {b : Nat} {v : Value} (h : Value.okWide Tryz.prog W .any b 23 v) : ∃ p l i, v = rk p l i := by
  obtain ⟨d, hd, hm⟩ := und23
  have hrow : ∃ cs, v = .agg cs ∧ cs.size = Tryz.prog.cellsOf 23 ∧ Row.okWide Tryz.prog W .any b 23 cs := by
    unfold Value.okWide at h
    rw [hd] at h
    cases d <;> first | exact h | cases hm
  obtain ⟨cs, rfl, hs, ts, hts, _, hc⟩ := hrow
  rw [mbSize] at hs
  rw [mbCells] at hts
  obtain rfl := Option.some.inj hts
  obtain ⟨_, e0, k0⟩ := hc 0 _ (Array.getElem?_eq_getElem (by omega))
  obtain ⟨_, e1, k1⟩ := hc 1 _ (Array.getElem?_eq_getElem (by omega))
  obtain ⟨_, e2, k2⟩ := hc 2 _ (Array.getElem?_eq_getElem (by omega))
  obtain rfl := (Option.some.inj e0)
  obtain rfl := (Option.some.inj e1)
  obtain rfl := (Option.some.inj e2)
  obtain ⟨p, hp⟩ := cell_int k0
  obtain ⟨s, hs1⟩ := cell_str k1
  obtain ⟨i, hi⟩ := cell_int k2
  refine ⟨p, s.data.toList, i, congrArg Value.agg (Array.ext (by simpa using hs) fun j hj _ => ?_)⟩
  obtain rfl | rfl | rfl : j = 0 ∨ j = 1 ∨ j = 2 := by omega
  · exact hp
  · rw [hs1]; simp
  · exact hi
/-- a Rank among the arguments reads behind the call as it did -/
theorem rank_stays {H : Type} {enc : TypeId × Value → H} {W W' : World} {v : Value} {d : DataW H} {ps : List MemPlace} (h : DataW.Trod enc Tryz.prog W 0 (fun _ => true) true 23 v d ps)
    (hb : Bel W.heap.size W W') (hlt : ∀ x ∈ ps, x.block < W.heap.size) : DataW.Trod enc Tryz.prog W' 0 (fun b => decide (b < W.heap.size)) true 23 v d ps :=
  WideElems.Trod_stays mbLaidOut mbRec mbRow h (fun x hx => by
    have hx' := hlt x hx
    cases x with
    | cell b o => exact World.cell?_of_block (w := W) (hb.block b hx')
    | map b => exact hb.block b hx') (fun x hx => by simpa using hlt x hx)
/-- some number lies in the variable that Cut asks for -/
theorem max_of {W : World} (h : W.ShapedOpen Tryz.prog) : MaxT W :=
  cell_of_shapedOpen_int (zero := #[.int .i64 0]) (t := 3) h (of_decide_eq_true (by kernel_rfl)) (by kernel_rfl) rfl (by kernel_rfl) (by kernel_rfl) Tryz.underlying3
/-- works() answers true in every world -/
theorem works_in (w : World) : WorksT 5 w := fun w' _ =>
  (wkTold.calls (LaidAt.arrs (arrs := []) (Nat.zero_le _) (fun _ h => by cases h))).mono fun _ _ ⟨he, hws, hs, hb⟩ => ⟨he, hws.1, hws.2, hs, hb⟩
end Go.Proofs.YtjadcoglgnabpaaGreatDoor
