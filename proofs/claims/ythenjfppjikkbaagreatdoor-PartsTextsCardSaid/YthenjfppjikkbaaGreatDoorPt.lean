/- The law PartsTexts, lifted from its walk to the form of the row. Conditions: none beyond the given row's own. -/
import Derived.Test.YthenjfppjikkbaaGreatDoorTie
import Derived.Test.YthenjfppjikkbaaGreatDoorCards
import Derived.WalkKit
import Derived.ProofKit
import Derived.Handy
import Derived.Lay
import Derived.SevenTiedAt
import Derived.Carry
import Derived.ChangeMaps5
import Derived.Test.YthenjfppjikkbaaGreatDoorWkRun
import Derived.Test.YthenjfppjikkbaaGreatDoorWkLv
import Derived.Test.YthenjfppjikkbaaGreatDoorWc
namespace Go.Proofs.YthenjfppjikkbaaGreatDoor
open Go.ChangeMaps Go.ChangeShapes Go.WideShapes Go.ChangeAt Go.RowKit Go.Abs
theorem ptOwn : ownKnob Tryz.prog.godebug = none := by kernel_rfl
/-- works() answers true wherever the variable is as it was laid, and in every later world -/
theorem works_in (W : World) (h : laidMetH Tryz.prog Rows.partsTextsRow.laid W) : Pt.WorksT 4 W := fun _ hb =>
  (wkTold.calls ((wkAt W h).later hb.size hb.block)).mono fun _ _ ⟨he, hws, hs, hk⟩ => ⟨he, hws.1, hws.2, hs, hk⟩
set_option maxRecDepth 100000 in
theorem ptLifted (os : Os) (started : os.Started) (H : Type) (enc : TypeId × Value → H) :
    ReturnsInHanded {} Tryz.checked os 3 .any (fun w args => (Rows.partsTextsSpec.pre enc Tryz.prog Tryz.f3 [] false w args ∧ laidMetH Tryz.prog Rows.partsTextsRow.laid w) ∧ sizedMet enc Tryz.prog Tryz.f3 (OpenSpec.ofChange Rows.partsTextsSpec) false w args)
      (Rows.partsTextsSpec.post enc Tryz.prog Tryz.f3 false true false false) := by
  refine returnsInHanded_of_change_and (C := Tryz.checked) (X := fun w _ => laidMetH Tryz.prog Rows.partsTextsRow.laid w) (fun _ _ _ hh h => h.of_heap hh) ptOwn started (by kernel_rfl) Tryz.func3
    (ChangeSpec.witness_shaped (enc := enc) (C := Tryz.checked) (os := os) (X := fun w _ => laidMetH Tryz.prog Rows.partsTextsRow.laid w) false (World.laidAll Tryz.prog os Rows.partsTextsRow.laid) #[.string ⟨#[]⟩] 8 (World.laidAll_os _ _ _)
      (World.shaped_of_ZipB (by kernel_rfl) (by kernel_rfl)) (by kernel_rfl) (by kernel_rfl) (by kernel_rfl)
      (by rw [MakeChecks.laidMetH_plain _ _ _ (by kernel_rfl)]; exact laidMet_laidAll _ (by kernel_rfl) (by kernel_rfl))) ?_
  intro W base args ds gs before hval0 hW _ _ hX _
  have hval : ∀ (j : Nat) t v, Tryz.f3.params[j]? = some t → args[j]? = some v → Value.okWide Tryz.prog W .any base t v := hval0
  have hW' := hW
  obtain ⟨p, q, hA0, hV, rfl, _, _⟩ := hW
  have hA : DataW.TrodAll enc Tryz.prog W 0 (fun _ => true) true Tryz.f3.params.toList args.toList ds p := hA0
  rw [Tryz.params3] at hA hval
  obtain ⟨v, d, rfl, rfl, h0⟩ := trodAll_one hA
  obtain ⟨rfl, rfl⟩ := trodVars_none hV
  obtain ⟨s, rfl, rfl, rfl, hs⟩ := open_string Tryz.underlying9 (hval 0 9 v rfl rfl) h0
  obtain ⟨l, rfl⟩ : ∃ l : List UInt8, s = ⟨l.toArray⟩ := ⟨s.data.toList, by cases s; simp⟩
  refine (Pt.PartsTexts_any l W (works_in W hX)).mono fun e W' ⟨he, hb⟩ => ?_
  subst he
  refine ⟨_, rfl, _, _, _, [], [], [], hW', trodAll_mk1 (shut_bool Tryz.underlying4 _), ?_, rfl, kept ⟨hb.os, hb.output⟩ hb.block _, fun h => by cases h⟩
  show DataW.TrodAll enc Tryz.prog W' 0 _ true Tryz.f3.params.toList _ _ _
  rw [Tryz.params3]
  exact trodAll_mk1 (shut_string Tryz.underlying9 hs)
end Go.Proofs.YthenjfppjikkbaaGreatDoor
