/- The law ModesBefore, lifted from its walk to the form of the row, and the row. Conditions: none beyond the given row's own. -/
import Derived.Test.YtjadcoglgnabpaaGreatDoorLx
namespace Go.Proofs.YtjadcoglgnabpaaGreatDoor
open Go.ChangeShapes Go.WideShapes Go.ChangeAt Go.RowKit Go.Abs Go.Proofs.Nw
set_option maxRecDepth 100000 in
theorem bfLifted (os : Os) (started : os.Started) (H : Type) (enc : TypeId × Value → H) :
    ReturnsInHanded {} Tryz.checked os 3 .any (fun w args => (Rows.modesBeforeSpec.pre enc Tryz.prog Tryz.f3 [] false w args ∧ laidMetH Tryz.prog Rows.modesBeforeRow.laid w) ∧ sizedMet enc Tryz.prog Tryz.f3 (OpenSpec.ofChange Rows.modesBeforeSpec) false w args)
      (Rows.modesBeforeSpec.post enc Tryz.prog Tryz.f3 false true false false) := by
  refine handed_both (C := Tryz.checked) (X := fun w _ => laidMetH Tryz.prog Rows.modesBeforeRow.laid w) (fun _ _ _ hh h => h.of_heap hh) mbOwn started (by kernel_rfl) Tryz.func3
    (ChangeSpec.witness_shaped (enc := enc) (C := Tryz.checked) (os := os) (X := fun w _ => laidMetH Tryz.prog Rows.modesBeforeRow.laid w) false (World.laidAll Tryz.prog os Rows.modesBeforeRow.laid) #[.agg #[.int .i64 0, .string ⟨#[]⟩, .int .i64 0], .agg #[.int .i64 0, .string ⟨#[]⟩, .int .i64 0]] 8 (World.laidAll_os _ _ _)
      (World.shaped_of_ZipB (by kernel_rfl) (by kernel_rfl)) (by kernel_rfl) (by kernel_rfl) (by kernel_rfl)
      (by rw [MakeChecks.laidMetH_plain _ _ _ (by kernel_rfl)]; exact laidMet_laidAll _ (by kernel_rfl) (by kernel_rfl))) ?_
  intro W base args ds gs before hval0 hW hsh
  have hval : ∀ (j : Nat) t v, Tryz.f3.params[j]? = some t → args[j]? = some v → Value.okWide Tryz.prog W .any base t v := hval0
  have hW' := hW
  have hlt := hW.lt
  obtain ⟨p, q, hA0, hV, rfl, _, _⟩ := hW
  have hA : DataW.TrodAll enc Tryz.prog W 0 (fun _ => true) true Tryz.f3.params.toList args.toList ds p := hA0
  rw [Tryz.params3] at hA hval
  obtain ⟨v0, v1, d0, d1, p0, p1, rfl, rfl, rfl, h0, h1⟩ := trodAll_two hA
  obtain ⟨rfl, rfl⟩ := trodVars_none hV
  obtain ⟨pa, la, ia, rfl⟩ := rank_form (hval 0 23 v0 rfl rfl)
  obtain ⟨pb, lb, ib, rfl⟩ := rank_form (hval 1 23 v1 rfl rfl)
  refine (ModesBefore_any la lb pa ia pb ib W (max_of hsh) (works_in W)).mono fun e W' ⟨he, hb⟩ => ?_
  subst he
  refine ⟨_, rfl, _, _, _, [], p0 ++ p1, [], hW', trodAll_mk1 (shut_bool Tryz.underlying4 _), ?_, rfl, kept ⟨hb.os, hb.output⟩ hb.block _, fun h => by cases h⟩
  show DataW.TrodAll enc Tryz.prog W' 0 _ true Tryz.f3.params.toList _ _ _
  rw [Tryz.params3]
  exact trodAll_mk2 (rank_stays h0 hb fun x hx => hlt x (by simp [hx])) (rank_stays h1 hb fun x hx => hlt x (by simp [hx]))
end Go.Proofs.YtjadcoglgnabpaaGreatDoor
