/-
  ConstructComposes: for every two squares and every pair of sizes the call returns true, and the arguments read as before. No condition.
-/
import Derived.Test.YtppflbccfdbogaaHComposesa
namespace Go.Proofs.Ytppflbccfdbogaa
open Go.ChangeShapes Go.WideShapes Go.ChangeAt Go.RowKit Go.Eng Go.Eng.Ytppflbccfdbogaa
set_option linter.unusedVariables false
set_option maxRecDepth 100000 in
theorem composes_holds_lifted (os : Os) (started : os.Started) (H : Type) (enc : TypeId × Value → H) :
    ReturnsInHanded {} Try.checked os 8 .any (Rows.constructComposesSpec.pre6 enc Try.prog Try.f8 Rows.constructComposesRow.domain false) (Rows.constructComposesSpec.post enc Try.prog Try.f8 false true false false) := by
  refine returnsInHanded_of_change (C := Try.checked) own started (by kernel_rfl) Try.func8
    (ChangeSpec.witness6 (enc := enc) (C := Try.checked) false ⟨#[], #[.agg #[.int .i64 0, .int .i64 0, .slice none 0 0], .agg #[.int .i64 0, .int .i64 0, .slice none 0 0], .agg #[.int .i64 0, .int .i64 0]], []⟩ 8 (by kernel_rfl) (by kernel_rfl) (by kernel_rfl) (by kernel_rfl)) ?_
  intro W base args ds gs before hval0 hW hcnd _
  have hval : ∀ (j : Nat) t v, Try.f8.params[j]? = some t → args[j]? = some v → Value.okWide Try.prog W .any base t v := hval0
  have hW' := hW
  obtain ⟨p, q, hA0, hV, rfl, hfz, hnd⟩ := hW
  have hA : DataW.TrodAll enc Try.prog W 0 (fun _ => true) true Try.f8.params.toList args.toList ds p := hA0
  rw [Try.params8] at hA hval
  obtain ⟨v0, v1, v2, d0, d1, d2, p0, p1, p2, rfl, rfl, rfl, h0, h1, h2⟩ := trodAll_three hA
  obtain ⟨ps0, hl0, hok0, hr0⟩ := open_agg (.inl ⟨_, Try.underlying42⟩) o42 (hval 0 42 v0 rfl rfl) h0
  obtain ⟨a0_0, a0_1, a0_2, rfl⟩ : ∃ a0_0 a0_1 a0_2, ps0 = [a0_0, a0_1, a0_2] := by
    match ps0, hl0 with
    | [a0_0, a0_1, a0_2], _ => exact ⟨_, _, _, rfl⟩
  obtain ⟨x0_0, e0_0, w0_0⟩ := hok0 0 (by decide)
  obtain ⟨x0_1, e0_1, w0_1⟩ := hok0 1 (by decide)
  obtain ⟨x0_2, e0_2, w0_2⟩ := hok0 2 (by decide)
  simp only [getL] at e0_0 e0_1 e0_2
  subst e0_0 e0_1 e0_2
  obtain ⟨ps1, hl1, hok1, hr1⟩ := open_agg (.inl ⟨_, Try.underlying42⟩) o42 (hval 1 42 v1 rfl rfl) h1
  obtain ⟨a1_0, a1_1, a1_2, rfl⟩ : ∃ a1_0 a1_1 a1_2, ps1 = [a1_0, a1_1, a1_2] := by
    match ps1, hl1 with
    | [a1_0, a1_1, a1_2], _ => exact ⟨_, _, _, rfl⟩
  obtain ⟨x1_0, e1_0, w1_0⟩ := hok1 0 (by decide)
  obtain ⟨x1_1, e1_1, w1_1⟩ := hok1 1 (by decide)
  obtain ⟨x1_2, e1_2, w1_2⟩ := hok1 2 (by decide)
  simp only [getL] at e1_0 e1_1 e1_2
  subst e1_0 e1_1 e1_2
  obtain ⟨ps2, hl2, hok2, hr2⟩ := open_agg (.inr ⟨_, _, Try.underlying22⟩) o22 (hval 2 22 v2 rfl rfl) h2
  obtain ⟨a2_0, a2_1, rfl⟩ : ∃ a2_0 a2_1, ps2 = [a2_0, a2_1] := by
    match ps2, hl2 with
    | [a2_0, a2_1], _ => exact ⟨_, _, rfl⟩
  obtain ⟨x2_0, e2_0, w2_0⟩ := hok2 0 (by decide)
  obtain ⟨x2_1, e2_1, w2_1⟩ := hok2 1 (by decide)
  simp only [getL] at e2_0 e2_1
  subst e2_0 e2_1
  refine (below_of (composes_law x0_0 x0_1 x0_2 x1_0 x1_1 x1_2 x2_0 x2_1) ⟨rfl, fun i hi => ?_⟩).mono fun e W' ⟨he, hB⟩ => ?_
  · match i, hi with
    | 0, _ => exact hr0
    | 1, _ => exact hr1
    | 2, _ => exact hr2
  · subst he
    exact ⟨_, rfl, law_post (tb := 4) laidOut (by kernel_rfl) Try.underlying4 (by kernel_rfl) rfl rfl hW' hB⟩
theorem composes_holds : Rows.ConstructComposesSaid :=
  OpenClaim.holds_of_wide 8 Try.f8 rfl rfl rfl rfl rfl rfl rfl ⟨rfl, rfl, rfl, rfl, rfl⟩ rfl rfl rfl rfl rfl (by kernel_rfl) Try.func8 (by kernel_rfl)
    (of_decide_eq_true (by kernel_rfl)) (by unfold Func.isWrapper; rw [if_neg (by decide +kernel)]; exact ⟨rfl, rfl⟩)
    (fun os started H enc _ => composes_holds_lifted os started H enc)
#print axioms composes_holds
end Go.Proofs.Ytppflbccfdbogaa
