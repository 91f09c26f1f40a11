/-
  ConstructRefusals: for every rule of steps, every kind and every refusal the call returns true, and the arguments read as before. No condition.
-/
import Derived.Test.YtppflbccfdbogaaHRefusalsa
namespace Go.Proofs.Ytppflbccfdbogaa
open Go.ChangeShapes Go.WideShapes Go.ChangeAt Go.RowKit Go.Eng Go.Eng.Ytppflbccfdbogaa
set_option linter.unusedVariables false
set_option maxRecDepth 100000 in
theorem refusals_holds_lifted (os : Os) (started : os.Started) (H : Type) (enc : TypeId × Value → H) :
    ReturnsInHanded {} Try.checked os 14 .any (Rows.constructRefusalsSpec.pre6 enc Try.prog Try.f14 Rows.constructRefusalsRow.domain false) (Rows.constructRefusalsSpec.post enc Try.prog Try.f14 false true false false) := by
  refine returnsInHanded_of_change (C := Try.checked) own started (by kernel_rfl) Try.func14
    (ChangeSpec.witness6 (enc := enc) (C := Try.checked) false ⟨#[], #[.agg #[.int .i64 0, .int .i64 0, .int .i64 0, .int .i64 0, .int .i64 0, .int .i64 0, .int .i64 0], .string ⟨#[]⟩, .agg #[.string ⟨#[]⟩, .int .i64 0, .int .i64 0, .slice none 0 0, .int .i64 0]], []⟩ 8 (by kernel_rfl) (by kernel_rfl) (by kernel_rfl) (by kernel_rfl)) ?_
  intro W base args ds gs before hval0 hW hcnd _
  have hval : ∀ (j : Nat) t v, Try.f14.params[j]? = some t → args[j]? = some v → Value.okWide Try.prog W .any base t v := hval0
  have hW' := hW
  obtain ⟨p, q, hA0, hV, rfl, hfz, hnd⟩ := hW
  have hA : DataW.TrodAll enc Try.prog W 0 (fun _ => true) true Try.f14.params.toList args.toList ds p := hA0
  rw [Try.params14] at hA hval
  obtain ⟨v0, v1, v2, d0, d1, d2, p0, p1, p2, rfl, rfl, rfl, h0, h1, h2⟩ := trodAll_three hA
  obtain ⟨ps0, hl0, hok0, hr0⟩ := open_agg (.inl ⟨_, Try.underlying24⟩) o24 (hval 0 24 v0 rfl rfl) h0
  obtain ⟨a0_0, a0_1, a0_2, a0_3, a0_4, a0_5, a0_6, rfl⟩ : ∃ a0_0 a0_1 a0_2 a0_3 a0_4 a0_5 a0_6, ps0 = [a0_0, a0_1, a0_2, a0_3, a0_4, a0_5, a0_6] := by
    match ps0, hl0 with
    | [a0_0, a0_1, a0_2, a0_3, a0_4, a0_5, a0_6], _ => exact ⟨_, _, _, _, _, _, _, rfl⟩
  obtain ⟨x0_0, e0_0, w0_0⟩ := hok0 0 (by decide)
  obtain ⟨x0_1, e0_1, w0_1⟩ := hok0 1 (by decide)
  obtain ⟨x0_2, e0_2, w0_2⟩ := hok0 2 (by decide)
  obtain ⟨x0_3, e0_3, w0_3⟩ := hok0 3 (by decide)
  obtain ⟨x0_4, e0_4, w0_4⟩ := hok0 4 (by decide)
  obtain ⟨x0_5, e0_5, w0_5⟩ := hok0 5 (by decide)
  obtain ⟨x0_6, e0_6, w0_6⟩ := hok0 6 (by decide)
  simp only [getL] at e0_0 e0_1 e0_2 e0_3 e0_4 e0_5 e0_6
  subst e0_0 e0_1 e0_2 e0_3 e0_4 e0_5 e0_6
  obtain ⟨q1, hq1, hr1⟩ := open_leaf (.inr (.inl Try.underlying9)) o9 (hval 1 9 v1 rfl rfl) h1
  obtain ⟨x1_0, rfl, w1_0⟩ := hq1
  obtain ⟨ps2, hl2, hok2, hr2⟩ := open_agg (.inl ⟨_, Try.underlying37⟩) o37 (hval 2 37 v2 rfl rfl) h2
  obtain ⟨a2_0, a2_1, a2_2, a2_3, a2_4, rfl⟩ : ∃ a2_0 a2_1 a2_2 a2_3 a2_4, ps2 = [a2_0, a2_1, a2_2, a2_3, a2_4] := by
    match ps2, hl2 with
    | [a2_0, a2_1, a2_2, a2_3, a2_4], _ => exact ⟨_, _, _, _, _, rfl⟩
  obtain ⟨x2_0, e2_0, w2_0⟩ := hok2 0 (by decide)
  obtain ⟨x2_1, e2_1, w2_1⟩ := hok2 1 (by decide)
  obtain ⟨x2_2, e2_2, w2_2⟩ := hok2 2 (by decide)
  obtain ⟨x2_3, e2_3, w2_3⟩ := hok2 3 (by decide)
  obtain ⟨x2_4, e2_4, w2_4⟩ := hok2 4 (by decide)
  simp only [getL] at e2_0 e2_1 e2_2 e2_3 e2_4
  subst e2_0 e2_1 e2_2 e2_3 e2_4
  refine (below_of (refusals_law x0_0 x0_1 x0_2 x0_3 x0_4 x0_5 x0_6 x1_0 x2_0 x2_1 x2_2 x2_3 x2_4) ⟨rfl, fun i hi => ?_⟩).mono fun e W' ⟨he, hB⟩ => ?_
  · match i, hi with
    | 0, _ => exact hr0
    | 1, _ => exact hr1
    | 2, _ => exact hr2
  · subst he
    exact ⟨_, rfl, law_post (tb := 4) laidOut (by kernel_rfl) Try.underlying4 (by kernel_rfl) rfl rfl hW' hB⟩
theorem refusals_holds : Rows.ConstructRefusalsSaid :=
  OpenClaim.holds_of_wide 14 Try.f14 rfl rfl rfl rfl rfl rfl rfl ⟨rfl, rfl, rfl, rfl, rfl⟩ rfl rfl rfl rfl rfl (by kernel_rfl) Try.func14 (by kernel_rfl)
    (of_decide_eq_true (by kernel_rfl)) (by unfold Func.isWrapper; rw [if_neg (by decide +kernel)]; exact ⟨rfl, rfl⟩)
    (fun os started H enc _ => refusals_holds_lifted os started H enc)
#print axioms refusals_holds
end Go.Proofs.Ytppflbccfdbogaa
