/-
  ConstructPerfect: for all numbers the call returns true, and the arguments read as before. No condition.
-/
import Derived.Test.YtppflbccfdbogaaHPerfecta
namespace Go.Proofs.Ytppflbccfdbogaa
open Go.ChangeShapes Go.WideShapes Go.ChangeAt Go.RowKit Go.Eng Go.Eng.Ytppflbccfdbogaa
set_option linter.unusedVariables false
set_option maxRecDepth 100000 in
theorem perfect_holds_lifted (os : Os) (started : os.Started) (H : Type) (enc : TypeId × Value → H) :
    ReturnsInHanded {} Try.checked os 12 .any (Rows.constructPerfectSpec.pre6 enc Try.prog Try.f12 Rows.constructPerfectRow.domain false) (Rows.constructPerfectSpec.post enc Try.prog Try.f12 false true false false) := by
  refine returnsInHanded_of_change (C := Try.checked) own started (by kernel_rfl) Try.func12
    (ChangeSpec.witness6 (enc := enc) (C := Try.checked) false ⟨#[], #[.int .u8 0, .int .u32 0, .int .u32 0], []⟩ 8 (by kernel_rfl) (by kernel_rfl) (by kernel_rfl) (by kernel_rfl)) ?_
  intro W base args ds gs before hval0 hW hcnd _
  have hval : ∀ (j : Nat) t v, Try.f12.params[j]? = some t → args[j]? = some v → Value.okWide Try.prog W .any base t v := hval0
  have hW' := hW
  obtain ⟨p, q, hA0, hV, rfl, hfz, hnd⟩ := hW
  have hA : DataW.TrodAll enc Try.prog W 0 (fun _ => true) true Try.f12.params.toList args.toList ds p := hA0
  rw [Try.params12] at hA hval
  obtain ⟨v0, v1, v2, d0, d1, d2, p0, p1, p2, rfl, rfl, rfl, h0, h1, h2⟩ := trodAll_three hA
  obtain ⟨q0, hq0, hr0⟩ := open_leaf (.inl ⟨_, Try.underlying5⟩) o5 (hval 0 5 v0 rfl rfl) h0
  obtain ⟨x0_0, rfl, w0_0⟩ := hq0
  obtain ⟨q1, hq1, hr1⟩ := open_leaf (.inl ⟨_, Try.underlying93⟩) o93 (hval 1 93 v1 rfl rfl) h1
  obtain ⟨x1_0, rfl, w1_0⟩ := hq1
  obtain ⟨q2, hq2, hr2⟩ := open_leaf (.inl ⟨_, Try.underlying93⟩) o93 (hval 2 93 v2 rfl rfl) h2
  obtain ⟨x2_0, rfl, w2_0⟩ := hq2
  refine (below_of (perfect_law' x0_0 x1_0 x2_0 w0_0 w1_0 w2_0) ⟨rfl, fun i hi => ?_⟩).mono fun e W' ⟨he, hB⟩ => ?_
  · match i, hi with
    | 0, _ => exact hr0
    | 1, _ => exact hr1
    | 2, _ => exact hr2
  · subst he
    exact ⟨_, rfl, law_post (tb := 4) laidOut (by kernel_rfl) Try.underlying4 (by kernel_rfl) rfl rfl hW' hB⟩
theorem perfect_holds : Rows.ConstructPerfectSaid :=
  OpenClaim.holds_of_wide 12 Try.f12 rfl rfl rfl rfl rfl rfl rfl ⟨rfl, rfl, rfl, rfl, rfl⟩ rfl rfl rfl rfl rfl (by kernel_rfl) Try.func12 (by kernel_rfl)
    (of_decide_eq_true (by kernel_rfl)) (by unfold Func.isWrapper; rw [if_neg (by decide +kernel)]; exact ⟨rfl, rfl⟩)
    (fun os started H enc _ => perfect_holds_lifted os started H enc)
#print axioms perfect_holds
end Go.Proofs.Ytppflbccfdbogaa
