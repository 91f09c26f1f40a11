/-
  ConstructRules: for every order and every kind the call returns true, and the arguments read as before. No condition.
-/
import Derived.Test.YtppflbccfdbogaaHRulesa
namespace Go.Proofs.Ytppflbccfdbogaa
open Go.ChangeShapes Go.WideShapes Go.ChangeAt Go.RowKit Go.Eng Go.Eng.Ytppflbccfdbogaa
set_option linter.unusedVariables false
set_option maxRecDepth 100000 in
theorem rules_holds_lifted (os : Os) (started : os.Started) (H : Type) (enc : TypeId × Value → H) :
    ReturnsInHanded {} Try.checked os 9 .any (Rows.constructRulesSpec.pre6 enc Try.prog Try.f9 Rows.constructRulesRow.domain false) (Rows.constructRulesSpec.post enc Try.prog Try.f9 false true false false) := by
  refine returnsInHanded_of_change (C := Try.checked) own started (by kernel_rfl) Try.func9
    (ChangeSpec.witness6 (enc := enc) (C := Try.checked) false ⟨#[], #[.int .i64 0, .string ⟨#[]⟩], []⟩ 8 (by kernel_rfl) (by kernel_rfl) (by kernel_rfl) (by kernel_rfl)) ?_
  intro W base args ds gs before hval0 hW hcnd _
  have hval : ∀ (j : Nat) t v, Try.f9.params[j]? = some t → args[j]? = some v → Value.okWide Try.prog W .any base t v := hval0
  have hW' := hW
  obtain ⟨p, q, hA0, hV, rfl, hfz, hnd⟩ := hW
  have hA : DataW.TrodAll enc Try.prog W 0 (fun _ => true) true Try.f9.params.toList args.toList ds p := hA0
  rw [Try.params9] at hA hval
  obtain ⟨v0, v1, d0, d1, p0, p1, rfl, rfl, rfl, h0, h1⟩ := trodAll_two hA
  obtain ⟨q0, hq0, hr0⟩ := open_leaf (.inl ⟨_, Try.underlying3⟩) o3 (hval 0 3 v0 rfl rfl) h0
  obtain ⟨x0_0, rfl, w0_0⟩ := hq0
  obtain ⟨q1, hq1, hr1⟩ := open_leaf (.inr (.inl Try.underlying9)) o9 (hval 1 9 v1 rfl rfl) h1
  obtain ⟨x1_0, rfl, w1_0⟩ := hq1
  refine (below_of (rules_law x0_0 x1_0) ⟨rfl, fun i hi => ?_⟩).mono fun e W' ⟨he, hB⟩ => ?_
  · match i, hi with
    | 0, _ => exact hr0
    | 1, _ => exact hr1
  · subst he
    exact ⟨_, rfl, law_post (tb := 4) laidOut (by kernel_rfl) Try.underlying4 (by kernel_rfl) rfl rfl hW' hB⟩
theorem rules_holds : Rows.ConstructRulesSaid :=
  OpenClaim.holds_of_wide 9 Try.f9 rfl rfl rfl rfl rfl rfl rfl ⟨rfl, rfl, rfl, rfl, rfl⟩ rfl rfl rfl rfl rfl (by kernel_rfl) Try.func9 (by kernel_rfl)
    (of_decide_eq_true (by kernel_rfl)) (by unfold Func.isWrapper; rw [if_neg (by decide +kernel)]; exact ⟨rfl, rfl⟩)
    (fun os started H enc _ => rules_holds_lifted os started H enc)
#print axioms rules_holds
end Go.Proofs.Ytppflbccfdbogaa
