/-
  ConstructExact: for every rule of steps and every kind the call returns true, and the arguments read as before. No condition.
-/
import Derived.Test.YtppflbccfdbogaaHExacta
namespace Go.Proofs.Ytppflbccfdbogaa
open Go.ChangeShapes Go.WideShapes Go.ChangeAt Go.RowKit Go.Eng Go.Eng.Ytppflbccfdbogaa
set_option linter.unusedVariables false
set_option maxRecDepth 100000 in
theorem exact_holds_lifted (os : Os) (started : os.Started) (H : Type) (enc : TypeId × Value → H) :
    ReturnsInHanded {} Try.checked os 15 .any (Rows.constructExactSpec.pre6 enc Try.prog Try.f15 Rows.constructExactRow.domain false) (Rows.constructExactSpec.post enc Try.prog Try.f15 false true false false) := by
  refine returnsInHanded_of_change (C := Try.checked) own started (by kernel_rfl) Try.func15
    (ChangeSpec.witness6 (enc := enc) (C := Try.checked) false ⟨#[], #[.agg #[.int .i64 0, .int .i64 0, .int .i64 0, .int .i64 0, .int .i64 0, .int .i64 0, .int .i64 0], .string ⟨#[]⟩], []⟩ 8 (by kernel_rfl) (by kernel_rfl) (by kernel_rfl) (by kernel_rfl)) ?_
  intro W base args ds gs before hval0 hW hcnd _
  have hval : ∀ (j : Nat) t v, Try.f15.params[j]? = some t → args[j]? = some v → Value.okWide Try.prog W .any base t v := hval0
  have hW' := hW
  obtain ⟨p, q, hA0, hV, rfl, hfz, hnd⟩ := hW
  have hA : DataW.TrodAll enc Try.prog W 0 (fun _ => true) true Try.f15.params.toList args.toList ds p := hA0
  rw [Try.params15] at hA hval
  obtain ⟨v0, v1, d0, d1, p0, p1, rfl, rfl, rfl, h0, h1⟩ := trodAll_two hA
  obtain ⟨ps0, hl0, hok0, hr0⟩ := open_agg (.inl ⟨_, Try.underlying24⟩) o24 (hval 0 24 v0 rfl rfl) h0
  obtain ⟨a0_0, a0_1, a0_2, a0_3, a0_4, a0_5, a0_6, rfl⟩ : ∃ a0_0 a0_1 a0_2 a0_3 a0_4 a0_5 a0_6, ps0 = [a0_0, a0_1, a0_2, a0_3, a0_4, a0_5, a0_6] := by
    match ps0, hl0 with
    | [a0_0, a0_1, a0_2, a0_3, a0_4, a0_5, a0_6], _ => exact ⟨_, _, _, _, _, _, _, rfl⟩
  obtain ⟨x0_0, e0_0, w0_0⟩ := hok0 0 (by decide)
  obtain ⟨x0_1, e0_1, w0_1⟩ := hok0 1 (by decide)
  obtain ⟨x0_2, e0_2, w0_2⟩ := hok0 2 (by decide)
  obtain ⟨x0_3, e0_3, w0_3⟩ := hok0 3 (by decide)
  obtain ⟨x0_4, e0_4, w0_4⟩ := hok0 4 (by decide)
  obtain ⟨x0_5, e0_5, w0_5⟩ := hok0 5 (by decide)
  obtain ⟨x0_6, e0_6, w0_6⟩ := hok0 6 (by decide)
  simp only [getL] at e0_0 e0_1 e0_2 e0_3 e0_4 e0_5 e0_6
  subst e0_0 e0_1 e0_2 e0_3 e0_4 e0_5 e0_6
  obtain ⟨q1, hq1, hr1⟩ := open_leaf (.inr (.inl Try.underlying9)) o9 (hval 1 9 v1 rfl rfl) h1
  obtain ⟨x1_0, rfl, w1_0⟩ := hq1
  refine (below_of (exact_law x0_0 x0_1 x0_2 x0_3 x0_4 x0_5 x0_6 x1_0) ⟨rfl, fun i hi => ?_⟩).mono fun e W' ⟨he, hB⟩ => ?_
  · match i, hi with
    | 0, _ => exact hr0
    | 1, _ => exact hr1
  · subst he
    exact ⟨_, rfl, law_post (tb := 4) laidOut (by kernel_rfl) Try.underlying4 (by kernel_rfl) rfl rfl hW' hB⟩
theorem exact_holds : Rows.ConstructExactSaid :=
  OpenClaim.holds_of_wide 15 Try.f15 rfl rfl rfl rfl rfl rfl rfl ⟨rfl, rfl, rfl, rfl, rfl⟩ rfl rfl rfl rfl rfl (by kernel_rfl) Try.func15 (by kernel_rfl)
    (of_decide_eq_true (by kernel_rfl)) (by unfold Func.isWrapper; rw [if_neg (by decide +kernel)]; exact ⟨rfl, rfl⟩)
    (fun os started H enc _ => exact_holds_lifted os started H enc)
#print axioms exact_holds
end Go.Proofs.Ytppflbccfdbogaa
