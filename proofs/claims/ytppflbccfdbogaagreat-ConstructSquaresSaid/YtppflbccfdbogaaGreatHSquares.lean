/-
  The law ConstructSquares: if TernaryAdmits, all rows, columns and both diagonals of the square of the forms have the constant, and the same sum of squares; Bimagic has both. No condition.
-/
import Derived.Test.YtppflbccfdbogaaGreatHSquaresb
namespace Go.Proofs.YtppflbccfdbogaaGreat
open Go.ChangeShapes Go.WideShapes Go.ChangeAt Go.RowKit Go.Eng Go.Eng.YtppflbccfdbogaaGreat
set_option linter.unusedVariables false
set_option maxRecDepth 100000 in
theorem squares_holds_lifted (os : Os) (started : os.Started) (H : Type) (enc : TypeId × Value → H) :
    ReturnsInHanded {} Tryz.checked os 4 .any (Rows.constructSquaresSpec.pre6 enc Tryz.prog Tryz.f4 Rows.constructSquaresRow.domain false) (Rows.constructSquaresSpec.post enc Tryz.prog Tryz.f4 false true false false) := by
  refine returnsInHanded_of_change (C := Tryz.checked) own started (by kernel_rfl) Tryz.func4
    (ChangeSpec.witness6 (enc := enc) (C := Tryz.checked) false ⟨#[], #[.agg #[.int .i64 0, .int .i64 0, .int .i64 0, .int .i64 0, .int .i64 0, .int .i64 0, .int .i64 0, .int .i64 0, .int .i64 0, .int .i64 0, .int .i64 0, .int .i64 0, .int .i64 0, .int .i64 0, .int .i64 0, .int .i64 0]], []⟩ 8 (by kernel_rfl) (by kernel_rfl) (by kernel_rfl) (by kernel_rfl)) ?_
  intro W base args ds gs before hval0 hW hcnd _
  have hval : ∀ (j : Nat) t v, Tryz.f4.params[j]? = some t → args[j]? = some v → Value.okWide Tryz.prog W .any base t v := hval0
  have hW' := hW
  obtain ⟨p, q, hA0, hV, rfl, hfz, hnd⟩ := hW
  have hA : DataW.TrodAll enc Tryz.prog W 0 (fun _ => true) true Tryz.f4.params.toList args.toList ds p := hA0
  rw [Tryz.params4] at hA hval
  obtain ⟨v0, d0, rfl, rfl, h0⟩ := trodAll_one hA
  obtain ⟨ps0, hl0, hok0, hr0⟩ := open_agg (.inr ⟨_, _, Tryz.underlying23⟩) o23 (hval 0 23 v0 rfl rfl) h0
  obtain ⟨a0_0, a0_1, a0_2, a0_3, a0_4, a0_5, a0_6, a0_7, a0_8, a0_9, a0_10, a0_11, a0_12, a0_13, a0_14, a0_15, rfl⟩ : ∃ a0_0 a0_1 a0_2 a0_3 a0_4 a0_5 a0_6 a0_7 a0_8 a0_9 a0_10 a0_11 a0_12 a0_13 a0_14 a0_15, ps0 = [a0_0, a0_1, a0_2, a0_3, a0_4, a0_5, a0_6, a0_7, a0_8, a0_9, a0_10, a0_11, a0_12, a0_13, a0_14, a0_15] := by
    match ps0, hl0 with
    | [a0_0, a0_1, a0_2, a0_3, a0_4, a0_5, a0_6, a0_7, a0_8, a0_9, a0_10, a0_11, a0_12, a0_13, a0_14, a0_15], _ => exact ⟨_, _, _, _, _, _, _, _, _, _, _, _, _, _, _, _, rfl⟩
  obtain ⟨x0_0, e0_0, w0_0⟩ := hok0 0 (by decide)
  obtain ⟨x0_1, e0_1, w0_1⟩ := hok0 1 (by decide)
  obtain ⟨x0_2, e0_2, w0_2⟩ := hok0 2 (by decide)
  obtain ⟨x0_3, e0_3, w0_3⟩ := hok0 3 (by decide)
  obtain ⟨x0_4, e0_4, w0_4⟩ := hok0 4 (by decide)
  obtain ⟨x0_5, e0_5, w0_5⟩ := hok0 5 (by decide)
  obtain ⟨x0_6, e0_6, w0_6⟩ := hok0 6 (by decide)
  obtain ⟨x0_7, e0_7, w0_7⟩ := hok0 7 (by decide)
  obtain ⟨x0_8, e0_8, w0_8⟩ := hok0 8 (by decide)
  obtain ⟨x0_9, e0_9, w0_9⟩ := hok0 9 (by decide)
  obtain ⟨x0_10, e0_10, w0_10⟩ := hok0 10 (by decide)
  obtain ⟨x0_11, e0_11, w0_11⟩ := hok0 11 (by decide)
  obtain ⟨x0_12, e0_12, w0_12⟩ := hok0 12 (by decide)
  obtain ⟨x0_13, e0_13, w0_13⟩ := hok0 13 (by decide)
  obtain ⟨x0_14, e0_14, w0_14⟩ := hok0 14 (by decide)
  obtain ⟨x0_15, e0_15, w0_15⟩ := hok0 15 (by decide)
  simp only [getL] at e0_0 e0_1 e0_2 e0_3 e0_4 e0_5 e0_6 e0_7 e0_8 e0_9 e0_10 e0_11 e0_12 e0_13 e0_14 e0_15
  subst e0_0 e0_1 e0_2 e0_3 e0_4 e0_5 e0_6 e0_7 e0_8 e0_9 e0_10 e0_11 e0_12 e0_13 e0_14 e0_15
  refine (below_of (squares_law x0_0 x0_1 x0_2 x0_3 x0_4 x0_5 x0_6 x0_7 x0_8 x0_9 x0_10 x0_11 x0_12 x0_13 x0_14 x0_15) ⟨rfl, fun i hi => ?_⟩).mono fun e W' ⟨he, hB⟩ => ?_
  · match i, hi with
    | 0, _ => exact hr0
  · subst he
    exact ⟨_, rfl, law_post (tb := 4) laidOut (by kernel_rfl) Tryz.underlying4 (by kernel_rfl) rfl rfl hW' hB⟩
theorem squares_holds : Rows.ConstructSquaresSaid :=
  OpenClaim.holds_of_wide 4 Tryz.f4 rfl rfl rfl rfl rfl rfl rfl ⟨rfl, rfl, rfl, rfl, rfl⟩ rfl rfl rfl rfl rfl (by kernel_rfl) Tryz.func4 (by kernel_rfl)
    (of_decide_eq_true (by kernel_rfl)) (by unfold Func.isWrapper; rw [if_neg (by decide +kernel)]; exact ⟨rfl, rfl⟩)
    (fun os started H enc _ => squares_holds_lifted os started H enc)
#print axioms squares_holds
end Go.Proofs.YtppflbccfdbogaaGreat
