/-
  The law TopLoomForms: if TernaryAdmits, the square of the forms is magic, and Multimagic says that it is bimagic at least; exchanging the digits of rows and columns, and doubling forms, keeps what TernaryAdmits says. No condition.
-/
import Derived.Test.YtobnbkoeocdhbaaGreatDoorHFormsc
namespace Go.Proofs.YtobnbkoeocdhbaaGreatDoor
open Go.ChangeShapes Go.WideShapes Go.ChangeAt Go.RowKit Go.Eng Go.Eng.YtobnbkoeocdhbaaGreatDoor
set_option linter.unusedVariables false
set_option maxRecDepth 100000 in
theorem forms_holds_lifted (os : Os) (started : os.Started) (H : Type) (enc : TypeId × Value → H) :
    ReturnsInHanded {} Tryz.checked os 5 .any (fun w args => (Rows.topLoomFormsSpec.pre enc Tryz.prog Tryz.f5 [] false w args ∧ laidMetH Tryz.prog laidL w) ∧ sizedMet enc Tryz.prog Tryz.f5 (OpenSpec.ofChange Rows.topLoomFormsSpec) false w args) (Rows.topLoomFormsSpec.post enc Tryz.prog Tryz.f5 false true false false) := by
  refine returnsInHanded_of_change_and (C := Tryz.checked) (X := fun w _ => laidMetH Tryz.prog laidL w) (fun _ _ _ hh h => h.of_heap hh) own started (by kernel_rfl) Tryz.func5
    (ChangeSpec.witness_shaped (enc := enc) (C := Tryz.checked) (os := os) (X := fun w _ => laidMetH Tryz.prog laidL w) false (World.doorLaid Tryz.prog 600 os) #[.agg #[.int .i64 0, .int .i64 0, .int .i64 0, .int .i64 0, .int .i64 0, .int .i64 0, .int .i64 0, .int .i64 0, .int .i64 0, .int .i64 0, .int .i64 0, .int .i64 0, .int .i64 0, .int .i64 0, .int .i64 0, .int .i64 0], .int .u8 0] 8 rfl (World.shaped_of_RefB (by kernel_rfl) (by kernel_rfl)) (by kernel_rfl) (by kernel_rfl) (by kernel_rfl) (door_met os _)) ?_
  intro W base args ds gs before hval0 hW _ _ hL _
  have hval : ∀ (j : Nat) t v, Tryz.f5.params[j]? = some t → args[j]? = some v → Value.okWide Tryz.prog W .any base t v := hval0
  have hW' := hW
  obtain ⟨p, q, hA0, hV, rfl, hfz, hnd⟩ := hW
  have hA : DataW.TrodAll enc Tryz.prog W 0 (fun _ => true) true Tryz.f5.params.toList args.toList ds p := hA0
  rw [Tryz.params5] at hA hval
  obtain ⟨v0, v1, d0, d1, p0, p1, rfl, rfl, rfl, h0, h1⟩ := trodAll_two hA
  obtain ⟨ps0, hl0, hok0, hr0⟩ := open_agg (.inr ⟨_, _, Tryz.underlying58⟩) o58 (hval 0 58 v0 rfl rfl) h0
  obtain ⟨a0_0, a0_1, a0_2, a0_3, a0_4, a0_5, a0_6, a0_7, a0_8, a0_9, a0_10, a0_11, a0_12, a0_13, a0_14, a0_15, rfl⟩ : ∃ a0_0 a0_1 a0_2 a0_3 a0_4 a0_5 a0_6 a0_7 a0_8 a0_9 a0_10 a0_11 a0_12 a0_13 a0_14 a0_15, ps0 = [a0_0, a0_1, a0_2, a0_3, a0_4, a0_5, a0_6, a0_7, a0_8, a0_9, a0_10, a0_11, a0_12, a0_13, a0_14, a0_15] := by
    match ps0, hl0 with
    | [a0_0, a0_1, a0_2, a0_3, a0_4, a0_5, a0_6, a0_7, a0_8, a0_9, a0_10, a0_11, a0_12, a0_13, a0_14, a0_15], _ => exact ⟨_, _, _, _, _, _, _, _, _, _, _, _, _, _, _, _, rfl⟩
  obtain ⟨x0_0, e0_0, w0_0⟩ := hok0 0 (by decide)
  obtain ⟨x0_1, e0_1, w0_1⟩ := hok0 1 (by decide)
  obtain ⟨x0_2, e0_2, w0_2⟩ := hok0 2 (by decide)
  obtain ⟨x0_3, e0_3, w0_3⟩ := hok0 3 (by decide)
  obtain ⟨x0_4, e0_4, w0_4⟩ := hok0 4 (by decide)
  obtain ⟨x0_5, e0_5, w0_5⟩ := hok0 5 (by decide)
  obtain ⟨x0_6, e0_6, w0_6⟩ := hok0 6 (by decide)
  obtain ⟨x0_7, e0_7, w0_7⟩ := hok0 7 (by decide)
  obtain ⟨x0_8, e0_8, w0_8⟩ := hok0 8 (by decide)
  obtain ⟨x0_9, e0_9, w0_9⟩ := hok0 9 (by decide)
  obtain ⟨x0_10, e0_10, w0_10⟩ := hok0 10 (by decide)
  obtain ⟨x0_11, e0_11, w0_11⟩ := hok0 11 (by decide)
  obtain ⟨x0_12, e0_12, w0_12⟩ := hok0 12 (by decide)
  obtain ⟨x0_13, e0_13, w0_13⟩ := hok0 13 (by decide)
  obtain ⟨x0_14, e0_14, w0_14⟩ := hok0 14 (by decide)
  obtain ⟨x0_15, e0_15, w0_15⟩ := hok0 15 (by decide)
  simp only [getL] at e0_0 e0_1 e0_2 e0_3 e0_4 e0_5 e0_6 e0_7 e0_8 e0_9 e0_10 e0_11 e0_12 e0_13 e0_14 e0_15
  subst e0_0 e0_1 e0_2 e0_3 e0_4 e0_5 e0_6 e0_7 e0_8 e0_9 e0_10 e0_11 e0_12 e0_13 e0_14 e0_15
  obtain ⟨q1, hq1, hr1⟩ := open_leaf (.inl ⟨_, Tryz.underlying5⟩) o5 (hval 1 5 v1 rfl rfl) h1
  obtain ⟨x1_0, rfl, w1_0⟩ := hq1
  refine (below_of (forms_law x0_0 x0_1 x0_2 x0_3 x0_4 x0_5 x0_6 x0_7 x0_8 x0_9 x0_10 x0_11 x0_12 x0_13 x0_14 x0_15 x1_0 (u8_wf w1_0)) ⟨rfl, fun i hi => ?_⟩).mono fun e W' ⟨he, hB⟩ => ?_
  · match i, hi with
    | 0, _ => exact hr0
    | 1, _ => exact hr1
  · subst he
    exact ⟨_, rfl, law_post (tb := 4) laidOut (by kernel_rfl) Tryz.underlying4 (by kernel_rfl) rfl rfl hW' hB⟩
theorem forms_holds_row : Rows.TopLoomFormsSaid :=
  OpenClaim.holds_of_wide 5 Tryz.f5 rfl rfl rfl rfl rfl rfl rfl ⟨rfl, rfl, rfl, rfl, rfl⟩ rfl rfl rfl rfl rfl (by kernel_rfl) Tryz.func5 (by kernel_rfl)
    (of_decide_eq_true (by kernel_rfl)) (by unfold Func.isWrapper; rw [if_neg (by decide +kernel)]; exact ⟨rfl, rfl⟩)
    (fun os started H enc _ => forms_holds_lifted os started H enc)
theorem forms_holds : Rows.TopLoomFormsCardSaid :=
  Claim7.holds_tied_plain_at .later [] [.data, .data, .data] true (true, "c50565a9fb9c87da62d65b88b0fa5e12aa328f89519cb1b80ea96e9325f43636") false
    forms_holds_row (fun _ h => by cases h) (by kernel_rfl) (fun _ h => by cases h) topLoomForms_row_tie rfl ⟨rfl, rfl⟩ (by kernel_rfl) rfl
    (fun f fn hf hfn => by
      obtain rfl : f = 5 := Option.some.inj ((show Tryz.prog.funcNamed "talisman/talismantop.TopLoomForms" = some 5 by kernel_rfl).symm.trans hf) |>.symm
      obtain rfl : fn = Tryz.f5 := (Option.some.inj (Tryz.func5.symm.trans hfn)).symm
      exact ⟨by kernel_rfl, fun j t ht => by
        rw [Tryz.params5] at ht
        have hm : t ∈ [58, 5] := by simpa using Array.mem_of_getElem? ht
        have hall : ([58, 5].all fun u => !Tryz.prog.wantsStandIn u) = true := by kernel_rfl
        exact (show Tryz.prog.wantsStandIn t = false by simpa using List.all_eq_true.1 hall t hm)⟩)
    (by kernel_rfl)
#print axioms forms_holds
end Go.Proofs.YtobnbkoeocdhbaaGreatDoor
