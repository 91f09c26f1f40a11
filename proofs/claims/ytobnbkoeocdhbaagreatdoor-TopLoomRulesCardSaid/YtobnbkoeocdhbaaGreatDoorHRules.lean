/-
  The law TopLoomRules: the numbers of a rule say that it is semimagic, magic or pandiagonal exactly if its square is magic for the system of these lines; and a refusal by a sum names the cells of a line of this system. No condition.
-/
import Derived.Test.YtobnbkoeocdhbaaGreatDoorHRulesc
namespace Go.Proofs.YtobnbkoeocdhbaaGreatDoor
open Go.ChangeShapes Go.WideShapes Go.ChangeAt Go.RowKit Go.Eng Go.Eng.YtobnbkoeocdhbaaGreatDoor
set_option linter.unusedVariables false
set_option maxRecDepth 100000 in
theorem rules_holds_lifted (os : Os) (started : os.Started) (H : Type) (enc : TypeId × Value → H) :
    ReturnsInHanded {} Tryz.checked os 4 .any (fun w args => (Rows.topLoomRulesSpec.pre enc Tryz.prog Tryz.f4 [] false w args ∧ laidMetH Tryz.prog laidL w) ∧ sizedMet enc Tryz.prog Tryz.f4 (OpenSpec.ofChange Rows.topLoomRulesSpec) false w args) (Rows.topLoomRulesSpec.post enc Tryz.prog Tryz.f4 false true false false) := by
  refine returnsInHanded_of_change_and (C := Tryz.checked) (X := fun w _ => laidMetH Tryz.prog laidL w) (fun _ _ _ hh h => h.of_heap hh) own started (by kernel_rfl) Tryz.func4
    (ChangeSpec.witness_shaped (enc := enc) (C := Tryz.checked) (os := os) (X := fun w _ => laidMetH Tryz.prog laidL w) false (World.doorLaid Tryz.prog 600 os) #[.agg #[.int .i64 0, .int .i64 0, .int .i64 0, .int .i64 0, .int .i64 0, .int .i64 0, .int .i64 0], .string ⟨#[]⟩] 8 rfl (World.shaped_of_RefB (by kernel_rfl) (by kernel_rfl)) (by kernel_rfl) (by kernel_rfl) (by kernel_rfl) (door_met os _)) ?_
  intro W base args ds gs before hval0 hW _ _ hL _
  have hval : ∀ (j : Nat) t v, Tryz.f4.params[j]? = some t → args[j]? = some v → Value.okWide Tryz.prog W .any base t v := hval0
  have hW' := hW
  obtain ⟨p, q, hA0, hV, rfl, hfz, hnd⟩ := hW
  have hA : DataW.TrodAll enc Tryz.prog W 0 (fun _ => true) true Tryz.f4.params.toList args.toList ds p := hA0
  rw [Tryz.params4] at hA hval
  obtain ⟨v0, v1, d0, d1, p0, p1, rfl, rfl, rfl, h0, h1⟩ := trodAll_two hA
  obtain ⟨ps0, hl0, hok0, hr0⟩ := open_agg (.inl ⟨_, Tryz.underlying36⟩) o36 (hval 0 36 v0 rfl rfl) h0
  obtain ⟨a0_0, a0_1, a0_2, a0_3, a0_4, a0_5, a0_6, rfl⟩ : ∃ a0_0 a0_1 a0_2 a0_3 a0_4 a0_5 a0_6, ps0 = [a0_0, a0_1, a0_2, a0_3, a0_4, a0_5, a0_6] := by
    match ps0, hl0 with
    | [a0_0, a0_1, a0_2, a0_3, a0_4, a0_5, a0_6], _ => exact ⟨_, _, _, _, _, _, _, rfl⟩
  obtain ⟨x0_0, e0_0, w0_0⟩ := hok0 0 (by decide)
  obtain ⟨x0_1, e0_1, w0_1⟩ := hok0 1 (by decide)
  obtain ⟨x0_2, e0_2, w0_2⟩ := hok0 2 (by decide)
  obtain ⟨x0_3, e0_3, w0_3⟩ := hok0 3 (by decide)
  obtain ⟨x0_4, e0_4, w0_4⟩ := hok0 4 (by decide)
  obtain ⟨x0_5, e0_5, w0_5⟩ := hok0 5 (by decide)
  obtain ⟨x0_6, e0_6, w0_6⟩ := hok0 6 (by decide)
  simp only [getL] at e0_0 e0_1 e0_2 e0_3 e0_4 e0_5 e0_6
  subst e0_0 e0_1 e0_2 e0_3 e0_4 e0_5 e0_6
  obtain ⟨q1, hq1, hr1⟩ := open_leaf (.inr (.inl Tryz.underlying9)) o9 (hval 1 9 v1 rfl rfl) h1
  obtain ⟨x1_0, rfl, w1_0⟩ := hq1
  refine (below_of (rules_law x0_0 x0_1 x0_2 x0_3 x0_4 x0_5 x0_6 x1_0) ⟨rfl, fun i hi => ?_⟩).mono fun e W' ⟨he, hB⟩ => ?_
  · match i, hi with
    | 0, _ => exact hr0
    | 1, _ => exact hr1
  · subst he
    exact ⟨_, rfl, law_post (tb := 4) laidOut (by kernel_rfl) Tryz.underlying4 (by kernel_rfl) rfl rfl hW' hB⟩
theorem rules_holds_row : Rows.TopLoomRulesSaid :=
  OpenClaim.holds_of_wide 4 Tryz.f4 rfl rfl rfl rfl rfl rfl rfl ⟨rfl, rfl, rfl, rfl, rfl⟩ rfl rfl rfl rfl rfl (by kernel_rfl) Tryz.func4 (by kernel_rfl)
    (of_decide_eq_true (by kernel_rfl)) (by unfold Func.isWrapper; rw [if_neg (by decide +kernel)]; exact ⟨rfl, rfl⟩)
    (fun os started H enc _ => rules_holds_lifted os started H enc)
theorem rules_holds : Rows.TopLoomRulesCardSaid :=
  Claim7.holds_tied_plain_at .later [] [.data, .data, .data] true (true, "c50565a9fb9c87da62d65b88b0fa5e12aa328f89519cb1b80ea96e9325f43636") false
    rules_holds_row (fun _ h => by cases h) (by kernel_rfl) (fun _ h => by cases h) topLoomRules_row_tie rfl ⟨rfl, rfl⟩ (by kernel_rfl) rfl
    (fun f fn hf hfn => by
      obtain rfl : f = 4 := Option.some.inj ((show Tryz.prog.funcNamed "talisman/talismantop.TopLoomRules" = some 4 by kernel_rfl).symm.trans hf) |>.symm
      obtain rfl : fn = Tryz.f4 := (Option.some.inj (Tryz.func4.symm.trans hfn)).symm
      exact ⟨by kernel_rfl, fun j t ht => by
        rw [Tryz.params4] at ht
        have hm : t ∈ [36, 9] := by simpa using Array.mem_of_getElem? ht
        have hall : ([36, 9].all fun u => !Tryz.prog.wantsStandIn u) = true := by kernel_rfl
        exact (show Tryz.prog.wantsStandIn t = false by simpa using List.all_eq_true.1 hall t hm)⟩)
    (by kernel_rfl)
#print axioms rules_holds
end Go.Proofs.YtobnbkoeocdhbaaGreatDoor
