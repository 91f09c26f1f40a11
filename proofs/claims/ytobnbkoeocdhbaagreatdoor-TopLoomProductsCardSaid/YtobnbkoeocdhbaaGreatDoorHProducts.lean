/-
  The law TopLoomProducts, as the card says it.
-/
import Derived.Test.YtobnbkoeocdhbaaGreatDoorHProductsc
namespace Go.Proofs.YtobnbkoeocdhbaaGreatDoor
open Go.ChangeShapes Go.WideShapes Go.ChangeAt Go.RowKit Go.Eng Go.Eng.YtobnbkoeocdhbaaGreatDoor
set_option linter.unusedVariables false
set_option maxRecDepth 100000 in
theorem products_holds_lifted (os : Os) (started : os.Started) (H : Type) (enc : TypeId × Value → H) :
    ReturnsInHanded {} Tryz.checked os 3 .any (fun w args => (Rows.topLoomProductsSpec.pre enc Tryz.prog Tryz.f3 [] false w args ∧ laidMetH Tryz.prog laidL w) ∧ sizedMet enc Tryz.prog Tryz.f3 (OpenSpec.ofChange Rows.topLoomProductsSpec) false w args) (Rows.topLoomProductsSpec.post enc Tryz.prog Tryz.f3 false true false false) := by
  refine returnsInHanded_of_change_and (C := Tryz.checked) (X := fun w _ => laidMetH Tryz.prog laidL w) (fun _ _ _ hh h => h.of_heap hh) own started (by kernel_rfl) Tryz.func3
    (ChangeSpec.witness_shaped (enc := enc) (C := Tryz.checked) (os := os) (X := fun w _ => laidMetH Tryz.prog laidL w) false (World.doorLaid Tryz.prog 600 os) #[.agg #[.int .i64 0, .int .i64 0, .slice none 0 0], .agg #[.int .i64 0, .int .i64 0, .slice none 0 0]] 8 rfl (World.shaped_of_RefB (by kernel_rfl) (by kernel_rfl)) (by kernel_rfl) (by kernel_rfl) (by kernel_rfl) (door_met os _)) ?_
  intro W base args ds gs before hval0 hW _ _ hL _
  have hval : ∀ (j : Nat) t v, Tryz.f3.params[j]? = some t → args[j]? = some v → Value.okWide Tryz.prog W .any base t v := hval0
  have hW' := hW
  obtain ⟨p, q, hA0, hV, rfl, hfz, hnd⟩ := hW
  have hA : DataW.TrodAll enc Tryz.prog W 0 (fun _ => true) true Tryz.f3.params.toList args.toList ds p := hA0
  rw [Tryz.params3] at hA hval
  obtain ⟨v0, v1, d0, d1, p0, p1, rfl, rfl, rfl, h0, h1⟩ := trodAll_two hA
  obtain ⟨ps0, hl0, hok0, hr0⟩ := open_agg (.inl ⟨_, Tryz.underlying24⟩) o24 (hval 0 24 v0 rfl rfl) h0
  obtain ⟨a0_0, a0_1, a0_2, rfl⟩ : ∃ a0_0 a0_1 a0_2, ps0 = [a0_0, a0_1, a0_2] := by
    match ps0, hl0 with
    | [a0_0, a0_1, a0_2], _ => exact ⟨_, _, _, rfl⟩
  obtain ⟨x0_0, e0_0, w0_0⟩ := hok0 0 (by decide)
  obtain ⟨x0_1, e0_1, w0_1⟩ := hok0 1 (by decide)
  obtain ⟨x0_2, e0_2, w0_2⟩ := hok0 2 (by decide)
  simp only [getL] at e0_0 e0_1 e0_2
  subst e0_0 e0_1 e0_2
  obtain ⟨ps1, hl1, hok1, hr1⟩ := open_agg (.inl ⟨_, Tryz.underlying24⟩) o24 (hval 1 24 v1 rfl rfl) h1
  obtain ⟨a1_0, a1_1, a1_2, rfl⟩ : ∃ a1_0 a1_1 a1_2, ps1 = [a1_0, a1_1, a1_2] := by
    match ps1, hl1 with
    | [a1_0, a1_1, a1_2], _ => exact ⟨_, _, _, rfl⟩
  obtain ⟨x1_0, e1_0, w1_0⟩ := hok1 0 (by decide)
  obtain ⟨x1_1, e1_1, w1_1⟩ := hok1 1 (by decide)
  obtain ⟨x1_2, e1_2, w1_2⟩ := hok1 2 (by decide)
  simp only [getL] at e1_0 e1_1 e1_2
  subst e1_0 e1_1 e1_2
  refine (below_of (products_law x0_0 x0_1 x0_2 x1_0 x1_1 x1_2) ⟨rfl, fun i hi => ?_⟩ (laid_gB hL)).mono fun e W' ⟨he, hB⟩ => ?_
  · match i, hi with
    | 0, _ => exact hr0
    | 1, _ => exact hr1
  · subst he
    exact ⟨_, rfl, law_post (tb := 4) laidOut (by kernel_rfl) Tryz.underlying4 (by kernel_rfl) rfl rfl hW' hB⟩
theorem products_holds_row : Rows.TopLoomProductsSaid :=
  OpenClaim.holds_of_wide 3 Tryz.f3 rfl rfl rfl rfl rfl rfl rfl ⟨rfl, rfl, rfl, rfl, rfl⟩ rfl rfl rfl rfl rfl (by kernel_rfl) Tryz.func3 (by kernel_rfl)
    (of_decide_eq_true (by kernel_rfl)) (by unfold Func.isWrapper; rw [if_neg (by decide +kernel)]; exact ⟨rfl, rfl⟩)
    (fun os started H enc _ => products_holds_lifted os started H enc)
theorem products_holds : Rows.TopLoomProductsCardSaid :=
  Claim7.holds_tied_plain_at .later [] [.data, .data, .data] true (true, "c50565a9fb9c87da62d65b88b0fa5e12aa328f89519cb1b80ea96e9325f43636") false
    products_holds_row (fun _ h => by cases h) (by kernel_rfl) (fun _ h => by cases h) topLoomProducts_row_tie rfl ⟨rfl, rfl⟩ (by kernel_rfl) rfl
    (fun f fn hf hfn => by
      obtain rfl : f = 3 := Option.some.inj ((show Tryz.prog.funcNamed "talisman/talismantop.TopLoomProducts" = some 3 by kernel_rfl).symm.trans hf) |>.symm
      obtain rfl : fn = Tryz.f3 := (Option.some.inj (Tryz.func3.symm.trans hfn)).symm
      exact ⟨by kernel_rfl, fun j t ht => by
        rw [Tryz.params3] at ht
        have hm : t ∈ [24, 24] := by simpa using Array.mem_of_getElem? ht
        have hall : ([24, 24].all fun u => !Tryz.prog.wantsStandIn u) = true := by kernel_rfl
        exact (show Tryz.prog.wantsStandIn t = false by simpa using List.all_eq_true.1 hall t hm)⟩)
    (by kernel_rfl)
#print axioms products_holds
end Go.Proofs.YtobnbkoeocdhbaaGreatDoor
