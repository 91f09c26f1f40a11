/-
  ConstructMagic: for every byte the call returns true.
-/
import Derived.Test.YtppflbccfdbogaaHMagica
namespace Go.Proofs.Ytppflbccfdbogaa
open Go.ChangeShapes Go.WideShapes Go.ChangeAt Go.RowKit Go.Eng Go.Eng.Ytppflbccfdbogaa
set_option linter.unusedVariables false
set_option maxRecDepth 100000 in
theorem magic_holds_lifted (os : Os) (started : os.Started) (H : Type) (enc : TypeId × Value → H) :
    ReturnsInHanded {} Try.checked os 6 .any (Rows.constructMagicSpec.pre6 enc Try.prog Try.f6 Rows.constructMagicRow.domain false) (Rows.constructMagicSpec.post enc Try.prog Try.f6 false true false false) := by
  refine returnsInHanded_of_change (C := Try.checked) own started (by kernel_rfl) Try.func6
    (ChangeSpec.witness6 (enc := enc) (C := Try.checked) false ⟨#[], #[.int .u8 0], []⟩ 8 (by kernel_rfl) (by kernel_rfl) (by kernel_rfl) (by kernel_rfl)) ?_
  intro W base args ds gs before hval0 hW hcnd _
  have hval : ∀ (j : Nat) t v, Try.f6.params[j]? = some t → args[j]? = some v → Value.okWide Try.prog W .any base t v := hval0
  have hW' := hW
  obtain ⟨p, q, hA0, hV, rfl, hfz, hnd⟩ := hW
  have hA : DataW.TrodAll enc Try.prog W 0 (fun _ => true) true Try.f6.params.toList args.toList ds p := hA0
  rw [Try.params6] at hA hval
  obtain ⟨v0, d0, rfl, rfl, h0⟩ := trodAll_one hA
  obtain ⟨q0, hq0, hr0⟩ := open_leaf (.inl ⟨_, Try.underlying5⟩) o5 (hval 0 5 v0 rfl rfl) h0
  obtain ⟨x0_0, rfl, w0_0⟩ := hq0
  refine (below_of (magic_law' x0_0 w0_0) ⟨rfl, fun i hi => ?_⟩).mono fun e W' ⟨he, hB⟩ => ?_
  · match i, hi with
    | 0, _ => exact hr0
  · subst he
    exact ⟨_, rfl, law_post (tb := 4) laidOut (by kernel_rfl) Try.underlying4 (by kernel_rfl) rfl rfl hW' hB⟩
theorem magic_holds : Rows.ConstructMagicSaid :=
  OpenClaim.holds_of_wide 6 Try.f6 rfl rfl rfl rfl rfl rfl rfl ⟨rfl, rfl, rfl, rfl, rfl⟩ rfl rfl rfl rfl rfl (by kernel_rfl) Try.func6 (by kernel_rfl)
    (of_decide_eq_true (by kernel_rfl)) (by unfold Func.isWrapper; rw [if_neg (by decide +kernel)]; exact ⟨rfl, rfl⟩)
    (fun os started H enc _ => magic_holds_lifted os started H enc)
#print axioms magic_holds
end Go.Proofs.Ytppflbccfdbogaa
