/-
  ConstructSteps: for every rule of steps and every number the call returns true, and the rule reads as before. No condition.
-/
import Derived.Test.YtppflbccfdbogaaCd
namespace Go.Eng.Ytppflbccfdbogaa
open Go.Proofs
set_option maxRecDepth 100000
set_option maxHeartbeats 0
set_option linter.unusedVariables false
set_option linter.unusedSimpArgs false
theorem stepErr_or (n s0 s1 x0 x1 b0 b1 : Int) : stepErr n s0 s1 x0 x1 b0 b1 = 0 ∨ stepErr n s0 s1 x0 x1 b0 b1 = 3 := by
  unfold stepErr; split <;> simp
theorem uni_meet {n s0 s1 x0 x1 b0 b1 : Int} (hz : stepErr n s0 s1 x0 x1 b0 b1 = 0) : ∃ r c l e2 a b, PSpec Try.prog 46 [stepV n s0 s1 x0 x1 b0 b1] (.tup [gridV r c l, .int .i64 e2]) ∧ PSpec Try.prog 49 [stepV n s0 s1 x0 x1 b0 b1] (.tup [.int .i64 a, .int .i64 b]) ∧ l.length ≤ 2000000 ∧
    (0 < b → MadeOK r c l e2 0 0 [] 18) ∧ (¬ 0 < b → MadeOK r c l e2 n n (gAt (cellS n s0 s1 x0 x1 b0 b1) (n * n).toNat (n * n).toNat) 0) := by
  obtain ⟨h1, h2⟩ := stepErr_zero hz
  have hU := uniform_spec n s0 s1 x0 x1 b0 b1
  have hM := rMeet_spec n s0 s1 x0 x1 b0 b1 h1 h2
  have h3 := mul_bd (show 0 ≤ n ∧ n ≤ 16 by omega) (show 0 ≤ n ∧ n ≤ 16 by omega)
  unfold uniformV at hU
  rw [if_pos hz] at hU
  unfold uniV at hU
  unfold meetV at hM
  cases hm : meetOf (cellS n s0 s1 x0 x1 b0 b1) (n * n).toNat with
  | some y =>
    rw [hm] at hU hM
    exact ⟨_, _, _, _, _, _, hU, hM, by simp, fun _ => .inl ⟨by omega, rfl, rfl, rfl, rfl⟩, fun h => absurd h (by omega)⟩
  | none =>
    rw [hm] at hU hM
    exact ⟨_, _, _, _, _, _, hU, hM, by rw [gAt_len]; omega, fun h => absurd h (by omega), fun _ => .inr ⟨rfl, rfl, rfl, rfl, rfl⟩⟩
theorem steps_law (n s0 s1 x0 x1 b0 b1 k : Int) : PSpec Try.prog 7 [stepV n s0 s1 x0 x1 b0 b1, .int .i64 k] (.bp true) := by
  by_cases hz : stepErr n s0 s1 x0 x1 b0 b1 = 0
  · obtain ⟨h1, h2⟩ := stepErr_zero hz
    have h3 := mul_bd (show 0 ≤ n ∧ n ≤ 16 by omega) (show 0 ≤ n ∧ n ≤ 16 by omega)
    obtain ⟨r, c, l, e2, a, b, hU, hM, hl, hb, hb'⟩ := uni_meet hz
    obtain ⟨i, j, e1, hP, hout, hin⟩ : ∃ i j e1, PSpec Try.prog 45 [stepV n s0 s1 x0 x1 b0 b1, .int .i64 k] (.tup [.int .i64 i, .int .i64 j, .int .i64 e1]) ∧ ((k < 1 ∨ n * n < k) → i = 0 ∧ j = 0 ∧ e1 = 3) ∧ (¬ (k < 1 ∨ n * n < k) → e1 = 0 ∧ i = rowOf n (s0 % n) (x0 % n) (b0 % n) k ∧ j = rowOf n (s1 % n) (x1 % n) (b1 % n) k) := by
      have := place_spec n s0 s1 x0 x1 b0 b1 k
      unfold placeV at this
      rw [if_pos hz] at this
      by_cases hk : k < 1 ∨ n * n < k
      · rw [if_pos hk] at this; exact ⟨_, _, _, this, fun _ => ⟨rfl, rfl, rfl⟩, fun h => absurd hk h⟩
      · rw [if_neg hk] at this; exact ⟨_, _, _, this, fun h => absurd h hk, fun _ => ⟨rfl, rfl, rfl⟩⟩
    have hS := rCheckStep_spec n s0 s1 x0 x1 b0 b1
    have hS' := checkStep_spec n s0 s1 x0 x1 b0 b1
    rw [hz] at hS hS'
    have hR := rUniform_spec n s0 s1 x0 x1 b0 b1 h1 h2
    have hQ : ¬ (k < 1 ∨ n * n < k) → PSpec Try.prog 48 [stepV n s0 s1 x0 x1 b0 b1, .int .i64 k] (.tup [.int .i64 i, .int .i64 j]) := fun hk => by
      rw [(hin hk).2.1, (hin hk).2.2]
      exact rPlace_spec n s0 s1 x0 x1 b0 b1 k h1 (by omega) (fun x hx => by have := h2 x hx; omega)
    have hC := cpAdd_ok (pureCC_ok (atC_ok (C := True) fun _ => hS)) (cpAdd_ok (pureCC_ok (atC_ok (C := True) fun _ => hS')) (cpAdd_ok (pureCC_ok (atC_ok (C := True) fun _ => hP)) (cpAdd_ok (pureCC_ok (atC_ok (C := True) fun _ => hU)) (cpAdd_ok (pureCC_ok (atC_ok (C := True) fun _ => hM))
      (cpAdd_ok (pureCC_ok (atC_ok hQ)) (cpAdd_ok (pureCC_ok (atC_ok (C := True) fun _ => hR)) (cpAdd_ok (pureCC_ok madeT_ok) (cpAdd_ok (pureCC_ok awakeT_ok) noC_ok))))))))
    refine pspec_of (md := 1) (rf := []) mixed tabOK hC Try.func7 (by rfl) (by rfl) (by rfl) ?_
    repeat' (first | ((conv => whnf); refine And.intro ?_ ?_) | ((conv => whnf); with_reducible exact VC.mk rfl) | ((conv => whnf); exact Ok.mk) | ((conv => whnf); exact True.intro) | ((conv => whnf); refine Nx.mk ?_) | ((conv => whnf); refine Fin.mk ?_) | ((conv => whnf); intro _))
    all_goals ((try refine VC.mk ?_); (try simp only [CL.ncell, CL.cnt, Int.toNat_natCast, decide_eq_true_eq, decide_eq_false_iff_not, Bool.not_eq_true, Bool.not_false, Bool.not_true, and_self, and_true, true_and, te3b, te4b, te3s, te4s, Nat.mul_one, Nat.zero_add, List.length_cons, List.length_nil, Bool.false_eq_true, Bool.true_eq_false] at *); (try omega))
    all_goals first | exact sup_true | exact hb (by assumption) | exact hb' (by assumption)
  · have hS := rCheckStep_spec n s0 s1 x0 x1 b0 b1
    have hS' := checkStep_spec n s0 s1 x0 x1 b0 b1
    have hP := place_spec n s0 s1 x0 x1 b0 b1 k
    have hU := uniform_spec n s0 s1 x0 x1 b0 b1
    unfold placeV at hP
    unfold uniformV at hU
    rw [if_neg hz] at hP hU
    have hz3 := stepErr_or n s0 s1 x0 x1 b0 b1
    generalize stepErr n s0 s1 x0 x1 b0 b1 = bad at *
    have hC := cpAdd_ok (pureCC_ok (atC_ok (C := True) fun _ => hS)) (cpAdd_ok (pureCC_ok (atC_ok (C := True) fun _ => hS')) (cpAdd_ok (pureCC_ok (atC_ok (C := True) fun _ => hP)) (cpAdd_ok (pureCC_ok (atC_ok (C := True) fun _ => hU))
      (cpAdd_ok (pureCC_ok madeT_ok) (cpAdd_ok (pureCC_ok awakeT_ok) noC_ok)))))
    refine pspec_of (md := 1) (rf := []) mixed tabOK hC Try.func7 (by rfl) (by rfl) (by rfl) ?_
    repeat' (first | ((conv => whnf); refine And.intro ?_ ?_) | ((conv => whnf); with_reducible exact VC.mk rfl) | ((conv => whnf); exact Ok.mk) | ((conv => whnf); exact True.intro) | ((conv => whnf); refine Nx.mk ?_) | ((conv => whnf); refine Fin.mk ?_) | ((conv => whnf); intro _))
    all_goals ((try refine VC.mk ?_); (try simp only [CL.ncell, CL.cnt, Int.toNat_natCast, decide_eq_true_eq, decide_eq_false_iff_not, Bool.not_eq_true, Bool.not_false, Bool.not_true, and_self, and_true, true_and, te3b, te4b, te3s, te4s, Nat.mul_one, Nat.zero_add, List.length_cons, List.length_nil, Bool.false_eq_true, Bool.true_eq_false] at *); (try omega))
    all_goals first | exact sup_true | exact .inl ⟨hz, rfl, rfl, rfl, rfl⟩ | (exfalso; omega) | exact absurd trivial (by assumption)
end Go.Eng.Ytppflbccfdbogaa
namespace Go.Proofs.Ytppflbccfdbogaa
open Go.ChangeShapes Go.WideShapes Go.ChangeAt Go.RowKit Go.Eng Go.Eng.Ytppflbccfdbogaa
set_option linter.unusedVariables false
set_option maxRecDepth 100000 in
theorem steps_lifted (os : Os) (started : os.Started) (H : Type) (enc : TypeId × Value → H) :
    ReturnsInHanded {} Try.checked os 7 .any (Rows.constructStepsSpec.pre6 enc Try.prog Try.f7 Rows.constructStepsRow.domain false) (Rows.constructStepsSpec.post enc Try.prog Try.f7 false true false false) := by
  refine returnsInHanded_of_change (C := Try.checked) own started (by kernel_rfl) Try.func7
    (ChangeSpec.witness6 (enc := enc) (C := Try.checked) false ⟨#[], #[.agg #[.int .i64 0, .int .i64 0, .int .i64 0, .int .i64 0, .int .i64 0, .int .i64 0, .int .i64 0], .int .i64 0], []⟩ 8 (by kernel_rfl) (by kernel_rfl) (by kernel_rfl) (by kernel_rfl)) ?_
  intro W base args ds gs before hval0 hW hcnd _
  have hval : ∀ (j : Nat) t v, Try.f7.params[j]? = some t → args[j]? = some v → Value.okWide Try.prog W .any base t v := hval0
  have hW' := hW
  obtain ⟨p, q, hA0, hV, rfl, hfz, hnd⟩ := hW
  have hA : DataW.TrodAll enc Try.prog W 0 (fun _ => true) true Try.f7.params.toList args.toList ds p := hA0
  rw [Try.params7] at hA hval
  obtain ⟨v0, v1, d0, d1, p0, p1, rfl, rfl, rfl, h0, h1⟩ := trodAll_two hA
  obtain ⟨ps, hl, hok, hr0⟩ := open_agg (.inl ⟨_, Try.underlying24⟩) o24 (hval 0 24 v0 rfl rfl) h0
  obtain ⟨k, hk, hr1⟩ := open_leaf (.inl ⟨_, Try.underlying3⟩) o3 (hval 1 3 v1 rfl rfl) h1
  clear hA0 hval0
  obtain ⟨k, rfl, _⟩ := hk
  match ps, hl with
  | [a0, a1, a2, a3, a4, a5, a6], _ =>
    obtain ⟨n0, e0, _⟩ := hok 0 (by decide)
    obtain ⟨n1, e1, _⟩ := hok 1 (by decide)
    obtain ⟨n2, e2, _⟩ := hok 2 (by decide)
    obtain ⟨n3, e3, _⟩ := hok 3 (by decide)
    obtain ⟨n4, e4, _⟩ := hok 4 (by decide)
    obtain ⟨n5, e5, _⟩ := hok 5 (by decide)
    obtain ⟨n6, e6, _⟩ := hok 6 (by decide)
    simp only [getL] at e0 e1 e2 e3 e4 e5 e6
    subst e0 e1 e2 e3 e4 e5 e6
    refine (below_of (steps_law n0 n1 n2 n3 n4 n5 n6 k) ⟨rfl, fun i hi => ?_⟩).mono fun e W' ⟨he, hB⟩ => ?_
    · match i, hi with
      | 0, _ => exact hr0
      | 1, _ => exact hr1
    · subst he
      exact ⟨_, rfl, law_post (tb := 4) laidOut (by kernel_rfl) Try.underlying4 (by kernel_rfl) rfl rfl hW' hB⟩
theorem steps_holds : Rows.ConstructStepsSaid :=
  OpenClaim.holds_of_wide 7 Try.f7 rfl rfl rfl rfl rfl rfl rfl ⟨rfl, rfl, rfl, rfl, rfl⟩ rfl rfl rfl rfl rfl (by kernel_rfl) Try.func7 (by kernel_rfl)
    (of_decide_eq_true (by kernel_rfl)) (by unfold Func.isWrapper; rw [if_neg (by decide +kernel)]; exact ⟨rfl, rfl⟩)
    (fun os started H enc _ => steps_lifted os started H enc)
#print axioms steps_holds
end Go.Proofs.Ytppflbccfdbogaa
