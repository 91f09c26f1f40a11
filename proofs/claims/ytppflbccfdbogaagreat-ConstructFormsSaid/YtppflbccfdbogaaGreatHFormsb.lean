/-
  Contracts of functions of the program: what each returns. Their conditions stand in them.
-/
import Derived.Test.YtppflbccfdbogaaGreatHFormsa
namespace Go.Eng.YtppflbccfdbogaaGreat
open Go.Proofs
set_option maxRecDepth 100000
set_option maxHeartbeats 0
set_option linter.unusedVariables false
set_option linter.unusedSimpArgs false
def vec4 (a b c d : Int) (t : Nat) : Int := match t with
  | 0 => a
  | 1 => b
  | 2 => c
  | _ => d
theorem row_dot (a b c d : Int) (M : Mat) (r : Nat) (h0 : M r 0 = a % 3) (h1 : M r 1 = b % 3) (h2 : M r 2 = c % 3) (h3 : M r 3 = d % 3) (x : Nat → Int) : dot4 (M r) x % 3 = (a * x 0 + b * x 1 + c * x 2 + d * x 3) % 3 := by
  have := dot_mod (vec4 a b c d) x
  unfold dot4 at this ⊢
  rw [h0, h1, h2, h3]
  exact this
/-- the digit of places a solution's numbers modulo 3 name is 0 -/
theorem dig_sol {a b c d : Int} {x : Nat → Int} (h : (a * x 0 + b * x 1 + c * x 2 + d * x 3) % 3 = 0) : dig a b c d (3 * (x 0 % 3) + x 1 % 3) (3 * (x 2 % 3) + x 3 % 3) = 0 := by
  unfold dig
  rw [show (3 * (x 0 % 3) + x 1 % 3) / 3 = x 0 % 3 by omega, show (3 * (x 0 % 3) + x 1 % 3) % 3 = x 1 % 3 by omega, show (3 * (x 2 % 3) + x 3 % 3) / 3 = x 2 % 3 by omega, show (3 * (x 2 % 3) + x 3 % 3) % 3 = x 3 % 3 by omega]
  rw [Int.mul_comm a, Int.mul_comm b, Int.mul_comm c, Int.mul_comm d, mod_mul, mod_mul, mod_mul, mod_mul, Int.mul_comm (x 0) a, Int.mul_comm (x 1) b, Int.mul_comm (x 2) c, Int.mul_comm (x 3) d]
  omega
/-- places with one digit differ by a solution -/
theorem dig_eq {a b c d i j i' j' : Int} (h : dig a b c d i j = dig a b c d i' j') : (a * (i / 3 - i' / 3) + b * (i % 3 - i' % 3) + c * (j / 3 - j' / 3) + d * (j % 3 - j' % 3)) % 3 = 0 := by
  unfold dig at h
  rw [Int.mul_sub, Int.mul_sub, Int.mul_sub, Int.mul_sub]
  omega
theorem norm_rank (x0 x1 x2 x3 x4 x5 x6 x7 x8 x9 x10 x11 x12 x13 x14 x15 : Int) :
    isNorm (madeL 9 (terF x0 x1 x2 x3 x4 x5 x6 x7 x8 x9 x10 x11 x12 x13 x14 x15)) = decide (4 ≤ (elimE 4 (resM [[x0, x1, x2, x3], [x4, x5, x6, x7], [x8, x9, x10, x11], [x12, x13, x14, x15]]) 4).piv.length) := by
  have hd : ∀ (x : Nat → Int), Ker (resM [[x0, x1, x2, x3], [x4, x5, x6, x7], [x8, x9, x10, x11], [x12, x13, x14, x15]]) x ↔
      (x0 * x 0 + x1 * x 1 + x2 * x 2 + x3 * x 3) % 3 = 0 ∧ (x4 * x 0 + x5 * x 1 + x6 * x 2 + x7 * x 3) % 3 = 0 ∧ (x8 * x 0 + x9 * x 1 + x10 * x 2 + x11 * x 3) % 3 = 0 ∧ (x12 * x 0 + x13 * x 1 + x14 * x 2 + x15 * x 3) % 3 = 0 := fun x => by
    unfold Ker
    constructor
    · intro h
      refine ⟨?_, ?_, ?_, ?_⟩
      · have := h 0 (by omega); rwa [row_dot x0 x1 x2 x3 _ 0 rfl rfl rfl rfl] at this
      · have := h 1 (by omega); rwa [row_dot x4 x5 x6 x7 _ 1 rfl rfl rfl rfl] at this
      · have := h 2 (by omega); rwa [row_dot x8 x9 x10 x11 _ 2 rfl rfl rfl rfl] at this
      · have := h 3 (by omega); rwa [row_dot x12 x13 x14 x15 _ 3 rfl rfl rfl rfl] at this
    · rintro ⟨h0, h1, h2, h3⟩ r hr
      have : r = 0 ∨ r = 1 ∨ r = 2 ∨ r = 3 := by omega
      rcases this with rfl | rfl | rfl | rfl
      · rw [row_dot x0 x1 x2 x3 _ 0 rfl rfl rfl rfl]; exact h0
      · rw [row_dot x4 x5 x6 x7 _ 1 rfl rfl rfl rfl]; exact h1
      · rw [row_dot x8 x9 x10 x11 _ 2 rfl rfl rfl rfl]; exact h2
      · rw [row_dot x12 x13 x14 x15 _ 3 rfl rfl rfl rfl]; exact h3
  have hlen : (madeL 9 (terF x0 x1 x2 x3 x4 x5 x6 x7 x8 x9 x10 x11 x12 x13 x14 x15)).length = 81 := by simp [madeL]
  have hget : ∀ k, k < 81 → (madeL 9 (terF x0 x1 x2 x3 x4 x5 x6 x7 x8 x9 x10 x11 x12 x13 x14 x15)).getD k 0 = terF x0 x1 x2 x3 x4 x5 x6 x7 x8 x9 x10 x11 x12 x13 x14 x15 (k / 9) (k % 9) := fun k hk => by
    have := madeL_get (n := 9) (h := terF x0 x1 x2 x3 x4 x5 x6 x7 x8 x9 x10 x11 x12 x13 x14 x15) (i := k / 9) (j := k % 9) (by omega) (by omega)
    rwa [show 9 * (k / 9) + k % 9 = k by omega] at this
  rcases rank_ker (M := resM [[x0, x1, x2, x3], [x4, x5, x6, x7], [x8, x9, x10, x11], [x12, x13, x14, x15]]) (fun r _ j _ => in3_mod _) with ⟨h1, h2⟩ | ⟨h1, x, ⟨t, ht, hx⟩, hk⟩
  · rw [h1, show decide (4 ≤ 4) = true from rfl, isNorm_iff, hlen]
    refine ⟨fun k hk => ?_, fun k l hkl hl he => ?_⟩
    · rw [hget k hk]
      have d0 := dig_bd x0 x1 x2 x3 (k / 9 : Nat) (k % 9 : Nat)
      have d1 := dig_bd x4 x5 x6 x7 (k / 9 : Nat) (k % 9 : Nat)
      have d2 := dig_bd x8 x9 x10 x11 (k / 9 : Nat) (k % 9 : Nat)
      have d3 := dig_bd x12 x13 x14 x15 (k / 9 : Nat) (k % 9 : Nat)
      unfold terF
      omega
    · rw [hget k (by omega), hget l hl] at he
      have d0 := dig_bd x0 x1 x2 x3 (k / 9 : Nat) (k % 9 : Nat)
      have d1 := dig_bd x4 x5 x6 x7 (k / 9 : Nat) (k % 9 : Nat)
      have d2 := dig_bd x8 x9 x10 x11 (k / 9 : Nat) (k % 9 : Nat)
      have d3 := dig_bd x12 x13 x14 x15 (k / 9 : Nat) (k % 9 : Nat)
      have e0 := dig_bd x0 x1 x2 x3 (l / 9 : Nat) (l % 9 : Nat)
      have e1 := dig_bd x4 x5 x6 x7 (l / 9 : Nat) (l % 9 : Nat)
      have e2 := dig_bd x8 x9 x10 x11 (l / 9 : Nat) (l % 9 : Nat)
      have e3 := dig_bd x12 x13 x14 x15 (l / 9 : Nat) (l % 9 : Nat)
      unfold terF at he
      have f0 : dig x0 x1 x2 x3 (k / 9 : Nat) (k % 9 : Nat) = dig x0 x1 x2 x3 (l / 9 : Nat) (l % 9 : Nat) := by omega
      have f1 : dig x4 x5 x6 x7 (k / 9 : Nat) (k % 9 : Nat) = dig x4 x5 x6 x7 (l / 9 : Nat) (l % 9 : Nat) := by omega
      have f2 : dig x8 x9 x10 x11 (k / 9 : Nat) (k % 9 : Nat) = dig x8 x9 x10 x11 (l / 9 : Nat) (l % 9 : Nat) := by omega
      have f3 : dig x12 x13 x14 x15 (k / 9 : Nat) (k % 9 : Nat) = dig x12 x13 x14 x15 (l / 9 : Nat) (l % 9 : Nat) := by omega
      have q := h2 (vec4 (((k / 9 : Nat) : Int) / 3 - ((l / 9 : Nat) : Int) / 3) (((k / 9 : Nat) : Int) % 3 - ((l / 9 : Nat) : Int) % 3) (((k % 9 : Nat) : Int) / 3 - ((l % 9 : Nat) : Int) / 3) (((k % 9 : Nat) : Int) % 3 - ((l % 9 : Nat) : Int) % 3))
        ((hd _).2 ⟨dig_eq f0, dig_eq f1, dig_eq f2, dig_eq f3⟩)
      have q0 := q 0 (by omega)
      have q1 := q 1 (by omega)
      have q2 := q 2 (by omega)
      have q3 := q 3 (by omega)
      simp only [vec4] at q0 q1 q2 q3
      omega
  · rw [show decide (4 ≤ _) = false from decide_eq_false (by omega)]
    rw [← Bool.not_eq_true]
    intro hn
    obtain ⟨s0, s1, s2, s3⟩ := (hd x).1 hk
    have g0 := dig_sol s0
    have g1 := dig_sol s1
    have g2 := dig_sol s2
    have g3 := dig_sol s3
    have b0 := in3_mod (x 0)
    have b1 := in3_mod (x 1)
    have b2 := in3_mod (x 2)
    have b3 := in3_mod (x 3)
    have hi : 3 * (x 0 % 3) + x 1 % 3 = ((3 * (x 0 % 3) + x 1 % 3).toNat : Nat) := by omega
    have hj : 3 * (x 2 % 3) + x 3 % 3 = ((3 * (x 2 % 3) + x 3 % 3).toNat : Nat) := by omega
    have hb1 : (3 * (x 0 % 3) + x 1 % 3).toNat < 9 := by omega
    have hb2 : (3 * (x 2 % 3) + x 3 % 3).toNat < 9 := by omega
    have hne : 9 * (3 * (x 0 % 3) + x 1 % 3).toNat + (3 * (x 2 % 3) + x 3 % 3).toNat ≠ 0 := by
      have : t = 0 ∨ t = 1 ∨ t = 2 ∨ t = 3 := by omega
      rcases this with rfl | rfl | rfl | rfl <;> omega
    rw [hi, hj] at g0 g1 g2 g3
    generalize (3 * (x 0 % 3) + x 1 % 3).toNat = i at *
    generalize (3 * (x 2 % 3) + x 3 % 3).toNat = j at *
    refine norm_ne hn (i := 9 * i + j) (j := 0) (by omega) (by omega) hne ?_
    rw [madeL_get hb1 hb2, show (0 : Nat) = 9 * 0 + 0 from rfl, madeL_get (by omega) (by omega)]
    unfold terF
    rw [g0, g1, g2, g3]
    simp [dig]
end Go.Eng.YtppflbccfdbogaaGreat
namespace Go.Eng.YtppflbccfdbogaaGreat
open Go.Proofs
set_option maxRecDepth 100000
set_option maxHeartbeats 0
set_option linter.unusedVariables false
set_option linter.unusedSimpArgs false
def rTerP : PSp := fun xs K => match xs with
  | [.agg [.int .i64 a0, .int .i64 a1, .int .i64 a2, .int .i64 a3, .int .i64 a4, .int .i64 a5, .int .i64 a6, .int .i64 a7, .int .i64 a8, .int .i64 a9, .int .i64 a10, .int .i64 a11, .int .i64 a12, .int .i64 a13, .int .i64 a14, .int .i64 a15]] => VC (∀ x ∈ [a0, a1, a2, a3, a4, a5, a6, a7, a8, a9, a10, a11, a12, a13, a14, a15], 0 ≤ x ∧ x ≤ 2) ∧ K (.tup [gridV 9 9 (madeL 9 (terF a0 a1 a2 a3 a4 a5 a6 a7 a8 a9 a10 a11 a12 a13 a14 a15)), .bp (isNorm (madeL 9 (terF a0 a1 a2 a3 a4 a5 a6 a7 a8 a9 a10 a11 a12 a13 a14 a15)))])
  | _ => False
theorem rTer_ok : POK Tryz.prog 10 rTerP := by
  intro xs K h
  unfold rTerP at h
  split at h
  · exact ⟨_, h.2, Tern_spec _ _ _ _ _ _ _ _ _ _ _ _ _ _ _ _ h.1.get⟩
  · exact h.elim
theorem forms_bad (x0 x1 x2 x3 x4 x5 x6 x7 x8 x9 x10 x11 x12 x13 x14 x15 : Int) (h : formErr [x0, x1, x2, x3, x4, x5, x6, x7, x8, x9, x10, x11, x12, x13, x14, x15] ≠ 0) : PSpec Tryz.prog 3 [.agg (fmL x0 x1 x2 x3 x4 x5 x6 x7 x8 x9 x10 x11 x12 x13 x14 x15)] (.bp true) := by
  have h5 := tern_spec x0 x1 x2 x3 x4 x5 x6 x7 x8 x9 x10 x11 x12 x13 x14 x15
  have e5 := ter_bad (L := madeL 9 (terF x0 x1 x2 x3 x4 x5 x6 x7 x8 x9 x10 x11 x12 x13 x14 x15)) h
  rw [e5.1, e5.2.1, e5.2.2] at h5
  have h6 := adm_err x0 x1 x2 x3 x4 x5 x6 x7 x8 x9 x10 x11 x12 x13 x14 x15 h
  have h7 := CheckForms_spec x0 x1 x2 x3 x4 x5 x6 x7 x8 x9 x10 x11 x12 x13 x14 x15
  generalize formErr [x0, x1, x2, x3, x4, x5, x6, x7, x8, x9, x10, x11, x12, x13, x14, x15] = fe at *
  have hC := cpAdd_ok (pureCC_ok (atC_ok (C := True) fun _ => h5)) (cpAdd_ok (pureCC_ok (atC_ok (C := True) fun _ => h6)) (cpAdd_ok (pureCC_ok (atC_ok (C := True) fun _ => h7)) (cpAdd_ok (pureCC_ok madeT_ok) (cpAdd_ok (pureCC_ok awakeT_ok) noC_ok))))
  refine pspec_of (md := 1) (rf := []) mixed tabOK hC Tryz.func3 (by rfl) (by rfl) (by rfl) ?_
  repeat' ((conv => whnf); first | refine And.intro ?_ ?_ | with_reducible exact VC.mk rfl | exact Ok.mk | exact True.intro | refine Nx.mk ?_ | refine Fin.mk ?_ | (intro hq; (try simp only [decide_eq_true_eq, decide_eq_false_iff_not, Bool.not_eq_true, Bool.not_eq_false, Bool.not_eq_true', Bool.not_eq_false', Bool.not_true, Bool.not_false, ite_true, ite_false] at hq); (try (exfalso; first | exact absurd hq (by decide) | omega))))
  all_goals ((try refine VC.mk ?_); (try simp only [CL.ncell, CL.cnt, vq] at *); (try omega))
  all_goals first | exact sup_true | exact .inl ⟨h, rfl, rfl, rfl, rfl⟩ | (exfalso; simp_all; done) | skip
theorem forms_good (x0 x1 x2 x3 x4 x5 x6 x7 x8 x9 x10 x11 x12 x13 x14 x15 : Int) (h : formErr [x0, x1, x2, x3, x4, x5, x6, x7, x8, x9, x10, x11, x12, x13, x14, x15] = 0) : PSpec Tryz.prog 3 [.agg (fmL x0 x1 x2 x3 x4 x5 x6 x7 x8 x9 x10 x11 x12 x13 x14 x15)] (.bp true) := by
  have hr := good_of h
  have h5 := tern_spec x0 x1 x2 x3 x4 x5 x6 x7 x8 x9 x10 x11 x12 x13 x14 x15
  have h6 := adm_spec x0 x1 x2 x3 x4 x5 x6 x7 x8 x9 x10 x11 x12 x13 x14 x15 hr
  have h7 := CheckForms_spec x0 x1 x2 x3 x4 x5 x6 x7 x8 x9 x10 x11 x12 x13 x14 x15
  have h12 := Adm_spec x0 x1 x2 x3 x4 x5 x6 x7 x8 x9 x10 x11 x12 x13 x14 x15 hr
  have hN := norm_rank x0 x1 x2 x3 x4 x5 x6 x7 x8 x9 x10 x11 x12 x13 x14 x15
  rw [adm_eq, hN] at h12
  rw [h] at h7
  have hlen : (madeL 9 (terF x0 x1 x2 x3 x4 x5 x6 x7 x8 x9 x10 x11 x12 x13 x14 x15)).length = 81 := by simp [madeL]
  have hne : isNorm (madeL 9 (terF x0 x1 x2 x3 x4 x5 x6 x7 x8 x9 x10 x11 x12 x13 x14 x15)) = true → normErr 9 9 (madeL 9 (terF x0 x1 x2 x3 x4 x5 x6 x7 x8 x9 x10 x11 x12 x13 x14 x15)) = 0 := fun hn => by
    unfold normErr
    rw [if_pos, if_pos hn]
    unfold sqErr
    rw [hlen, if_neg (by omega)]
  have hnn : isNorm (madeL 9 (terF x0 x1 x2 x3 x4 x5 x6 x7 x8 x9 x10 x11 x12 x13 x14 x15)) = false → normErr 9 9 (madeL 9 (terF x0 x1 x2 x3 x4 x5 x6 x7 x8 x9 x10 x11 x12 x13 x14 x15)) ≠ 0 := fun hn => by
    unfold normErr
    rw [hn]
    simp only [Bool.false_eq_true, if_false]
    split <;> omega
  have hk : rkF x0 x1 x2 x3 x4 x5 x6 x7 x8 x9 x10 x11 x12 x13 x14 x15 = (elimE 4 (resM [[x0, x1, x2, x3], [x4, x5, x6, x7], [x8, x9, x10, x11], [x12, x13, x14, x15]]) 4).piv.length := rfl
  rw [← hk] at h12
  generalize (decide (4 ≤ rkF x0 x1 x2 x3 x4 x5 x6 x7 x8 x9 x10 x11 x12 x13 x14 x15) && admC x0 x1 x2 x3 x4 x5 x6 x7 x8 x9 x10 x11 x12 x13 x14 x15) = ad at *
  clear hN hk
  cases hn : isNorm (madeL 9 (terF x0 x1 x2 x3 x4 x5 x6 x7 x8 x9 x10 x11 x12 x13 x14 x15)) with
  | true =>
    have e5 := ter_ok (l := [x0, x1, x2, x3, x4, x5, x6, x7, x8, x9, x10, x11, x12, x13, x14, x15]) (L := madeL 9 (terF x0 x1 x2 x3 x4 x5 x6 x7 x8 x9 x10 x11 x12 x13 x14 x15)) h (hne hn)
    rw [e5.1, e5.2.1, e5.2.2] at h5
    have hC := cpAdd_ok (pureCC_ok (atC_ok (C := True) fun _ => h5)) (cpAdd_ok (pureCC_ok (atC_ok (C := True) fun _ => h6)) (cpAdd_ok (pureCC_ok (atC_ok (C := True) fun _ => h7)) (cpAdd_ok (pureCC_ok madeT_ok) (cpAdd_ok (pureCC_ok awakeT_ok) (cpAdd_ok (pureCC_ok rTer_ok) (cpAdd_ok (pureCC_ok bimFm_ok) (cpAdd_ok (pureCC_ok (atC_ok (C := True) fun _ => h12)) (cpAdd_ok (pureCC_ok sameT_ok) (cpAdd_ok (pureCC_ok bimagic_ok) noC_ok)))))))))
    clear h5 h6 h7 h12 e5 hne hnn h
    refine pspec_of (md := 1) (rf := []) mixed tabOK hC Tryz.func3 (by rfl) (by rfl) (by rfl) ?_
    repeat' ((conv => whnf); first | refine And.intro ?_ ?_ | with_reducible exact VC.mk rfl | exact Ok.mk | exact True.intro | refine Nx.mk ?_ | refine Fin.mk ?_ | (intro hq; (try simp only [decide_eq_true_eq, decide_eq_false_iff_not, Bool.not_eq_true, Bool.not_eq_false, Bool.not_eq_true', Bool.not_eq_false', Bool.not_true, Bool.not_false, ite_true, ite_false] at hq); (try (exfalso; first | exact absurd hq (by decide) | omega))))
    all_goals (first | (refine VC.mk ?_; (try simp only [CL.ncell, CL.cnt, vp]); (try omega)) | ((with_reducible first | show (_ : Int) ≤ _ | show (_ : Int) < _ | show (_ : Nat) ≤ _ | show (_ : Nat) < _ | show (_ : Int) ≠ _); (try simp only [CL.ncell, CL.cnt, vp]); (try omega)) | skip)
    all_goals first
      | exact sup_true
      | (exact Bool.noConfusion (hn.symm.trans (by assumption : isNorm (madeL 9 (terF x0 x1 x2 x3 x4 x5 x6 x7 x8 x9 x10 x11 x12 x13 x14 x15)) = false)))
      | (exfalso; simp only [beq_self_eq_true, Bool.true_eq_false] at hq; done)
      | decide
      | (simp [madeL]; done)
      | exact ⟨trivial, trivial, rfl⟩
      | exact .inr ⟨rfl, rfl, rfl, rfl, rfl⟩
      | exact .inl ⟨by decide, rfl, rfl, rfl, rfl⟩
  | false =>
    have e5 := ter_sing (l := [x0, x1, x2, x3, x4, x5, x6, x7, x8, x9, x10, x11, x12, x13, x14, x15]) (L := madeL 9 (terF x0 x1 x2 x3 x4 x5 x6 x7 x8 x9 x10 x11 x12 x13 x14 x15)) h (hnn hn)
    rw [e5.1, e5.2.1, e5.2.2] at h5
    have hC := cpAdd_ok (pureCC_ok (atC_ok (C := True) fun _ => h5)) (cpAdd_ok (pureCC_ok (atC_ok (C := True) fun _ => h6)) (cpAdd_ok (pureCC_ok (atC_ok (C := True) fun _ => h7)) (cpAdd_ok (pureCC_ok madeT_ok) (cpAdd_ok (pureCC_ok awakeT_ok) (cpAdd_ok (pureCC_ok rTer_ok) (cpAdd_ok (pureCC_ok bimFm_ok) (cpAdd_ok (pureCC_ok (atC_ok (C := True) fun _ => h12)) (cpAdd_ok (pureCC_ok sameT_ok) (cpAdd_ok (pureCC_ok bimagic_ok) noC_ok)))))))))
    clear h5 h6 h7 h12 e5 hne hnn h
    refine pspec_of (md := 1) (rf := []) mixed tabOK hC Tryz.func3 (by rfl) (by rfl) (by rfl) ?_
    repeat' ((conv => whnf); first | refine And.intro ?_ ?_ | with_reducible exact VC.mk rfl | exact Ok.mk | exact True.intro | refine Nx.mk ?_ | refine Fin.mk ?_ | (intro hq; (try simp only [decide_eq_true_eq, decide_eq_false_iff_not, Bool.not_eq_true, Bool.not_eq_false, Bool.not_eq_true', Bool.not_eq_false', Bool.not_true, Bool.not_false, ite_true, ite_false] at hq); (try (exfalso; first | exact absurd hq (by decide) | omega))))
    all_goals (first | (refine VC.mk ?_; (try simp only [CL.ncell, CL.cnt, vp]); (try omega)) | ((with_reducible first | show (_ : Int) ≤ _ | show (_ : Int) < _ | show (_ : Nat) ≤ _ | show (_ : Nat) < _ | show (_ : Int) ≠ _); (try simp only [CL.ncell, CL.cnt, vp]); (try omega)) | skip)
    all_goals first
      | exact sup_true
      | (exact Bool.noConfusion (hn.symm.trans (by assumption : isNorm (madeL 9 (terF x0 x1 x2 x3 x4 x5 x6 x7 x8 x9 x10 x11 x12 x13 x14 x15)) = true)))
      | (exfalso; simp only [beq_self_eq_true, Bool.true_eq_false] at hq; done)
      | decide
      | (simp [madeL]; done)
      | exact ⟨trivial, trivial, rfl⟩
      | exact .inr ⟨rfl, rfl, rfl, rfl, rfl⟩
      | exact .inl ⟨by decide, rfl, rfl, rfl, rfl⟩
theorem forms_law (x0 x1 x2 x3 x4 x5 x6 x7 x8 x9 x10 x11 x12 x13 x14 x15 : Int) : PSpec Tryz.prog 3 [.agg (fmL x0 x1 x2 x3 x4 x5 x6 x7 x8 x9 x10 x11 x12 x13 x14 x15)] (.bp true) := by
  by_cases h : formErr [x0, x1, x2, x3, x4, x5, x6, x7, x8, x9, x10, x11, x12, x13, x14, x15] = 0
  · exact forms_good x0 x1 x2 x3 x4 x5 x6 x7 x8 x9 x10 x11 x12 x13 x14 x15 h
  · exact forms_bad x0 x1 x2 x3 x4 x5 x6 x7 x8 x9 x10 x11 x12 x13 x14 x15 h
end Go.Eng.YtppflbccfdbogaaGreat
