/-
  Contracts of functions of the program: what each returns. Their conditions stand in them.
-/
import Derived.Test.YtppflbccfdbogaaGreatHSquaresa
namespace Go.Eng.YtppflbccfdbogaaGreat
open Go.Proofs
set_option maxRecDepth 100000
set_option maxHeartbeats 0
set_option linter.unusedVariables false
set_option linter.unusedSimpArgs false
theorem dig_col (a b c d : Int) (i : Nat) (j : Int) : dig a b c d i j = lD (c * (j / 3) + d * (j % 3)) a b i := by
  unfold dig lD; congr 1; omega
theorem dig_d1 (a b c d : Int) (i : Nat) : dig a b c d i i = lD 0 (a + c) (b + d) i := by
  unfold dig lD; congr 1; rw [Int.add_mul, Int.add_mul]; omega
theorem dig_d2 (a b c d : Int) (i : Nat) (hi : i < 9) : dig a b c d i (9 - 1 - i : Nat) = lD (2 * c + 2 * d) (a - c) (b - d) i := by
  unfold dig lD; congr 1
  have h1 : ((9 - 1 - i : Nat) : Int) / 3 = 2 - (i : Int) / 3 := by omega
  have h2 : ((9 - 1 - i : Nat) : Int) % 3 = 2 - (i : Int) % 3 := by omega
  rw [h1, h2, Int.sub_mul, Int.sub_mul, Int.mul_sub, Int.mul_sub]; omega
theorem four_lines (x0 x1 x2 x3 x4 x5 x6 x7 x8 x9 x10 x11 x12 x13 x14 x15 : Int) (h : admC x0 x1 x2 x3 x4 x5 x6 x7 x8 x9 x10 x11 x12 x13 x14 x15 = true) (φ : (Nat → Int) → Int) (S : Int)
    (hφ : ∀ f a0 u0 v0 a1 u1 v1 a2 u2 v2 a3 u3 v3, (∀ t, t < 9 → f t = val4 (lD a0 u0 v0 t) (lD a1 u1 v1 t) (lD a2 u2 v2 t) (lD a3 u3 v3 t)) →
      (u1 * v0 - v1 * u0) % 3 ≠ 0 → (u2 * v0 - v2 * u0) % 3 ≠ 0 → (u2 * v1 - v2 * u1) % 3 ≠ 0 → (u3 * v0 - v3 * u0) % 3 ≠ 0 → (u3 * v1 - v3 * u1) % 3 ≠ 0 → (u3 * v2 - v3 * u2) % 3 ≠ 0 → φ f = S) :
    (∀ i, φ (fun j => terF x0 x1 x2 x3 x4 x5 x6 x7 x8 x9 x10 x11 x12 x13 x14 x15 i j) = S) ∧ (∀ j, φ (fun i => terF x0 x1 x2 x3 x4 x5 x6 x7 x8 x9 x10 x11 x12 x13 x14 x15 i j) = S) ∧
    φ (fun i => terF x0 x1 x2 x3 x4 x5 x6 x7 x8 x9 x10 x11 x12 x13 x14 x15 i i) = S ∧ φ (fun i => terF x0 x1 x2 x3 x4 x5 x6 x7 x8 x9 x10 x11 x12 x13 x14 x15 i (9 - 1 - i)) = S := by
  unfold admC ba0 ba1 ba2 ba3 ba01 ba02 ba03 ba11 ba12 ba13 ba21 ba22 ba23 ba31 ba32 ba33 at h
  simp only [Bool.not_eq_true', Bool.or_eq_false_iff, decide_eq_false_iff_not, and_assoc] at h
  obtain ⟨h0, h1, h2, h3, h4, h5, h6, h7, h8, h9, h10, h11, h12, h13, h14, h15, h16, h17, h18, h19, h20, h21, h22, h23⟩ := h
  refine ⟨fun i => ?_, fun j => ?_, ?_, ?_⟩
  · refine hφ _ (x0 * ((i : Int) / 3) + x1 * ((i : Int) % 3)) x2 x3 (x4 * ((i : Int) / 3) + x5 * ((i : Int) % 3)) x6 x7 (x8 * ((i : Int) / 3) + x9 * ((i : Int) % 3)) x10 x11 (x12 * ((i : Int) / 3) + x13 * ((i : Int) % 3)) x14 x15 (fun t ht => rfl) ?_ ?_ ?_ ?_ ?_ ?_ <;> assumption
  · refine hφ _ (x2 * ((j : Int) / 3) + x3 * ((j : Int) % 3)) x0 x1 (x6 * ((j : Int) / 3) + x7 * ((j : Int) % 3)) x4 x5 (x10 * ((j : Int) / 3) + x11 * ((j : Int) % 3)) x8 x9 (x14 * ((j : Int) / 3) + x15 * ((j : Int) % 3)) x12 x13 (fun t ht => ?_) ?_ ?_ ?_ ?_ ?_ ?_
    rotate_left
    all_goals first | assumption | skip
    unfold terF
    rw [dig_col, dig_col, dig_col, dig_col]; rfl
  · refine hφ _ 0 (x0 + x2) (x1 + x3) 0 (x4 + x6) (x5 + x7) 0 (x8 + x10) (x9 + x11) 0 (x12 + x14) (x13 + x15) (fun t ht => ?_) ?_ ?_ ?_ ?_ ?_ ?_
    rotate_left
    all_goals first | assumption | skip
    unfold terF
    rw [dig_d1, dig_d1, dig_d1, dig_d1]; rfl
  · refine hφ _ (2 * x2 + 2 * x3) (x0 - x2) (x1 - x3) (2 * x6 + 2 * x7) (x4 - x6) (x5 - x7) (2 * x10 + 2 * x11) (x8 - x10) (x9 - x11) (2 * x14 + 2 * x15) (x12 - x14) (x13 - x15) (fun t ht => ?_) ?_ ?_ ?_ ?_ ?_ ?_
    rotate_left
    all_goals first | assumption | skip
    unfold terF
    rw [dig_d2 _ _ _ _ t ht, dig_d2 _ _ _ _ t ht, dig_d2 _ _ _ _ t ht, dig_d2 _ _ _ _ t ht]; rfl
/-- the square is magic -/
theorem forms_magic (x0 x1 x2 x3 x4 x5 x6 x7 x8 x9 x10 x11 x12 x13 x14 x15 : Int) (h : admC x0 x1 x2 x3 x4 x5 x6 x7 x8 x9 x10 x11 x12 x13 x14 x15 = true) : badLine 9 2 (madeL 9 (terF x0 x1 x2 x3 x4 x5 x6 x7 x8 x9 x10 x11 x12 x13 x14 x15)) = none := by
  obtain ⟨hr, hc, h1, h2⟩ := four_lines x0 x1 x2 x3 x4 x5 x6 x7 x8 x9 x10 x11 x12 x13 x14 x15 h (fun f => sumF f 9) 369 fun f a0 u0 v0 a1 u1 v1 a2 u2 v2 a3 u3 v3 hf q1 q2 q3 q4 q5 q6 => (line_sums f _ _ _ _ _ _ _ _ _ _ _ _ hf q1 q2 q3 q4 q5 q6).1
  have e : constOf (9 : Nat) = 369 := rfl
  rw [good_iff (.inl (by omega)), e]
  refine GoodK.congr (f := terF x0 x1 x2 x3 x4 x5 x6 x7 x8 x9 x10 x11 x12 x13 x14 x15) ⟨fun _ i _ => hr i, fun _ j _ => hc j, fun _ => h1, fun _ => h2, fun h => absurd h (by omega), fun h => absurd h (by omega)⟩ fun i j hi hj => ?_
  rw [sqAt, madeL_get hi hj]
/-- one sum of squares -/
theorem forms_squares (x0 x1 x2 x3 x4 x5 x6 x7 x8 x9 x10 x11 x12 x13 x14 x15 : Int) (h : admC x0 x1 x2 x3 x4 x5 x6 x7 x8 x9 x10 x11 x12 x13 x14 x15 = true) (i : Nat) (hi : i < 20) : sumAt (qsL (madeL 9 (terF x0 x1 x2 x3 x4 x5 x6 x7 x8 x9 x10 x11 x12 x13 x14 x15))) (lineAt 9 i) 9 = 20049 := by
  obtain ⟨hr, hc, h1, h2⟩ := four_lines x0 x1 x2 x3 x4 x5 x6 x7 x8 x9 x10 x11 x12 x13 x14 x15 h (fun f => sumF (fun t => f t * f t) 9) 20049 fun f a0 u0 v0 a1 u1 v1 a2 u2 v2 a3 u3 v3 hf q1 q2 q3 q4 q5 q6 => (line_sums f _ _ _ _ _ _ _ _ _ _ _ _ hf q1 q2 q3 q4 q5 q6).2
  have hlen : (madeL 9 (terF x0 x1 x2 x3 x4 x5 x6 x7 x8 x9 x10 x11 x12 x13 x14 x15)).length = 81 := by simp [madeL]
  generalize hT : terF x0 x1 x2 x3 x4 x5 x6 x7 x8 x9 x10 x11 x12 x13 x14 x15 = T at *
  have hg : ∀ a b, a < 9 → b < 9 → (qsL (madeL 9 T)).getD (9 * a + b) 0 = T a b * T a b := fun a b ha hb => by
    rw [qsL_get _ _ (by omega), madeL_get ha hb]
  show lineSum 9 (qsL (madeL 9 T)) i = 20049
  by_cases g1 : i < 9
  · rw [ls_row 9 _ i g1, ← hr i]
    exact sumF_congr fun j hj => hg i j g1 hj
  by_cases g2 : i < 18
  · have := ls_col 9 (qsL (madeL 9 T)) (i - 9) (by omega)
    rw [show 9 + (i - 9) = i by omega] at this
    rw [this, ← hc (i - 9)]
    exact sumF_congr fun j hj => hg j (i - 9) hj (by omega)
  by_cases g3 : i = 18
  · have := ls_up 9 (qsL (madeL 9 T)) 0 (by omega)
    rw [show upI 9 0 = i by unfold upI; rw [if_pos rfl]; omega] at this
    rw [this, ← h1]
    exact sumF_congr fun j hj => by
      rw [show (j + 0) % 9 = j by omega]; exact hg j j hj hj
  · have := ls_dn 9 (qsL (madeL 9 T)) 8 (by omega)
    rw [show dnI 9 8 = i by unfold dnI; rw [if_pos (by omega)]; omega] at this
    rw [this, ← h2]
    exact sumF_congr fun j hj => by
      rw [show (8 + 9 - j) % 9 = 9 - 1 - j by omega]; exact hg j (9 - 1 - j) hj (by omega)
end Go.Eng.YtppflbccfdbogaaGreat
namespace Go.Eng.YtppflbccfdbogaaGreat
open Go.Proofs
set_option maxRecDepth 100000
set_option maxHeartbeats 0
set_option linter.unusedVariables false
set_option linter.unusedSimpArgs false
structure Fl2 (r c : Int) (cs : List Int) : Prop where
  ex : r = 9 ∧ c = 9 ∧ cs.length = 81 ∧ (∀ k, k < cs.length → 1 ≤ cs.getD k 0 ∧ cs.getD k 0 ≤ 81) ∧ ∀ i, i < 20 → sumAt (qsL cs) (lineAt 9 i) 9 = 20049
def fl2T : PSp := fun xs K => match xs with
  | [.agg [.int .i64 r, .int .i64 c, .isl (.ints .i64 cs) .none]] => VC (Fl2 r c cs) ∧ K (.bool false)
  | _ => False
theorem fl2T_ok : POK Tryz.prog 16 fl2T := by
  intro xs K h
  unfold fl2T at h
  split at h
  · obtain ⟨⟨⟨rfl, rfl, h1, h2, h3⟩⟩, h⟩ := h
    exact ⟨_, h, fails2_spec _ 20049 h1 h2 h3⟩
  · exact h.elim
theorem ter_len (x0 x1 x2 x3 x4 x5 x6 x7 x8 x9 x10 x11 x12 x13 x14 x15 : Int) : (madeL 9 (terF x0 x1 x2 x3 x4 x5 x6 x7 x8 x9 x10 x11 x12 x13 x14 x15)).length = 81 := by simp [madeL]
theorem ter_fl2 (x0 x1 x2 x3 x4 x5 x6 x7 x8 x9 x10 x11 x12 x13 x14 x15 : Int) (hn : isNorm (madeL 9 (terF x0 x1 x2 x3 x4 x5 x6 x7 x8 x9 x10 x11 x12 x13 x14 x15)) = true) (h : admC x0 x1 x2 x3 x4 x5 x6 x7 x8 x9 x10 x11 x12 x13 x14 x15 = true) : Fl2 9 9 (madeL 9 (terF x0 x1 x2 x3 x4 x5 x6 x7 x8 x9 x10 x11 x12 x13 x14 x15)) :=
  ⟨rfl, rfl, ter_len x0 x1 x2 x3 x4 x5 x6 x7 x8 x9 x10 x11 x12 x13 x14 x15, fun k hk => by
    have := ((isNorm_iff _).1 hn).1 k hk
    rw [ter_len] at this; exact this, fun i hi => forms_squares x0 x1 x2 x3 x4 x5 x6 x7 x8 x9 x10 x11 x12 x13 x14 x15 h i hi⟩
theorem ter_mag (x0 x1 x2 x3 x4 x5 x6 x7 x8 x9 x10 x11 x12 x13 x14 x15 : Int) (hn : isNorm (madeL 9 (terF x0 x1 x2 x3 x4 x5 x6 x7 x8 x9 x10 x11 x12 x13 x14 x15)) = true) (h : admC x0 x1 x2 x3 x4 x5 x6 x7 x8 x9 x10 x11 x12 x13 x14 x15 = true) : MagOK 9 9 (madeL 9 (terF x0 x1 x2 x3 x4 x5 x6 x7 x8 x9 x10 x11 x12 x13 x14 x15)) 9 (gOf kMag) :=
  ⟨9, by omega, rfl, rfl, rfl, ter_len x0 x1 x2 x3 x4 x5 x6 x7 x8 x9 x10 x11 x12 x13 x14 x15, hn, forms_magic x0 x1 x2 x3 x4 x5 x6 x7 x8 x9 x10 x11 x12 x13 x14 x15 h⟩
theorem bim_norm : isNorm (madeL 9 (terF 0 1 1 0 2 0 0 1 1 2 1 1 2 2 1 2)) = true := by
  have h := normal9
  unfold normErr at h
  split at h
  · split at h
    · assumption
    · omega
  · rename_i h1; exact absurd h h1
theorem bim_adm : admC 0 1 1 0 2 0 0 1 1 2 1 1 2 2 1 2 = true := by decide
theorem bim_fl2 : Fl2 9 9 (madeL 9 bimF) := ter_fl2 _ _ _ _ _ _ _ _ _ _ _ _ _ _ _ _ bim_norm bim_adm
theorem bim_mag : MagOK 9 9 (madeL 9 bimF) 9 (gOf kMag) := ter_mag _ _ _ _ _ _ _ _ _ _ _ _ _ _ _ _ bim_norm bim_adm
theorem sup_tb {b : Bool} : Sup (.tup [.bp b, .int .i64 0]) (.tup [.bool b, .int .i64 0]) := ⟨fun h => by
  cases h with
  | tup _ _ vs hl h =>
    refine .tup _ _ vs hl fun i hi => ?_
    match i, hi with
    | 0, _ => have := h 0 (by simp); simp only [getL] at this ⊢; generalize vs.getD 0 undef = v at *; cases this; exact .bool _ _
    | 1, _ => exact h 1 (by simp)⟩
theorem squares_bad (x0 x1 x2 x3 x4 x5 x6 x7 x8 x9 x10 x11 x12 x13 x14 x15 : Int) (h : formErr [x0, x1, x2, x3, x4, x5, x6, x7, x8, x9, x10, x11, x12, x13, x14, x15] ≠ 0) : PSpec Tryz.prog 4 [.agg (fmL x0 x1 x2 x3 x4 x5 x6 x7 x8 x9 x10 x11 x12 x13 x14 x15)] (.bp true) := by
  have h7 := CheckForms_spec x0 x1 x2 x3 x4 x5 x6 x7 x8 x9 x10 x11 x12 x13 x14 x15
  generalize formErr [x0, x1, x2, x3, x4, x5, x6, x7, x8, x9, x10, x11, x12, x13, x14, x15] = fe at *
  have hC := cpAdd_ok (pureCC_ok (atC_ok (C := True) fun _ => h7)) (cpAdd_ok (pureCC_ok bimagic_ok) (cpAdd_ok (pureCC_ok awakeT_ok) (cpAdd_ok (pureCC_ok magT_ok) (cpAdd_ok (pureCC_ok fl2T_ok) noC_ok))))
  refine pspec_of (md := 1) (rf := []) mixed tabOK hC Tryz.func4 (by rfl) (by rfl) (by rfl) ?_
  repeat' ((conv => whnf); first | refine And.intro ?_ ?_ | with_reducible exact VC.mk rfl | exact Ok.mk | exact True.intro | refine Nx.mk ?_ | refine Fin.mk ?_ | (intro hq; (try simp only [decide_eq_true_eq, decide_eq_false_iff_not, Bool.not_eq_true, Bool.not_eq_false, Bool.not_eq_true', Bool.not_eq_false', Bool.not_true, Bool.not_false, ite_true, ite_false] at hq); (try (exfalso; first | exact absurd hq (by decide) | omega))))
  all_goals (first | (refine VC.mk ?_; (try simp only [CL.ncell, CL.cnt, vp]); (try omega)) | ((with_reducible first | show (_ : Int) ≤ _ | show (_ : Int) < _ | show (_ : Nat) ≤ _ | show (_ : Nat) < _ | show (_ : Int) ≠ _); (try simp only [CL.ncell, CL.cnt, vp]); (try omega)) | skip)
  all_goals first | exact sup_true | exact bim_mag | exact bim_fl2 | (exfalso; simp_all; done) | skip
theorem squares_good (x0 x1 x2 x3 x4 x5 x6 x7 x8 x9 x10 x11 x12 x13 x14 x15 : Int) (h : formErr [x0, x1, x2, x3, x4, x5, x6, x7, x8, x9, x10, x11, x12, x13, x14, x15] = 0) : PSpec Tryz.prog 4 [.agg (fmL x0 x1 x2 x3 x4 x5 x6 x7 x8 x9 x10 x11 x12 x13 x14 x15)] (.bp true) := by
  have hr := good_of h
  have h5 := tern_spec x0 x1 x2 x3 x4 x5 x6 x7 x8 x9 x10 x11 x12 x13 x14 x15
  have h6 := adm_spec x0 x1 x2 x3 x4 x5 x6 x7 x8 x9 x10 x11 x12 x13 x14 x15 hr
  have h7 := CheckForms_spec x0 x1 x2 x3 x4 x5 x6 x7 x8 x9 x10 x11 x12 x13 x14 x15
  have hN := norm_rank x0 x1 x2 x3 x4 x5 x6 x7 x8 x9 x10 x11 x12 x13 x14 x15
  rw [h] at h7
  have hlen := ter_len x0 x1 x2 x3 x4 x5 x6 x7 x8 x9 x10 x11 x12 x13 x14 x15
  have hne : isNorm (madeL 9 (terF x0 x1 x2 x3 x4 x5 x6 x7 x8 x9 x10 x11 x12 x13 x14 x15)) = true → normErr 9 9 (madeL 9 (terF x0 x1 x2 x3 x4 x5 x6 x7 x8 x9 x10 x11 x12 x13 x14 x15)) = 0 := fun hn => by
    unfold normErr
    rw [if_pos, if_pos hn]
    unfold sqErr
    rw [hlen, if_neg (by omega)]
  have hnn : isNorm (madeL 9 (terF x0 x1 x2 x3 x4 x5 x6 x7 x8 x9 x10 x11 x12 x13 x14 x15)) = false → normErr 9 9 (madeL 9 (terF x0 x1 x2 x3 x4 x5 x6 x7 x8 x9 x10 x11 x12 x13 x14 x15)) ≠ 0 := fun hn => by
    unfold normErr
    rw [hn]
    simp only [Bool.false_eq_true, if_false]
    split <;> omega
  have hk : rkF x0 x1 x2 x3 x4 x5 x6 x7 x8 x9 x10 x11 x12 x13 x14 x15 = (elimE 4 (resM [[x0, x1, x2, x3], [x4, x5, x6, x7], [x8, x9, x10, x11], [x12, x13, x14, x15]]) 4).piv.length := rfl
  rw [← hk] at hN
  rw [← hN] at h6
  cases hn : isNorm (madeL 9 (terF x0 x1 x2 x3 x4 x5 x6 x7 x8 x9 x10 x11 x12 x13 x14 x15)) with
  | true =>
    have e5 := ter_ok (l := [x0, x1, x2, x3, x4, x5, x6, x7, x8, x9, x10, x11, x12, x13, x14, x15]) (L := madeL 9 (terF x0 x1 x2 x3 x4 x5 x6 x7 x8 x9 x10 x11 x12 x13 x14 x15)) h (hne hn)
    rw [e5.1, e5.2.1, e5.2.2] at h5
    rw [hn, Bool.true_and] at h6
    cases ha : admC x0 x1 x2 x3 x4 x5 x6 x7 x8 x9 x10 x11 x12 x13 x14 x15 with
    | true =>
      rw [ha] at h6
      have hf := ter_fl2 x0 x1 x2 x3 x4 x5 x6 x7 x8 x9 x10 x11 x12 x13 x14 x15 hn ha
      have hm := ter_mag x0 x1 x2 x3 x4 x5 x6 x7 x8 x9 x10 x11 x12 x13 x14 x15 hn ha
      have h6' := pspec_sup h6 sup_tb
      have hC := cpAdd_ok (pureCC_ok (atC_ok (C := True) fun _ => h5)) (cpAdd_ok (pureCC_ok (atC_ok (C := True) fun _ => h6')) (cpAdd_ok (pureCC_ok (atC_ok (C := True) fun _ => h7)) (cpAdd_ok (pureCC_ok bimagic_ok) (cpAdd_ok (pureCC_ok awakeT_ok) (cpAdd_ok (pureCC_ok magT_ok) (cpAdd_ok (pureCC_ok fl2T_ok) noC_ok))))))
      clear h5 h6 h6' h7 e5 hne hnn h hN hk
      refine pspec_of (md := 1) (rf := []) mixed tabOK hC Tryz.func4 (by rfl) (by rfl) (by rfl) ?_
      repeat' ((conv => whnf); first | refine And.intro ?_ ?_ | with_reducible exact VC.mk rfl | exact Ok.mk | exact True.intro | refine Nx.mk ?_ | refine Fin.mk ?_ | (intro hq; (try simp only [decide_eq_true_eq, decide_eq_false_iff_not, Bool.not_eq_true, Bool.not_eq_false, Bool.not_eq_true', Bool.not_eq_false', Bool.not_true, Bool.not_false, ite_true, ite_false] at hq); (try (exfalso; first | exact absurd hq (by decide) | omega))))
      all_goals (first | (refine VC.mk ?_; (try simp only [CL.ncell, CL.cnt, vp]); (try omega)) | ((with_reducible first | show (_ : Int) ≤ _ | show (_ : Int) < _ | show (_ : Nat) ≤ _ | show (_ : Nat) < _ | show (_ : Int) ≠ _); (try simp only [CL.ncell, CL.cnt, vp]); (try omega)) | skip)
      all_goals first | exact sup_true | exact bim_mag | exact bim_fl2 | exact hm | exact hf
    | false =>
      rw [ha] at h6
      have h6' := pspec_sup h6 sup_tb
      have hC := cpAdd_ok (pureCC_ok (atC_ok (C := True) fun _ => h5)) (cpAdd_ok (pureCC_ok (atC_ok (C := True) fun _ => h6')) (cpAdd_ok (pureCC_ok (atC_ok (C := True) fun _ => h7)) (cpAdd_ok (pureCC_ok bimagic_ok) (cpAdd_ok (pureCC_ok awakeT_ok) (cpAdd_ok (pureCC_ok magT_ok) (cpAdd_ok (pureCC_ok fl2T_ok) noC_ok))))))
      clear h5 h6 h6' h7 e5 hne hnn h hN hk
      refine pspec_of (md := 1) (rf := []) mixed tabOK hC Tryz.func4 (by rfl) (by rfl) (by rfl) ?_
      repeat' ((conv => whnf); first | refine And.intro ?_ ?_ | with_reducible exact VC.mk rfl | exact Ok.mk | exact True.intro | refine Nx.mk ?_ | refine Fin.mk ?_ | (intro hq; (try simp only [decide_eq_true_eq, decide_eq_false_iff_not, Bool.not_eq_true, Bool.not_eq_false, Bool.not_eq_true', Bool.not_eq_false', Bool.not_true, Bool.not_false, ite_true, ite_false] at hq); (try (exfalso; first | exact absurd hq (by decide) | omega))))
      all_goals (first | (refine VC.mk ?_; (try simp only [CL.ncell, CL.cnt, vp]); (try omega)) | ((with_reducible first | show (_ : Int) ≤ _ | show (_ : Int) < _ | show (_ : Nat) ≤ _ | show (_ : Nat) < _ | show (_ : Int) ≠ _); (try simp only [CL.ncell, CL.cnt, vp]); (try omega)) | skip)
      all_goals first | exact sup_true | exact bim_mag | exact bim_fl2
  | false =>
    have e5 := ter_sing (l := [x0, x1, x2, x3, x4, x5, x6, x7, x8, x9, x10, x11, x12, x13, x14, x15]) (L := madeL 9 (terF x0 x1 x2 x3 x4 x5 x6 x7 x8 x9 x10 x11 x12 x13 x14 x15)) h (hnn hn)
    rw [e5.1, e5.2.1, e5.2.2] at h5
    rw [hn, Bool.false_and] at h6
    have h6' := pspec_sup h6 sup_tb
    have hC := cpAdd_ok (pureCC_ok (atC_ok (C := True) fun _ => h5)) (cpAdd_ok (pureCC_ok (atC_ok (C := True) fun _ => h6')) (cpAdd_ok (pureCC_ok (atC_ok (C := True) fun _ => h7)) (cpAdd_ok (pureCC_ok bimagic_ok) (cpAdd_ok (pureCC_ok awakeT_ok) (cpAdd_ok (pureCC_ok magT_ok) (cpAdd_ok (pureCC_ok fl2T_ok) noC_ok))))))
    clear h5 h6 h6' h7 e5 hne hnn h hN hk
    refine pspec_of (md := 1) (rf := []) mixed tabOK hC Tryz.func4 (by rfl) (by rfl) (by rfl) ?_
    repeat' ((conv => whnf); first | refine And.intro ?_ ?_ | with_reducible exact VC.mk rfl | exact Ok.mk | exact True.intro | refine Nx.mk ?_ | refine Fin.mk ?_ | (intro hq; (try simp only [decide_eq_true_eq, decide_eq_false_iff_not, Bool.not_eq_true, Bool.not_eq_false, Bool.not_eq_true', Bool.not_eq_false', Bool.not_true, Bool.not_false, ite_true, ite_false] at hq); (try (exfalso; first | exact absurd hq (by decide) | omega))))
    all_goals (first | (refine VC.mk ?_; (try simp only [CL.ncell, CL.cnt, vp]); (try omega)) | ((with_reducible first | show (_ : Int) ≤ _ | show (_ : Int) < _ | show (_ : Nat) ≤ _ | show (_ : Nat) < _ | show (_ : Int) ≠ _); (try simp only [CL.ncell, CL.cnt, vp]); (try omega)) | skip)
    all_goals first | exact sup_true | exact bim_mag | exact bim_fl2
theorem squares_law (x0 x1 x2 x3 x4 x5 x6 x7 x8 x9 x10 x11 x12 x13 x14 x15 : Int) : PSpec Tryz.prog 4 [.agg (fmL x0 x1 x2 x3 x4 x5 x6 x7 x8 x9 x10 x11 x12 x13 x14 x15)] (.bp true) := by
  by_cases h : formErr [x0, x1, x2, x3, x4, x5, x6, x7, x8, x9, x10, x11, x12, x13, x14, x15] = 0
  · exact squares_good x0 x1 x2 x3 x4 x5 x6 x7 x8 x9 x10 x11 x12 x13 x14 x15 h
  · exact squares_bad x0 x1 x2 x3 x4 x5 x6 x7 x8 x9 x10 x11 x12 x13 x14 x15 h
end Go.Eng.YtppflbccfdbogaaGreat
