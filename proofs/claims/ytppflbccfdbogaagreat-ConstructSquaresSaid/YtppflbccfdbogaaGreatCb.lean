/-
  Contracts of functions of the program: what each returns. Their conditions stand in them.
-/
import Derived.Test.YtppflbccfdbogaaGreatCa
namespace Go.Eng.YtppflbccfdbogaaGreat
open Go.Proofs
set_option maxRecDepth 100000
set_option maxHeartbeats 0
set_option linter.unusedVariables false
set_option linter.unusedSimpArgs false
def rectF (r c : Int) (i j : Nat) : Int :=
  if (decide ((j : Int) % 4 = 0 ∨ (j : Int) % 4 = 3)) = decide ((i : Int) % 2 = 1) then r * c + 1 - ((i : Int) / 2 * c + j + 1) else (i : Int) / 2 * c + j + 1
def rectL (r c : Nat) (m : Nat) : List Int := (List.range m).map fun k => rectF r c (k / c) (k % c)
theorem rectL_succ (r c m : Nat) : rectL r c (m + 1) = rectL r c m ++ [rectF r c (m / c) (m % c)] := by simp [rectL, List.range_succ]
theorem rectL_len (r c m : Nat) : (rectL r c m).length = m := by simp [rectL]
def rectErr (r c : Int) : Int := if (r < 1 ∨ 16 < r) ∨ (c < 1 ∨ 16 < c) then 3 else if r % 2 = 0 ∧ c % 4 = 0 then 0 else 7
theorem rect_ok (r c : Nat) (hr : 1 ≤ r ∧ r ≤ 16) (hc : 1 ≤ c ∧ c ≤ 16) (h2 : (r : Int) % 2 = 0) (h4 : (c : Int) % 4 = 0) : PSpec Tryz.prog 36 [.int .i64 (r : Int), .int .i64 (c : Int)] (okGrid r c (rectL r c (r * c))) := by
  have hrc := mul_bd (show 0 ≤ (r : Int) ∧ (r : Int) ≤ 16 by omega) (show 0 ≤ (c : Int) ∧ (c : Int) ≤ 16 by omega)
  have hrc' : ((r * c : Nat) : Int) = (r : Int) * c := by push_cast; rfl
  have hmul : ∀ i j : Nat, i < r → j < c → c * i + j < r * c ∧ (0 ≤ (i : Int) / 2 * c ∧ (i : Int) / 2 * c ≤ 256) := fun i j hi hj => by
    have := Nat.mul_le_mul_left c (show i + 1 ≤ r by omega)
    rw [Nat.mul_add, Nat.mul_comm c r] at this
    exact ⟨by omega, mul_bd (A := 16) (B := 16) (by omega) (by omega)⟩
  have hd : ∀ i j : Nat, j < c → (c * i + j) / c = i ∧ (c * i + j) % c = j := fun i j hj => by
    rw [Nat.mul_add_div (by omega), Nat.div_eq_of_lt hj, Nat.mul_add_mod, Nat.mod_eq_of_lt hj]; exact ⟨by omega, rfl⟩
  refine pspec_of (md := 0) (rf := []) mixed tabOK cp2_ok Tryz.func36 (by rfl) (by rfl) (by rfl) ?_
  repeat' ((conv => whnf); first | refine And.intro ?_ ?_ | with_reducible exact VC.mk rfl | exact Ok.mk | exact True.intro | refine Nx.mk ?_ | refine Fin.mk ?_ | intro _)
  all_goals ((try refine VC.mk ?_); (try simp only [CL.ncell, CL.cnt, vq] at *); (try omega))
  all_goals (try (exfalso; simp_all [firstOf]; omega))
  generalize firstOf _ = ee
  conv => whnf
  refine loop_of (X := Nat) (fun i => i ≤ r) (fun i => [(35, .int .i64 i)]) (fun i => [(18, .cells (.pv [.int .i64 (r : Int), .int .i64 (c : Int), .isl (.ints .i64 (rectL r c (c * i))) (.own 19)]) false), (19, .tok 1 (c * i))]) (fun i => r - i) 0 ⟨anyB_ok, mixed, tabOK, cp2_ok, noY_ok⟩ (by rfl) (by omega) ?_ ?_
  · repeat' ((conv => whnf); first | refine And.intro ?_ ?_ | with_reducible exact VC.mk rfl | exact Ok.mk | exact True.intro | refine Nx.mk ?_ | refine Fin.mk ?_ | intro _)
    all_goals ((try refine VC.mk ?_); (try simp only [CL.ncell, CL.cnt, vq] at *); (try omega))
    all_goals (try (simp [rectL]; done))
  · intro i hi
    by_cases hlt : i < r
    · repeat' ((conv => whnf); first | refine And.intro ?_ ?_ | with_reducible exact VC.mk rfl | exact Ok.mk | exact True.intro | refine Nx.mk ?_ | refine Fin.mk ?_ | intro _)
      all_goals ((try refine VC.mk ?_); (try simp only [CL.ncell, CL.cnt, vq] at *); (try omega))
      conv => whnf
      refine loop_of (X := Nat) (fun j => j ≤ c) (fun j => [(39, .int .i64 j)]) (fun j => [(18, .cells (.pv [.int .i64 (r : Int), .int .i64 (c : Int), .isl (.ints .i64 (rectL r c (c * i + j))) (.own 19)]) false), (19, .tok 1 (c * i + j))]) (fun j => c - j) 0 ⟨anyB_ok, mixed, tabOK, cp2_ok, noY_ok⟩ (by rfl) (by omega) ?_ ?_
      · repeat' ((conv => whnf); first | refine And.intro ?_ ?_ | with_reducible exact VC.mk rfl | exact Ok.mk | exact True.intro | refine Nx.mk ?_ | refine Fin.mk ?_ | intro _)
        all_goals ((try refine VC.mk ?_); (try simp only [CL.ncell, CL.cnt, vq] at *); (try omega))
      · intro j hj
        by_cases hlj : j < c
        · have hl := rectL_len r c (c * i + j)
          have e1 := rectL_succ r c (c * i + j)
          have hm := hmul i j hlt hlj
          rw [(hd i j hlj).1, (hd i j hlj).2] at e1
          repeat' ((conv => whnf); first | refine And.intro ?_ ?_ | with_reducible exact VC.mk rfl | exact Ok.mk | exact True.intro | refine Nx.mk ?_ | refine Fin.mk ?_ | intro _)
          all_goals ((try refine VC.mk ?_); (try simp only [CL.ncell, CL.cnt, vq] at *); (try omega))
          all_goals first | (simp [hl]; omega) | skip
          all_goals (refine ⟨j + 1, [], ⟨by omega, by omega⟩, ?_⟩)
          all_goals repeat' ((conv => whnf); first | refine And.intro ?_ ?_ | with_reducible exact VC.mk rfl | exact Ok.mk | exact True.intro | refine Nx.mk ?_ | refine Fin.mk ?_ | intro _)
          all_goals all_goals ((try refine VC.mk ?_); (try simp only [CL.ncell, CL.cnt, vq] at *); (try omega))
          all_goals (rw [show c * i + (j + 1) = c * i + j + 1 by omega, e1]; unfold rectF)
          all_goals (split <;> first | rfl | (exfalso; simp_all; done) | (exfalso; simp_all; omega))
        · have : c = j := by omega
          subst this
          repeat' ((conv => whnf); first | refine And.intro ?_ ?_ | with_reducible exact VC.mk rfl | exact Ok.mk | exact True.intro | refine Nx.mk ?_ | refine Fin.mk ?_ | intro _)
          all_goals ((try refine VC.mk ?_); (try simp only [CL.ncell, CL.cnt, vq] at *); (try omega))
          refine ⟨i + 1, [], ⟨by omega, by omega⟩, ?_⟩
          repeat' ((conv => whnf); first | refine And.intro ?_ ?_ | with_reducible exact VC.mk rfl | exact Ok.mk | exact True.intro | refine Nx.mk ?_ | refine Fin.mk ?_ | intro _)
          all_goals ((try refine VC.mk ?_); (try simp only [CL.ncell, CL.cnt, vq] at *); (try omega))
          all_goals (try (rw [Nat.mul_add, Nat.mul_one]))
    · have : r = i := by omega
      subst this
      repeat' ((conv => whnf); first | refine And.intro ?_ ?_ | with_reducible exact VC.mk rfl | exact Ok.mk | exact True.intro | refine Nx.mk ?_ | refine Fin.mk ?_ | intro _)
      all_goals ((try refine VC.mk ?_); (try simp only [CL.ncell, CL.cnt, vq] at *); (try omega))
      rw [Nat.mul_comm c r]
      all_goals (refine Sup.via ?_; repeat' ((conv => whnf); first | refine And.intro ?_ ?_ | with_reducible exact VC.mk rfl | exact Ok.mk | exact True.intro | refine Nx.mk ?_ | refine Fin.mk ?_ | intro _); all_goals ((try refine VC.mk ?_); (try simp only [CL.ncell, CL.cnt, vq] at *); (try omega)); all_goals (try (simp [CL.sub]; done)))
theorem rect_err (r c e : Int) (he : e ≠ 0) (hf : firstOf [if r < 1 ∨ 16 < r then 3 else 0, if c < 1 ∨ 16 < c then 3 else 0, if r.tmod 2 ≠ 0 ∨ c.tmod 4 ≠ 0 then 7 else 0] = e) : PSpec Tryz.prog 36 [.int .i64 r, .int .i64 c] (noGrid e) := by
  refine pspec_of (md := 1) (rf := []) mixed tabOK cp2_ok Tryz.func36 (by rfl) (by rfl) (by rfl) ?_
  repeat' ((conv => whnf); first | refine And.intro ?_ ?_ | with_reducible exact VC.mk rfl | exact Ok.mk | exact True.intro | refine Nx.mk ?_ | refine Fin.mk ?_ | intro _)
  all_goals ((try refine VC.mk ?_); (try simp only [CL.ncell, CL.cnt, vq] at *); (try omega))
  all_goals first | (exfalso; simp_all; done) | (refine Sup.of ?_; simp_all [resOf, noGrid]; done) | (refine Sup.via ?_; refine ⟨⟨⟨rfl⟩, ⟨rfl⟩, ⟨rfl⟩, trivial⟩, ⟨⟨by simp_all⟩, trivial⟩, trivial⟩)
def rectV (r c : Int) : PV := if rectErr r c = 0 then okGrid r c (rectL r.toNat c.toNat (r.toNat * c.toNat)) else noGrid (rectErr r c)
theorem rectangle_spec (r c : Int) : PSpec Tryz.prog 36 [.int .i64 r, .int .i64 c] (rectV r c) := by
  unfold rectV rectErr
  by_cases h1 : (r < 1 ∨ 16 < r) ∨ (c < 1 ∨ 16 < c)
  · rw [if_pos h1]
    refine rect_err r c 3 (by omega) ?_
    by_cases h : r < 1 ∨ 16 < r
    · rw [if_pos h]; rfl
    · rw [if_neg h, if_pos (h1.resolve_left h)]; rfl
  · rw [if_neg h1]
    have e1 : r.tmod 2 = r % 2 := Int.tmod_eq_emod_of_nonneg (by omega)
    have e2 : c.tmod 4 = c % 4 := Int.tmod_eq_emod_of_nonneg (by omega)
    by_cases h2 : r % 2 = 0 ∧ c % 4 = 0
    · rw [if_pos h2]
      obtain ⟨m, rfl⟩ : ∃ m : Nat, r = m := ⟨r.toNat, by omega⟩
      obtain ⟨k, rfl⟩ : ∃ k : Nat, c = k := ⟨c.toNat, by omega⟩
      simp only [Int.toNat_natCast, if_true]
      exact rect_ok m k (by omega) (by omega) h2.1 h2.2
    · rw [if_neg h2]
      refine rect_err r c 7 (by omega) ?_
      rw [if_neg (by omega), if_neg (by omega), if_pos (by omega)]; rfl
def rectangleP : PSp := fun xs K => match xs with
  | [.int .i64 r, .int .i64 c] => VC (True) ∧ K (rectV r c)
  | _ => False
theorem rectangle_ok : POK Tryz.prog 36 rectangleP := by
  intro xs K h
  unfold rectangleP at h
  split at h
  · exact ⟨_, h.2, rectangle_spec _ _⟩
  · exact h.elim
end Go.Eng.YtppflbccfdbogaaGreat
namespace Go.Eng.YtppflbccfdbogaaGreat
open Go.Proofs
set_option maxRecDepth 100000
set_option maxHeartbeats 0
set_option linter.unusedVariables false
set_option linter.unusedSimpArgs false
def notTern (x : Int) : Bool := decide (x < 0 ∨ 2 < x)
theorem c156_spec (x : Int) : PSpec Tryz.prog 45 ([] ++ [.int .i64 x] ++ []) (.bp (notTern x)) := by
  refine pspec_of (md := 0) (rf := []) mixed tabOK noC_ok Tryz.func45 (by rfl) (by rfl) (by rfl) ?_
  repeat' ((conv => whnf); first | refine And.intro ?_ ?_ | with_reducible exact VC.mk rfl | exact Ok.mk | exact True.intro | refine Nx.mk ?_ | refine Fin.mk ?_ | intro _)
  all_goals ((try refine VC.mk ?_); (try simp only [CL.ncell, CL.cnt, vq] at *); (try omega))
  all_goals refine Sup.via ?_
  repeat' ((conv => whnf); first | refine And.intro ?_ ?_ | with_reducible exact VC.mk rfl | exact Ok.mk | exact True.intro | refine Nx.mk ?_ | refine Fin.mk ?_ | intro _)
  all_goals refine VC.mk ?_
  all_goals simp_all [notTern]
  all_goals (try omega)
abbrev bimForms : PV := .agg [.int .i64 0, .int .i64 1, .int .i64 1, .int .i64 0, .int .i64 2, .int .i64 0, .int .i64 0, .int .i64 1, .int .i64 1, .int .i64 2, .int .i64 1, .int .i64 1, .int .i64 2, .int .i64 2, .int .i64 1, .int .i64 2]
noncomputable def cpT1 : CPT := cpAdd 44 (viewCC hasFP) noC
theorem cpT1_ok : CPOK Tryz.prog cpT1 := cpAdd_ok (viewCC_ok hasF_ok) noC_ok
theorem cForms_spec : PSpec Tryz.prog 17 [bimForms] (.int .i64 0) := by
  refine pspec_of (md := 0) (rf := []) mixed tabOK cpT1_ok Tryz.func17 (by rfl) (by rfl) (by rfl) ?_
  repeat' ((conv => whnf); first | refine And.intro ?_ ?_ | with_reducible exact VC.mk rfl | exact Ok.mk | exact True.intro | refine Nx.mk ?_ | refine Fin.mk ?_ | intro _)
  conv => whnf
  refine loop_rounds 5 (rounds_succ ⟨anyB_ok, mixed, tabOK, cpT1_ok, noY_ok⟩ (by rfl) ?_)
  repeat' ((conv => whnf); first | refine And.intro ?_ ?_ | with_reducible exact VC.mk rfl | exact Ok.mk | exact True.intro | refine Nx.mk ?_ | refine Fin.mk ?_ | intro _)
  all_goals ((try refine VC.mk ?_); (try simp only [CL.ncell, CL.cnt, vq] at *); (try omega))
  · simp [show te22.size = 4 from rfl]
  · exact ⟨by simp, rfl⟩
  refine ⟨notTern, fun x _ => c156_spec x, ?_⟩
  repeat' ((conv => whnf); first | refine And.intro ?_ ?_ | with_reducible exact VC.mk rfl | exact Ok.mk | exact True.intro | refine Nx.mk ?_ | refine Fin.mk ?_ | intro _)
  · exact absurd ‹_ = true› (by decide)
  all_goals ((try refine VC.mk ?_); (try simp only [CL.ncell, CL.cnt, vq] at *); (try omega))
  conv => whnf
  refine rounds_succ ⟨anyB_ok, mixed, tabOK, cpT1_ok, noY_ok⟩ (by rfl) ?_
  repeat' ((conv => whnf); first | refine And.intro ?_ ?_ | with_reducible exact VC.mk rfl | exact Ok.mk | exact True.intro | refine Nx.mk ?_ | refine Fin.mk ?_ | intro _)
  all_goals ((try refine VC.mk ?_); (try simp only [CL.ncell, CL.cnt, vq] at *); (try omega))
  · simp [show te22.size = 4 from rfl]
  · exact ⟨by simp, rfl⟩
  refine ⟨notTern, fun x _ => c156_spec x, ?_⟩
  repeat' ((conv => whnf); first | refine And.intro ?_ ?_ | with_reducible exact VC.mk rfl | exact Ok.mk | exact True.intro | refine Nx.mk ?_ | refine Fin.mk ?_ | intro _)
  · exact absurd ‹_ = true› (by decide)
  all_goals ((try refine VC.mk ?_); (try simp only [CL.ncell, CL.cnt, vq] at *); (try omega))
  conv => whnf
  refine rounds_succ ⟨anyB_ok, mixed, tabOK, cpT1_ok, noY_ok⟩ (by rfl) ?_
  repeat' ((conv => whnf); first | refine And.intro ?_ ?_ | with_reducible exact VC.mk rfl | exact Ok.mk | exact True.intro | refine Nx.mk ?_ | refine Fin.mk ?_ | intro _)
  all_goals ((try refine VC.mk ?_); (try simp only [CL.ncell, CL.cnt, vq] at *); (try omega))
  · simp [show te22.size = 4 from rfl]
  · exact ⟨by simp, rfl⟩
  refine ⟨notTern, fun x _ => c156_spec x, ?_⟩
  repeat' ((conv => whnf); first | refine And.intro ?_ ?_ | with_reducible exact VC.mk rfl | exact Ok.mk | exact True.intro | refine Nx.mk ?_ | refine Fin.mk ?_ | intro _)
  · exact absurd ‹_ = true› (by decide)
  all_goals ((try refine VC.mk ?_); (try simp only [CL.ncell, CL.cnt, vq] at *); (try omega))
  conv => whnf
  refine rounds_succ ⟨anyB_ok, mixed, tabOK, cpT1_ok, noY_ok⟩ (by rfl) ?_
  repeat' ((conv => whnf); first | refine And.intro ?_ ?_ | with_reducible exact VC.mk rfl | exact Ok.mk | exact True.intro | refine Nx.mk ?_ | refine Fin.mk ?_ | intro _)
  all_goals ((try refine VC.mk ?_); (try simp only [CL.ncell, CL.cnt, vq] at *); (try omega))
  · simp [show te22.size = 4 from rfl]
  · exact ⟨by simp, rfl⟩
  refine ⟨notTern, fun x _ => c156_spec x, ?_⟩
  repeat' ((conv => whnf); first | refine And.intro ?_ ?_ | with_reducible exact VC.mk rfl | exact Ok.mk | exact True.intro | refine Nx.mk ?_ | refine Fin.mk ?_ | intro _)
  · exact absurd ‹_ = true› (by decide)
  all_goals ((try refine VC.mk ?_); (try simp only [CL.ncell, CL.cnt, vq] at *); (try omega))
  conv => whnf
  refine rounds_succ ⟨anyB_ok, mixed, tabOK, cpT1_ok, noY_ok⟩ (by rfl) ?_
  repeat' ((conv => whnf); first | refine And.intro ?_ ?_ | with_reducible exact VC.mk rfl | exact Ok.mk | exact True.intro | refine Nx.mk ?_ | refine Fin.mk ?_ | intro _)
  all_goals ((try refine VC.mk ?_); (try simp only [CL.ncell, CL.cnt, vq] at *); (try omega))
  all_goals (exact Sup.of rfl)
def cFormsP : PSp := fun xs K => match xs with
  | [.agg [.int .i64 0, .int .i64 1, .int .i64 1, .int .i64 0, .int .i64 2, .int .i64 0, .int .i64 0, .int .i64 1, .int .i64 1, .int .i64 2, .int .i64 1, .int .i64 1, .int .i64 2, .int .i64 2, .int .i64 1, .int .i64 2]] => VC (True) ∧ K (.int .i64 0)
  | _ => False
theorem cForms_ok : POK Tryz.prog 17 cFormsP := by
  intro xs K h
  unfold cFormsP at h
  split at h
  · exact ⟨_, h.2, cForms_spec⟩
  · exact h.elim
/-! the digits of the square -/
def dig (f0 f1 f2 f3 i j : Int) : Int := (f0 * (i / 3) + f1 * (i % 3) + f2 * (j / 3) + f3 * (j % 3)) % 3
def bimF (i j : Nat) : Int := 3 * (3 * (3 * (3 * 0 + dig 0 1 1 0 i j) + dig 2 0 0 1 i j) + dig 1 2 1 1 i j) + dig 2 2 1 2 i j + 1
theorem c148_spec (i j : Nat) (hi : i < 9) (hj : j < 9) : PSpec Tryz.prog 19 ([] ++ [.int .i64 i, .int .i64 j] ++ [.ip (.pv [.int .i64 0, .int .i64 1, .int .i64 1, .int .i64 0, .int .i64 2, .int .i64 0, .int .i64 0, .int .i64 1, .int .i64 1, .int .i64 2, .int .i64 1, .int .i64 1, .int .i64 2, .int .i64 2, .int .i64 1, .int .i64 2]) 0]) (.int .i64 (bimF i j)) := by
  refine pspec_of (md := 0) (rf := []) mixed tabOK noC_ok Tryz.func19 (by rfl) (by rfl) (by rfl) ?_
  repeat' ((conv => whnf); first | refine And.intro ?_ ?_ | with_reducible exact VC.mk rfl | exact Ok.mk | exact True.intro | refine Nx.mk ?_ | refine Fin.mk ?_ | intro _)
  conv => whnf
  refine loop_rounds 5 (rounds_succ ⟨anyB_ok, mixed, tabOK, noC_ok, noY_ok⟩ (by rfl) ?_)
  repeat' ((conv => whnf); first | refine And.intro ?_ ?_ | with_reducible exact VC.mk rfl | exact Ok.mk | exact True.intro | refine Nx.mk ?_ | refine Fin.mk ?_ | intro _)
  all_goals ((try refine VC.mk ?_); (try simp only [CL.ncell, CL.cnt, vq] at *); (try omega))
  · simp [show te22.size = 4 from rfl]
  conv => whnf
  refine rounds_succ ⟨anyB_ok, mixed, tabOK, noC_ok, noY_ok⟩ (by rfl) ?_
  repeat' ((conv => whnf); first | refine And.intro ?_ ?_ | with_reducible exact VC.mk rfl | exact Ok.mk | exact True.intro | refine Nx.mk ?_ | refine Fin.mk ?_ | intro _)
  all_goals ((try refine VC.mk ?_); (try simp only [CL.ncell, CL.cnt, vq] at *); (try omega))
  · simp [show te22.size = 4 from rfl]
  conv => whnf
  refine rounds_succ ⟨anyB_ok, mixed, tabOK, noC_ok, noY_ok⟩ (by rfl) ?_
  repeat' ((conv => whnf); first | refine And.intro ?_ ?_ | with_reducible exact VC.mk rfl | exact Ok.mk | exact True.intro | refine Nx.mk ?_ | refine Fin.mk ?_ | intro _)
  all_goals ((try refine VC.mk ?_); (try simp only [CL.ncell, CL.cnt, vq] at *); (try omega))
  · simp [show te22.size = 4 from rfl]
  conv => whnf
  refine rounds_succ ⟨anyB_ok, mixed, tabOK, noC_ok, noY_ok⟩ (by rfl) ?_
  repeat' ((conv => whnf); first | refine And.intro ?_ ?_ | with_reducible exact VC.mk rfl | exact Ok.mk | exact True.intro | refine Nx.mk ?_ | refine Fin.mk ?_ | intro _)
  all_goals ((try refine VC.mk ?_); (try simp only [CL.ncell, CL.cnt, vq] at *); (try omega))
  · simp [show te22.size = 4 from rfl]
  conv => whnf
  refine rounds_succ ⟨anyB_ok, mixed, tabOK, noC_ok, noY_ok⟩ (by rfl) ?_
  repeat' ((conv => whnf); first | refine And.intro ?_ ?_ | with_reducible exact VC.mk rfl | exact Ok.mk | exact True.intro | refine Nx.mk ?_ | refine Fin.mk ?_ | intro _)
  all_goals ((try refine VC.mk ?_); (try simp only [CL.ncell, CL.cnt, vq] at *); (try omega))
  unfold bimF dig
  all_goals (refine Sup.via ?_; repeat' ((conv => whnf); first | refine And.intro ?_ ?_ | with_reducible exact VC.mk rfl | exact Ok.mk | exact True.intro | refine Nx.mk ?_ | refine Fin.mk ?_ | intro _); all_goals ((try refine VC.mk ?_); (try simp only [CL.ncell, CL.cnt, vq] at *); (try omega)); all_goals (try (simp [CL.sub]; done)))
theorem normal9 : normErr 9 9 (madeL 9 bimF) = 0 := by decide +kernel
noncomputable def cpT2 : CPT := cpAdd 17 (pureCC cFormsP) (cpAdd 18 (pureCC madeP) (cpAdd 20 (pureCC checkNormalP) noC))
theorem cpT2_ok : CPOK Tryz.prog cpT2 := cpAdd_ok (pureCC_ok cForms_ok) (cpAdd_ok (pureCC_ok made_ok) (cpAdd_ok (pureCC_ok checkNormal_ok) noC_ok))
theorem bimT_spec : PSpec Tryz.prog 5 [bimForms] (.tup [gridV 9 9 (madeL 9 bimF), .int .i64 0]) := by
  refine pspec_of (md := 0) (rf := []) mixed tabOK cpT2_ok Tryz.func5 (by rfl) (by rfl) (by rfl) ?_
  repeat' ((conv => whnf); first | refine And.intro ?_ ?_ | with_reducible exact VC.mk rfl | exact Ok.mk | exact True.intro | refine Nx.mk ?_ | refine Fin.mk ?_ | intro _)
  all_goals ((try refine VC.mk ?_); (try simp only [CL.ncell, CL.cnt, vq] at *); (try omega))
  all_goals (try (refine ⟨bimF, fun i j hi hj => c148_spec i j (by omega) (by omega), ?_⟩))
  simp only [show Int.toNat 9 = 9 from rfl]
  repeat' ((conv => whnf); first | refine And.intro ?_ ?_ | with_reducible exact VC.mk rfl | exact Ok.mk | exact True.intro | refine Nx.mk ?_ | refine Fin.mk ?_ | intro _)
  all_goals ((try refine VC.mk ?_); (try simp only [CL.ncell, CL.cnt, vq] at *); (try omega))
  · exact absurd normal9 ‹_›
  all_goals (refine Sup.via ?_; repeat' ((conv => whnf); first | refine And.intro ?_ ?_ | with_reducible exact VC.mk rfl | exact Ok.mk | exact True.intro | refine Nx.mk ?_ | refine Fin.mk ?_ | intro _); all_goals ((try refine VC.mk ?_); (try simp only [CL.ncell, CL.cnt, vq] at *); (try omega)); all_goals (try (simp [CL.sub]; done)))
def bimTP : PSp := fun xs K => match xs with
  | [.agg [.int .i64 0, .int .i64 1, .int .i64 1, .int .i64 0, .int .i64 2, .int .i64 0, .int .i64 0, .int .i64 1, .int .i64 1, .int .i64 2, .int .i64 1, .int .i64 1, .int .i64 2, .int .i64 2, .int .i64 1, .int .i64 2]] => VC (True) ∧ K (.tup [gridV 9 9 (madeL 9 bimF), .int .i64 0])
  | _ => False
theorem bimT_ok : POK Tryz.prog 5 bimTP := by
  intro xs K h
  unfold bimTP at h
  split at h
  · exact ⟨_, h.2, bimT_spec⟩
  · exact h.elim
theorem bimagic_spec : PSpec Tryz.prog 14 [] (gridV 9 9 (madeL 9 bimF)) := by
  have hC : CPOK Tryz.prog (cpAdd 5 (pureCC bimTP) noC) := cpAdd_ok (pureCC_ok bimT_ok) noC_ok
  refine pspec_of (md := 0) (rf := []) mixed tabOK hC Tryz.func14 (by rfl) (by rfl) (by rfl) ?_
  repeat' ((conv => whnf); first | refine And.intro ?_ ?_ | with_reducible exact VC.mk rfl | exact Ok.mk | exact True.intro | refine Nx.mk ?_ | refine Fin.mk ?_ | intro _)
  all_goals ((try refine VC.mk ?_); (try simp only [CL.ncell, CL.cnt, vq] at *); (try omega))
  all_goals (refine Sup.via ?_; repeat' ((conv => whnf); first | refine And.intro ?_ ?_ | with_reducible exact VC.mk rfl | exact Ok.mk | exact True.intro | refine Nx.mk ?_ | refine Fin.mk ?_ | intro _); all_goals ((try refine VC.mk ?_); (try simp only [CL.ncell, CL.cnt, vq] at *); (try omega)); all_goals (try (simp [CL.sub]; done)))
def bimagicP : PSp := fun xs K => match xs with
  | [] => VC (True) ∧ K (gridV 9 9 (madeL 9 bimF))
  | _ => False
theorem bimagic_ok : POK Tryz.prog 14 bimagicP := by
  intro xs K h
  unfold bimagicP at h
  split at h
  · exact ⟨_, h.2, bimagic_spec⟩
  · exact h.elim
end Go.Eng.YtppflbccfdbogaaGreat
namespace Go.Eng.YtppflbccfdbogaaGreat
open Go.Proofs
set_option maxRecDepth 100000
set_option maxHeartbeats 0
set_option linter.unusedVariables false
set_option linter.unusedSimpArgs false
theorem eq_of_getD {a b : List Int} (hl : a.length = b.length) (h : ∀ j, j < a.length → a.getD j 0 = b.getD j 0) : a = b := by
  refine List.ext_getElem hl fun j h1 h2 => ?_
  have := h j h1
  rw [List.getD_eq_getElem?_getD, List.getD_eq_getElem?_getD, List.getElem?_eq_getElem h1, List.getElem?_eq_getElem h2] at this
  exact this
theorem sameInts_spec (a b : List Int) (ha : a.length ≤ 2000000) : PSpec Tryz.prog 38 [.isl (.ints .i64 a) .none, .isl (.ints .i64 b) .none] (.bp (decide (a = b))) := by
  refine pspec_of (md := 1) (rf := []) mixed tabOK noC_ok Tryz.func38 (by rfl) (by rfl) (by rfl) ?_
  repeat' ((conv => whnf); first | refine And.intro ?_ ?_ | with_reducible exact VC.mk rfl | exact Ok.mk | exact True.intro | refine Nx.mk ?_ | refine Fin.mk ?_ | intro _)
  all_goals ((try refine VC.mk ?_); (try simp only [CL.ncell, CL.cnt, vq] at *); (try omega))
  · rw [show decide (a = b) = false from by simp; rintro rfl; simp at *]; all_goals (refine Sup.via ?_; repeat' ((conv => whnf); first | refine And.intro ?_ ?_ | with_reducible exact VC.mk rfl | exact Ok.mk | exact True.intro | refine Nx.mk ?_ | refine Fin.mk ?_ | intro _); all_goals ((try refine VC.mk ?_); (try simp only [CL.ncell, CL.cnt, vq] at *); (try omega)); all_goals (try (simp [CL.sub]; done)))
  have hl : a.length = b.length := by omega
  conv => whnf
  refine loop_of (X := Nat) (fun i => i ≤ a.length ∧ ∀ j, j < i → a.getD j 0 = b.getD j 0) (fun i => [(5, .int .i64 i)]) (fun i => []) (fun i => a.length - i) 0 ⟨anyB_ok, mixed, tabOK, noC_ok, noY_ok⟩ (by rfl) ⟨by omega, fun j h => by omega⟩ ?_ ?_
  · repeat' ((conv => whnf); first | refine And.intro ?_ ?_ | with_reducible exact VC.mk rfl | exact Ok.mk | exact True.intro | refine Nx.mk ?_ | refine Fin.mk ?_ | intro _)
    all_goals ((try refine VC.mk ?_); (try simp only [CL.ncell, CL.cnt, vq] at *); (try omega))
  · rintro i ⟨hi, hok⟩
    by_cases hlt : i < a.length
    · repeat' ((conv => whnf); first | refine And.intro ?_ ?_ | with_reducible exact VC.mk rfl | exact Ok.mk | exact True.intro | refine Nx.mk ?_ | refine Fin.mk ?_ | intro _)
      all_goals ((try refine VC.mk ?_); (try simp only [CL.ncell, CL.cnt, vq] at *); (try omega))
      · rw [show decide (a = b) = false from by simp; rintro rfl; simp_all]; all_goals (refine Sup.via ?_; repeat' ((conv => whnf); first | refine And.intro ?_ ?_ | with_reducible exact VC.mk rfl | exact Ok.mk | exact True.intro | refine Nx.mk ?_ | refine Fin.mk ?_ | intro _); all_goals ((try refine VC.mk ?_); (try simp only [CL.ncell, CL.cnt, vq] at *); (try omega)); all_goals (try (simp [CL.sub]; done)))
      · refine ⟨i + 1, [], ⟨⟨by omega, fun j hj => ?_⟩, by omega⟩, ?_⟩
        · by_cases e : j = i
          · subst e; omega
          · exact hok j (by omega)
        · repeat' ((conv => whnf); first | refine And.intro ?_ ?_ | with_reducible exact VC.mk rfl | exact Ok.mk | exact True.intro | refine Nx.mk ?_ | refine Fin.mk ?_ | intro _)
          all_goals ((try refine VC.mk ?_); (try simp only [CL.ncell, CL.cnt, vq] at *); (try omega))
    · have : i = a.length := by omega
      subst this
      rw [show decide (a = b) = true from by simp; exact eq_of_getD hl hok]
      repeat' ((conv => whnf); first | refine And.intro ?_ ?_ | with_reducible exact VC.mk rfl | exact Ok.mk | exact True.intro | refine Nx.mk ?_ | refine Fin.mk ?_ | intro _)
      all_goals ((try refine VC.mk ?_); (try simp only [CL.ncell, CL.cnt, vq] at *); (try omega))
      all_goals (refine Sup.via ?_; repeat' ((conv => whnf); first | refine And.intro ?_ ?_ | with_reducible exact VC.mk rfl | exact Ok.mk | exact True.intro | refine Nx.mk ?_ | refine Fin.mk ?_ | intro _); all_goals ((try refine VC.mk ?_); (try simp only [CL.ncell, CL.cnt, vq] at *); (try omega)); all_goals (try (simp [CL.sub]; done)))
def sameIntsP : PSp := fun xs K => match xs with
  | [.isl (.ints .i64 a) .none, .isl (.ints .i64 b) .none] => VC (a.length ≤ 2000000) ∧ K (.bp (decide (a = b)))
  | _ => False
theorem sameInts_ok : POK Tryz.prog 38 sameIntsP := by
  intro xs K h
  unfold sameIntsP at h
  split at h
  · exact ⟨_, h.2, sameInts_spec _ _ h.1.get⟩
  · exact h.elim
theorem same_spec (r c r' c' : Int) (a b : List Int) (ha : a.length ≤ 2000000) : PSpec Tryz.prog 13 [gridV r c a, gridV r' c' b] (.bp (decide (r = r' ∧ c = c' ∧ a = b))) := by
  have hC : CPOK Tryz.prog (cpAdd 38 (pureCC sameIntsP) noC) := cpAdd_ok (pureCC_ok sameInts_ok) noC_ok
  refine pspec_of (md := 1) (rf := []) mixed tabOK hC Tryz.func13 (by rfl) (by rfl) (by rfl) ?_
  repeat' ((conv => whnf); first | refine And.intro ?_ ?_ | with_reducible exact VC.mk rfl | exact Ok.mk | exact True.intro | refine Nx.mk ?_ | refine Fin.mk ?_ | intro _)
  all_goals ((try refine VC.mk ?_); (try simp only [CL.ncell, CL.cnt, vq] at *); (try omega))
  all_goals refine Sup.via ?_
  repeat' ((conv => whnf); first | refine And.intro ?_ ?_ | with_reducible exact VC.mk rfl | exact Ok.mk | exact True.intro | refine Nx.mk ?_ | refine Fin.mk ?_ | intro _)
  all_goals refine VC.mk ?_
  all_goals simp_all
def sameP : PSp := fun xs K => match xs with
  | [.agg [.int .i64 r, .int .i64 c, .isl (.ints .i64 a) .none], .agg [.int .i64 r', .int .i64 c', .isl (.ints .i64 b) .none]] => VC (a.length ≤ 2000000) ∧ K (.bp (decide (r = r' ∧ c = c' ∧ a = b)))
  | _ => False
theorem same_ok : POK Tryz.prog 13 sameP := by
  intro xs K h
  unfold sameP at h
  split at h
  · exact ⟨_, h.2, same_spec _ _ _ _ _ _ h.1.get⟩
  · exact h.elim
end Go.Eng.YtppflbccfdbogaaGreat
namespace Go.Eng.YtppflbccfdbogaaGreat
open Go.Proofs
set_option maxRecDepth 100000
set_option maxHeartbeats 0
set_option linter.unusedVariables false
set_option linter.unusedSimpArgs false
theorem madeO_spec (n : Nat) (hn : n ≤ 1000) (f : Nat) (fs cs : List PV) (hfs : inlE.inlF fs = true) (hcs : inlE.inlF cs = true) (h : Nat → Nat → Int) (hh : ∀ i j : Nat, i < n → j < n → PSpec Tryz.prog f (fs ++ [.int .i64 i, .int .i64 j] ++ cs) (.int .i64 (h i j))) :
    LSpec Tryz.prog 18 [.int .i64 (n : Int), .fn (.func f) fs cs] [] [.agg [.int .i64 (n : Int), .int .i64 (n : Int), .rsl 0 0 (n * n)]] [.cells (.ints .i64 (madeL n h)) false] := by
  refine ⟨enters' Tryz.func18 (by rfl) (by rfl), lspecB_open 1 rfl (by simp) hfs hcs fun S0 w0 us vs hu hv => ?_⟩
  have hY : ∀ r, YPOK Tryz.prog r (fun S w => anyB S w ∧ fromB S0 w0 S w) (fnY f us vs fun xs K => match xs with
      | [.int .i64 i, .int .i64 j] => VC ((0 ≤ i ∧ i < n) ∧ 0 ≤ j ∧ j < n) ∧ K (.int .i64 (h i.toNat j.toNat))
      | _ => False) := fun r => fnY_ok (fs := fs) (cs := cs) (fun S w hb => ⟨hu.mono hb.2 (.refl _), hv.mono hb.2 (.refl _)⟩) fun xs K hk => by
    split at hk
    · rename_i i j
      obtain ⟨⟨h1, h2⟩, hk⟩ := hk
      have := hh i.toNat j.toNat (by omega) (by omega)
      rw [Int.toNat_of_nonneg h1.1, Int.toNat_of_nonneg h2.1] at this
      exact ⟨_, hk, this⟩
    · exact hk.elim
  have hC : CPOKB Tryz.prog (fun S w => anyB S w ∧ fromB S0 w0 S w) (cpAdd 46 (lendCC [] emptyL) noC) := CPOK.up (cpAdd_ok (lendCC_ok [] emptyL_ok) noC_ok) _
  have W : Walk Tryz.prog none (fun S w => anyB S w ∧ fromB S0 w0 S w) tab.get _ _ := ⟨andB_ok anyB_ok fromB_ok, mixed, tabOK, hC, hY none⟩
  refine lspecB_of (md := 1) (rf := []) (andB_ok anyB_ok fromB_ok) mixed tabOK hC (hY none) 0 [(1, 0)] Tryz.func18 (by rfl) (by rfl) ?_
  repeat' ((conv => whnf); first | refine And.intro ?_ ?_ | with_reducible exact VC.mk rfl | exact Ok.mk | exact True.intro | refine Nx.mk ?_ | refine Fin.mk ?_ | intro _)
  all_goals ((try refine VC.mk ?_); (try simp only [CL.ncell, CL.cnt, vq] at *); (try omega))
  have eN : ((n : Int) * n).toNat = n * n := by rw [← Int.natCast_mul, Int.toNat_natCast]
  simp only [eN]
  let g : Nat → Int := fun k => h (k / n) (k % n)
  have hbd : ∀ i j : Nat, i < n → j < n → n * i + j < n * n := fun i j hi hj => by
    have := Nat.mul_le_mul_left n (show i + 1 ≤ n by omega)
    rw [Nat.mul_add] at this; omega
  have hix : ∀ i j : Nat, ((n : Int) * i + j) = ((n * i + j : Nat) : Int) := fun i j => by push_cast; rfl
  have hg : ∀ i j : Nat, j < n → h i j = g (n * i + j) := fun i j hj => by
    have h1 : (n * i + j) / n = i := by rw [Nat.mul_add_div (by omega), Nat.div_eq_of_lt hj]; simp
    have h2 : (n * i + j) % n = j := by rw [Nat.mul_add_mod, Nat.mod_eq_of_lt hj]
    simp only [g, h1, h2]
  have hNN : (n : Int) * n ≤ 1000000 := (mul_bd (show 0 ≤ (n : Int) ∧ (n : Int) ≤ 1000 by omega) (show 0 ≤ (n : Int) ∧ (n : Int) ≤ 1000 by omega)).2
  have hNN' : ((n * n : Nat) : Int) ≤ 1000000 := by rw [Int.natCast_mul]; exact hNN
  conv => whnf
  refine loop_of (X := Nat) (fun i => i ≤ n) (fun i => [(11, .int .i64 i)]) (fun i => [(1, .cells (.ints .i64 (fillG g (n * n) (n * i))) false)]) (fun i => n - i) 0 W (by rfl) (by omega) ?_ ?_
  · repeat' ((conv => whnf); first | refine And.intro ?_ ?_ | with_reducible exact VC.mk rfl | exact Ok.mk | exact True.intro | refine Nx.mk ?_ | refine Fin.mk ?_ | intro _)
    all_goals ((try refine VC.mk ?_); (try simp only [CL.ncell, CL.cnt, vq] at *); (try omega))
    all_goals simp [fillG_zero]
  · intro i hi
    by_cases hlt : i < n
    · repeat' ((conv => whnf); first | refine And.intro ?_ ?_ | with_reducible exact VC.mk rfl | exact Ok.mk | exact True.intro | refine Nx.mk ?_ | refine Fin.mk ?_ | intro _)
      all_goals ((try refine VC.mk ?_); (try simp only [CL.ncell, CL.cnt, vq] at *); (try omega))
      conv => whnf
      refine loop_of (X := Nat) (fun j => j ≤ n) (fun j => [(15, .int .i64 j)]) (fun j => [(1, .cells (.ints .i64 (fillG g (n * n) (n * i + j))) false)]) (fun j => n - j) 0 W (by rfl) (by omega) ?_ ?_
      · repeat' ((conv => whnf); first | refine And.intro ?_ ?_ | with_reducible exact VC.mk rfl | exact Ok.mk | exact True.intro | refine Nx.mk ?_ | refine Fin.mk ?_ | intro _)
        all_goals ((try refine VC.mk ?_); (try simp only [CL.ncell, CL.cnt, vq] at *); (try omega))
        all_goals simp
      · intro j hj
        by_cases hlj : j < n
        · have := hbd i j hlt hlj
          have e1 := hix i j
          have e2 := fillG_len g (n * n) (n * i + j) (by omega)
          repeat' ((conv => whnf); first | refine And.intro ?_ ?_ | with_reducible exact VC.mk rfl | exact Ok.mk | exact True.intro | refine Nx.mk ?_ | refine Fin.mk ?_ | intro _)
          all_goals ((try refine VC.mk ?_); (try simp only [CL.ncell, CL.cnt, vq] at *); (try omega))
          refine ⟨j + 1, [], ⟨by omega, by omega⟩, ?_⟩
          repeat' ((conv => whnf); first | refine And.intro ?_ ?_ | with_reducible exact VC.mk rfl | exact Ok.mk | exact True.intro | refine Nx.mk ?_ | refine Fin.mk ?_ | intro _)
          all_goals ((try refine VC.mk ?_); (try simp only [CL.ncell, CL.cnt, vq] at *); (try omega))
          rw [e1, Int.toNat_natCast, hg i j hlj, fillG_set _ _ _ this]; rfl
        · have : n = j := by omega
          subst this
          repeat' ((conv => whnf); first | refine And.intro ?_ ?_ | with_reducible exact VC.mk rfl | exact Ok.mk | exact True.intro | refine Nx.mk ?_ | refine Fin.mk ?_ | intro _)
          all_goals ((try refine VC.mk ?_); (try simp only [CL.ncell, CL.cnt, vq] at *); (try omega))
          refine ⟨i + 1, [], ⟨by omega, by omega⟩, ?_⟩
          repeat' ((conv => whnf); first | refine And.intro ?_ ?_ | with_reducible exact VC.mk rfl | exact Ok.mk | exact True.intro | refine Nx.mk ?_ | refine Fin.mk ?_ | intro _)
          all_goals ((try refine VC.mk ?_); (try simp only [CL.ncell, CL.cnt, vq] at *); (try omega))
    · have : n = i := by omega
      subst this
      repeat' ((conv => whnf); first | refine And.intro ?_ ?_ | with_reducible exact VC.mk rfl | exact Ok.mk | exact True.intro | refine Nx.mk ?_ | refine Fin.mk ?_ | intro _)
      all_goals ((try refine VC.mk ?_); (try simp only [CL.ncell, CL.cnt, vq] at *); (try omega))
      all_goals (rw [fillG_all]; rfl)
def madeO : LSp := fun xs objs K => match xs, objs with
  | [.int .i64 n, .fn (.func f) fs cs], [] => VC ((0 ≤ n ∧ n ≤ 1000) ∧ inlE.inlF fs = true ∧ inlE.inlF cs = true) ∧ ∃ h : Nat → Nat → Int, (∀ i j : Nat, (i : Int) < n → (j : Int) < n → PSpec Tryz.prog f (fs ++ [.int .i64 i, .int .i64 j] ++ cs) (.int .i64 (h i j))) ∧
      K [.agg [.int .i64 n, .int .i64 n, .rsl 0 0 (n.toNat * n.toNat)]] [.cells (.ints .i64 (madeL n.toNat h)) false]
  | _, _ => False
theorem madeO_ok : LOK Tryz.prog 18 madeO := by
  intro xs objs K h
  unfold madeO at h
  split at h
  · rename_i n f fs cs
    obtain ⟨⟨h1, h3, h4⟩, hh, h2, hK⟩ := h
    obtain ⟨m, rfl⟩ : ∃ m : Nat, n = m := ⟨n.toNat, by omega⟩
    simp only [Int.toNat_natCast] at hK
    exact ⟨_, _, hK, madeO_spec m (by omega) f fs cs h3 h4 hh (fun i j hi hj => h2 i j (by omega) (by omega))⟩
  · exact h.elim
end Go.Eng.YtppflbccfdbogaaGreat
namespace Go.Eng.YtppflbccfdbogaaGreat
open Go.Proofs
set_option maxRecDepth 100000
set_option maxHeartbeats 0
set_option linter.unusedVariables false
set_option linter.unusedSimpArgs false
def quartAdd (m : Nat) (p q : Nat) : Int := if p = 0 then (if q = 0 then 0 else 2 * m * m) else (if q = 0 then 3 * m * m else m * m)
def sglF (m : Nat) (s : List Int) (i j : Nat) : Int := s.getD (i % m * m + j % m) 0 + quartAdd m (i / m) (j / m)
theorem c133_spec (m : Nat) (s : List Int) (i j : Nat) (hm : 1 ≤ m ∧ m ≤ 8) (hs : s.length = m * m) (hv : ∀ k, k < m * m → 0 ≤ s.getD k 0 ∧ s.getD k 0 ≤ 1000) (hi : i < 2 * m) (hj : j < 2 * m) :
    PSpec Tryz.prog 94 ([] ++ [.int .i64 i, .int .i64 j] ++ [.ip (.pv [.int .i64 (m : Int), .int .i64 (m : Int), .isl (.ints .i64 s) .none]) 0, .ip (.pv [.int .i64 (m : Int)]) 0, .ip (.pv [.int .i64 0, .int .i64 (2 * m * m), .int .i64 (3 * m * m), .int .i64 (m * m)]) 0]) (.int .i64 (sglF m s i j)) := by
  have h1 := mul_bd (show 0 ≤ (m : Int) ∧ (m : Int) ≤ 8 by omega) (show 0 ≤ (m : Int) ∧ (m : Int) ≤ 8 by omega)
  have h2 : (2 : Int) * m * m = 2 * (m * m) := by rw [Int.mul_assoc]
  have h3 : (3 : Int) * m * m = 3 * (m * m) := by rw [Int.mul_assoc]
  have hr : i % m < m := Nat.mod_lt _ (by omega)
  have hc : j % m < m := Nat.mod_lt _ (by omega)
  have hidx : i % m * m + j % m < m * m := by
    have := Nat.mul_le_mul_right m (show i % m + 1 ≤ m by omega)
    rw [Nat.add_mul] at this; omega
  have e3 : ((i : Int) % m * m + (j : Int) % m) = ((i % m * m + j % m : Nat) : Int) := by push_cast; rfl
  have hb := hv _ hidx
  have em : ((m * m : Nat) : Int) = (m : Int) * m := by push_cast; rfl
  have eri : (i : Int) % m = ((i % m : Nat) : Int) := by push_cast; rfl
  have ecj : (j : Int) % m = ((j % m : Nat) : Int) := by push_cast; rfl
  have h6 := mul_bd (A := 8) (B := 8) (show 0 ≤ ((i % m : Nat) : Int) ∧ ((i % m : Nat) : Int) ≤ 8 by omega) (show 0 ≤ (m : Int) ∧ (m : Int) ≤ 8 by omega)
  rw [← eri] at h6
  have div : ∀ k : Nat, k < 2 * m → (k / m = 0 ∧ (k : Int) / m = 0) ∨ (k / m = 1 ∧ (k : Int) / m = 1) := fun k hk => by
    by_cases h : k < m
    · exact .inl ⟨Nat.div_eq_of_lt h, Int.ediv_eq_zero_of_lt (by omega) (by omega)⟩
    · have e : k / m = 1 := Nat.div_eq_of_lt_le (by omega) (by omega)
      exact .inr ⟨e, by rw [← Int.natCast_ediv, e]; rfl⟩
  unfold sglF
  have q00 : quartAdd m 0 0 = 0 := rfl
  have q01 : quartAdd m 0 1 = 2 * m * m := rfl
  have q10 : quartAdd m 1 0 = 3 * m * m := rfl
  have q11 : quartAdd m 1 1 = m * m := rfl
  rcases div i hi with ⟨p1, p2⟩ | ⟨p1, p2⟩ <;> rcases div j hj with ⟨q1, q2⟩ | ⟨q1, q2⟩ <;> rw [p1, q1]
  all_goals
    refine pspec_of (md := 0) (rf := []) mixed tabOK noC_ok Tryz.func94 (by rfl) (by rfl) (by rfl) ?_
    repeat' ((conv => whnf); first | refine And.intro ?_ ?_ | with_reducible exact VC.mk rfl | exact Ok.mk | exact True.intro | refine Nx.mk ?_ | refine Fin.mk ?_ | intro _)
    all_goals ((try refine VC.mk ?_); (try simp only [CL.ncell, CL.cnt, vq] at *); (try omega))
    all_goals (try simp only [p2, q2, e3, Int.toNat_natCast] at *)
    all_goals repeat' ((conv => whnf); first | refine And.intro ?_ ?_ | with_reducible exact VC.mk rfl | exact Ok.mk | exact True.intro | refine Nx.mk ?_ | refine Fin.mk ?_ | intro _)
    all_goals all_goals ((try refine VC.mk ?_); (try simp only [CL.ncell, CL.cnt, vq] at *); (try omega))
    all_goals first | (rw [q00]; exact Sup.of rfl) | (rw [q01]; exact Sup.of rfl) | (rw [q10]; exact Sup.of rfl) | (rw [q11]; exact Sup.of rfl)
theorem gAt_nonneg' (c : Nat → Nat) (N : Nat) : ∀ x, ∀ v ∈ gAt c N x, 0 ≤ v := by
  intro x
  induction x with
  | zero => intro v hv; rw [gAt_zero] at hv; have := List.eq_of_mem_replicate hv; omega
  | succ x ih =>
    intro v hv
    rw [gAt_succ] at hv
    rcases List.mem_or_eq_of_mem_set hv with h | h
    · exact ih v h
    · omega
theorem gAt_le' (c : Nat → Nat) (N : Nat) : ∀ x, ∀ v ∈ gAt c N x, v ≤ x := by
  intro x
  induction x with
  | zero => intro v hv; rw [gAt_zero] at hv; have := List.eq_of_mem_replicate hv; omega
  | succ x ih =>
    intro v hv
    rw [gAt_succ] at hv
    rcases List.mem_or_eq_of_mem_set hv with h | h
    · have := ih v h; omega
    · omega
/-! exchanges -/
def exB (k n i j : Nat) : Bool := decide ((j < k ∧ i ≠ k) ∨ (i = k ∧ 1 ≤ j ∧ j ≤ k) ∨ n - k < j)
def swAt (k n m : Nat) (l : List Int) (t : Nat) : List Int := (List.range t).foldl (fun l x => if exB k n (x / n) (x % n) then (l.set x (l.getD (x + n * m) 0)).set (x + n * m) (l.getD x 0) else l) l
theorem swAt_succ (k n m : Nat) (l : List Int) (t : Nat) : swAt k n m l (t + 1) = if exB k n (t / n) (t % n) then ((swAt k n m l t).set t ((swAt k n m l t).getD (t + n * m) 0)).set (t + n * m) ((swAt k n m l t).getD t 0) else swAt k n m l t := by
  simp [swAt, List.range_succ]
theorem swAt_len (k n m : Nat) (l : List Int) : ∀ t, (swAt k n m l t).length = l.length := by
  intro t
  induction t with
  | zero => rfl
  | succ t ih => rw [swAt_succ]; split <;> simp [ih]
def sglL (m : Nat) : List Int := swAt ((m - 1) / 2) (2 * m) m (madeL (2 * m) (sglF m (siaL m))) (2 * m * m)
noncomputable def cpS3 : CPT := cpAdd 52 (pureCC cSiaP) (cpAdd 18 (lendCC [] madeO) noC)
theorem cpS3_ok : CPOK Tryz.prog cpS3 := cpAdd_ok (pureCC_ok cSia_ok) (cpAdd_ok (lendCC_ok [] madeO_ok) noC_ok)
theorem siaL_len (m : Nat) : (siaL m).length = m * m := by
  unfold siaL uniL; rw [gAt_len, ← Int.natCast_mul, Int.toNat_natCast]
theorem siaL_bd (m : Nat) (hm : m ≤ 16) (k : Nat) (hk : k < m * m) : 0 ≤ (siaL m).getD k 0 ∧ (siaL m).getD k 0 ≤ 1000 := by
  have hl := siaL_len m
  have h1 := mul_bd (show 0 ≤ (m : Int) ∧ (m : Int) ≤ 16 by omega) (show 0 ≤ (m : Int) ∧ (m : Int) ≤ 16 by omega)
  rw [List.getD_eq_getElem?_getD, List.getElem?_eq_getElem (by omega)]
  have hmm := List.getElem_mem (l := siaL m) (n := k) (by omega)
  have a := gAt_nonneg' _ _ _ _ hmm
  have b := gAt_le' _ _ _ _ hmm
  simp only [Option.getD_some]; omega
theorem cSgl_spec (m : Nat) (hm : 3 ≤ m ∧ m ≤ 8) : PSpec Tryz.prog 59 [.int .i64 ((2 * m : Nat) : Int)] (gridV ((2 * m : Nat) : Int) ((2 * m : Nat) : Int) (sglL m)) := by
  have hd : (((2 * m : Nat) : Int)) / 2 = m := by omega
  have hnn := mul_bd (show 0 ≤ (m : Int) ∧ (m : Int) ≤ 8 by omega) (show 0 ≤ (m : Int) ∧ (m : Int) ≤ 8 by omega)
  have h2 : (2 : Int) * m * m = 2 * (m * m) := by rw [Int.mul_assoc]
  have h3 : (3 : Int) * m * m = 3 * (m * m) := by rw [Int.mul_assoc]
  obtain ⟨n, hn⟩ : ∃ n, n = 2 * m := ⟨_, rfl⟩
  rw [← hn] at hd ⊢
  refine pspec_of (md := 0) (rf := []) mixed tabOK cpS3_ok Tryz.func59 (by rfl) (by rfl) (by rfl) ?_
  repeat' ((conv => whnf); first | refine And.intro ?_ ?_ | with_reducible exact VC.mk rfl | exact Ok.mk | exact True.intro | refine Nx.mk ?_ | refine Fin.mk ?_ | intro _)
  all_goals ((try refine VC.mk ?_); (try simp only [CL.ncell, CL.cnt, vq] at *); (try omega))
  all_goals (try simp only [hd] at *)
  all_goals repeat' ((conv => whnf); first | refine And.intro ?_ ?_ | with_reducible exact VC.mk rfl | exact Ok.mk | exact True.intro | refine Nx.mk ?_ | refine Fin.mk ?_ | intro _)
  all_goals all_goals ((try refine VC.mk ?_); (try simp only [CL.ncell, CL.cnt, vq] at *); (try omega))
  · rfl
  · rfl
  refine ⟨sglF m (siaL m), fun i j hi hj => c133_spec m (siaL m) i j (by omega) (siaL_len m) (siaL_bd m (by omega)) (by omega) (by omega), ?_⟩
  repeat' ((conv => whnf); first | refine And.intro ?_ ?_ | with_reducible exact VC.mk rfl | exact Ok.mk | exact True.intro | refine Nx.mk ?_ | refine Fin.mk ?_ | intro _)
  all_goals ((try refine VC.mk ?_); (try simp only [CL.ncell, CL.cnt, vq] at *); (try omega))
  have hk : ((m : Int) - 1) / 2 = (((m - 1) / 2 : Nat) : Int) := by omega
  simp only [hk]
  have hkb : (m - 1) / 2 ≤ 3 := by omega
  unfold sglL
  rw [← hn]
  generalize (m - 1) / 2 = kk at *
  generalize hl0 : madeL n (sglF m (siaL m)) = l0 at *
  have hlen : l0.length = n * n := by rw [← hl0]; simp [madeL]
  clear hl0 hk
  have hnm : ((n * n : Nat) : Int) = (n : Int) * n := by push_cast; rfl
  have hN := mul_bd (show 0 ≤ (n : Int) ∧ (n : Int) ≤ 16 by omega) (show 0 ≤ (n : Int) ∧ (n : Int) ≤ 16 by omega)
  have hM := mul_bd (show 0 ≤ (n : Int) ∧ (n : Int) ≤ 16 by omega) (show 0 ≤ (m : Int) ∧ (m : Int) ≤ 8 by omega)
  have hix : ∀ i j : Nat, i < m → j < n → (n * i + j + n * m < n * n) ∧ (0 ≤ (n : Int) * i ∧ (n : Int) * i ≤ 256) ∧ (0 ≤ (n : Int) * (i + m) ∧ (n : Int) * (i + m) ≤ 256) := fun i j hi hj => by
    have a := Nat.mul_le_mul_left n (show i + 1 + m ≤ n by omega)
    rw [Nat.mul_add, Nat.mul_add] at a
    exact ⟨by omega, mul_bd (A := 16) (B := 16) (by omega) (by omega), mul_bd (A := 16) (B := 16) (by omega) (by omega)⟩
  have hdm : ∀ i j : Nat, j < n → (n * i + j) / n = i ∧ (n * i + j) % n = j := fun i j hj => by
    rw [Nat.mul_add_div (by omega), Nat.div_eq_of_lt hj, Nat.mul_add_mod, Nat.mod_eq_of_lt hj]; exact ⟨by omega, rfl⟩
  conv => whnf
  refine loop_of (X := Nat) (fun i => i ≤ m) (fun i => [(38, .int .i64 i)]) (fun i => [(8, .cells (.ints .i64 (swAt kk n m l0 (n * i))) false)]) (fun i => m - i) 0 ⟨anyB_ok, mixed, tabOK, cpS3_ok, noY_ok⟩ (by rfl) (by omega) ?_ ?_
  · repeat' ((conv => whnf); first | refine And.intro ?_ ?_ | with_reducible exact VC.mk rfl | exact Ok.mk | exact True.intro | refine Nx.mk ?_ | refine Fin.mk ?_ | intro _)
    all_goals ((try refine VC.mk ?_); (try simp only [CL.ncell, CL.cnt, vq] at *); (try omega))
    all_goals (try rfl)
  · intro i hi
    by_cases hlt : i < m
    · repeat' ((conv => whnf); first | refine And.intro ?_ ?_ | with_reducible exact VC.mk rfl | exact Ok.mk | exact True.intro | refine Nx.mk ?_ | refine Fin.mk ?_ | intro _)
      all_goals ((try refine VC.mk ?_); (try simp only [CL.ncell, CL.cnt, vq] at *); (try omega))
      conv => whnf
      refine loop_of (X := Nat) (fun j => j ≤ n) (fun j => [(42, .int .i64 j)]) (fun j => [(8, .cells (.ints .i64 (swAt kk n m l0 (n * i + j))) false)]) (fun j => n - j) 0 ⟨anyB_ok, mixed, tabOK, cpS3_ok, noY_ok⟩ (by rfl) (by omega) ?_ ?_
      · repeat' ((conv => whnf); first | refine And.intro ?_ ?_ | with_reducible exact VC.mk rfl | exact Ok.mk | exact True.intro | refine Nx.mk ?_ | refine Fin.mk ?_ | intro _)
        all_goals ((try refine VC.mk ?_); (try simp only [CL.ncell, CL.cnt, vq] at *); (try omega))
      · intro j hj
        by_cases hlj : j < n
        · have hx := hix i j hlt hlj
          have e1 := swAt_succ kk n m l0 (n * i + j)
          rw [(hdm i j hlj).1, (hdm i j hlj).2] at e1
          have e2 : (n : Int) * i + j = ((n * i + j : Nat) : Int) := by push_cast; rfl
          have e3 : (n : Int) * (i + m) + j = ((n * i + j + n * m : Nat) : Int) := by push_cast; rw [Int.mul_add]; omega
          have hls := swAt_len kk n m l0 (n * i + j)
          repeat' ((conv => whnf); first | refine And.intro ?_ ?_ | with_reducible exact VC.mk rfl | exact Ok.mk | exact True.intro | refine Nx.mk ?_ | refine Fin.mk ?_ | intro _)
          all_goals ((try refine VC.mk ?_); (try simp only [CL.ncell, CL.cnt, vq] at *); (try omega))
          all_goals (try simp only [e2, e3, Int.toNat_natCast, List.length_set] at *)
          all_goals (try omega)
          all_goals (refine ⟨j + 1, [], ⟨by omega, by omega⟩, ?_⟩)
          all_goals repeat' ((conv => whnf); first | refine And.intro ?_ ?_ | with_reducible exact VC.mk rfl | exact Ok.mk | exact True.intro | refine Nx.mk ?_ | refine Fin.mk ?_ | intro _)
          all_goals ((try refine VC.mk ?_); (try simp only [CL.ncell, CL.cnt, vq] at *); (try omega))
          all_goals (rw [show n * i + (j + 1) = n * i + j + 1 from rfl, e1]; split <;> first | rfl | (exfalso; simp_all [exB] <;> omega))
        · have : n = j := by omega
          subst this
          repeat' ((conv => whnf); first | refine And.intro ?_ ?_ | with_reducible exact VC.mk rfl | exact Ok.mk | exact True.intro | refine Nx.mk ?_ | refine Fin.mk ?_ | intro _)
          all_goals ((try refine VC.mk ?_); (try simp only [CL.ncell, CL.cnt, vq] at *); (try omega))
          refine ⟨i + 1, [], ⟨by omega, by omega⟩, ?_⟩
          repeat' ((conv => whnf); first | refine And.intro ?_ ?_ | with_reducible exact VC.mk rfl | exact Ok.mk | exact True.intro | refine Nx.mk ?_ | refine Fin.mk ?_ | intro _)
          all_goals ((try refine VC.mk ?_); (try simp only [CL.ncell, CL.cnt, vq] at *); (try omega))
    · have : m = i := by omega
      subst this
      repeat' ((conv => whnf); first | refine And.intro ?_ ?_ | with_reducible exact VC.mk rfl | exact Ok.mk | exact True.intro | refine Nx.mk ?_ | refine Fin.mk ?_ | intro _)
      all_goals ((try refine VC.mk ?_); (try simp only [CL.ncell, CL.cnt, vq] at *); (try omega))
      all_goals (try (rw [swAt_len]; omega))
      have hnn2 : n * m + n * m = n * n := by rw [← Nat.mul_add]; congr 1; omega
      refine Sup.of ?_
      have h5 : 2 * m * m = n * m := by rw [hn]
      have h6 : (swAt kk n m l0 (n * m)).length = n * n := by rw [swAt_len, hlen]
      generalize swAt kk n m l0 (n * m) = ll at *
      rw [← h6]
      simp [resOf, gridV, CL.sub]
theorem cSglP_pspec {n : Int} (h : n % 4 = 2 ∧ 6 ≤ n ∧ n ≤ 16) : PSpec Tryz.prog 59 [.int .i64 n] (gridV n n (sglL (n / 2).toNat)) := by
  obtain ⟨h1, h2, h3⟩ := h
  have e : n = ((2 * (n / 2).toNat : Nat) : Int) := by omega
  have := cSgl_spec (n / 2).toNat (by omega)
  rw [← e] at this
  exact this
def cSglP : PSp := fun xs K => match xs with
  | [.int .i64 n] => VC (n % 4 = 2 ∧ 6 ≤ n ∧ n ≤ 16) ∧ K (gridV n n (sglL (n / 2).toNat))
  | _ => False
theorem cSgl_ok : POK Tryz.prog 59 cSglP := by
  intro xs K h
  unfold cSglP at h
  split at h
  · exact ⟨_, h.2, cSglP_pspec h.1.get⟩
  · exact h.elim
theorem singlyEven_spec (n : Int) : PSpec Tryz.prog 32 [.int .i64 n] (gridOr n (n % 4 = 2 ∧ n ≠ 2) (sglL (n / 2).toNat)) := by
  have ht : ¬ (n < 1 ∨ 16 < n) → n.tmod 4 = n % 4 := fun h => Int.tmod_eq_emod_of_nonneg (by omega)
  unfold gridOr
  refine pspec_of (md := 1) (rf := []) mixed tabOK cpO2_ok Tryz.func32 (by rfl) (by rfl) (by rfl) ?_
  repeat' ((conv => whnf); first | refine And.intro ?_ ?_ | with_reducible exact VC.mk rfl | exact Ok.mk | exact True.intro | refine Nx.mk ?_ | refine Fin.mk ?_ | intro _)
  all_goals ((try refine VC.mk ?_); (try simp only [CL.ncell, CL.cnt, vq] at *); (try omega))
  · rw [if_pos ‹_›]; all_goals (refine Sup.via ?_; repeat' ((conv => whnf); first | refine And.intro ?_ ?_ | with_reducible exact VC.mk rfl | exact Ok.mk | exact True.intro | refine Nx.mk ?_ | refine Fin.mk ?_ | intro _); all_goals ((try refine VC.mk ?_); (try simp only [CL.ncell, CL.cnt, vq] at *); (try omega)); all_goals (try (simp [CL.sub]; done)))
  · rw [if_neg ‹_›, if_neg (by have := ht ‹_›; omega)]; all_goals (refine Sup.via ?_; repeat' ((conv => whnf); first | refine And.intro ?_ ?_ | with_reducible exact VC.mk rfl | exact Ok.mk | exact True.intro | refine Nx.mk ?_ | refine Fin.mk ?_ | intro _); all_goals ((try refine VC.mk ?_); (try simp only [CL.ncell, CL.cnt, vq] at *); (try omega)); all_goals (try (simp [CL.sub]; done)))
  · have := ht ‹_›
    have hc : n % 4 = 2 ∧ n ≠ 2 := by omega
    rw [if_neg ‹_›, if_pos hc]
    refine ⟨n, n, sglL (n / 2).toNat, cSglP_pspec (by omega), ?_⟩
    repeat' ((conv => whnf); first | refine And.intro ?_ ?_ | with_reducible exact VC.mk rfl | exact Ok.mk | exact True.intro | refine Nx.mk ?_ | refine Fin.mk ?_ | intro _)
    all_goals ((try refine VC.mk ?_); (try simp only [CL.ncell, CL.cnt, vq] at *); (try omega))
    all_goals (refine Sup.via ?_; repeat' ((conv => whnf); first | refine And.intro ?_ ?_ | with_reducible exact VC.mk rfl | exact Ok.mk | exact True.intro | refine Nx.mk ?_ | refine Fin.mk ?_ | intro _); all_goals ((try refine VC.mk ?_); (try simp only [CL.ncell, CL.cnt, vq] at *); (try omega)); all_goals (try (simp [CL.sub]; done)))
  · rw [if_pos ‹_›]; all_goals (refine Sup.via ?_; repeat' ((conv => whnf); first | refine And.intro ?_ ?_ | with_reducible exact VC.mk rfl | exact Ok.mk | exact True.intro | refine Nx.mk ?_ | refine Fin.mk ?_ | intro _); all_goals ((try refine VC.mk ?_); (try simp only [CL.ncell, CL.cnt, vq] at *); (try omega)); all_goals (try (simp [CL.sub]; done)))
  · rw [if_neg ‹_›, if_neg (by have := ht ‹_›; omega)]; all_goals (refine Sup.via ?_; repeat' ((conv => whnf); first | refine And.intro ?_ ?_ | with_reducible exact VC.mk rfl | exact Ok.mk | exact True.intro | refine Nx.mk ?_ | refine Fin.mk ?_ | intro _); all_goals ((try refine VC.mk ?_); (try simp only [CL.ncell, CL.cnt, vq] at *); (try omega)); all_goals (try (simp [CL.sub]; done)))
def singlyEvenP : PSp := fun xs K => match xs with
  | [.int .i64 n] => VC (True) ∧ K (gridOr n (n % 4 = 2 ∧ n ≠ 2) (sglL (n / 2).toNat))
  | _ => False
theorem singlyEven_ok : POK Tryz.prog 32 singlyEvenP := by
  intro xs K h
  unfold singlyEvenP at h
  split at h
  · exact ⟨_, h.2, singlyEven_spec _⟩
  · exact h.elim
end Go.Eng.YtppflbccfdbogaaGreat
namespace Go.Eng.YtppflbccfdbogaaGreat
open Go.Proofs
set_option maxRecDepth 100000
set_option maxHeartbeats 0
set_option linter.unusedVariables false
set_option linter.unusedSimpArgs false
/-- the frame with a stack, and without one -/
def frR (n g0 g1 : Int) (gl : List Int) (at' m : Nat) (cs : List Int) (us : List Bool) : List AO :=
  [.cells (.pv [.int .i64 n, .int .i64 g0, .int .i64 g1, .isl (.ints .i64 gl) .none, .rsl 1 0 at', .rsl 2 0 m]) false, .cells (.ints .i64 cs) false, .cells (.bools us) false]
def frN (n g0 g1 : Int) (gl : List Int) (m : Nat) (us : List Bool) : List AO :=
  [.cells (.pv [.int .i64 n, .int .i64 g0, .int .i64 g1, .isl (.ints .i64 gl) .none, .nils, .rsl 1 0 m]) false, .cells (.bools us) false]
/-- looks at a frame: the argument behind it, the number of cells, the marks; the condition and the results -/
def lookL (ex : List PV → Prop) (cond : List PV → Int → Nat → List Bool → Prop) (res : List PV → Int → List Bool → List PV) : LSp := fun xs objs K => match xs, objs with
  | .rp 0 0 :: r, [.cells (.pv [.int .i64 n, .int .i64 g0, .int .i64 g1, .isl (.ints .i64 gl) .none, .nils, .rsl 1 0 m]) false, .cells (.bools us) false] =>
    VC (cond r n m us) ∧ K (res r n us) (frN n g0 g1 gl m us)
  | .rp 0 0 :: r, [.cells (.pv [.int .i64 n, .int .i64 g0, .int .i64 g1, .isl (.ints .i64 gl) .none, .rsl 1 0 at', .rsl 2 0 m]) false, .cells (.ints .i64 cs) false, .cells (.bools us) false] =>
    VC (cond r n m us) ∧ K (res r n us) (frR n g0 g1 gl at' m cs us)
  | _, _ => False
theorem lookL_ok {f : FuncId} {ex : List PV → Prop} {cond : List PV → Int → Nat → List Bool → Prop} {res : List PV → Int → List Bool → List PV}
    (hN : ∀ r n g0 g1 gl m us, cond r n m us → LSpec Tryz.prog f (.rp 0 0 :: r) (frN n g0 g1 gl m us) (res r n us) (frN n g0 g1 gl m us))
    (hR : ∀ r n g0 g1 gl at' m cs us, cond r n m us → LSpec Tryz.prog f (.rp 0 0 :: r) (frR n g0 g1 gl at' m cs us) (res r n us) (frR n g0 g1 gl at' m cs us)) : LOK Tryz.prog f (lookL ex cond res) := by
  intro xs objs K h
  unfold lookL at h
  split at h
  · exact ⟨_, _, h.2, hN _ _ _ _ _ _ _ h.1.get⟩
  · exact ⟨_, _, h.2, hR _ _ _ _ _ _ _ _ _ h.1.get⟩
  · exact h.elim
theorem whole_pure (n g0 g1 : Int) (gl : List Int) (cv uv : PV) (hn : 0 ≤ n ∧ n ≤ 100) : PSpec Tryz.prog 98 [.ip (.pv [.int .i64 n, .int .i64 g0, .int .i64 g1, .isl (.ints .i64 gl) .none, cv, uv]) 0] (.int .i64 (n * n + 1)) := by
  have h1 := mul_bd hn hn
  refine pspec_of (md := 0) (rf := []) mixed tabOK noC_ok Tryz.func98 (by rfl) (by rfl) (by rfl) ?_
  repeat' ((conv => whnf); first | refine And.intro ?_ ?_ | with_reducible exact VC.mk rfl | exact Ok.mk | exact True.intro | refine Nx.mk ?_ | refine Fin.mk ?_ | intro _)
  all_goals ((try refine VC.mk ?_); (try simp only [CL.ncell, CL.cnt, vq] at *); (try omega))
  all_goals (first | (refine Sup.of ?_; first | rfl | (simp [*, resOf]; done)) | (refine Sup.via ?_; repeat' ((conv => whnf); first | refine And.intro ?_ ?_ | with_reducible exact VC.mk rfl | exact Ok.mk | exact True.intro | refine Nx.mk ?_ | refine Fin.mk ?_ | intro _); all_goals ((try refine VC.mk ?_); (try simp only [CL.ncell, CL.cnt, vq] at *); (try omega)); all_goals (try (simp [CL.sub]; done))))
def wholeL : LSp := lookL (fun _ => True) (fun r n _ _ => r = [] ∧ 0 ≤ n ∧ n ≤ 100) (fun _ n _ => [.int .i64 (n * n + 1)])
theorem wholeL_ok : LOK Tryz.prog 98 wholeL := by
  refine lookL_ok (fun r n g0 g1 gl m us h => ?_) (fun r n g0 g1 gl at' m cs us h => ?_)
  all_goals
    obtain ⟨rfl, hn⟩ := h
    have h1 := mul_bd hn hn
    refine lspec_of (md := 0) (rf := []) mixed tabOK noC_ok 3 [] Tryz.func98 (by rfl) (by rfl) (by rfl) ?_
    repeat' ((conv => whnf); first | refine And.intro ?_ ?_ | with_reducible exact VC.mk rfl | exact Ok.mk | exact True.intro | refine Nx.mk ?_ | refine Fin.mk ?_ | intro _)
    all_goals ((try refine VC.mk ?_); (try simp only [CL.ncell, CL.cnt, vq] at *); (try omega))
    all_goals (try rfl)
/-! the numbers that are left -/
def bordB (n : Nat) (x : Nat) : Bool := decide (x ≤ 2 * (n - 1)) || decide (n * n + 1 - 2 * (n - 1) ≤ x)
def leftB (n : Nat) (us : List Bool) (x : Nat) : Bool := bordB n x && !(us.getD x false)
def numsF (n : Nat) (us : List Bool) (t : Nat) : List Int := (((List.range' 1 t).filter (leftB n us)).map (fun (x : Nat) => (x : Int)))
theorem numsF_succ (n : Nat) (us : List Bool) (t : Nat) : numsF n us (t + 1) = if leftB n us (t + 1) then numsF n us t ++ [((t + 1 : Nat) : Int)] else numsF n us t := by
  unfold numsF
  rw [List.range'_concat, List.filter_append, List.map_append]
  simp only [Nat.one_mul, Nat.add_comm 1 t, List.filter_cons, List.filter_nil]
  split <;> simp
def numsN (n : Nat) (us : List Bool) : List Int := numsF n us (n * n)
theorem leftB_iff (n : Nat) (us : List Bool) (x : Nat) (hn : 1 ≤ n) : leftB n us x = true ↔ ((x : Int) ≤ 2 * ((n : Int) - 1) ∨ (n : Int) * n + 1 - 2 * ((n : Int) - 1) ≤ x) ∧ us.getD x false = false := by
  have h : ((n * n : Nat) : Int) = (n : Int) * n := by push_cast; rfl
  unfold leftB bordB
  simp only [Bool.and_eq_true, Bool.or_eq_true, decide_eq_true_eq, Bool.not_eq_true']
  refine and_congr_left fun _ => ?_
  omega
theorem numsF_len (n : Nat) (us : List Bool) : ∀ t, (numsF n us t).length ≤ t := by
  intro t
  simp only [numsF, List.length_map]
  exact Nat.le_trans (List.length_filter_le _ _) (by simp)
noncomputable def cpF1 : CPT := cpAdd 98 (lendCC [] wholeL) noC
theorem cpF1_ok : CPOK Tryz.prog cpF1 := cpAdd_ok (lendCC_ok [] wholeL_ok) noC_ok
def numsL : LSp := lookL (fun _ => True) (fun r n m us => r = [] ∧ (2 ≤ n ∧ n ≤ 16) ∧ us.length = m ∧ (m : Int) = n * n + 1) (fun _ n us => [.isl (.ints .i64 (numsN n.toNat us)) .none])
theorem numsL_ok : LOK Tryz.prog 99 numsL := by
  refine lookL_ok (fun r n g0 g1 gl m us h => ?_) (fun r n g0 g1 gl at' m cs us h => ?_)
  all_goals
    obtain ⟨rfl, hn, hu, hm⟩ := h
    have h1 := mul_bd (A := 16) (B := 16) (show 0 ≤ n ∧ n ≤ 16 by omega) (show 0 ≤ n ∧ n ≤ 16 by omega)
    obtain ⟨a, rfl⟩ : ∃ a : Nat, n = a := ⟨n.toNat, by omega⟩
    have haa : ((a * a : Nat) : Int) = (a : Int) * a := by push_cast; rfl
    simp only [Int.toNat_natCast]
    refine lspec_of (md := 0) (rf := []) mixed tabOK cpF1_ok 3 [] Tryz.func99 (by rfl) (by rfl) (by rfl) ?_
    repeat' ((conv => whnf); first | refine And.intro ?_ ?_ | with_reducible exact VC.mk rfl | exact Ok.mk | exact True.intro | refine Nx.mk ?_ | refine Fin.mk ?_ | intro _)
    all_goals ((try refine VC.mk ?_); (try simp only [CL.ncell, CL.cnt, vq] at *); (try omega))
    conv => whnf
    refine loop_of (X := Nat) (fun t => t ≤ a * a) (fun t => [(5, .int .i64 ((t + 1 : Nat) : Int)), (3, .isl (.ints .i64 (numsF a us t)) (.own 3))]) (fun t => [(3, .tok 1 (numsF a us t).length)]) (fun t => a * a - t) 0 ⟨anyB_ok, mixed, tabOK, cpF1_ok, noY_ok⟩ (by rfl) (by omega) ?_ ?_
    · repeat' ((conv => whnf); first | refine And.intro ?_ ?_ | with_reducible exact VC.mk rfl | exact Ok.mk | exact True.intro | refine Nx.mk ?_ | refine Fin.mk ?_ | intro _)
      all_goals ((try refine VC.mk ?_); (try simp only [CL.ncell, CL.cnt, vq] at *); (try omega))
    · intro t ht
      have e1 := numsF_succ a us t
      have e2 := numsF_len a us t
      by_cases hlt : t < a * a
      · repeat' ((conv => whnf); first | refine And.intro ?_ ?_ | with_reducible exact VC.mk rfl | exact Ok.mk | exact True.intro | refine Nx.mk ?_ | refine Fin.mk ?_ | intro _)
        all_goals ((try refine VC.mk ?_); (try simp only [CL.ncell, CL.cnt, vq] at *); (try omega))
        all_goals (try (simp only [List.length_append, List.length_cons, List.length_nil]; omega))
        all_goals (refine ⟨t + 1, [], ⟨by omega, by omega⟩, ?_⟩)
        all_goals repeat' ((conv => whnf); first | refine And.intro ?_ ?_ | with_reducible exact VC.mk rfl | exact Ok.mk | exact True.intro | refine Nx.mk ?_ | refine Fin.mk ?_ | intro _)
        all_goals ((try refine VC.mk ?_); (try simp only [CL.ncell, CL.cnt, vq] at *); (try omega))
        all_goals (rw [e1]; clear e1 e2; split <;> rename_i hl <;> rw [leftB_iff a us (t + 1) (by omega)] at hl <;> first | rfl | (simp; done) | (exfalso; exact hl ⟨by omega, by simp_all⟩) | (exfalso; have h8 := hl.1; have h9 := hl.2; first | omega | (simp_all; done)))
      · have : a * a = t := by omega
        repeat' ((conv => whnf); first | refine And.intro ?_ ?_ | with_reducible exact VC.mk rfl | exact Ok.mk | exact True.intro | refine Nx.mk ?_ | refine Fin.mk ?_ | intro _)
        all_goals ((try refine VC.mk ?_); (try simp only [CL.ncell, CL.cnt, vq] at *); (try omega))
        all_goals (try (rw [numsN, this]))
end Go.Eng.YtppflbccfdbogaaGreat
namespace Go.Eng.YtppflbccfdbogaaGreat
open Go.Proofs
set_option maxRecDepth 100000
set_option maxHeartbeats 0
set_option linter.unusedVariables false
set_option linter.unusedSimpArgs false
def loS (l : List Int) : Nat → Int
  | 0 => 0
  | c + 1 => loS l c + l.getD c 0
def hiS (l : List Int) : Nat → Int
  | 0 => 0
  | c + 1 => hiS l c + l.getD (l.length - 1 - c) 0
def markF (n : Nat) (us : List Bool) (x : Int) (b : Bool) : List Bool := (us.set x.toNat b).set (n * n + 1 - x.toNat) b
def left1 (n : Nat) (left : Int) (cs : List Int) : Int := if cs.length = n then constOf n - cs.getD 0 0 - ((n : Int) * n + 1 - cs.getD (n - 1) 0) else left
def restN (n t : Nat) : Nat := if n ≤ t then 2 * n - 3 - t else n - 1 - t
def tryL {R : Type} (n rest : Nat) (left : Int) (us : List Bool) (rec : Int → List Bool → Option R) : List Int → Option R
  | [] => none
  | x :: r => if loS (numsN n (markF n us x true)) rest ≤ left - x ∧ left - x ≤ hiS (numsN n (markF n us x true)) rest then
      (match rec x (markF n us x true) with | some v => some v | none => tryL n rest left us rec r) else tryL n rest left us rec r
def srch (n : Nat) : Nat → Int → List Int → List Bool → Option (List Int × List Bool)
  | 0, _, _, _ => none
  | f + 1, left, cs, us =>
    if cs.length = n ∧ left ≠ 0 then none
    else if cs.length = 2 * n - 2 then (if left1 n left cs = 0 then some (cs, us) else none)
    else tryL n (restN n cs.length) (left1 n left cs) us (fun x us' => srch n f (left1 n left cs - x) (cs ++ [x]) us') (numsN n us)
def srch0 (n : Nat) : Option (List Int × List Bool) := srch n (2 * n) (constOf n) [] (List.replicate (n * n + 1) false)
/-- what holds along the search -/
structure FInv (n : Nat) (cs : List Int) (us : List Bool) : Prop where
  len : us.length = n * n + 1
  sym : ∀ x, 1 ≤ x → x ≤ n * n → us.getD x false = us.getD (n * n + 1 - x) false
  cnt : 4 * (n - 1) = (numsN n us).length + 2 * cs.length
  cb : ∀ c ∈ cs, 1 ≤ c ∧ c ≤ n * n
theorem mem_numsN {n : Nat} {us : List Bool} {x : Int} : x ∈ numsN n us ↔ ∃ k : Nat, x = k ∧ 1 ≤ k ∧ k ≤ n * n ∧ leftB n us k = true := by
  simp only [numsN, numsF, List.mem_map, List.mem_filter, List.mem_range'_1]
  constructor
  · rintro ⟨k, ⟨⟨h1, h2⟩, h3⟩, rfl⟩; exact ⟨k, rfl, h1, by omega, h3⟩
  · rintro ⟨k, rfl, h1, h2, h3⟩; exact ⟨k, ⟨⟨h1, by omega⟩, h3⟩, rfl⟩
theorem bordB_comp {n k : Nat} (hn : 2 ≤ n) (h1 : 1 ≤ k) (h2 : k ≤ n * n) (h : bordB n k = true) : bordB n (n * n + 1 - k) = true ∧ n * n + 1 - k ≠ k := by
  unfold bordB at *
  have hsq : 4 * n ≤ n * n + 4 := by
    obtain ⟨d, rfl⟩ : ∃ d, n = d + 2 := ⟨n - 2, by omega⟩
    grind
  simp only [Bool.or_eq_true, decide_eq_true_eq] at h ⊢
  generalize n * n = q at *
  omega
theorem filter_two {l : List Nat} (hl : l.Nodup) {p q : Nat → Bool} {a b : Nat} (hab : a ≠ b) (ha : a ∈ l) (hb : b ∈ l) (pa : p a = true) (pb : p b = true) (hq : ∀ x ∈ l, q x = (p x && decide (x ≠ a) && decide (x ≠ b))) :
    (l.filter p).length = (l.filter q).length + 2 := by
  have e : l.filter q = ((l.filter p).filter (fun x => decide (x ≠ a))).filter (fun x => decide (x ≠ b)) := by
    rw [List.filter_filter, List.filter_filter]
    refine List.filter_congr fun x hx => ?_
    rw [hq x hx, Bool.and_assoc, Bool.and_comm, Bool.and_comm (decide (x ≠ a))]
  have one : ∀ {l : List Nat} {a : Nat}, l.Nodup → a ∈ l → (l.filter (fun x => decide (x ≠ a))).length + 1 = l.length := by
    intro l a hl ha
    have := List.length_erase_of_mem ha
    have h0 : 0 < l.length := List.length_pos_of_mem ha
    rw [List.Nodup.erase_eq_filter hl] at this
    have e2 : l.filter (fun x => decide (x ≠ a)) = l.filter (fun x => x != a) := List.filter_congr fun x _ => by simp [bne, BEq.beq]
    rw [e2]; omega
  have n1 : (l.filter p).Nodup := hl.filter _
  have a1 := one n1 (List.mem_filter.2 ⟨ha, pa⟩)
  have a2 := one (n1.filter (fun x => decide (x ≠ a))) (List.mem_filter.2 ⟨List.mem_filter.2 ⟨hb, pb⟩, by simp [Ne.symm hab]⟩)
  rw [e]; omega
theorem getD_markF {n : Nat} {us : List Bool} (hl : us.length = n * n + 1) {k : Nat} (h1 : 1 ≤ k) (h2 : k ≤ n * n) (b : Bool) (x : Nat) : (markF n us (k : Int) b).getD x false = if x = k ∨ x = n * n + 1 - k then b else us.getD x false := by
  unfold markF
  simp only [Int.toNat_natCast, List.getD_eq_getElem?_getD, List.getElem?_set, List.length_set]
  by_cases e1 : n * n + 1 - k = x
  · rw [if_pos e1, if_pos (by omega)]; simp [e1]
  · rw [if_neg e1]
    by_cases e2 : k = x
    · rw [if_pos e2, if_pos (by omega)]; simp [e2]
    · rw [if_neg e2, if_neg (by omega)]
theorem FInv.step {n : Nat} {cs : List Int} {us : List Bool} (hn : 2 ≤ n) (h : FInv n cs us) {x : Int} (hx : x ∈ numsN n us) : FInv n (cs ++ [x]) (markF n us x true) ∧ (1 ≤ x ∧ x ≤ n * n) ∧ us.getD x.toNat false = false ∧ us.getD (n * n + 1 - x.toNat) false = false := by
  obtain ⟨k, rfl, h1, h2, h3⟩ := mem_numsN.1 hx
  have hb : bordB n k = true ∧ us.getD k false = false := by simpa [leftB] using h3
  obtain ⟨c1, c2⟩ := bordB_comp hn h1 h2 hb.1
  have hs := h.sym k h1 h2
  have hk2 : us.getD (n * n + 1 - k) false = false := by rw [← hs]; exact hb.2
  refine ⟨⟨by simp [markF, h.len], fun y y1 y2 => ?_, ?_, fun c hc => ?_⟩, ⟨by omega, by exact_mod_cast h2⟩, by simpa using hb.2, by simpa using hk2⟩
  · rw [getD_markF h.len h1 h2, getD_markF h.len h1 h2, h.sym y y1 y2]
    by_cases e : y = k ∨ y = n * n + 1 - k
    · rw [if_pos e, if_pos (by omega)]
    · rw [if_neg e, if_neg (by omega)]
  · have := filter_two (l := List.range' 1 (n * n)) (List.nodup_range') (p := leftB n us) (q := leftB n (markF n us (k : Int) true)) (a := k) (b := n * n + 1 - k) (Ne.symm c2)
      (by rw [List.mem_range'_1]; omega) (by rw [List.mem_range'_1]; omega) h3 (by simp only [leftB, c1, hk2]; rfl) (fun y _ => by
        unfold leftB
        rw [getD_markF h.len h1 h2]
        by_cases e1 : y = k
        · simp [e1]
        · by_cases e2 : y = n * n + 1 - k
          · simp [e2]
          · simp [e1, e2])
    have hc := h.cnt
    simp only [numsN, numsF, List.length_map, List.length_append, List.length_cons, List.length_nil] at hc ⊢
    omega
  · rcases List.mem_append.1 hc with hc | hc
    · exact h.cb c hc
    · simp at hc; subst hc; exact ⟨by omega, by exact_mod_cast h2⟩
theorem markF_back {n : Nat} {us : List Bool} (hl : us.length = n * n + 1) {x : Int} (h1 : 1 ≤ x ∧ x ≤ n * n) (hu : us.getD x.toNat false = false) (hv : us.getD (n * n + 1 - x.toNat) false = false) : markF n (markF n us x true) x false = us := by
  obtain ⟨k, rfl⟩ : ∃ k : Nat, x = k := ⟨x.toNat, by omega⟩
  have h2 : k ≤ n * n := by exact_mod_cast h1.2
  have hl2 : (markF n us (k : Int) true).length = n * n + 1 := by simp [markF, hl]
  refine List.ext_getElem (by simp [markF]) fun i hi hi' => ?_
  have e := getD_markF hl2 (by omega : 1 ≤ k) h2 false i
  have e2 := getD_markF hl (by omega : 1 ≤ k) h2 true i
  simp only [List.getD_eq_getElem?_getD, List.getElem?_eq_getElem hi, List.getElem?_eq_getElem hi', List.getElem?_eq_getElem (show i < (markF n us (k : Int) true).length by omega), Option.getD_some] at e e2
  rw [e]
  by_cases c : i = k ∨ i = n * n + 1 - k
  · rw [if_pos c]
    simp only [Int.toNat_natCast] at hu hv
    rcases c with rfl | rfl
    · simpa [List.getD_eq_getElem?_getD, List.getElem?_eq_getElem hi'] using hu.symm
    · simpa [List.getD_eq_getElem?_getD, List.getElem?_eq_getElem hi'] using hv.symm
  · rw [if_neg c, e2, if_neg c]
end Go.Eng.YtppflbccfdbogaaGreat
namespace Go.Eng.YtppflbccfdbogaaGreat
open Go.Proofs
set_option maxRecDepth 100000
set_option maxHeartbeats 0
set_option linter.unusedVariables false
set_option linter.unusedSimpArgs false
theorem numsN_bd {n : Nat} {us : List Bool} {x : Int} (h : x ∈ numsN n us) : 1 ≤ x ∧ x ≤ n * n := by
  obtain ⟨k, rfl, h1, h2, _⟩ := mem_numsN.1 h
  exact ⟨by omega, by exact_mod_cast h2⟩
theorem getD_bd {l : List Int} {B : Int} (hB : ∀ x ∈ l, 0 ≤ x ∧ x ≤ B) (i : Nat) (h0 : 0 ≤ B) : 0 ≤ l.getD i 0 ∧ l.getD i 0 ≤ B := by
  rw [List.getD_eq_getElem?_getD]
  cases h : l[i]? with
  | none => exact ⟨Int.le_refl _, h0⟩
  | some v => exact hB v (List.mem_of_getElem? h)
theorem loS_bd {l : List Int} {B : Int} (hB : ∀ x ∈ l, 0 ≤ x ∧ x ≤ B) (h0 : 0 ≤ B) : ∀ c : Nat, 0 ≤ loS l c ∧ loS l c ≤ c * B := by
  intro c
  induction c with
  | zero => simp [loS]
  | succ c ih => have := getD_bd hB c h0; simp only [loS]; push_cast; rw [Int.add_mul]; omega
theorem hiS_bd {l : List Int} {B : Int} (hB : ∀ x ∈ l, 0 ≤ x ∧ x ≤ B) (h0 : 0 ≤ B) : ∀ c : Nat, 0 ≤ hiS l c ∧ hiS l c ≤ c * B := by
  intro c
  induction c with
  | zero => simp [hiS]
  | succ c ih => have := getD_bd hB (l.length - 1 - c) h0; simp only [hiS]; push_cast; rw [Int.add_mul]; omega
noncomputable def cpF2 : CPT := cpAdd 99 (lendCC [] numsL) noC
theorem cpF2_ok : CPOK Tryz.prog cpF2 := cpAdd_ok (lendCC_ok [] numsL_ok) noC_ok
def boundsCond (r : List PV) (n : Int) (m : Nat) (us : List Bool) : Prop := ∃ c : Nat, r = [.int .i64 (c : Int)] ∧ c ≤ (numsN n.toNat us).length ∧ (2 ≤ n ∧ n ≤ 16) ∧ us.length = m ∧ (m : Int) = n * n + 1
def boundsRes (r : List PV) (n : Int) (us : List Bool) : List PV := match r with
  | [.int _ c] => [.int .i64 (loS (numsN n.toNat us) c.toNat), .int .i64 (hiS (numsN n.toNat us) c.toNat)]
  | _ => []
def boundsL : LSp := lookL (fun _ => True) boundsCond boundsRes
theorem boundsL_ok : LOK Tryz.prog 100 boundsL := by
  refine lookL_ok (fun r n g0 g1 gl m us h => ?_) (fun r n g0 g1 gl at' m cs us h => ?_)
  all_goals
    obtain ⟨c, rfl, hc, hn, hu, hm⟩ := h
    have h1 := mul_bd (A := 16) (B := 16) (show 0 ≤ n ∧ n ≤ 16 by omega) (show 0 ≤ n ∧ n ≤ 16 by omega)
    obtain ⟨a, rfl⟩ : ∃ a : Nat, n = a := ⟨n.toNat, by omega⟩
    have haa : ((a * a : Nat) : Int) = (a : Int) * a := by push_cast; rfl
    unfold boundsRes
    simp only [Int.toNat_natCast] at *
    have hln := numsF_len a us (a * a)
    have hbd : ∀ x ∈ numsN a us, 0 ≤ x ∧ x ≤ 256 := fun x hx => by have := numsN_bd hx; omega
    have hlo := loS_bd hbd (by omega)
    have hhi := hiS_bd hbd (by omega)
    have hge := fun i => getD_bd hbd i (by omega)
    have hll : (numsN a us).length ≤ 256 := by unfold numsN; omega
    refine lspec_of (md := 0) (rf := []) mixed tabOK cpF2_ok 3 [] Tryz.func100 (by rfl) (by rfl) (by rfl) ?_
    repeat' ((conv => whnf); first | refine And.intro ?_ ?_ | with_reducible exact VC.mk rfl | exact Ok.mk | exact True.intro | refine Nx.mk ?_ | refine Fin.mk ?_ | intro _)
    all_goals ((try refine VC.mk ?_); (try simp only [CL.ncell, CL.cnt, vq] at *); (try omega))
    all_goals (try exact ⟨rfl, by omega, hu, hm⟩)
    generalize hl : numsN a us = l at *
    conv => whnf
    refine loop_of (X := Nat) (fun t => t ≤ c) (fun t => [(13, .int .i64 (t : Int)), (7, .int .i64 (loS l t)), (8, .int .i64 (hiS l t))]) (fun t => []) (fun t => c - t) 0 ⟨anyB_ok, mixed, tabOK, cpF2_ok, noY_ok⟩ (by rfl) (by omega) ?_ ?_
    · repeat' ((conv => whnf); first | refine And.intro ?_ ?_ | with_reducible exact VC.mk rfl | exact Ok.mk | exact True.intro | refine Nx.mk ?_ | refine Fin.mk ?_ | intro _)
      all_goals ((try refine VC.mk ?_); (try simp only [CL.ncell, CL.cnt, vq] at *); (try omega))
      all_goals (try rfl)
    · intro t ht
      have a1 := hlo t
      have a2 := hhi t
      have a3 := hge t
      have a4 := hge (l.length - 1 - t)
      have a5 : (((l.length : Int) - 1 - t).toNat) = l.length - 1 - t := by omega
      by_cases hlt : t < c
      · repeat' ((conv => whnf); first | refine And.intro ?_ ?_ | with_reducible exact VC.mk rfl | exact Ok.mk | exact True.intro | refine Nx.mk ?_ | refine Fin.mk ?_ | intro _)
        all_goals ((try refine VC.mk ?_); (try simp only [CL.ncell, CL.cnt, vq] at *); (try omega))
        all_goals (try (rw [a5]; omega))
        all_goals (refine ⟨t + 1, [], ⟨by omega, by omega⟩, ?_⟩)
        all_goals repeat' ((conv => whnf); first | refine And.intro ?_ ?_ | with_reducible exact VC.mk rfl | exact Ok.mk | exact True.intro | refine Nx.mk ?_ | refine Fin.mk ?_ | intro _)
        all_goals ((try refine VC.mk ?_); (try simp only [CL.ncell, CL.cnt, vq] at *); (try omega))
        all_goals first | rfl | (rw [a5]; rfl)
      · have : c = t := by omega
        subst this
        repeat' ((conv => whnf); first | refine And.intro ?_ ?_ | with_reducible exact VC.mk rfl | exact Ok.mk | exact True.intro | refine Nx.mk ?_ | refine Fin.mk ?_ | intro _)
        all_goals ((try refine VC.mk ?_); (try simp only [CL.ncell, CL.cnt, vq] at *); (try omega))
        all_goals (try rfl)
end Go.Eng.YtppflbccfdbogaaGreat
namespace Go.Eng.YtppflbccfdbogaaGreat
open Go.Proofs
set_option maxRecDepth 100000
set_option maxHeartbeats 0
set_option linter.unusedVariables false
set_option linter.unusedSimpArgs false
def sumL : Nat → List Nat → Nat
  | 0, _ => 0
  | _ + 1, [] => 0
  | k + 1, x :: r => x + sumL k r
def dropN (N x : Nat) : List Nat → List Nat
  | [] => []
  | y :: r => match Nat.beq y x || Nat.beq y (N - x) with | true => dropN N x r | false => y :: dropN N x r
/-- the rounds: left is what is wanted of the row (or the column), in natural numbers -/
def tryA {R : Type} (N rest left : Nat) (av : List Nat) (rec : Nat → List Nat → Option R) : List Nat → Option R
  | [] => none
  | x :: r => match Nat.ble (sumL rest (dropN N x av) + x) left && Nat.ble left (sumL rest (dropN N x av).reverse + x) with
    | true => (match rec x (dropN N x av) with | some v => some v | none => tryA N rest left av rec r)
    | false => tryA N rest left av rec r
/-- cells in reverse -/
def srchA (n N C : Nat) : Nat → Nat → Nat → List Nat → List Nat → Option (List Nat)
  | 0, _, _, _, _ => none
  | f + 1, t, left, cs, av =>
    match Nat.beq t n with
    | true => (match Nat.beq left 0 with
      | true => (match Nat.ble (cs.getD (n - 1) 0 + (N - cs.getD 0 0)) C with
        | true => tryA N (2 * n - 3 - t) (C - (cs.getD (n - 1) 0 + (N - cs.getD 0 0))) av (fun x av' => srchA n N C f (t + 1) (C - (cs.getD (n - 1) 0 + (N - cs.getD 0 0)) - x) (x :: cs) av') av
        | false => none)
      | false => none)
    | false => match Nat.beq t (2 * n - 2) with
      | true => (match Nat.beq left 0 with | true => some cs | false => none)
      | false => tryA N (match Nat.ble n t with | true => 2 * n - 3 - t | false => n - 1 - t) left av (fun x av' => srchA n N C f (t + 1) (left - x) (x :: cs) av') av
def srchA0 (n : Nat) : Option (List Nat) := srchA n (n * n + 1) (n * (n * n + 1) / 2) (2 * n) 0 (n * (n * n + 1) / 2) [] (List.range' 1 (2 * (n - 1)) ++ List.range' (n * n + 1 - 2 * (n - 1)) (2 * (n - 1)))
theorem srchA3 : srchA0 3 = some [9, 6, 7, 2] := by decide +kernel
theorem srchA4 : srchA0 4 = some [16, 13, 14, 12, 6, 2] := by decide +kernel
theorem srchA5 : srchA0 5 = some [22, 20, 19, 23, 21, 18, 2, 1] := by decide +kernel
theorem srchA6 : srchA0 6 = some [32, 31, 30, 9, 29, 35, 33, 10, 3, 1] := by decide +kernel
theorem beqF {a b : Nat} (h : a ≠ b) : Nat.beq a b = false := by
  rw [Bool.eq_false_iff]; intro h2; exact h (Nat.eq_of_beq_eq_true h2)
theorem beqT (a : Nat) : Nat.beq a a = true := Nat.beq_refl a
/-! the two searches are one -/
def castL (l : List Nat) : List Int := l.map fun (x : Nat) => (x : Int)
def numsA (n : Nat) (us : List Bool) : List Nat := (List.range' 1 (n * n)).filter (leftB n us)
theorem numsN_cast (n : Nat) (us : List Bool) : numsN n us = castL (numsA n us) := rfl
theorem dropN_filter (N x : Nat) (l : List Nat) : dropN N x l = l.filter fun y => decide (y ≠ x) && decide (y ≠ N - x) := by
  induction l with
  | nil => rfl
  | cons y r ih =>
    simp only [dropN, List.filter_cons, ih]
    by_cases h1 : y = x
    · subst h1; simp
    · by_cases h2 : y = N - x
      · simp [h2]
      · have e1 : Nat.beq y x = false := beqF h1
        have e2 : Nat.beq y (N - x) = false := beqF h2
        simp [h1, h2, e1, e2]
theorem numsA_mark {n : Nat} {us : List Bool} (hl : us.length = n * n + 1) {k : Nat} (h1 : 1 ≤ k) (h2 : k ≤ n * n) : numsA n (markF n us (k : Int) true) = dropN (n * n + 1) k (numsA n us) := by
  rw [dropN_filter, numsA, numsA, List.filter_filter]
  refine List.filter_congr fun y _ => ?_
  unfold leftB
  rw [getD_markF hl h1 h2]
  by_cases e1 : y = k
  · simp [e1]
  · by_cases e2 : y = n * n + 1 - k
    · simp [e2]
    · simp [e1, e2]
theorem castL_getD (l : List Nat) (i : Nat) : (castL l).getD i 0 = ((l.getD i 0 : Nat) : Int) := by
  simp only [castL, List.getD_eq_getElem?_getD, List.getElem?_map]
  cases l[i]? <;> simp
theorem sumL_succ : ∀ (k : Nat) (l : List Nat), sumL (k + 1) l = sumL k l + l.getD k 0 := by
  intro k
  induction k with
  | zero => intro l; cases l <;> simp [sumL]
  | succ k ih =>
    intro l
    cases l with
    | nil => simp [sumL]
    | cons x r => rw [sumL, ih r]; simp [sumL]; omega
theorem loS_cast (l : List Nat) : ∀ k, loS (castL l) k = ((sumL k l : Nat) : Int) := by
  intro k
  induction k with
  | zero => cases l <;> rfl
  | succ k ih => rw [sumL_succ]; simp only [loS, ih, castL_getD]; push_cast; rfl
theorem hiS_cast (l : List Nat) : ∀ k, k ≤ l.length → hiS (castL l) k = ((sumL k l.reverse : Nat) : Int) := by
  intro k
  induction k with
  | zero => intro _; cases l.reverse <;> rfl
  | succ k ih =>
    intro hk
    rw [sumL_succ]
    simp only [hiS, ih (by omega), castL_getD]
    have e : (castL l).length - 1 - k = l.length - 1 - k := by simp [castL]
    have e2 : l.reverse.getD k 0 = l.getD (l.length - 1 - k) 0 := by
      simp only [List.getD_eq_getElem?_getD]
      rw [List.getElem?_reverse (by omega)]
    rw [e, e2]; push_cast; rfl
theorem tryL_neg {R : Type} {n rest : Nat} {left : Int} {us : List Bool} {rec : Int → List Bool → Option R} (hl : left < 0) : ∀ (r : List Int), (∀ x ∈ r, 1 ≤ x) → tryL n rest left us rec r = none := by
  intro r
  induction r with
  | nil => intro _; rfl
  | cons x r ih =>
    intro hr
    have hx := hr x (by simp)
    have hlo := (loS_bd (l := numsN n (markF n us x true)) (B := n * n) (fun y hy => by have := numsN_bd hy; omega) (by exact_mod_cast Nat.zero_le _) rest).1
    rw [tryL, if_neg (by omega)]
    exact ih fun y hy => hr y (by simp [hy])
theorem tryL_tryA {n rest lft : Nat} {us : List Bool} {av : List Nat} {rec : Int → List Bool → Option (List Int × List Bool)} {recA : Nat → List Nat → Option (List Nat)} {g : List Nat → List Int}
    (hl : us.length = n * n + 1) (hav : numsA n us = av) (hlen : ∀ x ∈ av, rest ≤ (dropN (n * n + 1) x av).length)
    (hrec : ∀ x ∈ av, x ≤ lft → (rec (x : Int) (markF n us (x : Int) true)).map (·.1) = (recA x (dropN (n * n + 1) x av)).map g) :
    ∀ (r : List Nat), (∀ x ∈ r, x ∈ av) → (tryL n rest (lft : Int) us rec (castL r)).map (·.1) = (tryA (n * n + 1) rest lft av recA r).map g := by
  intro r
  induction r with
  | nil => intro _; rfl
  | cons x r ih =>
    intro hr
    have hx := hr x (by simp)
    have ih := ih fun y hy => hr y (by simp [hy])
    have hxb : 1 ≤ x ∧ x ≤ n * n := by
      have : x ∈ numsA n us := by rw [hav]; exact hx
      simp only [numsA, List.mem_filter, List.mem_range'_1] at this
      omega
    have hm : numsN n (markF n us (x : Int) true) = castL (dropN (n * n + 1) x av) := by rw [numsN_cast, numsA_mark hl hxb.1 hxb.2, hav]
    show (tryL n rest (lft : Int) us rec ((x : Int) :: castL r)).map (·.1) = _
    rw [tryL, hm, loS_cast, hiS_cast _ _ (hlen x hx), tryA]
    by_cases hc : sumL rest (dropN (n * n + 1) x av) + x ≤ lft ∧ lft ≤ sumL rest (dropN (n * n + 1) x av).reverse + x
    · have hb : (Nat.ble (sumL rest (dropN (n * n + 1) x av) + x) lft && Nat.ble lft (sumL rest (dropN (n * n + 1) x av).reverse + x)) = true := by
        rw [Bool.and_eq_true]; exact ⟨Nat.ble_eq_true_of_le hc.1, Nat.ble_eq_true_of_le hc.2⟩
      rw [if_pos (by omega), hb]
      have hr2 := hrec x hx (by omega)
      simp only
      cases h1 : rec (x : Int) (markF n us (x : Int) true) with
      | none =>
        rw [h1] at hr2
        cases h2 : recA x (dropN (n * n + 1) x av) with
        | none => exact ih
        | some v => rw [h2] at hr2; simp at hr2
      | some v =>
        rw [h1] at hr2
        cases h2 : recA x (dropN (n * n + 1) x av) with
        | none => rw [h2] at hr2; simp at hr2
        | some v2 => rw [h2] at hr2; exact hr2
    · have hb : (Nat.ble (sumL rest (dropN (n * n + 1) x av) + x) lft && Nat.ble lft (sumL rest (dropN (n * n + 1) x av).reverse + x)) = false := by
        rw [Bool.eq_false_iff]; intro h
        rw [Bool.and_eq_true] at h
        exact hc ⟨Nat.le_of_ble_eq_true h.1, Nat.le_of_ble_eq_true h.2⟩
      rw [if_neg (by omega), hb]
      exact ih
theorem srch_srchA {n : Nat} (hn : 3 ≤ n) {C : Nat} (hC : constOf n = C) : ∀ (f lft : Nat) (csr : List Nat) (av : List Nat) (us : List Bool), FInv n (castL csr.reverse) us → numsA n us = av →
    (srch n f (lft : Int) (castL csr.reverse) us).map (·.1) = (srchA n (n * n + 1) C f csr.length lft csr av).map fun l => castL l.reverse := by
  intro f
  induction f with
  | zero => intro lft csr av us _ _; rfl
  | succ f ih =>
    intro lft csr av us hI hav
    have hcl : (castL csr.reverse).length = csr.length := by simp [castL]
    have hcnt := hI.cnt
    have hal : (numsN n us).length = av.length := by rw [numsN_cast, hav]; simp [castL]
    rw [hcl, hal] at hcnt
    have step : ∀ x ∈ av, FInv n (castL (x :: csr).reverse) (markF n us (x : Int) true) ∧ (1 ≤ x ∧ x ≤ n * n) := fun x hx => by
      have h1 := hI.step (by omega) (x := (x : Int)) (by rw [numsN_cast, hav]; exact List.mem_map.2 ⟨x, hx, rfl⟩)
      refine ⟨?_, ?_⟩
      · have : castL (x :: csr).reverse = castL csr.reverse ++ [(x : Int)] := by simp [castL]
        rw [this]; exact h1.1
      · have := h1.2.1; omega
    have key : ∀ (rest l1 : Nat), rest + csr.length ≤ 2 * n - 3 → rest ≤ n → (rest + csr.length ≤ n - 1 ∨ n ≤ csr.length) → (tryL n rest (l1 : Int) us (fun x us' => srch n f ((l1 : Int) - x) (castL csr.reverse ++ [x]) us') (numsN n us)).map (·.1) =
        (tryA (n * n + 1) rest l1 av (fun x av' => srchA n (n * n + 1) C f (csr.length + 1) (l1 - x) (x :: csr) av') av).map fun l => castL l.reverse := fun rest l1 hrest hrn _ => by
      have hm : numsN n us = castL av := by rw [numsN_cast, hav]
      rw [hm]
      refine tryL_tryA hI.len hav (fun x hx => ?_) (fun x hx hle => ?_) av fun x hx => hx
      · have h2 := (step x hx).1.cnt
        rw [numsN_cast, numsA_mark hI.len (step x hx).2.1 (step x hx).2.2, hav] at h2
        simp only [castL, List.length_map, List.length_reverse, List.length_cons] at h2
        omega
      · have h3 := ih (l1 - x) (x :: csr) (dropN (n * n + 1) x av) (markF n us (x : Int) true) (step x hx).1 (by rw [numsA_mark hI.len (step x hx).2.1 (step x hx).2.2, hav])
        have e1 : castL (x :: csr).reverse = castL csr.reverse ++ [(x : Int)] := by simp [castL]
        have e2 : ((l1 - x : Nat) : Int) = (l1 : Int) - x := by omega
        rw [e1, e2] at h3
        exact h3
    simp only [srch, srchA, hcl]
    by_cases h1 : csr.length = n
    · rw [h1, beqT]
      by_cases h2 : lft = 0
      · subst h2
        rw [if_neg (by simp), if_neg (by omega)]
        have hfirst : (castL csr.reverse).getD 0 0 = ((csr.getD (n - 1) 0 : Nat) : Int) := by
          rw [castL_getD]; congr 1; rw [List.getD_eq_getElem?_getD, List.getElem?_reverse (by omega), List.getD_eq_getElem?_getD, h1]; rfl
        have hlast : (castL csr.reverse).getD (n - 1) 0 = ((csr.getD 0 0 : Nat) : Int) := by
          rw [castL_getD]; congr 1; rw [List.getD_eq_getElem?_getD, List.getElem?_reverse (by omega), List.getD_eq_getElem?_getD, h1]; congr 2; omega
        have hlb : csr.getD 0 0 ≤ n * n := by
          have h5 : ((csr.getD 0 0 : Nat) : Int) ∈ castL csr.reverse := by
            refine List.mem_map.2 ⟨csr.getD 0 0, List.mem_reverse.2 ?_, rfl⟩
            rw [List.getD_eq_getElem?_getD, List.getElem?_eq_getElem (by omega)]; exact List.getElem_mem _
          have := (hI.cb _ h5).2; omega
        have hr : restN n n = 2 * n - 3 - n := by unfold restN; rw [if_pos (Nat.le_refl _)]
        have hl1 : left1 n ((0 : Nat) : Int) (castL csr.reverse) = (C : Int) - ((csr.getD (n - 1) 0 + (n * n + 1 - csr.getD 0 0) : Nat) : Int) := by
          unfold left1; rw [if_pos (by rw [hcl, h1]), hC, hfirst, hlast]; push_cast; omega
        rw [hl1, hr]
        simp only [beqT]
        generalize hq : csr.getD (n - 1) 0 + (n * n + 1 - csr.getD 0 0) = q at *
        by_cases h3 : q ≤ C
        · rw [Nat.ble_eq_true_of_le h3]
          have := key (2 * n - 3 - n) (C - q) (by omega) (by omega) (.inr (by omega))
          have e3 : ((C - q : Nat) : Int) = (C : Int) - (q : Int) := by omega
          rw [e3, h1] at this
          exact this
        · have hb : Nat.ble q C = false := by rw [Bool.eq_false_iff]; intro h; exact h3 (Nat.le_of_ble_eq_true h)
          rw [hb, tryL_neg (left := (C : Int) - (q : Int)) (by omega) _ fun x hx => (numsN_bd hx).1]; rfl
      · have hb : Nat.beq lft 0 = false := beqF h2
        rw [if_pos ⟨rfl, by omega⟩, hb]; rfl
    · have hb : Nat.beq csr.length n = false := beqF h1
      rw [if_neg (by simp [h1]), hb]
      have hl1 : left1 n (lft : Int) (castL csr.reverse) = lft := by unfold left1; rw [if_neg (by rw [hcl]; exact h1)]
      by_cases h2 : csr.length = 2 * n - 2
      · rw [if_pos h2, h2, beqT, hl1]
        by_cases h3 : lft = 0
        · subst h3; simp
        · have hb : Nat.beq lft 0 = false := beqF h3
          rw [if_neg (by omega), hb]; rfl
      · have hb2 : Nat.beq csr.length (2 * n - 2) = false := beqF h2
        rw [if_neg h2, hb2, hl1]
        have hle : csr.length ≤ 2 * n - 2 := by omega
        by_cases h4 : n ≤ csr.length
        · rw [Nat.ble_eq_true_of_le h4, show restN n csr.length = 2 * n - 3 - csr.length by unfold restN; rw [if_pos h4]]
          exact key _ lft (by omega) (by omega) (.inr h4)
        · have hb3 : Nat.ble n csr.length = false := by rw [Bool.eq_false_iff]; intro h; exact h4 (Nat.le_of_ble_eq_true h)
          rw [hb3, show restN n csr.length = n - 1 - csr.length by unfold restN; rw [if_neg h4]]
          exact key _ lft (by omega) (by omega) (.inl (by omega))
end Go.Eng.YtppflbccfdbogaaGreat
namespace Go.Eng.YtppflbccfdbogaaGreat
open Go.Proofs
set_option maxRecDepth 100000
set_option maxHeartbeats 0
set_option linter.unusedVariables false
set_option linter.unusedSimpArgs false
abbrev nxA : AO := .cells (.pv [.rp 3 0]) false
abbrev nxB (n : Int) : AO := .cells (.pv [.int .i64 n]) false
abbrev nxC : AO := .cells (.pv [.fn (.func 97) [] [.rp 0 0, .rp 1 0, .rp 2 0]]) false
abbrev nxF (n g0 g1 : Int) (gl : List Int) (cv : PV) (m : Nat) : AO := .cells (.pv [.int .i64 n, .int .i64 g0, .int .i64 g1, .isl (.ints .i64 gl) .none, cv, .rsl 5 0 m]) false
/-- the slice's value and its object, in the first phase and in the second -/
def cvOf (ph : Bool) (k t : Nat) : PV := match ph with | true => .rsl k 0 t | false => .nils
def soOf (ph : Bool) (cs : List Int) : AO := match ph with | true => .cells (.ints .i64 cs) false | false => .cells (.pv []) true
def nxO (ph : Bool) (n g0 g1 : Int) (gl : List Int) (cs : List Int) (m : Nat) (us : List Bool) : List AO := [nxA, nxB n, nxC, nxF n g0 g1 gl (cvOf ph 4 cs.length) m, soOf ph cs, .cells (.bools us) false]
def nxH (ph : Bool) (n g0 g1 : Int) (gl : List Int) (cs : List Int) (m : Nat) (us : List Bool) : Hp := [some nxA, some (nxB n), some nxC, some (nxF n g0 g1 gl (cvOf ph 6 cs.length) m), some (.cells (.pv []) true), some (.cells (.bools us) false), some (soOf ph cs)]
def nxR (n g0 g1 : Int) (gl : List Int) (m : Nat) (r : List Int × List Bool) : List AO := [nxA, nxB n, nxC, nxF n g0 g1 gl (.rsl 6 0 r.1.length) m, .cells (.pv []) true, .cells (.bools r.2) false, .cells (.ints .i64 r.1) false]
theorem entry_next (args : List PV) (ph : Bool) (n g0 g1 : Int) (gl : List Int) (cs : List Int) (m : Nat) (us : List Bool) : EntryOK args (nxO ph n g0 g1 gl cs m us) args (nxH ph n g0 g1 gl cs m us) := by
  intro S w ι vs M R
  cases ph with
  | true =>
    obtain ⟨b, arr, e, h1, _⟩ := M.obj 4 (.cells (.ints .i64 cs) false) rfl
    obtain ⟨M1, L1, T1⟩ := M.move (k := 4) (n := 6) (c := .ints .i64 cs) rfl rfl h1
    obtain ⟨M2, T2⟩ := M1.recast (k := 3) (c := .pv [.int .i64 n, .int .i64 g0, .int .i64 g1, .isl (.ints .i64 gl) .none, .rsl 4 0 cs.length, .rsl 5 0 m]) (c' := .pv [.int .i64 n, .int .i64 g0, .int .i64 g1, .isl (.ints .i64 gl) .none, .rsl 6 0 cs.length, .rsl 5 0 m]) rfl (by simp [CL.ncell]) (fun j hj v hr => by
      simp only [CL.ncell, List.length_cons, List.length_nil] at hj
      have : j = 0 ∨ j = 1 ∨ j = 2 ∨ j = 3 ∨ j = 4 ∨ j = 5 := by omega
      rcases this with rfl | rfl | rfl | rfl | rfl | rfl
      · exact hr
      · exact hr
      · exact hr
      · exact hr
      · simp only [CL.get, getL] at hr ⊢
        have h4 : (ι.seto 6 b).o 4 = some b := by simpa [Ix.seto] using h1
        have h6 : (ι.seto 6 b).o 6 = some b := by simp [Ix.seto]
        generalize cs.length = q at hr ⊢
        cases hr with
        | rsl _ _ _ _ b' cap hk hc hd => rw [h4] at hk; cases hk; exact .rsl _ _ _ _ _ _ h6 hc hd
        | rslz _ _ _ b' o hk => rw [h4] at hk; cases hk; exact .rslz _ _ _ _ _ h6
      · exact hr)
    exact ⟨_, M2, R.mono (.refl _ _) L1, fun p => (T1 p).trans (T2 p)⟩
  | false =>
    obtain ⟨ι', L1, M1, T1⟩ := M.ghost (n := 6) rfl
    exact ⟨ι', M1, R.mono (.refl _ _) L1, T1⟩
def nextL (f : Nat) : LSp := fun xs objs K => match xs, objs with
  | [.int .i64 left, .rp 0 0, .rp 1 0, .rp 2 0], [.cells (.pv [.rp 3 0]) false, .cells (.pv [.int .i64 n2]) false, .cells (.pv [.fn (.func 97) [] [.rp 0 0, .rp 1 0, .rp 2 0]]) false, .cells (.pv [.int .i64 n, .int .i64 g0, .int .i64 g1, .isl (.ints .i64 gl) .none, .rsl 4 0 t, .rsl 5 0 m]) false, .cells (.ints .i64 cs) false, .cells (.bools us) false] =>
    VC ((3 ≤ n ∧ n ≤ 6) ∧ n2 = n ∧ t = cs.length ∧ us.length = m ∧ FInv n.toNat cs us ∧ 2 * n.toNat - 1 ≤ cs.length + f ∧ -10000 ≤ left ∧ left ≤ 10000) ∧ K [.bp (srch n.toNat f left cs us).isSome] (nxR n g0 g1 gl m ((srch n.toNat f left cs us).getD (cs, us)))
  | _, _ => False
def NextOK (f : Nat) : Prop := ∀ (ph : Bool) (n : Nat) (g0 g1 : Int) (gl cs : List Int) (m : Nat) (us : List Bool) (left : Int), 3 ≤ n ∧ n ≤ 6 → us.length = m → FInv n cs us → 2 * n - 1 ≤ cs.length + f → -10000 ≤ left ∧ left ≤ 10000 →
  (ph = false → cs = [] ∧ (srch n f left cs us).isSome = true) → LSpec Tryz.prog 97 [.int .i64 left, .rp 0 0, .rp 1 0, .rp 2 0] (nxO ph n g0 g1 gl cs m us) [.bp (srch n f left cs us).isSome] (nxR n g0 g1 gl m ((srch n f left cs us).getD (cs, us)))
theorem nextL_ok {f : Nat} (h : NextOK f) : LOK Tryz.prog 97 (nextL f) := by
  intro xs objs K hk
  unfold nextL at hk
  split at hk
  · rename_i left n2 n g0 g1 gl t m cs us
    obtain ⟨⟨h1, rfl, rfl, h4, h5, h6, h7⟩, hk⟩ := hk
    obtain ⟨a, rfl⟩ : ∃ a : Nat, n2 = a := ⟨n2.toNat, by omega⟩
    simp only [Int.toNat_natCast] at *
    exact ⟨_, _, hk, h true a g0 g1 gl cs m us left (by omega) h4 h5 h6 h7 (fun e => by cases e)⟩
  · exact hk.elim
def wholeVP : PSp := fun xs K => match xs with
  | [.ip (.pv [.int .i64 n, .int .i64 g0, .int .i64 g1, .isl (.ints .i64 gl) .none, cv, uv]) 0] => VC (0 ≤ n ∧ n ≤ 100) ∧ K (.int .i64 (n * n + 1))
  | _ => False
theorem wholeV_ok : POK Tryz.prog 98 wholeVP := by
  intro xs K h
  unfold wholeVP at h
  split at h
  · exact ⟨_, h.2, whole_pure _ _ _ _ _ _ h.1.get⟩
  · exact h.elim
noncomputable def cpF3 (f : Nat) : CPT := cpAdd 57 (pureCC constantP) (cpAdd 98 (viewCC wholeVP) (cpAdd 99 (lendCC [] numsL) (cpAdd 100 (lendCC [] boundsL) (cpAdd 97 (lendCC [] (nextL f)) noC))))
theorem cpF3_ok {f : Nat} (h : NextOK f) : CPOK Tryz.prog (cpF3 f) := cpAdd_ok (pureCC_ok constant_ok) (cpAdd_ok (viewCC_ok wholeV_ok) (cpAdd_ok (lendCC_ok [] numsL_ok) (cpAdd_ok (lendCC_ok [] boundsL_ok) (cpAdd_ok (lendCC_ok [] (nextL_ok h)) noC_ok))))
theorem next_zero : NextOK 0 := by
  intro ph n g0 g1 gl cs m us left hn hm hI hf
  have := hI.cnt
  omega
theorem tryL_cons {R : Type} (n rest : Nat) (left : Int) (us : List Bool) (rec : Int → List Bool → Option R) (x : Int) (r : List Int) : tryL n rest left us rec (x :: r) = if loS (numsN n (markF n us x true)) rest ≤ left - x ∧ left - x ≤ hiS (numsN n (markF n us x true)) rest then
      (match rec x (markF n us x true) with | some v => some v | none => tryL n rest left us rec r) else tryL n rest left us rec r := rfl
theorem constOf_bd (n : Nat) (hn : 3 ≤ n ∧ n ≤ 6) : 0 ≤ constOf n ∧ constOf n ≤ 1000 := by
  have : n = 3 ∨ n = 4 ∨ n = 5 ∨ n = 6 := by omega
  rcases this with rfl | rfl | rfl | rfl <;> decide
theorem next_step {f : Nat} (ih : NextOK f) : NextOK (f + 1) := by
  intro ph n g0 g1 gl cs m us left hn hm hI hf hleft hph
  have hC := cpF3_ok ih
  have hnn := mul_bd (A := 6) (B := 6) (show 0 ≤ (n : Int) ∧ (n : Int) ≤ 6 by omega) (show 0 ≤ (n : Int) ∧ (n : Int) ≤ 6 by omega)
  have hcn := hI.cnt
  have hnN : ((n * n : Nat) : Int) = (n : Int) * n := by push_cast; rfl
  have hul := hI.len
  have hge : ∀ i : Nat, 0 ≤ cs.getD i 0 ∧ cs.getD i 0 ≤ 36 := fun i => by
    refine getD_bd (B := 36) (fun c hc => ?_) i (by omega)
    have := hI.cb c hc; omega
  have hlen : cs.length ≤ 2 * n - 2 := by omega
  have hg0 := hge 0
  have hg1 := hge (n - 1)
  have hco := constOf_bd n hn
  have hix : ((n : Int) - 1).toNat = n - 1 := by omega
  refine lspec_of_entry (md := 0) (rf := [109, 123]) mixed tabOK hC (entry_next _ ph n g0 g1 gl cs m us) 7 [(21, 6), (29, 6)] Tryz.func97 (by rfl) (by rfl) (by rfl) ?_
  by_cases c1 : cs.length = n ∧ left ≠ 0
  · have ho : srch n (f + 1) left cs us = none := by simp only [srch]; rw [if_pos c1]
    obtain ⟨c1, c2⟩ := c1
    cases ph with
    | true =>
      rw [ho]
      repeat' ((conv => whnf); first | refine And.intro ?_ ?_ | with_reducible exact VC.mk rfl | exact Ok.mk | exact True.intro | refine Nx.mk ?_ | refine Fin.mk ?_ | intro _)
      all_goals ((try refine VC.mk ?_); (try simp only [CL.ncell, CL.cnt, vq] at *); (try omega))
      all_goals (try rfl)
    | false => have := (hph rfl).2; rw [ho] at this; cases this
  by_cases c2 : cs.length = 2 * n - 2
  · have c3 : cs.length ≠ n := by omega
    have ho : srch n (f + 1) left cs us = if left = 0 then some (cs, us) else none := by simp only [srch]; rw [if_neg c1, if_pos c2]; simp [left1, c3]
    cases ph with
    | true =>
      by_cases c4 : left = 0
      · rw [ho, if_pos c4]
        repeat' ((conv => whnf); first | refine And.intro ?_ ?_ | with_reducible exact VC.mk rfl | exact Ok.mk | exact True.intro | refine Nx.mk ?_ | refine Fin.mk ?_ | intro _)
        all_goals ((try refine VC.mk ?_); (try simp only [CL.ncell, CL.cnt, vq] at *); (try omega))
        all_goals (first | rfl | (simp [c4]; done))
      · rw [ho, if_neg c4]
        repeat' ((conv => whnf); first | refine And.intro ?_ ?_ | with_reducible exact VC.mk rfl | exact Ok.mk | exact True.intro | refine Nx.mk ?_ | refine Fin.mk ?_ | intro _)
        all_goals ((try refine VC.mk ?_); (try simp only [CL.ncell, CL.cnt, vq] at *); (try omega))
        all_goals (first | rfl | (simp [c4]; done))
    | false => have := (hph rfl).1; subst this; simp at c2; omega
  have ho : srch n (f + 1) left cs us = tryL n (restN n cs.length) (left1 n left cs) us (fun x us' => srch n f (left1 n left cs - x) (cs ++ [x]) us') (numsN n us) := by simp only [srch]; rw [if_neg c1, if_neg c2]
  generalize srch n (f + 1) left cs us = o at *
  obtain ⟨R, hR⟩ : ∃ R, restN n cs.length = R := ⟨_, rfl⟩
  obtain ⟨L, hL⟩ : ∃ L, left1 n left cs = L := ⟨_, rfl⟩
  rw [hR, hL] at ho
  generalize hl : numsN n us = l at *
  have hl2 : numsN (Int.toNat (n : Int)) us = l := by rw [Int.toNat_natCast]; exact hl
  have hLb : -10000 ≤ L ∧ L ≤ 10000 := by unfold left1 at hL; split at hL <;> omega
  have hRb : R + cs.length ≤ 2 * n - 3 ∧ R ≤ n := by unfold restN at hR; split at hR <;> omega
  cases ph with
  | true =>
    clear hph
    rcases Nat.lt_trichotomy cs.length n with c3 | c3 | c3
    · have : L = left := by rw [← hL, left1, if_neg (by omega)]
      subst this
      have hR1 : (n : Int) - 1 - cs.length = R := by unfold restN at hR; split at hR <;> omega
      repeat' ((conv => whnf); first | refine And.intro ?_ ?_ | with_reducible exact VC.mk rfl | exact Ok.mk | exact True.intro | refine Nx.mk ?_ | refine Fin.mk ?_ | intro _)
      all_goals ((try refine VC.mk ?_); (try simp only [CL.ncell, CL.cnt, vq] at *); (try omega))
      rw [hR1]
      rw [hl2]
      conv => whnf
      refine loop_of (X := Nat) (fun t => t ≤ l.length ∧ o = tryL n R L us (fun x us' => srch n f (L - x) (cs ++ [x]) us') (l.drop t)) (fun t => [(65, .int .i64 t), (15, .any), (27, .any), (36, .any), (28, .any), (39, .any)]) (fun t => []) (fun t => l.length - t) 0 ⟨anyB_ok, mixed, tabOK, hC, noY_ok⟩ (by rfl) ⟨by omega, by rw [ho]; simp only [hL, List.drop_zero]⟩ ?_ ?_
      · repeat' ((conv => whnf); first | refine And.intro ?_ ?_ | with_reducible exact VC.mk rfl | exact Ok.mk | exact True.intro | refine Nx.mk ?_ | refine Fin.mk ?_ | intro _)
        all_goals ((try refine VC.mk ?_); (try simp only [CL.ncell, CL.cnt, vq] at *); (try omega))
      · intro t ht
        obtain ⟨ht, hot⟩ := ht
        by_cases hlt : t < l.length
        · obtain ⟨x, hx⟩ : ∃ x, l.getD t 0 = x := ⟨_, rfl⟩
          have hxl : x ∈ l := by rw [← hx, List.getD_eq_getElem?_getD, List.getElem?_eq_getElem hlt]; exact List.getElem_mem hlt
          have hdr : l.drop t = x :: l.drop (t + 1) := by
            rw [List.drop_eq_getElem_cons hlt, ← hx, List.getD_eq_getElem?_getD, List.getElem?_eq_getElem hlt]; rfl
          rw [hdr, tryL_cons] at hot
          obtain ⟨hI1, hxb, hu1, hu2⟩ := hI.step (by omega) (by rw [hl]; exact hxl)
          have hcn1 := hI1.cnt
          have hm1 : (us.set x.toNat true).set (n * n + 1 - x.toNat) true = markF n us x true := rfl
          have hlm : (markF n us x true).length = n * n + 1 := by simp [markF, hul]
          have hbk : ((markF n us x true).set x.toNat false).set (n * n + 1 - x.toNat) false = us := markF_back hul hxb hu1 hu2
          have hcs : List.take (cs.length - 0) (List.drop 0 cs) = cs := by simp
          have hback := markF_back hul hxb hu1 hu2
          have hix2 : ((n : Int) * n + 1 - x).toNat = n * n + 1 - x.toNat := by omega
          have hlo := loS_bd (l := numsN n (markF n us x true)) (B := 36) (fun y hy => by have := numsN_bd hy; omega) (by omega) R
          have hhi := hiS_bd (l := numsN n (markF n us x true)) (B := 36) (fun y hy => by have := numsN_bd hy; omega) (by omega) R
          have hRR : (R : Int) * 36 ≤ 216 := by omega
          simp only [List.length_append, List.length_cons, List.length_nil] at hcn1
          repeat' ((conv => whnf); first | refine And.intro ?_ ?_ | with_reducible exact VC.mk rfl | exact Ok.mk | exact True.intro | refine Nx.mk ?_ | refine Fin.mk ?_ | intro _)
          all_goals ((try refine VC.mk ?_); (try simp only [CL.ncell, CL.cnt, vq] at *); (try omega))
          all_goals (try simp only [hx] at *)
          all_goals (try simp only [hix2] at *)
          all_goals (try simp only [List.length_set] at *)
          all_goals (try simp only [hm1] at *)
          all_goals (try simp only [hcs] at *)
          all_goals (try omega)
          · refine ⟨R, rfl, ?_, by omega, ?_, by omega⟩
            · rw [Int.toNat_natCast]; show R ≤ (numsN n (markF n us x true)).length; omega
            · show (markF n us x true).length = m; omega
          · exact ⟨by omega, by simp, hm, hI1, by rw [List.length_append, List.length_cons, List.length_nil]; omega, by omega, by omega⟩
          iterate 4
            (obtain ⟨v, hv⟩ := Option.isSome_iff_exists.1 (by assumption : (srch n f (L - x) (cs ++ [x]) (markF n us x true)).isSome = true)
             have ho5 : o = some v := by rw [hot, if_pos ⟨by assumption, by assumption⟩]; simp only [hv]
             rw [ho5]; first | rfl | (rw [hv]; rfl))
          all_goals (try
            (have hv : srch n f (L - x) (cs ++ [x]) (markF n us x true) = none := by simpa using (by assumption : (srch n f (L - x) (cs ++ [x]) (markF n us x true)).isSome = false)
             have ho5 : o = tryL n R L us (fun x us' => srch n f (L - x) (cs ++ [x]) us') (l.drop (t + 1)) := by rw [hot, if_pos ⟨by assumption, by assumption⟩]; simp only [hv]
             simp only [hv, Option.getD_none, List.length_append, List.length_cons, List.length_nil, hlm, hbk, List.take_left']
             try omega))
          · refine ⟨t + 1, [(21, 6)], ⟨⟨by omega, by assumption⟩, by omega⟩, ?_⟩
            repeat' ((conv => whnf); first | refine And.intro ?_ ?_ | with_reducible exact VC.mk rfl | exact Ok.mk | exact True.intro | refine Nx.mk ?_ | refine Fin.mk ?_ | intro _)
            all_goals ((try refine VC.mk ?_); (try simp only [CL.ncell, CL.cnt, vq] at *); (try omega))
          all_goals
            have ho5 : o = tryL n R L us (fun x us' => srch n f (L - x) (cs ++ [x]) us') (l.drop (t + 1)) := by rw [hot, if_neg (fun hc => by first | exact (by assumption : ¬ _) hc.1 | exact (by assumption : ¬ _) hc.2)]
            simp only [hbk]
            refine ⟨t + 1, [], ⟨⟨by omega, ho5⟩, by omega⟩, ?_⟩
            repeat' ((conv => whnf); first | refine And.intro ?_ ?_ | with_reducible exact VC.mk rfl | exact Ok.mk | exact True.intro | refine Nx.mk ?_ | refine Fin.mk ?_ | intro _)
            all_goals ((try refine VC.mk ?_); (try simp only [CL.ncell, CL.cnt, vq] at *); (try omega))
        · have : l.length = t := by omega
          subst this
          rw [List.drop_length] at hot
          have hot : o = none := hot
          subst hot
          repeat' ((conv => whnf); first | refine And.intro ?_ ?_ | with_reducible exact VC.mk rfl | exact Ok.mk | exact True.intro | refine Nx.mk ?_ | refine Fin.mk ?_ | intro _)
          all_goals ((try refine VC.mk ?_); (try simp only [CL.ncell, CL.cnt, vq] at *); (try omega))
          all_goals (try rfl)
    · have hL1 : constOf n - cs.getD (Int.toNat 0) 0 - ((n : Int) * n + 1 - cs.getD ((n : Int) - 1).toNat 0) = L := by rw [← hL, left1, if_pos c3, hix]; rfl
      have hR1 : 2 * (n : Int) - 3 - cs.length = R := by unfold restN at hR; split at hR <;> omega
      have c5 : left = 0 := by omega
      have hg3 := hge (Int.toNat 0)
      rw [← hix] at hg1
      repeat' ((conv => whnf); first | refine And.intro ?_ ?_ | with_reducible exact VC.mk rfl | exact Ok.mk | exact True.intro | refine Nx.mk ?_ | refine Fin.mk ?_ | intro _)
      all_goals ((try refine VC.mk ?_); (try simp only [CL.ncell, CL.cnt, vq] at *); (try omega))
      rw [hL1, hR1]
      rw [hl2]
      conv => whnf
      refine loop_of (X := Nat) (fun t => t ≤ l.length ∧ o = tryL n R L us (fun x us' => srch n f (L - x) (cs ++ [x]) us') (l.drop t)) (fun t => [(65, .int .i64 t), (15, .any), (27, .any), (36, .any), (28, .any), (39, .any)]) (fun t => []) (fun t => l.length - t) 0 ⟨anyB_ok, mixed, tabOK, hC, noY_ok⟩ (by rfl) ⟨by omega, by rw [ho]; simp only [hL, List.drop_zero]⟩ ?_ ?_
      · repeat' ((conv => whnf); first | refine And.intro ?_ ?_ | with_reducible exact VC.mk rfl | exact Ok.mk | exact True.intro | refine Nx.mk ?_ | refine Fin.mk ?_ | intro _)
        all_goals ((try refine VC.mk ?_); (try simp only [CL.ncell, CL.cnt, vq] at *); (try omega))
      · intro t ht
        obtain ⟨ht, hot⟩ := ht
        by_cases hlt : t < l.length
        · obtain ⟨x, hx⟩ : ∃ x, l.getD t 0 = x := ⟨_, rfl⟩
          have hxl : x ∈ l := by rw [← hx, List.getD_eq_getElem?_getD, List.getElem?_eq_getElem hlt]; exact List.getElem_mem hlt
          have hdr : l.drop t = x :: l.drop (t + 1) := by
            rw [List.drop_eq_getElem_cons hlt, ← hx, List.getD_eq_getElem?_getD, List.getElem?_eq_getElem hlt]; rfl
          rw [hdr, tryL_cons] at hot
          obtain ⟨hI1, hxb, hu1, hu2⟩ := hI.step (by omega) (by rw [hl]; exact hxl)
          have hcn1 := hI1.cnt
          have hm1 : (us.set x.toNat true).set (n * n + 1 - x.toNat) true = markF n us x true := rfl
          have hlm : (markF n us x true).length = n * n + 1 := by simp [markF, hul]
          have hbk : ((markF n us x true).set x.toNat false).set (n * n + 1 - x.toNat) false = us := markF_back hul hxb hu1 hu2
          have hcs : List.take (cs.length - 0) (List.drop 0 cs) = cs := by simp
          have hback := markF_back hul hxb hu1 hu2
          have hix2 : ((n : Int) * n + 1 - x).toNat = n * n + 1 - x.toNat := by omega
          have hlo := loS_bd (l := numsN n (markF n us x true)) (B := 36) (fun y hy => by have := numsN_bd hy; omega) (by omega) R
          have hhi := hiS_bd (l := numsN n (markF n us x true)) (B := 36) (fun y hy => by have := numsN_bd hy; omega) (by omega) R
          have hRR : (R : Int) * 36 ≤ 216 := by omega
          simp only [List.length_append, List.length_cons, List.length_nil] at hcn1
          repeat' ((conv => whnf); first | refine And.intro ?_ ?_ | with_reducible exact VC.mk rfl | exact Ok.mk | exact True.intro | refine Nx.mk ?_ | refine Fin.mk ?_ | intro _)
          all_goals ((try refine VC.mk ?_); (try simp only [CL.ncell, CL.cnt, vq] at *); (try omega))
          all_goals (try simp only [hx] at *)
          all_goals (try simp only [hix2] at *)
          all_goals (try simp only [List.length_set] at *)
          all_goals (try simp only [hm1] at *)
          all_goals (try simp only [hcs] at *)
          all_goals (try omega)
          · refine ⟨R, rfl, ?_, by omega, ?_, by omega⟩
            · rw [Int.toNat_natCast]; show R ≤ (numsN n (markF n us x true)).length; omega
            · show (markF n us x true).length = m; omega
          · exact ⟨by omega, by simp, hm, hI1, by rw [List.length_append, List.length_cons, List.length_nil]; omega, by omega, by omega⟩
          iterate 4
            (obtain ⟨v, hv⟩ := Option.isSome_iff_exists.1 (by assumption : (srch n f (L - x) (cs ++ [x]) (markF n us x true)).isSome = true)
             have ho5 : o = some v := by rw [hot, if_pos ⟨by assumption, by assumption⟩]; simp only [hv]
             rw [ho5]; first | rfl | (rw [hv]; rfl))
          all_goals (try
            (have hv : srch n f (L - x) (cs ++ [x]) (markF n us x true) = none := by simpa using (by assumption : (srch n f (L - x) (cs ++ [x]) (markF n us x true)).isSome = false)
             have ho5 : o = tryL n R L us (fun x us' => srch n f (L - x) (cs ++ [x]) us') (l.drop (t + 1)) := by rw [hot, if_pos ⟨by assumption, by assumption⟩]; simp only [hv]
             simp only [hv, Option.getD_none, List.length_append, List.length_cons, List.length_nil, hlm, hbk, List.take_left']
             try omega))
          · refine ⟨t + 1, [(29, 6)], ⟨⟨by omega, by assumption⟩, by omega⟩, ?_⟩
            repeat' ((conv => whnf); first | refine And.intro ?_ ?_ | with_reducible exact VC.mk rfl | exact Ok.mk | exact True.intro | refine Nx.mk ?_ | refine Fin.mk ?_ | intro _)
            all_goals ((try refine VC.mk ?_); (try simp only [CL.ncell, CL.cnt, vq] at *); (try omega))
          all_goals
            have ho5 : o = tryL n R L us (fun x us' => srch n f (L - x) (cs ++ [x]) us') (l.drop (t + 1)) := by rw [hot, if_neg (fun hc => by first | exact (by assumption : ¬ _) hc.1 | exact (by assumption : ¬ _) hc.2)]
            simp only [hbk]
            refine ⟨t + 1, [], ⟨⟨by omega, ho5⟩, by omega⟩, ?_⟩
            repeat' ((conv => whnf); first | refine And.intro ?_ ?_ | with_reducible exact VC.mk rfl | exact Ok.mk | exact True.intro | refine Nx.mk ?_ | refine Fin.mk ?_ | intro _)
            all_goals ((try refine VC.mk ?_); (try simp only [CL.ncell, CL.cnt, vq] at *); (try omega))
        · have : l.length = t := by omega
          subst this
          rw [List.drop_length] at hot
          have hot : o = none := hot
          subst hot
          repeat' ((conv => whnf); first | refine And.intro ?_ ?_ | with_reducible exact VC.mk rfl | exact Ok.mk | exact True.intro | refine Nx.mk ?_ | refine Fin.mk ?_ | intro _)
          all_goals ((try refine VC.mk ?_); (try simp only [CL.ncell, CL.cnt, vq] at *); (try omega))
          all_goals (try rfl)
    · have : L = left := by rw [← hL, left1, if_neg (by omega)]
      subst this
      have hR1 : 2 * (n : Int) - 3 - cs.length = R := by unfold restN at hR; split at hR <;> omega
      repeat' ((conv => whnf); first | refine And.intro ?_ ?_ | with_reducible exact VC.mk rfl | exact Ok.mk | exact True.intro | refine Nx.mk ?_ | refine Fin.mk ?_ | intro _)
      all_goals ((try refine VC.mk ?_); (try simp only [CL.ncell, CL.cnt, vq] at *); (try omega))
      rw [hR1]
      rw [hl2]
      conv => whnf
      refine loop_of (X := Nat) (fun t => t ≤ l.length ∧ o = tryL n R L us (fun x us' => srch n f (L - x) (cs ++ [x]) us') (l.drop t)) (fun t => [(65, .int .i64 t), (15, .any), (27, .any), (36, .any), (28, .any), (39, .any)]) (fun t => []) (fun t => l.length - t) 0 ⟨anyB_ok, mixed, tabOK, hC, noY_ok⟩ (by rfl) ⟨by omega, by rw [ho]; simp only [hL, List.drop_zero]⟩ ?_ ?_
      · repeat' ((conv => whnf); first | refine And.intro ?_ ?_ | with_reducible exact VC.mk rfl | exact Ok.mk | exact True.intro | refine Nx.mk ?_ | refine Fin.mk ?_ | intro _)
        all_goals ((try refine VC.mk ?_); (try simp only [CL.ncell, CL.cnt, vq] at *); (try omega))
      · intro t ht
        obtain ⟨ht, hot⟩ := ht
        by_cases hlt : t < l.length
        · obtain ⟨x, hx⟩ : ∃ x, l.getD t 0 = x := ⟨_, rfl⟩
          have hxl : x ∈ l := by rw [← hx, List.getD_eq_getElem?_getD, List.getElem?_eq_getElem hlt]; exact List.getElem_mem hlt
          have hdr : l.drop t = x :: l.drop (t + 1) := by
            rw [List.drop_eq_getElem_cons hlt, ← hx, List.getD_eq_getElem?_getD, List.getElem?_eq_getElem hlt]; rfl
          rw [hdr, tryL_cons] at hot
          obtain ⟨hI1, hxb, hu1, hu2⟩ := hI.step (by omega) (by rw [hl]; exact hxl)
          have hcn1 := hI1.cnt
          have hm1 : (us.set x.toNat true).set (n * n + 1 - x.toNat) true = markF n us x true := rfl
          have hlm : (markF n us x true).length = n * n + 1 := by simp [markF, hul]
          have hbk : ((markF n us x true).set x.toNat false).set (n * n + 1 - x.toNat) false = us := markF_back hul hxb hu1 hu2
          have hcs : List.take (cs.length - 0) (List.drop 0 cs) = cs := by simp
          have hback := markF_back hul hxb hu1 hu2
          have hix2 : ((n : Int) * n + 1 - x).toNat = n * n + 1 - x.toNat := by omega
          have hlo := loS_bd (l := numsN n (markF n us x true)) (B := 36) (fun y hy => by have := numsN_bd hy; omega) (by omega) R
          have hhi := hiS_bd (l := numsN n (markF n us x true)) (B := 36) (fun y hy => by have := numsN_bd hy; omega) (by omega) R
          have hRR : (R : Int) * 36 ≤ 216 := by omega
          simp only [List.length_append, List.length_cons, List.length_nil] at hcn1
          repeat' ((conv => whnf); first | refine And.intro ?_ ?_ | with_reducible exact VC.mk rfl | exact Ok.mk | exact True.intro | refine Nx.mk ?_ | refine Fin.mk ?_ | intro _)
          all_goals ((try refine VC.mk ?_); (try simp only [CL.ncell, CL.cnt, vq] at *); (try omega))
          all_goals (try simp only [hx] at *)
          all_goals (try simp only [hix2] at *)
          all_goals (try simp only [List.length_set] at *)
          all_goals (try simp only [hm1] at *)
          all_goals (try simp only [hcs] at *)
          all_goals (try omega)
          · refine ⟨R, rfl, ?_, by omega, ?_, by omega⟩
            · rw [Int.toNat_natCast]; show R ≤ (numsN n (markF n us x true)).length; omega
            · show (markF n us x true).length = m; omega
          · exact ⟨by omega, by simp, hm, hI1, by rw [List.length_append, List.length_cons, List.length_nil]; omega, by omega, by omega⟩
          iterate 4
            (obtain ⟨v, hv⟩ := Option.isSome_iff_exists.1 (by assumption : (srch n f (L - x) (cs ++ [x]) (markF n us x true)).isSome = true)
             have ho5 : o = some v := by rw [hot, if_pos ⟨by assumption, by assumption⟩]; simp only [hv]
             rw [ho5]; first | rfl | (rw [hv]; rfl))
          all_goals (try
            (have hv : srch n f (L - x) (cs ++ [x]) (markF n us x true) = none := by simpa using (by assumption : (srch n f (L - x) (cs ++ [x]) (markF n us x true)).isSome = false)
             have ho5 : o = tryL n R L us (fun x us' => srch n f (L - x) (cs ++ [x]) us') (l.drop (t + 1)) := by rw [hot, if_pos ⟨by assumption, by assumption⟩]; simp only [hv]
             simp only [hv, Option.getD_none, List.length_append, List.length_cons, List.length_nil, hlm, hbk, List.take_left']
             try omega))
          · refine ⟨t + 1, [(21, 6)], ⟨⟨by omega, by assumption⟩, by omega⟩, ?_⟩
            repeat' ((conv => whnf); first | refine And.intro ?_ ?_ | with_reducible exact VC.mk rfl | exact Ok.mk | exact True.intro | refine Nx.mk ?_ | refine Fin.mk ?_ | intro _)
            all_goals ((try refine VC.mk ?_); (try simp only [CL.ncell, CL.cnt, vq] at *); (try omega))
          all_goals
            have ho5 : o = tryL n R L us (fun x us' => srch n f (L - x) (cs ++ [x]) us') (l.drop (t + 1)) := by rw [hot, if_neg (fun hc => by first | exact (by assumption : ¬ _) hc.1 | exact (by assumption : ¬ _) hc.2)]
            simp only [hbk]
            refine ⟨t + 1, [], ⟨⟨by omega, ho5⟩, by omega⟩, ?_⟩
            repeat' ((conv => whnf); first | refine And.intro ?_ ?_ | with_reducible exact VC.mk rfl | exact Ok.mk | exact True.intro | refine Nx.mk ?_ | refine Fin.mk ?_ | intro _)
            all_goals ((try refine VC.mk ?_); (try simp only [CL.ncell, CL.cnt, vq] at *); (try omega))
        · have : l.length = t := by omega
          subst this
          rw [List.drop_length] at hot
          have hot : o = none := hot
          subst hot
          repeat' ((conv => whnf); first | refine And.intro ?_ ?_ | with_reducible exact VC.mk rfl | exact Ok.mk | exact True.intro | refine Nx.mk ?_ | refine Fin.mk ?_ | intro _)
          all_goals ((try refine VC.mk ?_); (try simp only [CL.ncell, CL.cnt, vq] at *); (try omega))
          all_goals (try rfl)
  | false =>
    obtain ⟨rfl, hsome⟩ := hph rfl
    have : L = left := by rw [← hL, left1, if_neg (by simp; omega)]
    subst this
    have hR1 : (n : Int) - 1 - 0 = R := by unfold restN at hR; split at hR <;> simp at * <;> omega
    simp only [List.length_nil] at *
    repeat' ((conv => whnf); first | refine And.intro ?_ ?_ | with_reducible exact VC.mk rfl | exact Ok.mk | exact True.intro | refine Nx.mk ?_ | refine Fin.mk ?_ | intro _)
    all_goals ((try refine VC.mk ?_); (try simp only [CL.ncell, CL.cnt, vq] at *); (try omega))
    rw [hR1]
    rw [hl2]
    conv => whnf
    refine loop_of (X := Nat × Bool) (fun x => x.1 ≤ l.length ∧ o = tryL n R L us (fun x us' => srch n f (L - x) ([x]) us') (l.drop x.1)) (fun x => [(65, .int .i64 x.1), (15, .any), (27, .any), (36, .any), (28, .any), (39, .any)]) (fun x => match x.2 with | true => [(3, .cells (.pv [.int .i64 n, .int .i64 g0, .int .i64 g1, .isl (.ints .i64 gl) .none, .rsl 6 0 0, .rsl 5 0 m]) false), (6, .cells (.ints .i64 []) false)] | false => []) (fun x => l.length - x.1) (0, false) ⟨anyB_ok, mixed, tabOK, hC, noY_ok⟩ (by rfl) ⟨by omega, by rw [ho]; simp only [hL, List.drop_zero]; rfl⟩ ?_ ?_
    · repeat' ((conv => whnf); first | refine And.intro ?_ ?_ | with_reducible exact VC.mk rfl | exact Ok.mk | exact True.intro | refine Nx.mk ?_ | refine Fin.mk ?_ | intro _)
      all_goals ((try refine VC.mk ?_); (try simp only [CL.ncell, CL.cnt, vq] at *); (try omega))
    · rintro ⟨t, b⟩ ht
      obtain ⟨ht, hot⟩ := ht
      simp only at ht hot
      by_cases hlt : t < l.length
      · obtain ⟨x, hx⟩ : ∃ x, l.getD t 0 = x := ⟨_, rfl⟩
        have hxl : x ∈ l := by rw [← hx, List.getD_eq_getElem?_getD, List.getElem?_eq_getElem hlt]; exact List.getElem_mem hlt
        have hdr : l.drop t = x :: l.drop (t + 1) := by
          rw [List.drop_eq_getElem_cons hlt, ← hx, List.getD_eq_getElem?_getD, List.getElem?_eq_getElem hlt]; rfl
        rw [hdr, tryL_cons] at hot
        obtain ⟨hI1, hxb, hu1, hu2⟩ := hI.step (by omega) (by rw [hl]; exact hxl)
        have hcn1 := hI1.cnt
        have hm1 : (us.set x.toNat true).set (n * n + 1 - x.toNat) true = markF n us x true := rfl
        have hlm : (markF n us x true).length = n * n + 1 := by simp [markF, hul]
        have hbk : ((markF n us x true).set x.toNat false).set (n * n + 1 - x.toNat) false = us := markF_back hul hxb hu1 hu2
        have hcs : List.take (0 - 0) (List.drop 0 ([] : List Int)) = [] := by simp
        have hback := markF_back hul hxb hu1 hu2
        have hix2 : ((n : Int) * n + 1 - x).toNat = n * n + 1 - x.toNat := by omega
        have hlo := loS_bd (l := numsN n (markF n us x true)) (B := 36) (fun y hy => by have := numsN_bd hy; omega) (by omega) R
        have hhi := hiS_bd (l := numsN n (markF n us x true)) (B := 36) (fun y hy => by have := numsN_bd hy; omega) (by omega) R
        have hRR : (R : Int) * 36 ≤ 216 := by omega
        simp only [List.length_append, List.length_cons, List.length_nil] at hcn1
        cases b with
        | false =>
          repeat' ((conv => whnf); first | refine And.intro ?_ ?_ | with_reducible exact VC.mk rfl | exact Ok.mk | exact True.intro | refine Nx.mk ?_ | refine Fin.mk ?_ | intro _)
          all_goals ((try refine VC.mk ?_); (try simp only [CL.ncell, CL.cnt, vq] at *); (try omega))
          all_goals (try simp only [hx] at *)
          all_goals (try simp only [hix2] at *)
          all_goals (try simp only [List.length_set] at *)
          all_goals (try simp only [hm1] at *)
          all_goals (try simp only [hcs] at *)
          all_goals (try simp only [List.nil_append] at *)
          all_goals (try omega)
          · refine ⟨R, rfl, ?_, by omega, ?_, by omega⟩
            · rw [Int.toNat_natCast]; show R ≤ (numsN n (markF n us x true)).length; omega
            · show (markF n us x true).length = m; omega
          · first | exact ⟨by omega, by simp, hm, hI1, by rw [List.length_cons, List.length_nil]; omega, by omega, by omega⟩ | exact ⟨by omega, hm, hI1, by omega, by omega, by omega⟩
          iterate 4
            (obtain ⟨v, hv⟩ := Option.isSome_iff_exists.1 (by assumption : (srch n f (L - x) ([x]) (markF n us x true)).isSome = true)
             have ho5 : o = some v := by rw [hot, if_pos ⟨by assumption, by assumption⟩]; simp only [hv]
             rw [ho5]; first | rfl | (rw [hv]; rfl))
          all_goals (try
            (have hv : srch n f (L - x) ([x]) (markF n us x true) = none := by simpa using (by assumption : (srch n f (L - x) ([x]) (markF n us x true)).isSome = false)
             have ho5 : o = tryL n R L us (fun x us' => srch n f (L - x) ([x]) us') (l.drop (t + 1)) := by rw [hot, if_pos ⟨by assumption, by assumption⟩]; simp only [hv]
             simp only [hv, Option.getD_none, List.length_append, List.length_cons, List.length_nil, hlm, hbk, List.take_left']
             try omega))
          · refine ⟨(t + 1, true), [(21, 6)], ⟨⟨by omega, by assumption⟩, by omega⟩, ?_⟩
            repeat' ((conv => whnf); first | refine And.intro ?_ ?_ | with_reducible exact VC.mk rfl | exact Ok.mk | exact True.intro | refine Nx.mk ?_ | refine Fin.mk ?_ | intro _)
            all_goals ((try refine VC.mk ?_); (try simp only [CL.ncell, CL.cnt, vq] at *); (try omega))
          all_goals
            have ho5 : o = tryL n R L us (fun x us' => srch n f (L - x) ([x]) us') (l.drop (t + 1)) := by rw [hot, if_neg (fun hc => by first | exact (by assumption : ¬ _) hc.1 | exact (by assumption : ¬ _) hc.2)]
            simp only [hbk]
            refine ⟨(t + 1, false), [], ⟨⟨by omega, ho5⟩, by omega⟩, ?_⟩
            repeat' ((conv => whnf); first | refine And.intro ?_ ?_ | with_reducible exact VC.mk rfl | exact Ok.mk | exact True.intro | refine Nx.mk ?_ | refine Fin.mk ?_ | intro _)
            all_goals ((try refine VC.mk ?_); (try simp only [CL.ncell, CL.cnt, vq] at *); (try omega))
        | true =>
          repeat' ((conv => whnf); first | refine And.intro ?_ ?_ | with_reducible exact VC.mk rfl | exact Ok.mk | exact True.intro | refine Nx.mk ?_ | refine Fin.mk ?_ | intro _)
          all_goals ((try refine VC.mk ?_); (try simp only [CL.ncell, CL.cnt, vq] at *); (try omega))
          all_goals (try simp only [hx] at *)
          all_goals (try simp only [hix2] at *)
          all_goals (try simp only [List.length_set] at *)
          all_goals (try simp only [hm1] at *)
          all_goals (try simp only [hcs] at *)
          all_goals (try simp only [List.nil_append] at *)
          all_goals (try omega)
          · refine ⟨R, rfl, ?_, by omega, ?_, by omega⟩
            · rw [Int.toNat_natCast]; show R ≤ (numsN n (markF n us x true)).length; omega
            · show (markF n us x true).length = m; omega
          · first | exact ⟨by omega, by simp, hm, hI1, by rw [List.length_cons, List.length_nil]; omega, by omega, by omega⟩ | exact ⟨by omega, hm, hI1, by omega, by omega, by omega⟩
          iterate 4
            (obtain ⟨v, hv⟩ := Option.isSome_iff_exists.1 (by assumption : (srch n f (L - x) ([x]) (markF n us x true)).isSome = true)
             have ho5 : o = some v := by rw [hot, if_pos ⟨by assumption, by assumption⟩]; simp only [hv]
             rw [ho5]; first | rfl | (rw [hv]; rfl))
          all_goals (try
            (have hv : srch n f (L - x) ([x]) (markF n us x true) = none := by simpa using (by assumption : (srch n f (L - x) ([x]) (markF n us x true)).isSome = false)
             have ho5 : o = tryL n R L us (fun x us' => srch n f (L - x) ([x]) us') (l.drop (t + 1)) := by rw [hot, if_pos ⟨by assumption, by assumption⟩]; simp only [hv]
             simp only [hv, Option.getD_none, List.length_append, List.length_cons, List.length_nil, hlm, hbk, List.take_left']
             try omega))
          · refine ⟨(t + 1, true), [(21, 6)], ⟨⟨by omega, by assumption⟩, by omega⟩, ?_⟩
            repeat' ((conv => whnf); first | refine And.intro ?_ ?_ | with_reducible exact VC.mk rfl | exact Ok.mk | exact True.intro | refine Nx.mk ?_ | refine Fin.mk ?_ | intro _)
            all_goals ((try refine VC.mk ?_); (try simp only [CL.ncell, CL.cnt, vq] at *); (try omega))
          all_goals
            have ho5 : o = tryL n R L us (fun x us' => srch n f (L - x) ([x]) us') (l.drop (t + 1)) := by rw [hot, if_neg (fun hc => by first | exact (by assumption : ¬ _) hc.1 | exact (by assumption : ¬ _) hc.2)]
            simp only [hbk]
            refine ⟨(t + 1, true), [], ⟨⟨by omega, ho5⟩, by omega⟩, ?_⟩
            repeat' ((conv => whnf); first | refine And.intro ?_ ?_ | with_reducible exact VC.mk rfl | exact Ok.mk | exact True.intro | refine Nx.mk ?_ | refine Fin.mk ?_ | intro _)
            all_goals ((try refine VC.mk ?_); (try simp only [CL.ncell, CL.cnt, vq] at *); (try omega))
      · have : l.length = t := by omega
        subst this
        rw [List.drop_length] at hot
        have hot : o = none := hot
        subst hot
        exact absurd hsome (by simp)
end Go.Eng.YtppflbccfdbogaaGreat
namespace Go.Eng.YtppflbccfdbogaaGreat
open Go.Proofs
set_option maxRecDepth 100000
set_option maxHeartbeats 0
set_option linter.unusedVariables false
set_option linter.unusedSimpArgs false
theorem next_all : ∀ f, NextOK f := by
  intro f
  induction f with
  | zero => exact next_zero
  | succ f ih => exact next_step ih
def borderC (n : Nat) : List Nat := match n with
  | 3 => [2, 7, 6, 9]
  | 4 => [2, 6, 12, 14, 13, 16]
  | 5 => [1, 2, 18, 21, 23, 19, 20, 22]
  | 6 => [1, 3, 10, 33, 35, 29, 9, 30, 31, 32]
  | _ => []
theorem borderA {n : Nat} (h : 3 ≤ n ∧ n ≤ 6) : (srchA0 n).map List.reverse = some (borderC n) := by
  have : n = 3 ∨ n = 4 ∨ n = 5 ∨ n = 6 := by omega
  rcases this with rfl | rfl | rfl | rfl
  · rw [srchA3]; rfl
  · rw [srchA4]; rfl
  · rw [srchA5]; rfl
  · rw [srchA6]; rfl
theorem finv0 {n : Nat} (h : 3 ≤ n ∧ n ≤ 6) : FInv n [] (List.replicate (n * n + 1) false) := by
  have : n = 3 ∨ n = 4 ∨ n = 5 ∨ n = 6 := by omega
  refine ⟨by simp, fun x h1 h2 => by simp [List.getD_eq_getElem?_getD, List.getElem?_replicate]; split <;> split <;> rfl, ?_, fun c hc => by simp at hc⟩
  rcases this with rfl | rfl | rfl | rfl <;> decide
theorem numsA0 {n : Nat} (h : 3 ≤ n ∧ n ≤ 6) : numsA n (List.replicate (n * n + 1) false) = List.range' 1 (2 * (n - 1)) ++ List.range' (n * n + 1 - 2 * (n - 1)) (2 * (n - 1)) := by
  have : n = 3 ∨ n = 4 ∨ n = 5 ∨ n = 6 := by omega
  rcases this with rfl | rfl | rfl | rfl <;> decide
theorem constN {n : Nat} : constOf (n : Int) = ((n * (n * n + 1) / 2 : Nat) : Int) := by
  unfold constOf; push_cast; rfl
theorem srch0_some {n : Nat} (h : 3 ≤ n ∧ n ≤ 6) : ∃ us, srch0 n = some (castL (borderC n), us) := by
  have h1 := srch_srchA h.1 constN (2 * n) (n * (n * n + 1) / 2) [] _ (List.replicate (n * n + 1) false) (finv0 h) (numsA0 h)
  have h2 := borderA h
  unfold srchA0 at h2
  rw [← constN] at h1
  have h1 : (srch0 n).map (·.1) = _ := h1
  simp only [List.length_nil] at h1
  cases h3 : srchA n (n * n + 1) (n * (n * n + 1) / 2) (2 * n) 0 (n * (n * n + 1) / 2) [] (List.range' 1 (2 * (n - 1)) ++ List.range' (n * n + 1 - 2 * (n - 1)) (2 * (n - 1))) with
  | none => rw [h3] at h2; simp at h2
  | some l =>
    rw [h3] at h1 h2
    cases h4 : srch0 n with
    | none => rw [h4] at h1; simp at h1
    | some r =>
      rw [h4] at h1
      simp only [Option.map_some, Option.some.injEq] at h1 h2
      exact ⟨r.2, by rw [← h2, ← h1]⟩
theorem tryL_len {n rest : Nat} {left : Int} {us : List Bool} {rec : Int → List Bool → Option (List Int × List Bool)} {r : List Int × List Bool} (hr : ∀ x us', us'.length = us.length → rec x us' = some r → r.2.length = us.length) : ∀ l, tryL n rest left us rec l = some r → r.2.length = us.length := by
  intro l
  induction l with
  | nil => intro h; simp [tryL] at h
  | cons x l ih =>
    intro h
    simp only [tryL] at h
    split at h
    · split at h
      · rename_i v hv; cases h; exact hr x _ (by simp [markF]) hv
      · exact ih h
    · exact ih h
theorem srch_len {n : Nat} : ∀ f left cs us r, srch n f left cs us = some r → r.2.length = us.length := by
  intro f
  induction f with
  | zero => intro left cs us r h; simp [srch] at h
  | succ f ih =>
    intro left cs us r h
    simp only [srch] at h
    split at h
    · cases h
    · split at h
      · split at h
        · cases h; rfl
        · cases h
      · exact tryL_len (fun x us' hl h => (ih _ _ _ _ h).trans hl) _ h
theorem borderC_len {n : Nat} (h : 3 ≤ n ∧ n ≤ 6) : (borderC n).length = 2 * n - 2 := by
  have : n = 3 ∨ n = 4 ∨ n = 5 ∨ n = 6 := by omega
  rcases this with rfl | rfl | rfl | rfl <;> rfl
theorem borderC_bd {n : Nat} (h : 3 ≤ n ∧ n ≤ 6) : ∀ x ∈ castL (borderC n), 0 ≤ x ∧ x ≤ 36 := by
  have : n = 3 ∨ n = 4 ∨ n = 5 ∨ n = 6 := by omega
  rcases this with rfl | rfl | rfl | rfl <;> decide
def usB (n : Nat) : List Bool := match srch0 n with | some r => r.2 | none => []
theorem srch0_eq {n : Nat} (h : 3 ≤ n ∧ n ≤ 6) : srch0 n = some (castL (borderC n), usB n) ∧ (usB n).length = n * n + 1 := by
  obtain ⟨us, h1⟩ := srch0_some h
  have h2 : usB n = us := by unfold usB; rw [h1]
  exact ⟨by rw [h2, h1], by rw [h2, srch_len _ _ _ _ _ h1]; simp⟩
/-! the search -/
def nextF : LSp := fun xs objs K => match xs, objs with
  | [.int .i64 left, .rp 0 0, .rp 1 0, .rp 2 0], [.cells (.pv [.rp 3 0]) false, .cells (.pv [.int .i64 n2]) false, .cells (.pv [.fn (.func 97) [] [.rp 0 0, .rp 1 0, .rp 2 0]]) false, .cells (.pv [.int .i64 n, .int .i64 g0, .int .i64 g1, .isl (.ints .i64 gl) .none, .nils, .rsl 5 0 m]) false, .cells (.pv []) true, .cells (.bools us) false] =>
    VC ((3 ≤ n ∧ n ≤ 6) ∧ n2 = n ∧ m = n.toNat * n.toNat + 1 ∧ us = List.replicate m false ∧ left = constOf n) ∧ K [.bp true] (nxR n g0 g1 gl m (castL (borderC n.toNat), usB n.toNat))
  | _, _ => False
theorem nextF_ok : LOK Tryz.prog 97 nextF := by
  intro xs objs K hk
  unfold nextF at hk
  split at hk
  · rename_i left n2 n g0 g1 gl m us
    obtain ⟨⟨h1, rfl, h3, rfl, rfl⟩, hk⟩ := hk
    obtain ⟨a, rfl⟩ : ∃ a : Nat, n2 = a := ⟨n2.toNat, by omega⟩
    simp only [Int.toNat_natCast] at *
    have ha : 3 ≤ a ∧ a ≤ 6 := by omega
    have h5 := (srch0_eq ha).1
    have h6 := next_all (2 * a) false a g0 g1 gl [] m (List.replicate m false) (constOf a) ha (by simp) (by rw [h3]; exact finv0 ha) (by simp) (by have := constOf_bd a ha; omega)
      (fun _ => ⟨rfl, by rw [h3]; show (srch0 a).isSome = true; rw [h5]; rfl⟩)
    have h7 : srch a (2 * a) (constOf a) [] (List.replicate m false) = some (castL (borderC a), usB a) := by rw [h3]; exact h5
    rw [h7] at h6
    exact ⟨_, _, hk, h6⟩
  · exact hk.elim
noncomputable def cpB1 : CPT := cpAdd 57 (pureCC constantP) (cpAdd 97 (lendCC [3, 4, 5, 0, 2, 1] nextF) noC)
theorem cpB1_ok : CPOK Tryz.prog cpB1 := cpAdd_ok (pureCC_ok constant_ok) (cpAdd_ok (lendCC_ok _ nextF_ok) noC_ok)
def searchL : LSp := fun xs objs K => match xs, objs with
  | [.rp 0 0], [.cells (.pv [.int .i64 n, .int .i64 g0, .int .i64 g1, .isl (.ints .i64 gl) .none, .nils, .rsl 1 0 m]) false, .cells (.bools us) false] =>
    VC ((3 ≤ n ∧ n ≤ 6) ∧ m = n.toNat * n.toNat + 1 ∧ us = List.replicate m false) ∧ K [.bp true] [.cells (.pv [.int .i64 n, .int .i64 g0, .int .i64 g1, .isl (.ints .i64 gl) .none, .rsl 2 0 (castL (borderC n.toNat)).length, .rsl 1 0 m]) false, .cells (.bools (usB n.toNat)) false, .cells (.ints .i64 (castL (borderC n.toNat))) false]
  | _, _ => False
theorem search_spec (a : Nat) (ha : 3 ≤ a ∧ a ≤ 6) (g0 g1 : Int) (gl : List Int) (m : Nat) (hm : m = a * a + 1) : LSpec Tryz.prog 67 [.rp 0 0] [.cells (.pv [.int .i64 a, .int .i64 g0, .int .i64 g1, .isl (.ints .i64 gl) .none, .nils, .rsl 1 0 m]) false, .cells (.bools (List.replicate m false)) false] [.bp true]
    [.cells (.pv [.int .i64 a, .int .i64 g0, .int .i64 g1, .isl (.ints .i64 gl) .none, .rsl 2 0 (castL (borderC a)).length, .rsl 1 0 m]) false, .cells (.bools (usB a)) false, .cells (.ints .i64 (castL (borderC a))) false] := by
  have hE : EntryOK [.rp 0 0] [.cells (.pv [.int .i64 a, .int .i64 g0, .int .i64 g1, .isl (.ints .i64 gl) .none, .nils, .rsl 1 0 m]) false, .cells (.bools (List.replicate m false)) false] [.rp 0 0]
      [some (.cells (.pv [.int .i64 a, .int .i64 g0, .int .i64 g1, .isl (.ints .i64 gl) .none, .nils, .rsl 1 0 m]) false), some (.cells (.bools (List.replicate m false)) false), some (.cells (.pv []) true)] := by
    intro S w ι vs M R
    obtain ⟨ι', L1, M1, T1⟩ := M.ghost (n := 2) rfl
    exact ⟨ι', M1, R.mono (.refl _ _) L1, T1⟩
  refine lspec_of_entry (md := 0) (rf := [9]) mixed tabOK cpB1_ok hE 3 [(10, 2)] Tryz.func67 (by rfl) (by rfl) (by rfl) ?_
  repeat' ((conv => whnf); first | refine And.intro ?_ ?_ | with_reducible exact VC.mk rfl | exact Ok.mk | exact True.intro | refine Nx.mk ?_ | refine Fin.mk ?_ | intro _)
  all_goals ((try refine VC.mk ?_); (try simp only [CL.ncell, CL.cnt, vq] at *); (try omega))
theorem searchL_ok : LOK Tryz.prog 67 searchL := by
  intro xs objs K hk
  unfold searchL at hk
  split at hk
  · rename_i n g0 g1 gl m us
    obtain ⟨⟨h1, h2, rfl⟩, hk⟩ := hk
    obtain ⟨a, rfl⟩ : ∃ a : Nat, n = a := ⟨n.toNat, by omega⟩
    simp only [Int.toNat_natCast] at *
    exact ⟨_, _, hk, search_spec a (by omega) g0 g1 gl m h2⟩
  · exact hk.elim
/-! the square -/
def sqF (n : Nat) (gl cs : List Int) (i j : Nat) : Int :=
  if i = 0 then cs.getD j 0 else if i = n - 1 then (if j = 0 ∨ j = n - 1 then (n : Int) * n + 1 - cs.getD (n - 1 - j) 0 else (n : Int) * n + 1 - cs.getD j 0)
  else if j = 0 then cs.getD (n + i - 1) 0 else if j = n - 1 then (n : Int) * n + 1 - cs.getD (n + i - 1) 0 else gl.getD ((i - 1) * (n - 2) + j - 1) 0 + 2 * ((n : Int) - 2) + 2
noncomputable def cpB2 : CPT := cpAdd 98 (pureCC wholeVP) noC
theorem cpB2_ok : CPOK Tryz.prog cpB2 := cpAdd_ok (pureCC_ok wholeV_ok) noC_ok
theorem c131_spec (n : Nat) (hn : 3 ≤ n ∧ n ≤ 6) (g0 g1 : Int) (gl cs : List Int) (uv : PV) (hc : cs.length = 2 * n - 2) (hcb : ∀ x ∈ cs, 0 ≤ x ∧ x ≤ 36) (hg : gl.length = (n - 2) * (n - 2)) (hgb : ∀ x ∈ gl, 0 ≤ x ∧ x ≤ 1000) (i j : Nat) (hi : i < n) (hj : j < n) :
    PSpec Tryz.prog 101 ([] ++ [.int .i64 i, .int .i64 j] ++ [.ip (.pv [.int .i64 (n : Int)]) 0, .ip (.pv [.ip (.pv [.int .i64 (n : Int), .int .i64 g0, .int .i64 g1, .isl (.ints .i64 gl) .none, .isl (.ints .i64 cs) .none, uv]) 0]) 0]) (.int .i64 (sqF n gl cs i j)) := by
  have hnn := mul_bd (A := 6) (B := 6) (show 0 ≤ (n : Int) ∧ (n : Int) ≤ 6 by omega) (show 0 ≤ (n : Int) ∧ (n : Int) ≤ 6 by omega)
  have hcg := fun i => getD_bd hcb i (by omega)
  have hgg := fun i => getD_bd hgb i (by omega)
  have f1 := hcg ((n : Int) - 1 - j).toNat
  have f2 := hcg j
  have f3 := hcg ((n : Int) + i - 1).toNat
  have f4 := hgg (((i : Int) - 1) * ((n : Int) - 2) + j - 1).toNat
  have hin : ¬ (1 ≤ i ∧ i + 1 < n ∧ 1 ≤ j ∧ j + 1 < n) ∨ (((i : Int) - 1) * ((n : Int) - 2) = (((i - 1) * (n - 2) : Nat) : Int) ∧ (i - 1) * (n - 2) + j - 1 < gl.length ∧ (i - 1) * (n - 2) ≤ 36) := by
    by_cases h : 1 ≤ i ∧ i + 1 < n ∧ 1 ≤ j ∧ j + 1 < n
    · right
      rw [hg]
      have : n = 3 ∨ n = 4 ∨ n = 5 ∨ n = 6 := by omega
      rcases this with rfl | rfl | rfl | rfl <;> refine ⟨?_, ?_, ?_⟩ <;> push_cast <;> omega
    · exact .inl h
  have s1 : ((n : Int) - 1 - j).toNat = n - 1 - j := by omega
  have s2 : ((n : Int) + i - 1).toNat = n + i - 1 := by omega
  have s3 : (1 ≤ i ∧ i + 1 < n ∧ 1 ≤ j ∧ j + 1 < n) → (((i : Int) - 1) * ((n : Int) - 2) + j - 1).toNat = (i - 1) * (n - 2) + j - 1 := fun h => by
    rcases hin with h' | h'
    · exact absurd h h'
    · rw [h'.1]; omega
  refine pspec_of (md := 0) (rf := []) mixed tabOK cpB2_ok Tryz.func101 (by rfl) (by rfl) (by rfl) ?_
  generalize hz : sqF n gl cs i j = z
  unfold sqF at hz
  repeat' ((conv => whnf); first | refine And.intro ?_ ?_ | with_reducible exact VC.mk rfl | exact Ok.mk | exact True.intro | refine Nx.mk ?_ | refine Fin.mk ?_ | intro _)
  all_goals ((try refine VC.mk ?_); (try simp only [CL.ncell, CL.cnt, vq] at *); (try omega))
  all_goals (refine Sup.of ?_; simp only [resOf, PV.int.injEq, true_and]; rw [← hz])
  · rw [if_pos (by omega)]
  · rw [if_neg (by omega), if_pos (by omega), if_pos (by omega), s1]
  · rw [if_neg (by omega), if_pos (by omega), if_neg (by omega)]
  · rw [if_neg (by omega), if_pos (by omega), if_pos (by omega), s1]
  · rw [if_neg (by omega), if_neg (by omega), if_pos (by omega), s2]
  · rw [if_neg (by omega), if_neg (by omega), if_neg (by omega), if_pos (by omega), s2]
  · rw [if_neg (by omega), if_neg (by omega), if_neg (by omega), if_neg (by omega), s3 (by omega)]
noncomputable def cpB3 : CPT := cpAdd 18 (pureCC madeP) noC
theorem cpB3_ok : CPOK Tryz.prog cpB3 := cpAdd_ok (pureCC_ok made_ok) noC_ok
theorem square_spec' (n : Nat) (hn : 3 ≤ n ∧ n ≤ 6) (g0 g1 : Int) (gl cs : List Int) (uv : PV) (hc : cs.length = 2 * n - 2) (hcb : ∀ x ∈ cs, 0 ≤ x ∧ x ≤ 36) (hg : gl.length = (n - 2) * (n - 2)) (hgb : ∀ x ∈ gl, 0 ≤ x ∧ x ≤ 1000) (us : List Bool) :
    PSpec Tryz.prog 68 [.ip (.pv [.int .i64 (n : Int), .int .i64 g0, .int .i64 g1, .isl (.ints .i64 gl) .none, .isl (.ints .i64 cs) .none, .isl (.bools us) .none]) 0] (gridV n n (madeL n (sqF n gl cs))) := by
  refine pspec_of (md := 0) (rf := []) mixed tabOK cpB3_ok Tryz.func68 (by rfl) (by rfl) (by rfl) ?_
  repeat' ((conv => whnf); first | refine And.intro ?_ ?_ | with_reducible exact VC.mk rfl | exact Ok.mk | exact True.intro | refine Nx.mk ?_ | refine Fin.mk ?_ | intro _)
  all_goals ((try refine VC.mk ?_); (try simp only [CL.ncell, CL.cnt, vq] at *); (try omega))
  refine ⟨sqF n gl cs, fun i j hi hj => c131_spec n hn g0 g1 gl cs _ hc hcb hg hgb i j (by omega) (by omega), ?_⟩
  repeat' ((conv => whnf); first | refine And.intro ?_ ?_ | with_reducible exact VC.mk rfl | exact Ok.mk | exact True.intro | refine Nx.mk ?_ | refine Fin.mk ?_ | intro _)
  all_goals ((try refine VC.mk ?_); (try simp only [CL.ncell, CL.cnt, vq] at *); (try omega))
  all_goals (refine Sup.via ?_; repeat' ((conv => whnf); first | refine And.intro ?_ ?_ | with_reducible exact VC.mk rfl | exact Ok.mk | exact True.intro | refine Nx.mk ?_ | refine Fin.mk ?_ | intro _); all_goals ((try refine VC.mk ?_); (try simp only [CL.ncell, CL.cnt, vq] at *); (try omega)); all_goals (try (simp [CL.sub]; done)))
def squareFP : PSp := fun xs K => match xs with
  | [.ip (.pv [.int .i64 n, .int .i64 g0, .int .i64 g1, .isl (.ints .i64 gl) .none, .isl (.ints .i64 cs) .none, .isl (.bools us) .none]) 0] =>
    VC ((3 ≤ n ∧ n ≤ 6) ∧ cs.length = 2 * n.toNat - 2 ∧ (∀ x ∈ cs, 0 ≤ x ∧ x ≤ 36) ∧ gl.length = (n.toNat - 2) * (n.toNat - 2) ∧ ∀ x ∈ gl, 0 ≤ x ∧ x ≤ 1000) ∧ K (gridV n n (madeL n.toNat (sqF n.toNat gl cs)))
  | _ => False
theorem square_ok' : POK Tryz.prog 68 squareFP := by
  intro xs K hk
  unfold squareFP at hk
  split at hk
  · rename_i n g0 g1 gl cs us
    obtain ⟨⟨h1, h2, h3, h4, h5⟩, hk⟩ := hk
    obtain ⟨a, rfl⟩ : ∃ a : Nat, n = a := ⟨n.toNat, by omega⟩
    simp only [Int.toNat_natCast] at *
    exact ⟨_, hk, square_spec' a (by omega) g0 g1 gl cs (.isl (.bools us) .none) h2 h3 h4 h5 us⟩
  · exact hk.elim
theorem isNorm_bd {l : List Int} (h : isNorm l = true) : ∀ x ∈ l, 1 ≤ x ∧ x ≤ l.length := by
  intro x hx
  obtain ⟨i, hi, rfl⟩ := List.getElem_of_mem hx
  unfold isNorm distinctIn at h
  rw [List.all_eq_true] at h
  have := h i (List.mem_range.2 hi)
  unfold okAt at this
  rw [Bool.and_eq_true, decide_eq_true_eq] at this
  have := this.1
  rw [List.getD_eq_getElem?_getD, List.getElem?_eq_getElem hi] at this
  simp only [Option.getD_some] at this
  omega
theorem normErr_zero {r c : Int} {l : List Int} (h : normErr r c l = 0) : sqErr r c l = 0 ∧ isNorm l = true := by
  unfold normErr at h
  split at h
  · rename_i hs
    split at h
    · exact ⟨hs, ‹_›⟩
    · omega
  · exact absurd h ‹_›
def bordL (n : Nat) (l : List Int) : List Int := madeL n (sqF n l (castL (borderC n)))
def borderV (r c : Int) (l : List Int) : PV := if normErr r c l ≠ 0 then noGrid (normErr r c l) else if linesOk r.toNat 2 l = false then noGrid 16 else if 4 < r then noGrid 20 else okGrid (r + 2) (r + 2) (bordL (r.toNat + 2) l)
noncomputable def cpB4 : CPT := cpAdd 20 (pureCC checkNormalP) (cpAdd 66 (pureCC isMagicP) (cpAdd 67 (lendCC [] searchL) (cpAdd 68 (frzCC squareFP) cp2)))
theorem cpB4_ok : CPOK Tryz.prog cpB4 := cpAdd_ok (pureCC_ok checkNormal_ok) (cpAdd_ok (pureCC_ok isMagic_ok) (cpAdd_ok (lendCC_ok [] searchL_ok) (cpAdd_ok (frzCC_ok square_ok') cp2_ok)))
theorem border_spec (r c : Int) (l : List Int) : PSpec Tryz.prog 34 [gridV r c l] (borderV r c l) := by
  unfold borderV
  by_cases h0 : normErr r c l = 0
  · rw [if_neg (by simp [h0])]
    obtain ⟨h1, h2⟩ := normErr_zero h0
    obtain ⟨h3, h4, h5, h6, h7⟩ := sqErr_zero h1
    have h8 := isNorm_bd h2
    obtain ⟨a, rfl⟩ : ∃ a : Nat, r = a := ⟨r.toNat, by omega⟩
    subst h3
    simp only [Int.toNat_natCast]
    have hv : ∀ x ∈ l, 0 ≤ x ∧ x ≤ 1000 := fun x hx => by have := h8 x hx; omega
    have haa : ((a * a : Nat) : Int) = (a : Int) * a := by push_cast; rfl
    by_cases h9 : linesOk a 2 l = true ∧ a ≤ 4
    · have hF : firstOf [if (!linesOk a 2 l) = true then 16 else 0, if 4 < (a : Int) then 20 else 0] = 0 := by
        rw [h9.1, if_neg (by simp), if_neg (by omega)]; rfl
      obtain ⟨h9, h10⟩ := h9
      rw [if_neg (by simp [h9]), if_neg (by omega)]
      have hb := mul_bd (A := 6) (B := 6) (show 0 ≤ (a : Int) + 2 ∧ (a : Int) + 2 ≤ 6 by omega) (show 0 ≤ (a : Int) + 2 ∧ (a : Int) + 2 ≤ 6 by omega)
      have t1 : ((a : Int) + 2).toNat = a + 2 := by omega
      have t2 : (((a + 2) * (a + 2) : Nat) : Int) = ((a : Int) + 2) * ((a : Int) + 2) := by push_cast; rfl
      have t3 : (((a : Int) + 2) * ((a : Int) + 2) + 1).toNat = (a + 2) * (a + 2) + 1 := by omega
      have t4 := (srch0_eq (n := a + 2) (by omega)).2
      have t5 : (castL (borderC (a + 2))).length = 2 * (a + 2) - 2 := by rw [castL, List.length_map]; exact borderC_len (by omega)
      have t6 := borderC_bd (n := a + 2) (by omega)
      have t7 : l.length = a * a := by omega
      refine pspec_of (md := 1) (rf := []) mixed tabOK cpB4_ok Tryz.func34 (by rfl) (by rfl) (by rfl) ?_
      repeat' ((conv => whnf); first | refine And.intro ?_ ?_ | with_reducible exact VC.mk rfl | exact Ok.mk | exact True.intro | refine Nx.mk ?_ | refine Fin.mk ?_ | intro _)
      all_goals ((try refine VC.mk ?_); (try simp only [CL.ncell, CL.cnt, vq] at *); (try omega))
      all_goals (try simp only [t1, t3, t4, t5, Nat.sub_zero, List.drop_zero])
      all_goals (try omega)
      · exact ⟨by omega, h6, hv⟩
      · exact ⟨by omega, trivial⟩
      · have t9 : List.take (2 * (a + 2) - 2) (castL (borderC (a + 2))) = castL (borderC (a + 2)) := List.take_of_length_le (by omega)
        rw [t9]
        exact ⟨by omega, t5, t6, by rw [t7]; rfl, hv⟩
      · have t9 : List.take (2 * (a + 2) - 2) (castL (borderC (a + 2))) = castL (borderC (a + 2)) := List.take_of_length_le (by omega)
        rw [t9]
        unfold bordL
        all_goals (refine Sup.via ?_; repeat' ((conv => whnf); first | refine And.intro ?_ ?_ | with_reducible exact VC.mk rfl | exact Ok.mk | exact True.intro | refine Nx.mk ?_ | refine Fin.mk ?_ | intro _); all_goals ((try refine VC.mk ?_); (try simp only [CL.ncell, CL.cnt, vq] at *); (try omega)); all_goals (try (simp [CL.sub]; done)))
    · have hF : firstOf [if (!linesOk a 2 l) = true then 16 else 0, if 4 < (a : Int) then 20 else 0] = if linesOk a 2 l = false then 16 else 20 := by
        cases hL : linesOk a 2 l with
        | false => rfl
        | true => rw [hL] at h9; have h9 : ¬ a ≤ 4 := fun h => h9 ⟨rfl, h⟩; rw [if_neg (by simp), if_pos (by omega)]; rfl
      have hF0 : firstOf [if (!linesOk a 2 l) = true then 16 else 0, if 4 < (a : Int) then 20 else 0] ≠ 0 := by rw [hF]; split <;> omega
      have hz : (if linesOk a 2 l = false then noGrid 16 else if 4 < (a : Int) then noGrid 20 else okGrid ((a : Int) + 2) ((a : Int) + 2) (bordL (a + 2) l)) = noGrid (firstOf [if (!linesOk a 2 l) = true then 16 else 0, if 4 < (a : Int) then 20 else 0]) := by
        rw [hF]
        cases hL : linesOk a 2 l with
        | false => rfl
        | true => rw [hL] at h9; have h9 : ¬ a ≤ 4 := fun h => h9 ⟨rfl, h⟩; rw [if_neg (by simp), if_pos (by omega)]; rfl
      rw [hz]
      have hp : (1 : Int) ≤ a ∧ (a : Int) ≤ 16 := by omega
      have hb := mul_bd (A := 18) (B := 18) (show 0 ≤ (a : Int) + 2 ∧ (a : Int) + 2 ≤ 18 by omega) (show 0 ≤ (a : Int) + 2 ∧ (a : Int) + 2 ≤ 18 by omega)
      refine pspec_of (md := 1) (rf := []) mixed tabOK cpB4_ok Tryz.func34 (by rfl) (by rfl) (by rfl) ?_
      repeat' ((conv => whnf); first | refine And.intro ?_ ?_ | with_reducible exact VC.mk rfl | exact Ok.mk | exact True.intro | refine Nx.mk ?_ | refine Fin.mk ?_ | intro _)
      all_goals ((try refine VC.mk ?_); (try simp only [CL.ncell, CL.cnt, vq] at *); (try omega))
      all_goals (try (exfalso; omega))
      · exact ⟨by omega, h6, hv⟩
      · all_goals (refine Sup.via ?_; repeat' ((conv => whnf); first | refine And.intro ?_ ?_ | with_reducible exact VC.mk rfl | exact Ok.mk | exact True.intro | refine Nx.mk ?_ | refine Fin.mk ?_ | intro _); all_goals ((try refine VC.mk ?_); (try simp only [CL.ncell, CL.cnt, vq] at *); (try omega)); all_goals (try (simp [CL.sub]; done)))
  · rw [if_pos h0]
    refine pspec_of (md := 1) (rf := []) mixed tabOK cpB4_ok Tryz.func34 (by rfl) (by rfl) (by rfl) ?_
    repeat' ((conv => whnf); first | refine And.intro ?_ ?_ | with_reducible exact VC.mk rfl | exact Ok.mk | exact True.intro | refine Nx.mk ?_ | refine Fin.mk ?_ | intro _)
    all_goals ((try refine VC.mk ?_); (try simp only [CL.ncell, CL.cnt, vq] at *); (try omega))
    all_goals (try (exfalso; omega))
    all_goals (refine Sup.via ?_; repeat' ((conv => whnf); first | refine And.intro ?_ ?_ | with_reducible exact VC.mk rfl | exact Ok.mk | exact True.intro | refine Nx.mk ?_ | refine Fin.mk ?_ | intro _); all_goals ((try refine VC.mk ?_); (try simp only [CL.ncell, CL.cnt, vq] at *); (try omega)); all_goals (try (simp [CL.sub]; done)))
def borderP : PSp := fun xs K => match xs with
  | [.agg [.int .i64 r, .int .i64 c, .isl (.ints .i64 l) .none]] => VC (True) ∧ K (borderV r c l)
  | _ => False
theorem border_ok : POK Tryz.prog 34 borderP := by
  intro xs K h
  unfold borderP at h
  split at h
  · exact ⟨_, h.2, border_spec _ _ _⟩
  · exact h.elim
end Go.Eng.YtppflbccfdbogaaGreat
namespace Go.Eng.YtppflbccfdbogaaGreat
open Go.Proofs
set_option maxRecDepth 100000
set_option maxHeartbeats 0
set_option linter.unusedVariables false
set_option linter.unusedSimpArgs false
abbrev awSum : PV := .tup [refV kSum 0 0 [1, 5, 6] 12, .int .i64 0]
abbrev awMeet : PV := .tup [refV kMeet 3 5 [] 0, .int .i64 0]
abbrev awPan4 : PV := okGrid 4 4 [1, 8, 13, 12, 14, 11, 2, 7, 4, 5, 16, 9, 15, 10, 3, 6]
abbrev awPan5 : PV := okGrid 5 5 [1, 20, 9, 23, 12, 24, 13, 2, 16, 10, 17, 6, 25, 14, 3, 15, 4, 18, 7, 21, 8, 22, 11, 5, 19]
abbrev awBim : List Int := [1, 15, 26, 32, 43, 48, 63, 65, 76]
def awSia : PSp := fun xs K => match xs with
  | [.int .i64 n] => VC (n = 3) ∧ K (okGrid 3 3 [8, 1, 6, 3, 5, 7, 4, 9, 2])
  | _ => False
theorem awSia_ok : POK Tryz.prog 28 awSia := by
  intro xs K h
  unfold awSia at h
  split at h
  · obtain ⟨⟨rfl⟩, h⟩ := h; exact ⟨_, h, siamese_spec 3⟩
  · exact h.elim
def awAdm : PSp := fun xs K => match xs with
  | [.agg [.int .i64 n, .int .i64 s0, .int .i64 s1, .int .i64 x0, .int .i64 x1, .int .i64 b0, .int .i64 b1], .str s] => VC (n = 3 ∧ s0 = 0 ∧ s1 = 1 ∧ x0 = -1 ∧ x1 = 1 ∧ b0 = 2 ∧ b1 = -1 ∧ s = ⟨#[109, 97, 103, 105, 99]⟩) ∧ K (.tup [.bool true, .int .i64 0])
  | _ => False
theorem sup_bp {b : Bool} {r : List PV} : Sup (.tup (.bp b :: r)) (.tup (.bool b :: r)) := ⟨fun h => by
  cases h with
  | tup _ _ vs hl h =>
    refine .tup _ _ vs (by simpa using hl) fun i hi => ?_
    have := h i (by simpa using hi)
    cases i with
    | zero => simp only [getL] at this ⊢; cases hv : vs.getD 0 undef <;> rw [hv] at this <;> cases this; exact .bool _ _
    | succ i => exact this⟩
theorem awAdm_ok : POK Tryz.prog 29 awAdm := by
  intro xs K h
  unfold awAdm at h
  split at h
  · obtain ⟨⟨rfl, rfl, rfl, rfl, rfl, rfl, rfl, rfl⟩, h⟩ := h
    exact ⟨_, h, pspec_sup (admits_spec 3 0 1 (-1) 1 2 (-1) _) sup_bp⟩
  · exact h.elim
def awRef : PSp := fun xs K => match xs with
  | [.agg [.int .i64 n, .int .i64 s0, .int .i64 s1, .int .i64 x0, .int .i64 x1, .int .i64 b0, .int .i64 b1], .str s] => match decide (n = 3) with
    | true => VC (n = 3 ∧ s0 = 0 ∧ s1 = 1 ∧ x0 = -1 ∧ x1 = 1 ∧ b0 = 2 ∧ b1 = -1 ∧ s = ⟨#[112, 97, 110, 100, 105, 97, 103, 111, 110, 97, 108]⟩) ∧ K awSum
    | false => VC (n = 4 ∧ s0 = 0 ∧ s1 = 0 ∧ x0 = 1 ∧ x1 = 0 ∧ b0 = 2 ∧ b1 = 0 ∧ s = ⟨#[115, 113, 117, 97, 114, 101]⟩) ∧ K awMeet
  | _ => False
theorem awRef_ok : POK Tryz.prog 30 awRef := by
  intro xs K h
  unfold awRef at h
  split at h
  · split at h
    · obtain ⟨⟨rfl, rfl, rfl, rfl, rfl, rfl, rfl, rfl⟩, h⟩ := h
      exact ⟨_, h, refuse_spec 3 0 1 (-1) 1 2 (-1) _⟩
    · obtain ⟨⟨rfl, rfl, rfl, rfl, rfl, rfl, rfl, rfl⟩, h⟩ := h
      exact ⟨_, h, refuse_spec 4 0 0 1 0 2 0 _⟩
  · exact h.elim
def awDbl : PSp := fun xs K => match xs with
  | [.int .i64 n] => VC (n = 4) ∧ K (okGrid 4 4 [16, 2, 3, 13, 5, 11, 10, 8, 9, 7, 6, 12, 4, 14, 15, 1])
  | _ => False
theorem awDbl_ok : POK Tryz.prog 31 awDbl := by
  intro xs K h
  unfold awDbl at h
  split at h
  · obtain ⟨⟨rfl⟩, h⟩ := h; exact ⟨_, h, doublyEven_spec 4⟩
  · exact h.elim
def awSgl : PSp := fun xs K => match xs with
  | [.int .i64 n] => VC (n = 6) ∧ K (okGrid 6 6 [35, 1, 6, 26, 19, 24, 3, 32, 7, 21, 23, 25, 31, 9, 2, 22, 27, 20, 8, 28, 33, 17, 10, 15, 30, 5, 34, 12, 14, 16, 4, 36, 29, 13, 18, 11])
  | _ => False
theorem awSgl_ok : POK Tryz.prog 32 awSgl := by
  intro xs K h
  unfold awSgl at h
  split at h
  · obtain ⟨⟨rfl⟩, h⟩ := h; exact ⟨_, h, singlyEven_spec 6⟩
  · exact h.elim
def awPan : PSp := fun xs K => match xs with
  | [.int .i64 n] => match decide (n = 4) with
    | true => VC (n = 4) ∧ K awPan4
    | false => VC (n = 5) ∧ K awPan5
  | _ => False
theorem awPan_ok : POK Tryz.prog 33 awPan := by
  intro xs K h
  unfold awPan at h
  split at h
  · split at h
    · obtain ⟨⟨rfl⟩, h⟩ := h; exact ⟨_, h, pandiagonal_spec 4⟩
    · obtain ⟨⟨rfl⟩, h⟩ := h; exact ⟨_, h, pandiagonal_spec 5⟩
  · exact h.elim
def awBord : PSp := fun xs K => match xs with
  | [.agg [.int .i64 r, .int .i64 c, .isl (.ints .i64 l) .none]] => VC (r = 1 ∧ c = 1 ∧ l = [1]) ∧ K (okGrid 3 3 [2, 7, 6, 9, 5, 1, 4, 3, 8])
  | _ => False
theorem awBord_ok : POK Tryz.prog 34 awBord := by
  intro xs K h
  unfold awBord at h
  split at h
  · obtain ⟨⟨rfl, rfl, rfl⟩, h⟩ := h; exact ⟨_, h, border_spec 1 1 [1]⟩
  · exact h.elim
def awRect : PSp := fun xs K => match xs with
  | [.int .i64 r, .int .i64 c] => VC (r = 2 ∧ c = 4) ∧ K (okGrid 2 4 [1, 7, 6, 4, 8, 2, 3, 5])
  | _ => False
theorem awRect_ok : POK Tryz.prog 36 awRect := by
  intro xs K h
  unfold awRect at h
  split at h
  · obtain ⟨⟨rfl, rfl⟩, h⟩ := h; exact ⟨_, h, rectangle_spec 2 4⟩
  · exact h.elim
def awUni : PSp := fun xs K => match xs with
  | [.agg [.int .i64 n, .int .i64 s0, .int .i64 s1, .int .i64 x0, .int .i64 x1, .int .i64 b0, .int .i64 b1]] => VC (n = 4 ∧ s0 = 0 ∧ s1 = 0 ∧ x0 = 1 ∧ x1 = 0 ∧ b0 = 0 ∧ b1 = 1) ∧ K (okGrid 4 4 [1, 5, 9, 13, 2, 6, 10, 14, 3, 7, 11, 15, 4, 8, 12, 16])
  | _ => False
theorem awUni_ok : POK Tryz.prog 37 awUni := by
  intro xs K h
  unfold awUni at h
  split at h
  · obtain ⟨⟨rfl, rfl, rfl, rfl, rfl, rfl, rfl⟩, h⟩ := h; exact ⟨_, h, uniform_spec 4 0 0 1 0 0 1⟩
  · exact h.elim
def bimR : List Int := (madeL 9 bimF).drop 9
theorem bim_eq : madeL 9 bimF = 1 :: 15 :: 26 :: 32 :: 43 :: 48 :: 63 :: 65 :: 76 :: bimR := by rfl
theorem bimR_len : bimR.length = 72 := by rfl
def awBi : PSp := fun xs K => match xs with
  | [] => K (gridV 9 9 (1 :: 15 :: 26 :: 32 :: 43 :: 48 :: 63 :: 65 :: 76 :: bimR))
  | _ => False
theorem awBi_ok : POK Tryz.prog 14 awBi := by
  intro xs K h
  unfold awBi at h
  split at h
  · exact ⟨_, h, bim_eq ▸ bimagic_spec⟩
  · exact h.elim
theorem sup_b {b : Bool} : Sup (.bp b) (.bool b) := ⟨fun h => by cases h; exact .bool _ _⟩
def awSame : PSp := fun xs K => match xs with
  | [.agg [.int .i64 r, .int .i64 c, .isl (.ints .i64 a) .none], .agg [.int .i64 r', .int .i64 c', .isl (.ints .i64 b) .none]] => VC (a.length ≤ 1000) ∧ VC (r = r' ∧ c = c' ∧ a = b) ∧ K (.bool true)
  | _ => False
theorem awSame_ok : POK Tryz.prog 13 awSame := by
  intro xs K h
  unfold awSame at h
  split at h
  · obtain ⟨⟨h1⟩, ⟨rfl, rfl, rfl⟩, h⟩ := h
    exact ⟨_, h, pspec_sup (same_spec _ _ _ _ _ _ (by omega)) (by simp; exact sup_b)⟩
  · exact h.elim
def awInts : PSp := fun xs K => match xs with
  | [.isl (.ints .i64 a) .none, .isl (.ints .i64 b) .none] => VC (a.length ≤ 1000) ∧ VC (a = b) ∧ K (.bool true)
  | _ => False
theorem awInts_ok : POK Tryz.prog 38 awInts := by
  intro xs K h
  unfold awInts at h
  split at h
  · obtain ⟨⟨h1⟩, ⟨rfl⟩, h⟩ := h
    exact ⟨_, h, pspec_sup (sameInts_spec _ _ (by omega)) (by simp; exact sup_b)⟩
  · exact h.elim
noncomputable def cpAw : CPT := cpAdd 28 (pureCC awSia) (cpAdd 29 (pureCC awAdm) (cpAdd 30 (pureCC awRef) (cpAdd 31 (pureCC awDbl) (cpAdd 32 (pureCC awSgl) (cpAdd 33 (pureCC awPan) (cpAdd 34 (pureCC awBord) (cpAdd 36 (pureCC awRect) (cpAdd 37 (pureCC awUni) (cpAdd 14 (pureCC awBi) (cpAdd 13 (pureCC awSame) (cpAdd 38 (pureCC awInts) (cpAdd 35 (pureCC gridP) noC))))))))))))
theorem cpAw_ok : CPOK Tryz.prog cpAw := cpAdd_ok (pureCC_ok awSia_ok) (cpAdd_ok (pureCC_ok awAdm_ok) (cpAdd_ok (pureCC_ok awRef_ok) (cpAdd_ok (pureCC_ok awDbl_ok) (cpAdd_ok (pureCC_ok awSgl_ok) (cpAdd_ok (pureCC_ok awPan_ok) (cpAdd_ok (pureCC_ok awBord_ok) (cpAdd_ok (pureCC_ok awRect_ok) (cpAdd_ok (pureCC_ok awUni_ok) (cpAdd_ok (pureCC_ok awBi_ok) (cpAdd_ok (pureCC_ok awSame_ok) (cpAdd_ok (pureCC_ok awInts_ok) (cpAdd_ok (pureCC_ok grid_ok) noC_ok))))))))))))
theorem awake_spec : PSpec Tryz.prog 9 [] (.bp true) := by
  have hb := bimR_len
  refine pspec_of (md := 1) (rf := []) mixed tabOK cpAw_ok Tryz.func9 (by rfl) (by rfl) (by rfl) ?_
  repeat' ((conv => whnf); first | refine And.intro ?_ ?_ | with_reducible exact VC.mk rfl | exact Ok.mk | exact True.intro | refine Nx.mk ?_ | refine Fin.mk ?_ | intro _)
  all_goals ((try refine VC.mk ?_); (try simp only [CL.ncell, CL.cnt, vq] at *); (try omega))
  all_goals (first | (refine Nat.le_trans (List.length_take_le _ _) ?_; decide) | (exfalso; first | (exact (by assumption : kMeet ≠ _) rfl) | (exact (by assumption : kSum ≠ _) rfl)) | exact ⟨fun h => by cases h; exact .bp _ _⟩)
def awakeP : PSp := fun xs K => match xs with
  | [] => VC (True) ∧ K (.bp true)
  | _ => False
theorem awake_ok : POK Tryz.prog 9 awakeP := by
  intro xs K h
  unfold awakeP at h
  split at h
  · exact ⟨_, h.2, awake_spec⟩
  · exact h.elim
end Go.Eng.YtppflbccfdbogaaGreat
namespace Go.Eng.YtppflbccfdbogaaGreat
open Go.Proofs
set_option maxRecDepth 100000
set_option maxHeartbeats 0
set_option linter.unusedVariables false
set_option linter.unusedSimpArgs false
/-- a contract at given values, under a condition -/
def atC (C : Prop) (as0 : List PV) (v : PV) : PSp := fun xs K => VC C ∧ VC (xs = as0) ∧ K v
theorem atC_ok {g : FuncId} {C : Prop} {as0 : List PV} {v : PV} (h : C → PSpec Tryz.prog g as0 v) : POK Tryz.prog g (atC C as0 v) := by
  rintro xs K ⟨⟨hc⟩, ⟨rfl⟩, hk⟩
  exact ⟨v, hk, h hc⟩
theorem sup_true : Sup (resOf [PV.bool true]) (.bp true) := ⟨fun h => by cases h; exact .bp _ _⟩
def awakeT : PSp := fun xs K => match xs with
  | [] => K (.bool true)
  | _ => False
theorem awakeT_ok : POK Tryz.prog 9 awakeT := by
  intro xs K h
  unfold awakeT at h
  split at h
  · exact ⟨_, h, pspec_sup awake_spec sup_b⟩
  · exact h.elim
def sameT : PSp := fun xs K => match xs with
  | [.agg [.int .i64 r, .int .i64 c, .isl (.ints .i64 a) .none], .agg [.int .i64 r', .int .i64 c', .isl (.ints .i64 b) .none]] => VC (a.length ≤ 2000000) ∧ VC (r = r' ∧ c = c' ∧ a = b) ∧ K (.bool true)
  | _ => False
theorem sameT_ok : POK Tryz.prog 13 sameT := by
  intro xs K h
  unfold sameT at h
  split at h
  · obtain ⟨⟨h1⟩, ⟨rfl, rfl, rfl⟩, h⟩ := h
    exact ⟨_, h, pspec_sup (same_spec _ _ _ _ _ _ h1) (by simp; exact sup_b)⟩
  · exact h.elim
def intsT : PSp := fun xs K => match xs with
  | [.isl (.ints .i64 a) .none, .isl (.ints .i64 b) .none] => VC (a.length ≤ 2000000) ∧ VC (a = b) ∧ K (.bool true)
  | _ => False
theorem intsT_ok : POK Tryz.prog 38 intsT := by
  intro xs K h
  unfold intsT at h
  split at h
  · obtain ⟨⟨h1⟩, ⟨rfl⟩, h⟩ := h
    exact ⟨_, h, pspec_sup (sameInts_spec _ _ h1) (by simp; exact sup_b)⟩
  · exact h.elim
noncomputable def cpSm : CPT := cpAdd 13 (pureCC sameT) noC
theorem cpSm_ok : CPOK Tryz.prog cpSm := cpAdd_ok (pureCC_ok sameT_ok) noC_ok
/-- a grid is the wanted one, or the error -/
def MadeOK (r c : Int) (l : List Int) (e r' c' : Int) (l' : List Int) (bad : Int) : Prop := (bad ≠ 0 ∧ r = 0 ∧ c = 0 ∧ l = [] ∧ e = bad) ∨ (bad = 0 ∧ e = 0 ∧ r = r' ∧ c = c' ∧ l = l')
theorem madeT_spec (r c : Int) (l : List Int) (e r' c' : Int) (l' : List Int) (bad : Int) (hl : l.length ≤ 2000000) (h : MadeOK r c l e r' c' l' bad) : PSpec Tryz.prog 8 [gridV r c l, .int .i64 e, gridV r' c' l', .int .i64 bad] (.bp true) := by
  rcases h with ⟨h1, rfl, rfl, rfl, rfl⟩ | ⟨rfl, rfl, rfl, rfl, rfl⟩
  all_goals
    refine pspec_of (md := 1) (rf := []) mixed tabOK cpSm_ok Tryz.func8 (by rfl) (by rfl) (by rfl) ?_
    repeat' ((conv => whnf); first | refine And.intro ?_ ?_ | with_reducible exact VC.mk rfl | exact Ok.mk | exact True.intro | refine Nx.mk ?_ | refine Fin.mk ?_ | intro _)
    all_goals ((try refine VC.mk ?_); (try simp only [CL.ncell, CL.cnt, vq] at *); (try omega))
    all_goals (first | exact sup_true | (exfalso; simp_all; done) | (simp_all; exact sup_true) | (simp_all; exact Sup.of rfl))
def madeT : PSp := fun xs K => match xs with
  | [.agg [.int .i64 r, .int .i64 c, .isl (.ints .i64 l) .none], .int .i64 e, .agg [.int .i64 r', .int .i64 c', .isl (.ints .i64 l') .none], .int .i64 bad] => VC (l.length ≤ 2000000) ∧ VC (MadeOK r c l e r' c' l' bad) ∧ K (.bool true)
  | _ => False
theorem madeT_ok : POK Tryz.prog 8 madeT := by
  intro xs K h
  unfold madeT at h
  split at h
  · obtain ⟨⟨h1⟩, ⟨h2⟩, h⟩ := h
    exact ⟨_, h, pspec_sup (madeT_spec _ _ _ _ _ _ _ _ h1 h2) sup_b⟩
  · exact h.elim
end Go.Eng.YtppflbccfdbogaaGreat
