/-
  Contracts of functions of the program: what each returns. Their conditions stand in them.
-/
import Derived.Test.YtppflbccfdbogaaCd
namespace Go.Eng.Ytppflbccfdbogaa
open Go.Proofs Go.RowKit Go.ChangeShapes Go.WideShapes
set_option linter.unusedVariables false
section
variable {H : Type} {enc : TypeId × Value → H} {W : World}
theorem o5 : OpenC enc Try.prog W 5 [.int .u8] := openC_int Try.underlying5
theorem o93 : OpenC enc Try.prog W 93 [.int .u32] := openC_int Try.underlying93
theorem o9 : OpenC enc Try.prog W 9 [.str] := openC_str Try.underlying9
theorem o29 : OpenC enc Try.prog W 29 [.ints .i64] := openC_ints Try.underlying29 Try.underlying3 (by kernel_rfl)
theorem o43 : OpenC enc Try.prog W 43 [.int .u8, .int .u8] := openC_array (n := 2) Try.underlying43 o5 (by kernel_rfl) (by kernel_rfl)
theorem o42 : OpenC enc Try.prog W 42 [.int .i64, .int .i64, .ints .i64] :=
  openC_struct (lss := [[.int .i64], [.int .i64], [.ints .i64]]) Try.underlying42 ⟨⟨rfl, by kernel_rfl, o3⟩, ⟨rfl, by kernel_rfl, o3⟩, ⟨rfl, by kernel_rfl, o29⟩, trivial⟩ (by kernel_rfl)
theorem o37 : OpenC enc Try.prog W 37 [.str, .int .i64, .int .i64, .ints .i64, .int .i64] :=
  openC_struct (lss := [[.str], [.int .i64], [.int .i64], [.ints .i64], [.int .i64]]) Try.underlying37 ⟨⟨rfl, by kernel_rfl, o9⟩, ⟨rfl, by kernel_rfl, o3⟩, ⟨rfl, by kernel_rfl, o3⟩, ⟨rfl, by kernel_rfl, o29⟩, ⟨rfl, by kernel_rfl, o3⟩, trivial⟩ (by kernel_rfl)
end
end Go.Eng.Ytppflbccfdbogaa
namespace Go.Eng.Ytppflbccfdbogaa
open Go.Proofs
set_option maxRecDepth 100000
set_option maxHeartbeats 0
set_option linter.unusedVariables false
set_option linter.unusedSimpArgs false
noncomputable def cpUn : CPT := cpAdd 50 (pureCC rUniformP) noC
theorem cpUn_ok : CPOK Try.prog cpUn := cpAdd_ok (pureCC_ok rUniform_ok) noC_ok
noncomputable def cpSq : CPT := cpAdd 100 (lendCC [] emptyL) noC
theorem cpSq_ok : CPOK Try.prog cpSq := cpAdd_ok (lendCC_ok [] SquareL_ok) noC_ok
theorem rSiamese_spec (n : Int) (hn : 1 ≤ n ∧ n ≤ 16) : PSpec Try.prog 37 [.int .i64 n] (gridV n n (siaL n)) := by
  refine pspec_of (md := 0) (rf := []) mixed tabOK cpUn_ok Try.func37 (by rfl) (by rfl) (by rfl) ?_
  repeat' (first | ((conv => whnf); refine And.intro ?_ ?_) | ((conv => whnf); with_reducible exact VC.mk rfl) | ((conv => whnf); exact Ok.mk) | ((conv => whnf); exact True.intro) | ((conv => whnf); refine Nx.mk ?_) | ((conv => whnf); refine Fin.mk ?_) | ((conv => whnf); intro _))
  all_goals ((try refine VC.mk ?_); (try simp only [CL.ncell, CL.cnt, Int.toNat_natCast, decide_eq_true_eq, decide_eq_false_iff_not, Bool.not_eq_true, Bool.not_false, Bool.not_true, and_self, and_true, true_and, te3b, te4b, te3s, te4s, Nat.mul_one, Nat.zero_add, List.length_cons, List.length_nil, Bool.false_eq_true, Bool.true_eq_false] at *); (try omega))
  · exact ⟨hn, by simp only [List.mem_cons, List.not_mem_nil, or_false, forall_eq_or_imp, forall_eq]; omega⟩
  · exact Sup.of rfl
theorem rDouble_spec (n : Nat) (hn : 1 ≤ n ∧ n ≤ 16) : PSpec Try.prog 38 [.int .i64 (n : Int)] (gridV n n (madeL n (dblF n))) := by
  have eN : ((n : Int) * n).toNat = n * n := by rw [← Int.natCast_mul, Int.toNat_natCast]
  have hbd : ∀ i j : Nat, i < n → j < n → n * i + j < n * n := fun i j hi hj => by
    have := Nat.mul_le_mul_left n (show i + 1 ≤ n by omega)
    rw [Nat.mul_add] at this; omega
  have hix : ∀ i j : Nat, ((n : Int) * i + j) = ((n * i + j : Nat) : Int) := fun i j => by push_cast; rfl
  have hix' : ∀ i j : Nat, ((i : Int) * n + j) = ((n * i + j : Nat) : Int) := fun i j => by push_cast; rw [Int.mul_comm]
  obtain ⟨g, hgd⟩ : ∃ g : Nat → Int, g = fun k => dblF n (k / n) (k % n) := ⟨_, rfl⟩
  have hg : ∀ i j : Nat, j < n → dblF n i j = g (n * i + j) := fun i j hj => by
    have h1 : (n * i + j) / n = i := by rw [Nat.mul_add_div (by omega), Nat.div_eq_of_lt hj]; simp
    have h2 : (n * i + j) % n = j := by rw [Nat.mul_add_mod, Nat.mod_eq_of_lt hj]
    simp only [hgd, h1, h2]
  have hNN : (n : Int) * n ≤ 1000000 := (mul_bd (show 0 ≤ (n : Int) ∧ (n : Int) ≤ 1000 by omega) (show 0 ≤ (n : Int) ∧ (n : Int) ≤ 1000 by omega)).2
  have hNN' : ((n * n : Nat) : Int) ≤ 1000000 := by rw [Int.natCast_mul]; exact hNN
  refine pspec_of (md := 0) (rf := []) mixed tabOK cpSq_ok Try.func38 (by rfl) (by rfl) (by rfl) ?_
  repeat' (first | ((conv => whnf); refine And.intro ?_ ?_) | ((conv => whnf); with_reducible exact VC.mk rfl) | ((conv => whnf); exact Ok.mk) | ((conv => whnf); exact True.intro) | ((conv => whnf); refine Nx.mk ?_) | ((conv => whnf); refine Fin.mk ?_) | ((conv => whnf); intro _))
  all_goals ((try refine VC.mk ?_); (try simp only [CL.ncell, CL.cnt, Int.toNat_natCast, decide_eq_true_eq, decide_eq_false_iff_not, Bool.not_eq_true, Bool.not_false, Bool.not_true, and_self, and_true, true_and, te3b, te4b, te3s, te4s, Nat.mul_one, Nat.zero_add, List.length_cons, List.length_nil, Bool.false_eq_true, Bool.true_eq_false] at *); (try omega))
  simp only [eN]
  conv => whnf
  refine loop_of (X := Nat) (fun i => i ≤ n) (fun i => [(4, .int .i64 i)]) (fun i => [(1, .cells (.ints .i64 (fillG g (n * n) (n * i))) false)]) (fun i => n - i) 0 ⟨anyB_ok, mixed, tabOK, cpSq_ok, noY_ok⟩ (by rfl) (by omega) ?_ ?_
  · repeat' (first | ((conv => whnf); refine And.intro ?_ ?_) | ((conv => whnf); with_reducible exact VC.mk rfl) | ((conv => whnf); exact Ok.mk) | ((conv => whnf); exact True.intro) | ((conv => whnf); refine Nx.mk ?_) | ((conv => whnf); refine Fin.mk ?_) | ((conv => whnf); intro _))
    all_goals ((try refine VC.mk ?_); (try simp only [CL.ncell, CL.cnt, Int.toNat_natCast, decide_eq_true_eq, decide_eq_false_iff_not, Bool.not_eq_true, Bool.not_false, Bool.not_true, and_self, and_true, true_and, te3b, te4b, te3s, te4s, Nat.mul_one, Nat.zero_add, List.length_cons, List.length_nil, Bool.false_eq_true, Bool.true_eq_false] at *); (try omega))
    all_goals simp [fillG_zero]
  intro i hi
  by_cases hlt : i < n
  · repeat' (first | ((conv => whnf); refine And.intro ?_ ?_) | ((conv => whnf); with_reducible exact VC.mk rfl) | ((conv => whnf); exact Ok.mk) | ((conv => whnf); exact True.intro) | ((conv => whnf); refine Nx.mk ?_) | ((conv => whnf); refine Fin.mk ?_) | ((conv => whnf); intro _))
    all_goals ((try refine VC.mk ?_); (try simp only [CL.ncell, CL.cnt, Int.toNat_natCast, decide_eq_true_eq, decide_eq_false_iff_not, Bool.not_eq_true, Bool.not_false, Bool.not_true, and_self, and_true, true_and, te3b, te4b, te3s, te4s, Nat.mul_one, Nat.zero_add, List.length_cons, List.length_nil, Bool.false_eq_true, Bool.true_eq_false] at *); (try omega))
    conv => whnf
    refine loop_of (X := Nat) (fun j => j ≤ n) (fun j => [(5, .int .i64 j)]) (fun j => [(1, .cells (.ints .i64 (fillG g (n * n) (n * i + j))) false)]) (fun j => n - j) 0 ⟨anyB_ok, mixed, tabOK, cpSq_ok, noY_ok⟩ (by rfl) (by omega) ?_ ?_
    · repeat' (first | ((conv => whnf); refine And.intro ?_ ?_) | ((conv => whnf); with_reducible exact VC.mk rfl) | ((conv => whnf); exact Ok.mk) | ((conv => whnf); exact True.intro) | ((conv => whnf); refine Nx.mk ?_) | ((conv => whnf); refine Fin.mk ?_) | ((conv => whnf); intro _))
      all_goals ((try refine VC.mk ?_); (try simp only [CL.ncell, CL.cnt, Int.toNat_natCast, decide_eq_true_eq, decide_eq_false_iff_not, Bool.not_eq_true, Bool.not_false, Bool.not_true, and_self, and_true, true_and, te3b, te4b, te3s, te4s, Nat.mul_one, Nat.zero_add, List.length_cons, List.length_nil, Bool.false_eq_true, Bool.true_eq_false] at *); (try omega))
      all_goals simp
    intro j hj
    by_cases hlj : j < n
    · have := hbd i j hlt hlj
      have e1 := hix i j
      have e2 := fillG_len g (n * n) (n * i + j) (by omega)
      have e3 := hg i j hlj
      unfold dblF at e3
      have h1 := mul_bd (A := 16) (B := 16) (show 0 ≤ (n : Int) ∧ (n : Int) ≤ 16 by omega) (show 0 ≤ (i : Int) ∧ (i : Int) ≤ 16 by omega)
      repeat' (first | ((conv => whnf); refine And.intro ?_ ?_) | ((conv => whnf); with_reducible exact VC.mk rfl) | ((conv => whnf); exact Ok.mk) | ((conv => whnf); exact True.intro) | ((conv => whnf); refine Nx.mk ?_) | ((conv => whnf); refine Fin.mk ?_) | ((conv => whnf); intro _))
      all_goals ((try refine VC.mk ?_); (try simp only [CL.ncell, CL.cnt, Int.toNat_natCast, decide_eq_true_eq, decide_eq_false_iff_not, Bool.not_eq_true, Bool.not_false, Bool.not_true, and_self, and_true, true_and, te3b, te4b, te3s, te4s, Nat.mul_one, Nat.zero_add, List.length_cons, List.length_nil, Bool.false_eq_true, Bool.true_eq_false] at *); (try omega))
      all_goals (refine ⟨j + 1, [], ⟨by omega, by omega⟩, ?_⟩)
      all_goals repeat' (first | ((conv => whnf); refine And.intro ?_ ?_) | ((conv => whnf); with_reducible exact VC.mk rfl) | ((conv => whnf); exact Ok.mk) | ((conv => whnf); exact True.intro) | ((conv => whnf); refine Nx.mk ?_) | ((conv => whnf); refine Fin.mk ?_) | ((conv => whnf); intro _))
      all_goals ((try refine VC.mk ?_); (try simp only [CL.ncell, CL.cnt, Int.toNat_natCast, decide_eq_true_eq, decide_eq_false_iff_not, Bool.not_eq_true, Bool.not_false, Bool.not_true, and_self, and_true, true_and, te3b, te4b, te3s, te4s, Nat.mul_one, Nat.zero_add, List.length_cons, List.length_nil, Bool.false_eq_true, Bool.true_eq_false] at *); (try omega))
      all_goals (rw [e1, Int.toNat_natCast, show n * i + (j + 1) = n * i + j + 1 from rfl, ← fillG_set g (n * n) (n * i + j) (by omega), ← e3]; split <;> first | rfl | (exfalso; omega))
    · have : n = j := by omega
      subst this
      repeat' (first | ((conv => whnf); refine And.intro ?_ ?_) | ((conv => whnf); with_reducible exact VC.mk rfl) | ((conv => whnf); exact Ok.mk) | ((conv => whnf); exact True.intro) | ((conv => whnf); refine Nx.mk ?_) | ((conv => whnf); refine Fin.mk ?_) | ((conv => whnf); intro _))
      all_goals ((try refine VC.mk ?_); (try simp only [CL.ncell, CL.cnt, Int.toNat_natCast, decide_eq_true_eq, decide_eq_false_iff_not, Bool.not_eq_true, Bool.not_false, Bool.not_true, and_self, and_true, true_and, te3b, te4b, te3s, te4s, Nat.mul_one, Nat.zero_add, List.length_cons, List.length_nil, Bool.false_eq_true, Bool.true_eq_false] at *); (try omega))
      refine ⟨i + 1, [], ⟨by omega, by omega⟩, ?_⟩
      repeat' (first | ((conv => whnf); refine And.intro ?_ ?_) | ((conv => whnf); with_reducible exact VC.mk rfl) | ((conv => whnf); exact Ok.mk) | ((conv => whnf); exact True.intro) | ((conv => whnf); refine Nx.mk ?_) | ((conv => whnf); refine Fin.mk ?_) | ((conv => whnf); intro _))
      all_goals ((try refine VC.mk ?_); (try simp only [CL.ncell, CL.cnt, Int.toNat_natCast, decide_eq_true_eq, decide_eq_false_iff_not, Bool.not_eq_true, Bool.not_false, Bool.not_true, and_self, and_true, true_and, te3b, te4b, te3s, te4s, Nat.mul_one, Nat.zero_add, List.length_cons, List.length_nil, Bool.false_eq_true, Bool.true_eq_false] at *); (try omega))
  · have : n = i := by omega
    subst this
    repeat' (first | ((conv => whnf); refine And.intro ?_ ?_) | ((conv => whnf); with_reducible exact VC.mk rfl) | ((conv => whnf); exact Ok.mk) | ((conv => whnf); exact True.intro) | ((conv => whnf); refine Nx.mk ?_) | ((conv => whnf); refine Fin.mk ?_) | ((conv => whnf); intro _))
    all_goals ((try refine VC.mk ?_); (try simp only [CL.ncell, CL.cnt, Int.toNat_natCast, decide_eq_true_eq, decide_eq_false_iff_not, Bool.not_eq_true, Bool.not_false, Bool.not_true, and_self, and_true, true_and, te3b, te4b, te3s, te4s, Nat.mul_one, Nat.zero_add, List.length_cons, List.length_nil, Bool.false_eq_true, Bool.true_eq_false] at *); (try omega))
    · rw [fillG_len _ _ _ (Nat.le_refl _)]; exact Nat.le_refl _
    rw [fillG_all]
    refine Sup.via ?_
    repeat' (first | ((conv => whnf); refine And.intro ?_ ?_) | ((conv => whnf); with_reducible exact VC.mk rfl) | ((conv => whnf); exact Ok.mk) | ((conv => whnf); exact True.intro) | ((conv => whnf); refine Nx.mk ?_) | ((conv => whnf); refine Fin.mk ?_) | ((conv => whnf); intro _))
    all_goals ((try refine VC.mk ?_); (try simp only [CL.ncell, CL.cnt, Int.toNat_natCast, decide_eq_true_eq, decide_eq_false_iff_not, Bool.not_eq_true, Bool.not_false, Bool.not_true, and_self, and_true, true_and, te3b, te4b, te3s, te4s, Nat.mul_one, Nat.zero_add, List.length_cons, List.length_nil, Bool.false_eq_true, Bool.true_eq_false] at *); (try omega))
    simp [CL.sub, madeL, hgd, List.take_of_length_le]
theorem rHalved_spec (n : Nat) (hn : n ≤ 16) : PSpec Try.prog 44 [.int .i64 (n : Int)] (.isl (.ints .i64 (halvedL n n)) .none) := by
  refine pspec_of (md := 0) (rf := []) mixed tabOK noC_ok Try.func44 (by rfl) (by rfl) (by rfl) ?_
  repeat' (first | ((conv => whnf); refine And.intro ?_ ?_) | ((conv => whnf); with_reducible exact VC.mk rfl) | ((conv => whnf); exact Ok.mk) | ((conv => whnf); exact True.intro) | ((conv => whnf); refine Nx.mk ?_) | ((conv => whnf); refine Fin.mk ?_) | ((conv => whnf); intro _))
  all_goals ((try refine VC.mk ?_); (try simp only [CL.ncell, CL.cnt, Int.toNat_natCast, decide_eq_true_eq, decide_eq_false_iff_not, Bool.not_eq_true, Bool.not_false, Bool.not_true, and_self, and_true, true_and, te3b, te4b, te3s, te4s, Nat.mul_one, Nat.zero_add, List.length_cons, List.length_nil, Bool.false_eq_true, Bool.true_eq_false] at *); (try omega))
  conv => whnf
  refine loop_of (X := Nat) (fun i => i ≤ n) (fun i => [(4, .int .i64 i), (3, .isl (.ints .i64 (halvedL n i)) (.own 0))]) (fun i => [(0, .tok 1 i)]) (fun i => n - i) 0 ⟨anyB_ok, mixed, tabOK, noC_ok, noY_ok⟩ (by rfl) (by omega) ?_ ?_
  · repeat' (first | ((conv => whnf); refine And.intro ?_ ?_) | ((conv => whnf); with_reducible exact VC.mk rfl) | ((conv => whnf); exact Ok.mk) | ((conv => whnf); exact True.intro) | ((conv => whnf); refine Nx.mk ?_) | ((conv => whnf); refine Fin.mk ?_) | ((conv => whnf); intro _))
    all_goals ((try refine VC.mk ?_); (try simp only [CL.ncell, CL.cnt, Int.toNat_natCast, decide_eq_true_eq, decide_eq_false_iff_not, Bool.not_eq_true, Bool.not_false, Bool.not_true, and_self, and_true, true_and, te3b, te4b, te3s, te4s, Nat.mul_one, Nat.zero_add, List.length_cons, List.length_nil, Bool.false_eq_true, Bool.true_eq_false] at *); (try omega))
  intro i hi
  have e1 := halvedL_succ n i
  have e2 := halvedL_len n i
  unfold halvedAt at e1
  by_cases hlt : i < n
  · repeat' (first | ((conv => whnf); refine And.intro ?_ ?_) | ((conv => whnf); with_reducible exact VC.mk rfl) | ((conv => whnf); exact Ok.mk) | ((conv => whnf); exact True.intro) | ((conv => whnf); refine Nx.mk ?_) | ((conv => whnf); refine Fin.mk ?_) | ((conv => whnf); intro _))
    all_goals ((try refine VC.mk ?_); (try simp only [CL.ncell, CL.cnt, Int.toNat_natCast, decide_eq_true_eq, decide_eq_false_iff_not, Bool.not_eq_true, Bool.not_false, Bool.not_true, and_self, and_true, true_and, te3b, te4b, te3s, te4s, Nat.mul_one, Nat.zero_add, List.length_cons, List.length_nil, Bool.false_eq_true, Bool.true_eq_false] at *); (try omega))
    all_goals (try (simp only [List.length_append, List.length_cons, List.length_nil]; omega))
    all_goals (refine ⟨i + 1, [], ⟨by omega, by omega⟩, ?_⟩)
    all_goals repeat' (first | ((conv => whnf); refine And.intro ?_ ?_) | ((conv => whnf); with_reducible exact VC.mk rfl) | ((conv => whnf); exact Ok.mk) | ((conv => whnf); exact True.intro) | ((conv => whnf); refine Nx.mk ?_) | ((conv => whnf); refine Fin.mk ?_) | ((conv => whnf); intro _))
    all_goals ((try refine VC.mk ?_); (try simp only [CL.ncell, CL.cnt, Int.toNat_natCast, decide_eq_true_eq, decide_eq_false_iff_not, Bool.not_eq_true, Bool.not_false, Bool.not_true, and_self, and_true, true_and, te3b, te4b, te3s, te4s, Nat.mul_one, Nat.zero_add, List.length_cons, List.length_nil, Bool.false_eq_true, Bool.true_eq_false] at *); (try omega))
    all_goals (try (rw [e1]; split <;> first | rfl | (exfalso; omega)))
  · have : n = i := by omega
    subst this
    repeat' (first | ((conv => whnf); refine And.intro ?_ ?_) | ((conv => whnf); with_reducible exact VC.mk rfl) | ((conv => whnf); exact Ok.mk) | ((conv => whnf); exact True.intro) | ((conv => whnf); refine Nx.mk ?_) | ((conv => whnf); refine Fin.mk ?_) | ((conv => whnf); intro _))
    all_goals ((try refine VC.mk ?_); (try simp only [CL.ncell, CL.cnt, Int.toNat_natCast, decide_eq_true_eq, decide_eq_false_iff_not, Bool.not_eq_true, Bool.not_false, Bool.not_true, and_self, and_true, true_and, te3b, te4b, te3s, te4s, Nat.mul_one, Nat.zero_add, List.length_cons, List.length_nil, Bool.false_eq_true, Bool.true_eq_false] at *); (try omega))
    all_goals (first | (refine Sup.of ?_; first | rfl | (simp [*, resOf]; done)) | (refine Sup.via ?_; repeat' (first | ((conv => whnf); refine And.intro ?_ ?_) | ((conv => whnf); with_reducible exact VC.mk rfl) | ((conv => whnf); exact Ok.mk) | ((conv => whnf); exact True.intro) | ((conv => whnf); refine Nx.mk ?_) | ((conv => whnf); refine Fin.mk ?_) | ((conv => whnf); intro _)); all_goals ((try refine VC.mk ?_); (try simp only [CL.ncell, CL.cnt, Int.toNat_natCast, decide_eq_true_eq, decide_eq_false_iff_not, Bool.not_eq_true, Bool.not_false, Bool.not_true, and_self, and_true, true_and, te3b, te4b, te3s, te4s, Nat.mul_one, Nat.zero_add, List.length_cons, List.length_nil, Bool.false_eq_true, Bool.true_eq_false] at *); (try omega)); all_goals (try (simp [CL.sub]; done))))
def mpErr (rows cols : List Int) : Int := if rows.length ≠ cols.length then 2 else if rows.length % 4 ≠ 0 ∨ rows.length < 4 ∨ 16 < rows.length then 3 else if halvesErr rows ≠ 0 then halvesErr rows else halvesErr cols
def mpV (rows cols : List Int) : PV := if mpErr rows cols = 0 then okGrid rows.length rows.length (mpL rows cols) else noGrid (mpErr rows cols)
theorem halvesErr_zero {l : List Int} (h : halvesErr l = 0) : ∀ k, k < l.length → 0 ≤ l.getD k 0 ∧ l.getD k 0 < l.length := by
  unfold halvesErr at h
  split at h
  · exact isPerm_bd (permErr_zero ‹_›).2
  · omega
noncomputable def cpMP : CPT := cpAdd 112 (pureCC checkHalvesP) (cpAdd 99 (pureCC mostPerfectP) cp2)
theorem cpMP_ok : CPOK Try.prog cpMP := cpAdd_ok (pureCC_ok checkHalves_ok) (cpAdd_ok (pureCC_ok mostPerfect_ok) cp2_ok)
theorem mpErr_first {rows cols : List Int} {x y : Int} (hx : x = if rows.length = cols.length then 0 else 2) (hy : y = if rows.length % 4 ≠ 0 ∨ rows.length < 4 ∨ 16 < rows.length then 3 else 0) : firstOf [x, y, halvesErr rows, halvesErr cols] = mpErr rows cols := by
  subst hx hy
  simp only [firstOf, mpErr]
  (repeat' split) <;> first | rfl | omega | (exfalso; omega) | (simp_all; done)
theorem mpErr_zero {rows cols : List Int} (h : mpErr rows cols = 0) : rows.length = cols.length ∧ rows.length ≤ 16 ∧ halvesErr rows = 0 ∧ halvesErr cols = 0 := by
  unfold mpErr at h
  split at h
  · omega
  · split at h
    · omega
    · split at h
      · exact absurd h ‹_›
      · exact ⟨by omega, by omega, by omega, h⟩
theorem mostPerf_spec (rows cols : List Int) : PSpec Try.prog 64 [.isl (.ints .i64 rows) .none, .isl (.ints .i64 cols) .none] (mpV rows cols) := by
  have ht : (rows.length : Int).tmod 4 = ((rows.length % 4 : Nat) : Int) := by rw [Int.tmod_eq_emod_of_nonneg (by omega)]; push_cast; rfl
  have hf := fun x y hx hy => @mpErr_first rows cols x y hx hy
  have hz := @mpErr_zero rows cols
  unfold mpV
  generalize mpErr rows cols = e at *
  have h1 := @halvesErr_zero rows
  have h2 := @halvesErr_zero cols
  refine pspec_of (md := 1) (rf := []) mixed tabOK cpMP_ok Try.func64 (by rfl) (by rfl) (by rfl) ?_
  repeat' (first | ((conv => whnf); refine And.intro ?_ ?_) | ((conv => whnf); with_reducible exact VC.mk rfl) | ((conv => whnf); exact Ok.mk) | ((conv => whnf); exact True.intro) | ((conv => whnf); refine Nx.mk ?_) | ((conv => whnf); refine Fin.mk ?_) | ((conv => whnf); intro _))
  all_goals ((try refine VC.mk ?_); (try simp only [CL.ncell, CL.cnt, Int.toNat_natCast, decide_eq_true_eq, decide_eq_false_iff_not, Bool.not_eq_true, Bool.not_false, Bool.not_true, and_self, and_true, true_and, te3b, te4b, te3s, te4s, Nat.mul_one, Nat.zero_add, List.length_cons, List.length_nil, Bool.false_eq_true, Bool.true_eq_false] at *); (try omega))
  all_goals (first
    | (rename_i h; rw [hf _ _ (by split <;> split <;> omega) (by (repeat' split) <;> first | rfl | omega | (exfalso; omega) | (simp_all; done))] at h ⊢; rw [if_neg h]; all_goals (refine Sup.via ?_; repeat' (first | ((conv => whnf); refine And.intro ?_ ?_) | ((conv => whnf); with_reducible exact VC.mk rfl) | ((conv => whnf); exact Ok.mk) | ((conv => whnf); exact True.intro) | ((conv => whnf); refine Nx.mk ?_) | ((conv => whnf); refine Fin.mk ?_) | ((conv => whnf); intro _)); all_goals ((try refine VC.mk ?_); (try simp only [CL.ncell, CL.cnt, Int.toNat_natCast, decide_eq_true_eq, decide_eq_false_iff_not, Bool.not_eq_true, Bool.not_false, Bool.not_true, and_self, and_true, true_and, te3b, te4b, te3s, te4s, Nat.mul_one, Nat.zero_add, List.length_cons, List.length_nil, Bool.false_eq_true, Bool.true_eq_false] at *); (try omega)); all_goals (try (simp [CL.sub]; done))))
    | (rename_i h; rw [hf _ _ (by split <;> split <;> omega) (by (repeat' split) <;> first | rfl | omega | (exfalso; omega) | (simp_all; done))] at h; have h := Decidable.not_not.1 h; obtain ⟨z1, z2, z3, z4⟩ := hz h; exact ⟨z2, z1.symm, h1 z3, by rw [z1]; exact h2 z4⟩)
    | (rename_i h; rw [hf _ _ (by split <;> split <;> omega) (by (repeat' split) <;> first | rfl | omega | (exfalso; omega) | (simp_all; done))] at h; have h := Decidable.not_not.1 h; rw [if_pos h]; all_goals (refine Sup.via ?_; repeat' (first | ((conv => whnf); refine And.intro ?_ ?_) | ((conv => whnf); with_reducible exact VC.mk rfl) | ((conv => whnf); exact Ok.mk) | ((conv => whnf); exact True.intro) | ((conv => whnf); refine Nx.mk ?_) | ((conv => whnf); refine Fin.mk ?_) | ((conv => whnf); intro _)); all_goals ((try refine VC.mk ?_); (try simp only [CL.ncell, CL.cnt, Int.toNat_natCast, decide_eq_true_eq, decide_eq_false_iff_not, Bool.not_eq_true, Bool.not_false, Bool.not_true, and_self, and_true, true_and, te3b, te4b, te3s, te4s, Nat.mul_one, Nat.zero_add, List.length_cons, List.length_nil, Bool.false_eq_true, Bool.true_eq_false] at *); (try omega)); all_goals (try (simp [CL.sub]; done))))
    | trace_state)
end Go.Eng.Ytppflbccfdbogaa
namespace Go.Eng.Ytppflbccfdbogaa
open Go.Proofs
set_option maxRecDepth 100000
set_option maxHeartbeats 0
set_option linter.unusedVariables false
set_option linter.unusedSimpArgs false
noncomputable def cpRM : CPT := cpAdd 113 (pureCC CheckHalvesP) (cpAdd 100 (lendCC [] emptyL) noC)
theorem cpRM_ok : CPOK Try.prog cpRM := cpAdd_ok (pureCC_ok CheckHalves_ok) (cpAdd_ok (lendCC_ok [] SquareL_ok) noC_ok)
theorem rMost_spec (rows cols : List Int) : PSpec Try.prog 65 [.isl (.ints .i64 rows) .none, .isl (.ints .i64 cols) .none] (mpV rows cols) := by
  have ht : (rows.length : Int).tmod 4 = ((rows.length % 4 : Nat) : Int) := by rw [Int.tmod_eq_emod_of_nonneg (by omega)]; push_cast; rfl
  by_cases hz : mpErr rows cols = 0
  · obtain ⟨z1, z2, z3, z4⟩ := mpErr_zero hz
    have hm : ¬ (rows.length % 4 ≠ 0 ∨ rows.length < 4 ∨ 16 < rows.length) := by
      intro h; unfold mpErr at hz; rw [if_neg (by omega), if_pos h] at hz; omega
    unfold mpV
    rw [if_pos hz]
    have h1 := halvesErr_zero z3
    have h2 := halvesErr_zero z4
    obtain ⟨n, hn⟩ : ∃ n, rows.length = n := ⟨_, rfl⟩
    have hc : cols.length = n := by omega
    unfold mpL
    rw [hn] at h1 hm z2 ⊢
    rw [hc] at h2
    have eN : ((n : Int) * n).toNat = n * n := by rw [← Int.natCast_mul, Int.toNat_natCast]
    have hbd : ∀ i j : Nat, i < n → j < n → n * i + j < n * n := fun i j hi hj => by
      have := Nat.mul_le_mul_left n (show i + 1 ≤ n by omega)
      rw [Nat.mul_add] at this; omega
    have hix : ∀ i j : Nat, ((n : Int) * i + j) = ((n * i + j : Nat) : Int) := fun i j => by push_cast; rfl
    have hix' : ∀ i j : Nat, ((i : Int) * n + j) = ((n * i + j : Nat) : Int) := fun i j => by push_cast; rw [Int.mul_comm]
    obtain ⟨g, hgd⟩ : ∃ g : Nat → Int, g = fun k => (mpF n rows cols) (k / n) (k % n) := ⟨_, rfl⟩
    have hg : ∀ i j : Nat, j < n → (mpF n rows cols) i j = g (n * i + j) := fun i j hj => by
      have h1 : (n * i + j) / n = i := by rw [Nat.mul_add_div (by omega), Nat.div_eq_of_lt hj]; simp
      have h2 : (n * i + j) % n = j := by rw [Nat.mul_add_mod, Nat.mod_eq_of_lt hj]
      simp only [hgd, h1, h2]
    have hNN : (n : Int) * n ≤ 1000000 := (mul_bd (show 0 ≤ (n : Int) ∧ (n : Int) ≤ 1000 by omega) (show 0 ≤ (n : Int) ∧ (n : Int) ≤ 1000 by omega)).2
    have hNN' : ((n * n : Nat) : Int) ≤ 1000000 := by rw [Int.natCast_mul]; exact hNN
    refine pspec_of (md := 0) (rf := []) mixed tabOK cpRM_ok Try.func65 (by rfl) (by rfl) (by rfl) ?_
    repeat' (first | ((conv => whnf); refine And.intro ?_ ?_) | ((conv => whnf); with_reducible exact VC.mk rfl) | ((conv => whnf); exact Ok.mk) | ((conv => whnf); exact True.intro) | ((conv => whnf); refine Nx.mk ?_) | ((conv => whnf); refine Fin.mk ?_) | ((conv => whnf); intro _))
    all_goals ((try refine VC.mk ?_); (try simp only [CL.ncell, CL.cnt, Int.toNat_natCast, decide_eq_true_eq, decide_eq_false_iff_not, Bool.not_eq_true, Bool.not_false, Bool.not_true, and_self, and_true, true_and, te3b, te4b, te3s, te4s, Nat.mul_one, Nat.zero_add, List.length_cons, List.length_nil, Bool.false_eq_true, Bool.true_eq_false] at *); (try omega))
    all_goals (try (exfalso; omega))
    rw [hn]
    try simp only [eN]
    conv => whnf
    refine loop_of (X := Nat) (fun i => i ≤ n) (fun i => [(9, .int .i64 i)]) (fun i => [(9, .cells (.ints .i64 (fillG g (n * n) (n * i))) false)]) (fun i => n - i) 0 ⟨anyB_ok, mixed, tabOK, cpRM_ok, noY_ok⟩ (by rfl) (by omega) ?_ ?_
    · repeat' (first | ((conv => whnf); refine And.intro ?_ ?_) | ((conv => whnf); with_reducible exact VC.mk rfl) | ((conv => whnf); exact Ok.mk) | ((conv => whnf); exact True.intro) | ((conv => whnf); refine Nx.mk ?_) | ((conv => whnf); refine Fin.mk ?_) | ((conv => whnf); intro _))
      all_goals ((try refine VC.mk ?_); (try simp only [CL.ncell, CL.cnt, Int.toNat_natCast, decide_eq_true_eq, decide_eq_false_iff_not, Bool.not_eq_true, Bool.not_false, Bool.not_true, and_self, and_true, true_and, te3b, te4b, te3s, te4s, Nat.mul_one, Nat.zero_add, List.length_cons, List.length_nil, Bool.false_eq_true, Bool.true_eq_false] at *); (try omega))
      all_goals simp [fillG_zero]
    intro i hi
    by_cases hlt : i < n
    · have b1 := h1 i hlt
      repeat' (first | ((conv => whnf); refine And.intro ?_ ?_) | ((conv => whnf); with_reducible exact VC.mk rfl) | ((conv => whnf); exact Ok.mk) | ((conv => whnf); exact True.intro) | ((conv => whnf); refine Nx.mk ?_) | ((conv => whnf); refine Fin.mk ?_) | ((conv => whnf); intro _))
      all_goals ((try refine VC.mk ?_); (try simp only [CL.ncell, CL.cnt, Int.toNat_natCast, decide_eq_true_eq, decide_eq_false_iff_not, Bool.not_eq_true, Bool.not_false, Bool.not_true, and_self, and_true, true_and, te3b, te4b, te3s, te4s, Nat.mul_one, Nat.zero_add, List.length_cons, List.length_nil, Bool.false_eq_true, Bool.true_eq_false] at *); (try omega))
      conv => whnf
      refine loop_of (X := Nat) (fun j => j ≤ n) (fun j => [(10, .int .i64 j)]) (fun j => [(9, .cells (.ints .i64 (fillG g (n * n) (n * i + j))) false)]) (fun j => n - j) 0 ⟨anyB_ok, mixed, tabOK, cpRM_ok, noY_ok⟩ (by rfl) (by omega) ?_ ?_
      · repeat' (first | ((conv => whnf); refine And.intro ?_ ?_) | ((conv => whnf); with_reducible exact VC.mk rfl) | ((conv => whnf); exact Ok.mk) | ((conv => whnf); exact True.intro) | ((conv => whnf); refine Nx.mk ?_) | ((conv => whnf); refine Fin.mk ?_) | ((conv => whnf); intro _))
        all_goals ((try refine VC.mk ?_); (try simp only [CL.ncell, CL.cnt, Int.toNat_natCast, decide_eq_true_eq, decide_eq_false_iff_not, Bool.not_eq_true, Bool.not_false, Bool.not_true, and_self, and_true, true_and, te3b, te4b, te3s, te4s, Nat.mul_one, Nat.zero_add, List.length_cons, List.length_nil, Bool.false_eq_true, Bool.true_eq_false] at *); (try omega))
        all_goals simp
      intro j hj
      by_cases hlj : j < n
      · have := hbd i j hlt hlj
        have b2 := h2 j hlj
        have e1 := hix' i j
        have e2 := fillG_len g (n * n) (n * i + j) (by omega)
        have e3 := hg i j hlj
        unfold mpF at e3
        have d1 : turned n (rows.getD i 0) j = if (j : Int) % 2 = 1 then (n : Int) - 1 - rows.getD i 0 else rows.getD i 0 := rfl
        have d2 : turned n (cols.getD j 0) i = if (i : Int) % 2 = 1 then (n : Int) - 1 - cols.getD j 0 else cols.getD j 0 := rfl
        rw [d1, d2] at e3
        have k1 := mul_bd (A := 16) (B := 16) (show 0 ≤ (n : Int) ∧ (n : Int) ≤ 16 by omega) (show 0 ≤ (i : Int) ∧ (i : Int) ≤ 16 by omega)
        have k1' := mul_bd (A := 16) (B := 16) (show 0 ≤ (i : Int) ∧ (i : Int) ≤ 16 by omega) (show 0 ≤ (n : Int) ∧ (n : Int) ≤ 16 by omega)
        have k2 := mul_bd (A := 16) (B := 16) (show 0 ≤ (n : Int) ∧ (n : Int) ≤ 16 by omega) (show 0 ≤ cols.getD j 0 ∧ cols.getD j 0 ≤ 16 by omega)
        have k3 := mul_bd (A := 16) (B := 16) (show 0 ≤ (n : Int) ∧ (n : Int) ≤ 16 by omega) (show 0 ≤ (n : Int) - 1 - cols.getD j 0 ∧ (n : Int) - 1 - cols.getD j 0 ≤ 16 by omega)
        repeat' (first | ((conv => whnf); refine And.intro ?_ ?_) | ((conv => whnf); with_reducible exact VC.mk rfl) | ((conv => whnf); exact Ok.mk) | ((conv => whnf); exact True.intro) | ((conv => whnf); refine Nx.mk ?_) | ((conv => whnf); refine Fin.mk ?_) | ((conv => whnf); intro _))
        all_goals ((try refine VC.mk ?_); (try simp only [CL.ncell, CL.cnt, Int.toNat_natCast, decide_eq_true_eq, decide_eq_false_iff_not, Bool.not_eq_true, Bool.not_false, Bool.not_true, and_self, and_true, true_and, te3b, te4b, te3s, te4s, Nat.mul_one, Nat.zero_add, List.length_cons, List.length_nil, Bool.false_eq_true, Bool.true_eq_false] at *); (try omega))
        all_goals (refine ⟨j + 1, [], ⟨by omega, by omega⟩, ?_⟩)
        all_goals repeat' (first | ((conv => whnf); refine And.intro ?_ ?_) | ((conv => whnf); with_reducible exact VC.mk rfl) | ((conv => whnf); exact Ok.mk) | ((conv => whnf); exact True.intro) | ((conv => whnf); refine Nx.mk ?_) | ((conv => whnf); refine Fin.mk ?_) | ((conv => whnf); intro _))
        all_goals ((try refine VC.mk ?_); (try simp only [CL.ncell, CL.cnt, Int.toNat_natCast, decide_eq_true_eq, decide_eq_false_iff_not, Bool.not_eq_true, Bool.not_false, Bool.not_true, and_self, and_true, true_and, te3b, te4b, te3s, te4s, Nat.mul_one, Nat.zero_add, List.length_cons, List.length_nil, Bool.false_eq_true, Bool.true_eq_false] at *); (try omega))
        all_goals (rw [e1, Int.toNat_natCast, show n * i + (j + 1) = n * i + j + 1 from rfl, ← fillG_set g (n * n) (n * i + j) (by omega), ← e3])
        all_goals ((repeat' split) <;> first | rfl | (exfalso; omega))
      · have : n = j := by omega
        subst this
        repeat' (first | ((conv => whnf); refine And.intro ?_ ?_) | ((conv => whnf); with_reducible exact VC.mk rfl) | ((conv => whnf); exact Ok.mk) | ((conv => whnf); exact True.intro) | ((conv => whnf); refine Nx.mk ?_) | ((conv => whnf); refine Fin.mk ?_) | ((conv => whnf); intro _))
        all_goals ((try refine VC.mk ?_); (try simp only [CL.ncell, CL.cnt, Int.toNat_natCast, decide_eq_true_eq, decide_eq_false_iff_not, Bool.not_eq_true, Bool.not_false, Bool.not_true, and_self, and_true, true_and, te3b, te4b, te3s, te4s, Nat.mul_one, Nat.zero_add, List.length_cons, List.length_nil, Bool.false_eq_true, Bool.true_eq_false] at *); (try omega))
        refine ⟨i + 1, [], ⟨by omega, by omega⟩, ?_⟩
        repeat' (first | ((conv => whnf); refine And.intro ?_ ?_) | ((conv => whnf); with_reducible exact VC.mk rfl) | ((conv => whnf); exact Ok.mk) | ((conv => whnf); exact True.intro) | ((conv => whnf); refine Nx.mk ?_) | ((conv => whnf); refine Fin.mk ?_) | ((conv => whnf); intro _))
        all_goals ((try refine VC.mk ?_); (try simp only [CL.ncell, CL.cnt, Int.toNat_natCast, decide_eq_true_eq, decide_eq_false_iff_not, Bool.not_eq_true, Bool.not_false, Bool.not_true, and_self, and_true, true_and, te3b, te4b, te3s, te4s, Nat.mul_one, Nat.zero_add, List.length_cons, List.length_nil, Bool.false_eq_true, Bool.true_eq_false] at *); (try omega))
    · have : n = i := by omega
      subst this
      repeat' (first | ((conv => whnf); refine And.intro ?_ ?_) | ((conv => whnf); with_reducible exact VC.mk rfl) | ((conv => whnf); exact Ok.mk) | ((conv => whnf); exact True.intro) | ((conv => whnf); refine Nx.mk ?_) | ((conv => whnf); refine Fin.mk ?_) | ((conv => whnf); intro _))
      all_goals ((try refine VC.mk ?_); (try simp only [CL.ncell, CL.cnt, Int.toNat_natCast, decide_eq_true_eq, decide_eq_false_iff_not, Bool.not_eq_true, Bool.not_false, Bool.not_true, and_self, and_true, true_and, te3b, te4b, te3s, te4s, Nat.mul_one, Nat.zero_add, List.length_cons, List.length_nil, Bool.false_eq_true, Bool.true_eq_false] at *); (try omega))
      · rw [fillG_len _ _ _ (Nat.le_refl _)]; exact Nat.le_refl _
      rw [fillG_all]
      refine Sup.via ?_
      repeat' (first | ((conv => whnf); refine And.intro ?_ ?_) | ((conv => whnf); with_reducible exact VC.mk rfl) | ((conv => whnf); exact Ok.mk) | ((conv => whnf); exact True.intro) | ((conv => whnf); refine Nx.mk ?_) | ((conv => whnf); refine Fin.mk ?_) | ((conv => whnf); intro _))
      all_goals ((try refine VC.mk ?_); (try simp only [CL.ncell, CL.cnt, Int.toNat_natCast, decide_eq_true_eq, decide_eq_false_iff_not, Bool.not_eq_true, Bool.not_false, Bool.not_true, and_self, and_true, true_and, te3b, te4b, te3s, te4s, Nat.mul_one, Nat.zero_add, List.length_cons, List.length_nil, Bool.false_eq_true, Bool.true_eq_false] at *); (try omega))
      simp [CL.sub, madeL, hgd, List.take_of_length_le]
  · have hv : mpV rows cols = noGrid (mpErr rows cols) := by unfold mpV; rw [if_neg hz]
    rw [hv]
    unfold mpErr at hz ⊢
    by_cases c1 : rows.length ≠ cols.length
    · rw [if_pos c1]
      refine pspec_of (md := 0) (rf := []) mixed tabOK cpRM_ok Try.func65 (by rfl) (by rfl) (by rfl) ?_
      repeat' (first | ((conv => whnf); refine And.intro ?_ ?_) | ((conv => whnf); with_reducible exact VC.mk rfl) | ((conv => whnf); exact Ok.mk) | ((conv => whnf); exact True.intro) | ((conv => whnf); refine Nx.mk ?_) | ((conv => whnf); refine Fin.mk ?_) | ((conv => whnf); intro _))
      all_goals ((try refine VC.mk ?_); (try simp only [CL.ncell, CL.cnt, Int.toNat_natCast, decide_eq_true_eq, decide_eq_false_iff_not, Bool.not_eq_true, Bool.not_false, Bool.not_true, and_self, and_true, true_and, te3b, te4b, te3s, te4s, Nat.mul_one, Nat.zero_add, List.length_cons, List.length_nil, Bool.false_eq_true, Bool.true_eq_false] at *); (try omega))
      all_goals (try (exfalso; omega))
      all_goals (refine Sup.via ?_; repeat' (first | ((conv => whnf); refine And.intro ?_ ?_) | ((conv => whnf); with_reducible exact VC.mk rfl) | ((conv => whnf); exact Ok.mk) | ((conv => whnf); exact True.intro) | ((conv => whnf); refine Nx.mk ?_) | ((conv => whnf); refine Fin.mk ?_) | ((conv => whnf); intro _)); all_goals ((try refine VC.mk ?_); (try simp only [CL.ncell, CL.cnt, Int.toNat_natCast, decide_eq_true_eq, decide_eq_false_iff_not, Bool.not_eq_true, Bool.not_false, Bool.not_true, and_self, and_true, true_and, te3b, te4b, te3s, te4s, Nat.mul_one, Nat.zero_add, List.length_cons, List.length_nil, Bool.false_eq_true, Bool.true_eq_false] at *); (try omega)); all_goals (try (simp [CL.sub]; done)))
    rw [if_neg c1] at hz ⊢
    by_cases c2 : rows.length % 4 ≠ 0 ∨ rows.length < 4 ∨ 16 < rows.length
    · rw [if_pos c2]
      refine pspec_of (md := 0) (rf := []) mixed tabOK cpRM_ok Try.func65 (by rfl) (by rfl) (by rfl) ?_
      repeat' (first | ((conv => whnf); refine And.intro ?_ ?_) | ((conv => whnf); with_reducible exact VC.mk rfl) | ((conv => whnf); exact Ok.mk) | ((conv => whnf); exact True.intro) | ((conv => whnf); refine Nx.mk ?_) | ((conv => whnf); refine Fin.mk ?_) | ((conv => whnf); intro _))
      all_goals ((try refine VC.mk ?_); (try simp only [CL.ncell, CL.cnt, Int.toNat_natCast, decide_eq_true_eq, decide_eq_false_iff_not, Bool.not_eq_true, Bool.not_false, Bool.not_true, and_self, and_true, true_and, te3b, te4b, te3s, te4s, Nat.mul_one, Nat.zero_add, List.length_cons, List.length_nil, Bool.false_eq_true, Bool.true_eq_false] at *); (try omega))
      all_goals (try (exfalso; omega))
      all_goals all_goals (refine Sup.via ?_; repeat' (first | ((conv => whnf); refine And.intro ?_ ?_) | ((conv => whnf); with_reducible exact VC.mk rfl) | ((conv => whnf); exact Ok.mk) | ((conv => whnf); exact True.intro) | ((conv => whnf); refine Nx.mk ?_) | ((conv => whnf); refine Fin.mk ?_) | ((conv => whnf); intro _)); all_goals ((try refine VC.mk ?_); (try simp only [CL.ncell, CL.cnt, Int.toNat_natCast, decide_eq_true_eq, decide_eq_false_iff_not, Bool.not_eq_true, Bool.not_false, Bool.not_true, and_self, and_true, true_and, te3b, te4b, te3s, te4s, Nat.mul_one, Nat.zero_add, List.length_cons, List.length_nil, Bool.false_eq_true, Bool.true_eq_false] at *); (try omega)); all_goals (try (simp [CL.sub]; done)))
    rw [if_neg c2] at hz ⊢
    have k5 : 0 ≤ (rows.length : Int) * rows.length ∧ (rows.length : Int) * rows.length ≤ 256 := mul_bd (A := 16) (B := 16) (by omega) (by omega)
    by_cases c3 : halvesErr rows ≠ 0
    · rw [if_pos c3]
      refine pspec_of (md := 0) (rf := []) mixed tabOK cpRM_ok Try.func65 (by rfl) (by rfl) (by rfl) ?_
      repeat' (first | ((conv => whnf); refine And.intro ?_ ?_) | ((conv => whnf); with_reducible exact VC.mk rfl) | ((conv => whnf); exact Ok.mk) | ((conv => whnf); exact True.intro) | ((conv => whnf); refine Nx.mk ?_) | ((conv => whnf); refine Fin.mk ?_) | ((conv => whnf); intro _))
      all_goals ((try refine VC.mk ?_); (try simp only [CL.ncell, CL.cnt, Int.toNat_natCast, decide_eq_true_eq, decide_eq_false_iff_not, Bool.not_eq_true, Bool.not_false, Bool.not_true, and_self, and_true, true_and, te3b, te4b, te3s, te4s, Nat.mul_one, Nat.zero_add, List.length_cons, List.length_nil, Bool.false_eq_true, Bool.true_eq_false] at *); (try omega))
      all_goals (try (exfalso; omega))
      all_goals all_goals (refine Sup.via ?_; repeat' (first | ((conv => whnf); refine And.intro ?_ ?_) | ((conv => whnf); with_reducible exact VC.mk rfl) | ((conv => whnf); exact Ok.mk) | ((conv => whnf); exact True.intro) | ((conv => whnf); refine Nx.mk ?_) | ((conv => whnf); refine Fin.mk ?_) | ((conv => whnf); intro _)); all_goals ((try refine VC.mk ?_); (try simp only [CL.ncell, CL.cnt, Int.toNat_natCast, decide_eq_true_eq, decide_eq_false_iff_not, Bool.not_eq_true, Bool.not_false, Bool.not_true, and_self, and_true, true_and, te3b, te4b, te3s, te4s, Nat.mul_one, Nat.zero_add, List.length_cons, List.length_nil, Bool.false_eq_true, Bool.true_eq_false] at *); (try omega)); all_goals (try (simp [CL.sub]; done)))
    rw [if_neg c3] at hz ⊢
    refine pspec_of (md := 0) (rf := []) mixed tabOK cpRM_ok Try.func65 (by rfl) (by rfl) (by rfl) ?_
    repeat' (first | ((conv => whnf); refine And.intro ?_ ?_) | ((conv => whnf); with_reducible exact VC.mk rfl) | ((conv => whnf); exact Ok.mk) | ((conv => whnf); exact True.intro) | ((conv => whnf); refine Nx.mk ?_) | ((conv => whnf); refine Fin.mk ?_) | ((conv => whnf); intro _))
    all_goals ((try refine VC.mk ?_); (try simp only [CL.ncell, CL.cnt, Int.toNat_natCast, decide_eq_true_eq, decide_eq_false_iff_not, Bool.not_eq_true, Bool.not_false, Bool.not_true, and_self, and_true, true_and, te3b, te4b, te3s, te4s, Nat.mul_one, Nat.zero_add, List.length_cons, List.length_nil, Bool.false_eq_true, Bool.true_eq_false] at *); (try omega))
    all_goals (try (exfalso; omega))
    all_goals all_goals (refine Sup.via ?_; repeat' (first | ((conv => whnf); refine And.intro ?_ ?_) | ((conv => whnf); with_reducible exact VC.mk rfl) | ((conv => whnf); exact Ok.mk) | ((conv => whnf); exact True.intro) | ((conv => whnf); refine Nx.mk ?_) | ((conv => whnf); refine Fin.mk ?_) | ((conv => whnf); intro _)); all_goals ((try refine VC.mk ?_); (try simp only [CL.ncell, CL.cnt, Int.toNat_natCast, decide_eq_true_eq, decide_eq_false_iff_not, Bool.not_eq_true, Bool.not_false, Bool.not_true, and_self, and_true, true_and, te3b, te4b, te3s, te4s, Nat.mul_one, Nat.zero_add, List.length_cons, List.length_nil, Bool.false_eq_true, Bool.true_eq_false] at *); (try omega)); all_goals (try (simp [CL.sub]; done)))
def rMostP : PSp := fun xs K => match xs with
  | [.isl (.ints .i64 rows) .none, .isl (.ints .i64 cols) .none] => VC (True) ∧ K (mpV rows cols)
  | _ => False
theorem rMost_ok : POK Try.prog 65 rMostP := by
  intro xs K h
  unfold rMostP at h
  split at h
  · exact ⟨_, h.2, rMost_spec _ _⟩
  · exact h.elim
end Go.Eng.Ytppflbccfdbogaa
namespace Go.Eng.Ytppflbccfdbogaa
open Go.Proofs
set_option maxRecDepth 100000
set_option maxHeartbeats 0
set_option linter.unusedVariables false
set_option linter.unusedSimpArgs false
def quadStep (n m : Nat) (s : List Int) (l : List Int) (k : Nat) : List Int :=
  (((l.set (k / m * n + k % m) (s.getD k 0)).set ((k / m + m) * n + k % m + m) (s.getD k 0 + (m : Int) * m)).set (k / m * n + k % m + m) (s.getD k 0 + 2 * (m : Int) * m)).set ((k / m + m) * n + k % m) (s.getD k 0 + 3 * (m : Int) * m)
def quadAt (n m : Nat) (s : List Int) (t : Nat) : List Int := (List.range t).foldl (quadStep n m s) (List.replicate (n * n) 0)
theorem quadAt_succ (n m : Nat) (s : List Int) (t : Nat) : quadAt n m s (t + 1) = quadStep n m s (quadAt n m s t) t := by simp [quadAt, List.range_succ]
theorem quadAt_len (n m : Nat) (s : List Int) : ∀ t, (quadAt n m s t).length = n * n := by
  intro t
  induction t with
  | zero => simp [quadAt]
  | succ t ih => rw [quadAt_succ]; simp [quadStep, ih]
theorem quad_eq {m : Nat} (h : m = 3 ∨ m = 5 ∨ m = 7) : quadAt (2 * m) m (siaL m) (m * m) = madeL (2 * m) (sglF m (siaL m)) := by
  rcases h with rfl | rfl | rfl <;> decide +kernel
def rSiaP : PSp := fun xs K => match xs with
  | [.int .i64 n] => VC (1 ≤ n ∧ n ≤ 16) ∧ K (gridV n n (siaL n))
  | _ => False
theorem rSia_ok : POK Try.prog 37 rSiaP := by
  intro xs K h
  unfold rSiaP at h
  split at h
  · exact ⟨_, h.2, rSiamese_spec _ h.1.get⟩
  · exact h.elim
noncomputable def cpSg : CPT := cpAdd 37 (pureCC rSiaP) (cpAdd 100 (lendCC [] emptyL) noC)
theorem cpSg_ok : CPOK Try.prog cpSg := cpAdd_ok (pureCC_ok rSia_ok) (cpAdd_ok (lendCC_ok [] SquareL_ok) noC_ok)
theorem rSgl_spec (m : Nat) (hm : m = 3 ∨ m = 5 ∨ m = 7) : PSpec Try.prog 39 [.int .i64 ((2 * m : Nat) : Int)] (gridV ((2 * m : Nat) : Int) ((2 * m : Nat) : Int) (sglL m)) := by
  have hq := quad_eq hm
  have hsl := siaL_len m
  have hsb := siaL_bd m (by omega)
  have hmb : 3 ≤ m ∧ m ≤ 8 := by omega
  unfold sglL
  rw [← hq]
  obtain ⟨n, hn⟩ : ∃ n, n = 2 * m := ⟨_, rfl⟩
  have hd : (n : Int) / 2 = m := by omega
  have hd4 : ((n : Int) - 2) / 4 = (((m - 1) / 2 : Nat) : Int) := by omega
  have h2mm : 2 * m * m = n * m := by rw [hn]
  rw [h2mm]
  rw [← hn]
  generalize hk : (m - 1) / 2 = kk at *
  have hkb : kk ≤ 3 := by omega
  clear hq
  have hM := mul_bd (show 0 ≤ (m : Int) ∧ (m : Int) ≤ 8 by omega) (show 0 ≤ (m : Int) ∧ (m : Int) ≤ 8 by omega)
  have hN := mul_bd (show 0 ≤ (n : Int) ∧ (n : Int) ≤ 16 by omega) (show 0 ≤ (n : Int) ∧ (n : Int) ≤ 16 by omega)
  have hnm : ((n * n : Nat) : Int) = (n : Int) * n := by push_cast; rfl
  have hmm : ((m * m : Nat) : Int) = (m : Int) * m := by push_cast; rfl
  have eN : ((n : Int) * n).toNat = n * n := by rw [← Int.natCast_mul, Int.toNat_natCast]
  have h2 : (2 : Int) * m * m = 2 * (m * m) := by rw [Int.mul_assoc]
  have h3 : (3 : Int) * m * m = 3 * (m * m) := by rw [Int.mul_assoc]
  obtain ⟨s, hs⟩ : ∃ s, siaL m = s := ⟨_, rfl⟩
  rw [hs] at hsl hsb ⊢
  refine pspec_of (md := 0) (rf := []) mixed tabOK cpSg_ok Try.func39 (by rfl) (by rfl) (by rfl) ?_
  repeat' (first | ((conv => whnf); refine And.intro ?_ ?_) | ((conv => whnf); with_reducible exact VC.mk rfl) | ((conv => whnf); exact Ok.mk) | ((conv => whnf); exact True.intro) | ((conv => whnf); refine Nx.mk ?_) | ((conv => whnf); refine Fin.mk ?_) | ((conv => whnf); intro _))
  all_goals ((try refine VC.mk ?_); (try simp only [CL.ncell, CL.cnt, Int.toNat_natCast, decide_eq_true_eq, decide_eq_false_iff_not, Bool.not_eq_true, Bool.not_false, Bool.not_true, and_self, and_true, true_and, te3b, te4b, te3s, te4s, Nat.mul_one, Nat.zero_add, List.length_cons, List.length_nil, Bool.false_eq_true, Bool.true_eq_false] at *); (try omega))
  simp only [hd, hd4, hs, eN]
  conv => whnf
  refine loop_of (X := Nat) (fun i => i ≤ m) (fun i => [(7, .int .i64 i)]) (fun i => [(5, .cells (.ints .i64 (quadAt n m s (m * i))) false)]) (fun i => m - i) 0 ⟨anyB_ok, mixed, tabOK, cpSg_ok, noY_ok⟩ (by rfl) (by omega) ?_ ?_
  · repeat' (first | ((conv => whnf); refine And.intro ?_ ?_) | ((conv => whnf); with_reducible exact VC.mk rfl) | ((conv => whnf); exact Ok.mk) | ((conv => whnf); exact True.intro) | ((conv => whnf); refine Nx.mk ?_) | ((conv => whnf); refine Fin.mk ?_) | ((conv => whnf); intro _))
    all_goals ((try refine VC.mk ?_); (try simp only [CL.ncell, CL.cnt, Int.toNat_natCast, decide_eq_true_eq, decide_eq_false_iff_not, Bool.not_eq_true, Bool.not_false, Bool.not_true, and_self, and_true, true_and, te3b, te4b, te3s, te4s, Nat.mul_one, Nat.zero_add, List.length_cons, List.length_nil, Bool.false_eq_true, Bool.true_eq_false] at *); (try omega))
    all_goals (try rfl)
  intro i hi
  by_cases hlt : i < m
  · repeat' (first | ((conv => whnf); refine And.intro ?_ ?_) | ((conv => whnf); with_reducible exact VC.mk rfl) | ((conv => whnf); exact Ok.mk) | ((conv => whnf); exact True.intro) | ((conv => whnf); refine Nx.mk ?_) | ((conv => whnf); refine Fin.mk ?_) | ((conv => whnf); intro _))
    all_goals ((try refine VC.mk ?_); (try simp only [CL.ncell, CL.cnt, Int.toNat_natCast, decide_eq_true_eq, decide_eq_false_iff_not, Bool.not_eq_true, Bool.not_false, Bool.not_true, and_self, and_true, true_and, te3b, te4b, te3s, te4s, Nat.mul_one, Nat.zero_add, List.length_cons, List.length_nil, Bool.false_eq_true, Bool.true_eq_false] at *); (try omega))
    conv => whnf
    refine loop_of (X := Nat) (fun j => j ≤ m) (fun j => [(8, .int .i64 j)]) (fun j => [(5, .cells (.ints .i64 (quadAt n m s (m * i + j))) false)]) (fun j => m - j) 0 ⟨anyB_ok, mixed, tabOK, cpSg_ok, noY_ok⟩ (by rfl) (by omega) ?_ ?_
    · repeat' (first | ((conv => whnf); refine And.intro ?_ ?_) | ((conv => whnf); with_reducible exact VC.mk rfl) | ((conv => whnf); exact Ok.mk) | ((conv => whnf); exact True.intro) | ((conv => whnf); refine Nx.mk ?_) | ((conv => whnf); refine Fin.mk ?_) | ((conv => whnf); intro _))
      all_goals ((try refine VC.mk ?_); (try simp only [CL.ncell, CL.cnt, Int.toNat_natCast, decide_eq_true_eq, decide_eq_false_iff_not, Bool.not_eq_true, Bool.not_false, Bool.not_true, and_self, and_true, true_and, te3b, te4b, te3s, te4s, Nat.mul_one, Nat.zero_add, List.length_cons, List.length_nil, Bool.false_eq_true, Bool.true_eq_false] at *); (try omega))
    intro j hj
    by_cases hlj : j < m
    · have k1 : (m * i + j) / m = i := by rw [Nat.mul_add_div (by omega), Nat.div_eq_of_lt hlj]; omega
      have k2 : (m * i + j) % m = j := by rw [Nat.mul_add_mod, Nat.mod_eq_of_lt hlj]
      have e1 := quadAt_succ n m s (m * i + j)
      unfold quadStep at e1
      rw [k1, k2] at e1
      have e2 := quadAt_len n m s (m * i + j)
      have b0 : m * i + j < m * m := by have := Nat.mul_le_mul_left m (show i + 1 ≤ m by omega); rw [Nat.mul_add] at this; omega
      have b1 := hsb _ b0
      have b2 : (i + m) * n + j + m < n * n := by have := Nat.mul_le_mul_right n (show i + m + 1 ≤ n by omega); rw [Nat.add_mul] at this; omega
      have b3 : i * n + m * n = (i + m) * n := by rw [Nat.add_mul]
      have b4 : 0 ≤ (i : Int) * m ∧ (i : Int) * m ≤ 64 := mul_bd (A := 8) (B := 8) (by omega) (by omega)
      have b5 : 0 ≤ (i : Int) * n ∧ (i : Int) * n ≤ 128 := mul_bd (A := 8) (B := 16) (by omega) (by omega)
      have b6 : 0 ≤ ((i : Int) + m) * n ∧ ((i : Int) + m) * n ≤ 256 := mul_bd (A := 16) (B := 16) (by omega) (by omega)
      have i1 : (i : Int) * m + j = ((m * i + j : Nat) : Int) := by push_cast; rw [Int.mul_comm]
      have i2 : (i : Int) * n + j = ((i * n + j : Nat) : Int) := by push_cast; rfl
      have i3 : ((i : Int) + m) * n + j = (((i + m) * n + j : Nat) : Int) := by push_cast; rfl
      have i4 : (((i * n + j : Nat) : Int) + m) = ((i * n + j + m : Nat) : Int) := by push_cast; rfl
      have i5 : ((((i + m) * n + j : Nat) : Int) + m) = (((i + m) * n + j + m : Nat) : Int) := by push_cast; rfl
      repeat' (first | ((conv => whnf); refine And.intro ?_ ?_) | ((conv => whnf); with_reducible exact VC.mk rfl) | ((conv => whnf); exact Ok.mk) | ((conv => whnf); exact True.intro) | ((conv => whnf); refine Nx.mk ?_) | ((conv => whnf); refine Fin.mk ?_) | ((conv => whnf); intro _))
      all_goals ((try refine VC.mk ?_); (try simp only [CL.ncell, CL.cnt, Int.toNat_natCast, decide_eq_true_eq, decide_eq_false_iff_not, Bool.not_eq_true, Bool.not_false, Bool.not_true, and_self, and_true, true_and, te3b, te4b, te3s, te4s, Nat.mul_one, Nat.zero_add, List.length_cons, List.length_nil, Bool.false_eq_true, Bool.true_eq_false] at *); (try omega))
      all_goals (try simp only [i1, i2, i3, i4, i5, Int.toNat_natCast, List.length_set] at *)
      all_goals (try omega)
      all_goals (refine ⟨j + 1, [], ⟨by omega, by omega⟩, ?_⟩)
      all_goals repeat' (first | ((conv => whnf); refine And.intro ?_ ?_) | ((conv => whnf); with_reducible exact VC.mk rfl) | ((conv => whnf); exact Ok.mk) | ((conv => whnf); exact True.intro) | ((conv => whnf); refine Nx.mk ?_) | ((conv => whnf); refine Fin.mk ?_) | ((conv => whnf); intro _))
      all_goals ((try refine VC.mk ?_); (try simp only [CL.ncell, CL.cnt, Int.toNat_natCast, decide_eq_true_eq, decide_eq_false_iff_not, Bool.not_eq_true, Bool.not_false, Bool.not_true, and_self, and_true, true_and, te3b, te4b, te3s, te4s, Nat.mul_one, Nat.zero_add, List.length_cons, List.length_nil, Bool.false_eq_true, Bool.true_eq_false] at *); (try omega))
      all_goals (rw [show m * i + (j + 1) = m * i + j + 1 from rfl, e1])
    · have : m = j := by omega
      subst this
      repeat' (first | ((conv => whnf); refine And.intro ?_ ?_) | ((conv => whnf); with_reducible exact VC.mk rfl) | ((conv => whnf); exact Ok.mk) | ((conv => whnf); exact True.intro) | ((conv => whnf); refine Nx.mk ?_) | ((conv => whnf); refine Fin.mk ?_) | ((conv => whnf); intro _))
      all_goals ((try refine VC.mk ?_); (try simp only [CL.ncell, CL.cnt, Int.toNat_natCast, decide_eq_true_eq, decide_eq_false_iff_not, Bool.not_eq_true, Bool.not_false, Bool.not_true, and_self, and_true, true_and, te3b, te4b, te3s, te4s, Nat.mul_one, Nat.zero_add, List.length_cons, List.length_nil, Bool.false_eq_true, Bool.true_eq_false] at *); (try omega))
      refine ⟨i + 1, [], ⟨by omega, by omega⟩, ?_⟩
      repeat' (first | ((conv => whnf); refine And.intro ?_ ?_) | ((conv => whnf); with_reducible exact VC.mk rfl) | ((conv => whnf); exact Ok.mk) | ((conv => whnf); exact True.intro) | ((conv => whnf); refine Nx.mk ?_) | ((conv => whnf); refine Fin.mk ?_) | ((conv => whnf); intro _))
      all_goals ((try refine VC.mk ?_); (try simp only [CL.ncell, CL.cnt, Int.toNat_natCast, decide_eq_true_eq, decide_eq_false_iff_not, Bool.not_eq_true, Bool.not_false, Bool.not_true, and_self, and_true, true_and, te3b, te4b, te3s, te4s, Nat.mul_one, Nat.zero_add, List.length_cons, List.length_nil, Bool.false_eq_true, Bool.true_eq_false] at *); (try omega))
  have : m = i := by omega
  subst this
  repeat' (first | ((conv => whnf); refine And.intro ?_ ?_) | ((conv => whnf); with_reducible exact VC.mk rfl) | ((conv => whnf); exact Ok.mk) | ((conv => whnf); exact True.intro) | ((conv => whnf); refine Nx.mk ?_) | ((conv => whnf); refine Fin.mk ?_) | ((conv => whnf); intro _))
  all_goals ((try refine VC.mk ?_); (try simp only [CL.ncell, CL.cnt, Int.toNat_natCast, decide_eq_true_eq, decide_eq_false_iff_not, Bool.not_eq_true, Bool.not_false, Bool.not_true, and_self, and_true, true_and, te3b, te4b, te3s, te4s, Nat.mul_one, Nat.zero_add, List.length_cons, List.length_nil, Bool.false_eq_true, Bool.true_eq_false] at *); (try omega))
  generalize hl0 : quadAt n m s (m * m) = l0 at *
  have hlen : l0.length = n * n := by rw [← hl0]; exact quadAt_len _ _ _ _
  clear hl0
  have hix : ∀ i j : Nat, i < m → j < n → (n * i + j + n * m < n * n) ∧ (0 ≤ (i : Int) * n ∧ (i : Int) * n ≤ 256) ∧ (0 ≤ ((i : Int) + m) * n ∧ ((i : Int) + m) * n ≤ 256) := fun i j hi hj => by
    have a := Nat.mul_le_mul_left n (show i + 1 + m ≤ n by omega)
    rw [Nat.mul_add, Nat.mul_add] at a
    exact ⟨by omega, mul_bd (A := 16) (B := 16) (by omega) (by omega), mul_bd (A := 16) (B := 16) (by omega) (by omega)⟩
  have hdm : ∀ i j : Nat, j < n → (n * i + j) / n = i ∧ (n * i + j) % n = j := fun i j hj => by
    rw [Nat.mul_add_div (by omega), Nat.div_eq_of_lt hj, Nat.mul_add_mod, Nat.mod_eq_of_lt hj]; exact ⟨by omega, rfl⟩
  conv => whnf
  refine loop_of (X := Nat) (fun i => i ≤ m) (fun i => [(10, .int .i64 i)]) (fun i => [(5, .cells (.ints .i64 (swAt kk n m l0 (n * i))) false)]) (fun i => m - i) 0 ⟨anyB_ok, mixed, tabOK, cpSg_ok, noY_ok⟩ (by rfl) (by omega) ?_ ?_
  · repeat' (first | ((conv => whnf); refine And.intro ?_ ?_) | ((conv => whnf); with_reducible exact VC.mk rfl) | ((conv => whnf); exact Ok.mk) | ((conv => whnf); exact True.intro) | ((conv => whnf); refine Nx.mk ?_) | ((conv => whnf); refine Fin.mk ?_) | ((conv => whnf); intro _))
    all_goals ((try refine VC.mk ?_); (try simp only [CL.ncell, CL.cnt, Int.toNat_natCast, decide_eq_true_eq, decide_eq_false_iff_not, Bool.not_eq_true, Bool.not_false, Bool.not_true, and_self, and_true, true_and, te3b, te4b, te3s, te4s, Nat.mul_one, Nat.zero_add, List.length_cons, List.length_nil, Bool.false_eq_true, Bool.true_eq_false] at *); (try omega))
    all_goals (try rfl)
  intro i hi
  by_cases hlt : i < m
  · repeat' (first | ((conv => whnf); refine And.intro ?_ ?_) | ((conv => whnf); with_reducible exact VC.mk rfl) | ((conv => whnf); exact Ok.mk) | ((conv => whnf); exact True.intro) | ((conv => whnf); refine Nx.mk ?_) | ((conv => whnf); refine Fin.mk ?_) | ((conv => whnf); intro _))
    all_goals ((try refine VC.mk ?_); (try simp only [CL.ncell, CL.cnt, Int.toNat_natCast, decide_eq_true_eq, decide_eq_false_iff_not, Bool.not_eq_true, Bool.not_false, Bool.not_true, and_self, and_true, true_and, te3b, te4b, te3s, te4s, Nat.mul_one, Nat.zero_add, List.length_cons, List.length_nil, Bool.false_eq_true, Bool.true_eq_false] at *); (try omega))
    conv => whnf
    refine loop_of (X := Nat) (fun j => j ≤ n) (fun j => [(11, .int .i64 j)]) (fun j => [(5, .cells (.ints .i64 (swAt kk n m l0 (n * i + j))) false)]) (fun j => n - j) 0 ⟨anyB_ok, mixed, tabOK, cpSg_ok, noY_ok⟩ (by rfl) (by omega) ?_ ?_
    · repeat' (first | ((conv => whnf); refine And.intro ?_ ?_) | ((conv => whnf); with_reducible exact VC.mk rfl) | ((conv => whnf); exact Ok.mk) | ((conv => whnf); exact True.intro) | ((conv => whnf); refine Nx.mk ?_) | ((conv => whnf); refine Fin.mk ?_) | ((conv => whnf); intro _))
      all_goals ((try refine VC.mk ?_); (try simp only [CL.ncell, CL.cnt, Int.toNat_natCast, decide_eq_true_eq, decide_eq_false_iff_not, Bool.not_eq_true, Bool.not_false, Bool.not_true, and_self, and_true, true_and, te3b, te4b, te3s, te4s, Nat.mul_one, Nat.zero_add, List.length_cons, List.length_nil, Bool.false_eq_true, Bool.true_eq_false] at *); (try omega))
    intro j hj
    by_cases hlj : j < n
    · have hx := hix i j hlt hlj
      have e1 := swAt_succ kk n m l0 (n * i + j)
      rw [(hdm i j hlj).1, (hdm i j hlj).2] at e1
      have e2 : (i : Int) * n + j = ((n * i + j : Nat) : Int) := by push_cast; rw [Int.mul_comm]
      have e3 : ((i : Int) + m) * n + j = ((n * i + j + n * m : Nat) : Int) := by push_cast; rw [Int.add_mul, Int.mul_comm (i : Int), Int.mul_comm (m : Int)]; omega
      have hls := swAt_len kk n m l0 (n * i + j)
      repeat' (first | ((conv => whnf); refine And.intro ?_ ?_) | ((conv => whnf); with_reducible exact VC.mk rfl) | ((conv => whnf); exact Ok.mk) | ((conv => whnf); exact True.intro) | ((conv => whnf); refine Nx.mk ?_) | ((conv => whnf); refine Fin.mk ?_) | ((conv => whnf); intro _))
      all_goals ((try refine VC.mk ?_); (try simp only [CL.ncell, CL.cnt, Int.toNat_natCast, decide_eq_true_eq, decide_eq_false_iff_not, Bool.not_eq_true, Bool.not_false, Bool.not_true, and_self, and_true, true_and, te3b, te4b, te3s, te4s, Nat.mul_one, Nat.zero_add, List.length_cons, List.length_nil, Bool.false_eq_true, Bool.true_eq_false] at *); (try omega))
      all_goals (try simp only [e2, e3, Int.toNat_natCast, List.length_set] at *)
      all_goals (try omega)
      all_goals (refine ⟨j + 1, [], ⟨by omega, by omega⟩, ?_⟩)
      all_goals repeat' (first | ((conv => whnf); refine And.intro ?_ ?_) | ((conv => whnf); with_reducible exact VC.mk rfl) | ((conv => whnf); exact Ok.mk) | ((conv => whnf); exact True.intro) | ((conv => whnf); refine Nx.mk ?_) | ((conv => whnf); refine Fin.mk ?_) | ((conv => whnf); intro _))
      all_goals ((try refine VC.mk ?_); (try simp only [CL.ncell, CL.cnt, Int.toNat_natCast, decide_eq_true_eq, decide_eq_false_iff_not, Bool.not_eq_true, Bool.not_false, Bool.not_true, and_self, and_true, true_and, te3b, te4b, te3s, te4s, Nat.mul_one, Nat.zero_add, List.length_cons, List.length_nil, Bool.false_eq_true, Bool.true_eq_false] at *); (try omega))
      all_goals (rw [show n * i + (j + 1) = n * i + j + 1 from rfl, e1]; split <;> first | rfl | (exfalso; simp_all [exB] <;> omega))
    · have : n = j := by omega
      subst this
      repeat' (first | ((conv => whnf); refine And.intro ?_ ?_) | ((conv => whnf); with_reducible exact VC.mk rfl) | ((conv => whnf); exact Ok.mk) | ((conv => whnf); exact True.intro) | ((conv => whnf); refine Nx.mk ?_) | ((conv => whnf); refine Fin.mk ?_) | ((conv => whnf); intro _))
      all_goals ((try refine VC.mk ?_); (try simp only [CL.ncell, CL.cnt, Int.toNat_natCast, decide_eq_true_eq, decide_eq_false_iff_not, Bool.not_eq_true, Bool.not_false, Bool.not_true, and_self, and_true, true_and, te3b, te4b, te3s, te4s, Nat.mul_one, Nat.zero_add, List.length_cons, List.length_nil, Bool.false_eq_true, Bool.true_eq_false] at *); (try omega))
      refine ⟨i + 1, [], ⟨by omega, by omega⟩, ?_⟩
      repeat' (first | ((conv => whnf); refine And.intro ?_ ?_) | ((conv => whnf); with_reducible exact VC.mk rfl) | ((conv => whnf); exact Ok.mk) | ((conv => whnf); exact True.intro) | ((conv => whnf); refine Nx.mk ?_) | ((conv => whnf); refine Fin.mk ?_) | ((conv => whnf); intro _))
      all_goals ((try refine VC.mk ?_); (try simp only [CL.ncell, CL.cnt, Int.toNat_natCast, decide_eq_true_eq, decide_eq_false_iff_not, Bool.not_eq_true, Bool.not_false, Bool.not_true, and_self, and_true, true_and, te3b, te4b, te3s, te4s, Nat.mul_one, Nat.zero_add, List.length_cons, List.length_nil, Bool.false_eq_true, Bool.true_eq_false] at *); (try omega))
  · have : m = i := by omega
    subst this
    repeat' (first | ((conv => whnf); refine And.intro ?_ ?_) | ((conv => whnf); with_reducible exact VC.mk rfl) | ((conv => whnf); exact Ok.mk) | ((conv => whnf); exact True.intro) | ((conv => whnf); refine Nx.mk ?_) | ((conv => whnf); refine Fin.mk ?_) | ((conv => whnf); intro _))
    all_goals ((try refine VC.mk ?_); (try simp only [CL.ncell, CL.cnt, Int.toNat_natCast, decide_eq_true_eq, decide_eq_false_iff_not, Bool.not_eq_true, Bool.not_false, Bool.not_true, and_self, and_true, true_and, te3b, te4b, te3s, te4s, Nat.mul_one, Nat.zero_add, List.length_cons, List.length_nil, Bool.false_eq_true, Bool.true_eq_false] at *); (try omega))
    all_goals (try (rw [swAt_len]; omega))
    have h6 : (swAt kk n m l0 (n * m)).length = n * n := by rw [swAt_len, hlen]
    refine Sup.of ?_
    generalize swAt kk n m l0 (n * m) = ll at *
    rw [← h6]
    simp [resOf, gridV, CL.sub]
end Go.Eng.Ytppflbccfdbogaa
namespace Go.Eng.Ytppflbccfdbogaa
open Go.Proofs
set_option maxRecDepth 100000
set_option maxHeartbeats 0
set_option linter.unusedVariables false
set_option linter.unusedSimpArgs false
def magV (n : Int) : PV := if n = 2 then noGrid 7 else if n % 2 = 1 then okGrid n n (siaL n) else if n % 4 = 0 then okGrid n n (dblL n) else okGrid n n (sglL (n / 2).toNat)
def panV (n : Int) : PV := if n % 2 = 1 ∧ n % 3 ≠ 0 then okGrid n n (panL n) else if n % 4 = 0 then okGrid n n (panM n) else noGrid 7
theorem rDbl' {n : Int} (hn : 1 ≤ n ∧ n ≤ 16) : PSpec Try.prog 38 [.int .i64 n] (gridV n n (dblL n)) := by
  have := rDouble_spec n.toNat (by omega)
  rw [Int.toNat_of_nonneg (by omega)] at this
  exact this
theorem rSgl' {n : Int} (h : n % 4 = 2 ∧ 6 ≤ n ∧ n ≤ 16) : PSpec Try.prog 39 [.int .i64 n] (gridV n n (sglL (n / 2).toNat)) := by
  have := rSgl_spec (n / 2).toNat (by omega)
  rw [show ((2 * (n / 2).toNat : Nat) : Int) = n by omega] at this
  exact this
def rDblP : PSp := fun xs K => match xs with
  | [.int .i64 n] => VC (1 ≤ n ∧ n ≤ 16) ∧ K (gridV n n (dblL n))
  | _ => False
theorem rDbl_ok : POK Try.prog 38 rDblP := by
  intro xs K h
  unfold rDblP at h
  split at h
  · exact ⟨_, h.2, rDbl' h.1.get⟩
  · exact h.elim
def rSglP : PSp := fun xs K => match xs with
  | [.int .i64 n] => VC (n % 4 = 2 ∧ 6 ≤ n ∧ n ≤ 16) ∧ K (gridV n n (sglL (n / 2).toNat))
  | _ => False
theorem rSgl_ok : POK Try.prog 39 rSglP := by
  intro xs K h
  unfold rSglP at h
  split at h
  · exact ⟨_, h.2, rSgl' h.1.get⟩
  · exact h.elim
noncomputable def cpMa : CPT := cpAdd 37 (pureCC rSiaP) (cpAdd 38 (pureCC rDblP) (cpAdd 39 (pureCC rSglP) noC))
theorem cpMa_ok : CPOK Try.prog cpMa := cpAdd_ok (pureCC_ok rSia_ok) (cpAdd_ok (pureCC_ok rDbl_ok) (cpAdd_ok (pureCC_ok rSgl_ok) noC_ok))
theorem rMagic_spec (n : Int) (hn : 1 ≤ n ∧ n ≤ 16) : PSpec Try.prog 40 [.int .i64 n] (magV n) := by
  unfold magV
  generalize hz : (if n = 2 then noGrid 7 else if n % 2 = 1 then okGrid n n (siaL n) else if n % 4 = 0 then okGrid n n (dblL n) else okGrid n n (sglL (n / 2).toNat)) = z
  refine pspec_of (md := 0) (rf := []) mixed tabOK cpMa_ok Try.func40 (by rfl) (by rfl) (by rfl) ?_
  repeat' (first | ((conv => whnf); refine And.intro ?_ ?_) | ((conv => whnf); with_reducible exact VC.mk rfl) | ((conv => whnf); exact Ok.mk) | ((conv => whnf); exact True.intro) | ((conv => whnf); refine Nx.mk ?_) | ((conv => whnf); refine Fin.mk ?_) | ((conv => whnf); intro _))
  all_goals ((try refine VC.mk ?_); (try simp only [CL.ncell, CL.cnt, Int.toNat_natCast, decide_eq_true_eq, decide_eq_false_iff_not, Bool.not_eq_true, Bool.not_false, Bool.not_true, and_self, and_true, true_and, te3b, te4b, te3s, te4s, Nat.mul_one, Nat.zero_add, List.length_cons, List.length_nil, Bool.false_eq_true, Bool.true_eq_false] at *); (try omega))
  · rw [← hz, if_pos (by omega)]; all_goals (refine Sup.via ?_; repeat' (first | ((conv => whnf); refine And.intro ?_ ?_) | ((conv => whnf); with_reducible exact VC.mk rfl) | ((conv => whnf); exact Ok.mk) | ((conv => whnf); exact True.intro) | ((conv => whnf); refine Nx.mk ?_) | ((conv => whnf); refine Fin.mk ?_) | ((conv => whnf); intro _)); all_goals ((try refine VC.mk ?_); (try simp only [CL.ncell, CL.cnt, Int.toNat_natCast, decide_eq_true_eq, decide_eq_false_iff_not, Bool.not_eq_true, Bool.not_false, Bool.not_true, and_self, and_true, true_and, te3b, te4b, te3s, te4s, Nat.mul_one, Nat.zero_add, List.length_cons, List.length_nil, Bool.false_eq_true, Bool.true_eq_false] at *); (try omega)); all_goals (try (simp [CL.sub]; done)))
  · rw [← hz, if_neg (by omega), if_pos (by omega)]; all_goals (refine Sup.via ?_; repeat' (first | ((conv => whnf); refine And.intro ?_ ?_) | ((conv => whnf); with_reducible exact VC.mk rfl) | ((conv => whnf); exact Ok.mk) | ((conv => whnf); exact True.intro) | ((conv => whnf); refine Nx.mk ?_) | ((conv => whnf); refine Fin.mk ?_) | ((conv => whnf); intro _)); all_goals ((try refine VC.mk ?_); (try simp only [CL.ncell, CL.cnt, Int.toNat_natCast, decide_eq_true_eq, decide_eq_false_iff_not, Bool.not_eq_true, Bool.not_false, Bool.not_true, and_self, and_true, true_and, te3b, te4b, te3s, te4s, Nat.mul_one, Nat.zero_add, List.length_cons, List.length_nil, Bool.false_eq_true, Bool.true_eq_false] at *); (try omega)); all_goals (try (simp [CL.sub]; done)))
  · rw [← hz, if_neg (by omega), if_neg (by omega), if_pos (by omega)]; all_goals (refine Sup.via ?_; repeat' (first | ((conv => whnf); refine And.intro ?_ ?_) | ((conv => whnf); with_reducible exact VC.mk rfl) | ((conv => whnf); exact Ok.mk) | ((conv => whnf); exact True.intro) | ((conv => whnf); refine Nx.mk ?_) | ((conv => whnf); refine Fin.mk ?_) | ((conv => whnf); intro _)); all_goals ((try refine VC.mk ?_); (try simp only [CL.ncell, CL.cnt, Int.toNat_natCast, decide_eq_true_eq, decide_eq_false_iff_not, Bool.not_eq_true, Bool.not_false, Bool.not_true, and_self, and_true, true_and, te3b, te4b, te3s, te4s, Nat.mul_one, Nat.zero_add, List.length_cons, List.length_nil, Bool.false_eq_true, Bool.true_eq_false] at *); (try omega)); all_goals (try (simp [CL.sub]; done)))
  · rw [← hz, if_neg (by omega), if_neg (by omega), if_neg (by omega)]; all_goals (refine Sup.via ?_; repeat' (first | ((conv => whnf); refine And.intro ?_ ?_) | ((conv => whnf); with_reducible exact VC.mk rfl) | ((conv => whnf); exact Ok.mk) | ((conv => whnf); exact True.intro) | ((conv => whnf); refine Nx.mk ?_) | ((conv => whnf); refine Fin.mk ?_) | ((conv => whnf); intro _)); all_goals ((try refine VC.mk ?_); (try simp only [CL.ncell, CL.cnt, Int.toNat_natCast, decide_eq_true_eq, decide_eq_false_iff_not, Bool.not_eq_true, Bool.not_false, Bool.not_true, and_self, and_true, true_and, te3b, te4b, te3s, te4s, Nat.mul_one, Nat.zero_add, List.length_cons, List.length_nil, Bool.false_eq_true, Bool.true_eq_false] at *); (try omega)); all_goals (try (simp [CL.sub]; done)))
theorem rHalved' {n : Int} (hn : 1 ≤ n ∧ n ≤ 16) : PSpec Try.prog 44 [.int .i64 n] (.isl (.ints .i64 (halvedL n n.toNat)) .none) := by
  have := rHalved_spec n.toNat (by omega)
  rw [Int.toNat_of_nonneg (by omega)] at this
  exact this
def rHalvedQP : PSp := fun xs K => match xs with
  | [.int .i64 n] => VC (1 ≤ n ∧ n ≤ 16) ∧ K (.isl (.ints .i64 (halvedL n n.toNat)) .none)
  | _ => False
theorem rHalvedQ_ok : POK Try.prog 44 rHalvedQP := by
  intro xs K h
  unfold rHalvedQP at h
  split at h
  · exact ⟨_, h.2, rHalved' h.1.get⟩
  · exact h.elim
theorem mp_halved {n : Int} (hn : 1 ≤ n ∧ n ≤ 16) (h : n % 4 = 0) : mpV (halvedL n n.toNat) (halvedL n n.toNat) = okGrid n n (panM n) := by
  have : n = 4 ∨ n = 8 ∨ n = 12 ∨ n = 16 := by omega
  have he : mpErr (halvedL n n.toNat) (halvedL n n.toNat) = 0 := by rcases this with rfl | rfl | rfl | rfl <;> decide +kernel
  have hl : ((halvedL n n.toNat).length : Int) = n := by rw [halvedL_len]; omega
  unfold mpV panM
  rw [if_pos he, hl]
noncomputable def cpPa : CPT := cpAdd 50 (pureCC rUniformP) (cpAdd 44 (pureCC rHalvedQP) (cpAdd 65 (pureCC rMostP) noC))
theorem cpPa_ok : CPOK Try.prog cpPa := cpAdd_ok (pureCC_ok rUniform_ok) (cpAdd_ok (pureCC_ok rHalvedQ_ok) (cpAdd_ok (pureCC_ok rMost_ok) noC_ok))
theorem rPan_spec (n : Int) (hn : 1 ≤ n ∧ n ≤ 16) : PSpec Try.prog 41 [.int .i64 n] (panV n) := by
  unfold panV
  have hmp := @mp_halved n hn
  generalize hz : (if n % 2 = 1 ∧ n % 3 ≠ 0 then okGrid n n (panL n) else if n % 4 = 0 then okGrid n n (panM n) else noGrid 7) = z
  by_cases c1 : n % 2 = 1 ∧ n % 3 ≠ 0
  · rw [if_pos c1] at hz; subst hz
    refine pspec_of (md := 0) (rf := []) mixed tabOK cpPa_ok Try.func41 (by rfl) (by rfl) (by rfl) ?_
    repeat' (first | ((conv => whnf); refine And.intro ?_ ?_) | ((conv => whnf); with_reducible exact VC.mk rfl) | ((conv => whnf); exact Ok.mk) | ((conv => whnf); exact True.intro) | ((conv => whnf); refine Nx.mk ?_) | ((conv => whnf); refine Fin.mk ?_) | ((conv => whnf); intro _))
    all_goals ((try refine VC.mk ?_); (try simp only [CL.ncell, CL.cnt, Int.toNat_natCast, decide_eq_true_eq, decide_eq_false_iff_not, Bool.not_eq_true, Bool.not_false, Bool.not_true, and_self, and_true, true_and, te3b, te4b, te3s, te4s, Nat.mul_one, Nat.zero_add, List.length_cons, List.length_nil, Bool.false_eq_true, Bool.true_eq_false] at *); (try omega))
    all_goals (try (exfalso; omega))
    · exact ⟨hn, by simp only [List.mem_cons, List.not_mem_nil, or_false, forall_eq_or_imp, forall_eq]; omega⟩
    all_goals all_goals (refine Sup.via ?_; repeat' (first | ((conv => whnf); refine And.intro ?_ ?_) | ((conv => whnf); with_reducible exact VC.mk rfl) | ((conv => whnf); exact Ok.mk) | ((conv => whnf); exact True.intro) | ((conv => whnf); refine Nx.mk ?_) | ((conv => whnf); refine Fin.mk ?_) | ((conv => whnf); intro _)); all_goals ((try refine VC.mk ?_); (try simp only [CL.ncell, CL.cnt, Int.toNat_natCast, decide_eq_true_eq, decide_eq_false_iff_not, Bool.not_eq_true, Bool.not_false, Bool.not_true, and_self, and_true, true_and, te3b, te4b, te3s, te4s, Nat.mul_one, Nat.zero_add, List.length_cons, List.length_nil, Bool.false_eq_true, Bool.true_eq_false] at *); (try omega)); all_goals (try (simp [CL.sub]; done)))
    all_goals (try rfl)
  rw [if_neg c1] at hz
  by_cases c2 : n % 4 = 0
  · rw [if_pos c2] at hz; subst hz
    have hM := rMost_spec (halvedL n n.toNat) (halvedL n n.toNat)
    rw [hmp c2] at hM
    have hC := cpAdd_ok (pureCC_ok rHalvedQ_ok) (cpAdd_ok (pureCC_ok (atC_ok (C := True) fun _ => hM)) noC_ok)
    refine pspec_of (md := 0) (rf := []) mixed tabOK hC Try.func41 (by rfl) (by rfl) (by rfl) ?_
    repeat' (first | ((conv => whnf); refine And.intro ?_ ?_) | ((conv => whnf); with_reducible exact VC.mk rfl) | ((conv => whnf); exact Ok.mk) | ((conv => whnf); exact True.intro) | ((conv => whnf); refine Nx.mk ?_) | ((conv => whnf); refine Fin.mk ?_) | ((conv => whnf); intro _))
    all_goals ((try refine VC.mk ?_); (try simp only [CL.ncell, CL.cnt, Int.toNat_natCast, decide_eq_true_eq, decide_eq_false_iff_not, Bool.not_eq_true, Bool.not_false, Bool.not_true, and_self, and_true, true_and, te3b, te4b, te3s, te4s, Nat.mul_one, Nat.zero_add, List.length_cons, List.length_nil, Bool.false_eq_true, Bool.true_eq_false] at *); (try omega))
    all_goals (try (exfalso; omega))
    all_goals all_goals (refine Sup.via ?_; repeat' (first | ((conv => whnf); refine And.intro ?_ ?_) | ((conv => whnf); with_reducible exact VC.mk rfl) | ((conv => whnf); exact Ok.mk) | ((conv => whnf); exact True.intro) | ((conv => whnf); refine Nx.mk ?_) | ((conv => whnf); refine Fin.mk ?_) | ((conv => whnf); intro _)); all_goals ((try refine VC.mk ?_); (try simp only [CL.ncell, CL.cnt, Int.toNat_natCast, decide_eq_true_eq, decide_eq_false_iff_not, Bool.not_eq_true, Bool.not_false, Bool.not_true, and_self, and_true, true_and, te3b, te4b, te3s, te4s, Nat.mul_one, Nat.zero_add, List.length_cons, List.length_nil, Bool.false_eq_true, Bool.true_eq_false] at *); (try omega)); all_goals (try (simp [CL.sub]; done)))
    all_goals (try rfl)
  · rw [if_neg c2] at hz; subst hz
    refine pspec_of (md := 0) (rf := []) mixed tabOK noC_ok Try.func41 (by rfl) (by rfl) (by rfl) ?_
    repeat' (first | ((conv => whnf); refine And.intro ?_ ?_) | ((conv => whnf); with_reducible exact VC.mk rfl) | ((conv => whnf); exact Ok.mk) | ((conv => whnf); exact True.intro) | ((conv => whnf); refine Nx.mk ?_) | ((conv => whnf); refine Fin.mk ?_) | ((conv => whnf); intro _))
    all_goals ((try refine VC.mk ?_); (try simp only [CL.ncell, CL.cnt, Int.toNat_natCast, decide_eq_true_eq, decide_eq_false_iff_not, Bool.not_eq_true, Bool.not_false, Bool.not_true, and_self, and_true, true_and, te3b, te4b, te3s, te4s, Nat.mul_one, Nat.zero_add, List.length_cons, List.length_nil, Bool.false_eq_true, Bool.true_eq_false] at *); (try omega))
    all_goals (try (exfalso; omega))
    all_goals all_goals (refine Sup.via ?_; repeat' (first | ((conv => whnf); refine And.intro ?_ ?_) | ((conv => whnf); with_reducible exact VC.mk rfl) | ((conv => whnf); exact Ok.mk) | ((conv => whnf); exact True.intro) | ((conv => whnf); refine Nx.mk ?_) | ((conv => whnf); refine Fin.mk ?_) | ((conv => whnf); intro _)); all_goals ((try refine VC.mk ?_); (try simp only [CL.ncell, CL.cnt, Int.toNat_natCast, decide_eq_true_eq, decide_eq_false_iff_not, Bool.not_eq_true, Bool.not_false, Bool.not_true, and_self, and_true, true_and, te3b, te4b, te3s, te4s, Nat.mul_one, Nat.zero_add, List.length_cons, List.length_nil, Bool.false_eq_true, Bool.true_eq_false] at *); (try omega)); all_goals (try (simp [CL.sub]; done)))
    all_goals (try rfl)
end Go.Eng.Ytppflbccfdbogaa
namespace Go.Eng.Ytppflbccfdbogaa
open Go.Proofs
set_option maxRecDepth 100000
set_option maxHeartbeats 0
set_option linter.unusedVariables false
set_option linter.unusedSimpArgs false
theorem mod4_spec (a : Int) : PSpec Try.prog 96 [.int .i64 a, .int .i64 4] (.int .i64 (a % 4)) := by
  have h1 : -4 < a.tmod 4 := by have := Int.lt_tmod_of_pos a (show (0 : Int) < 4 by decide); omega
  have h2 : a.tmod 4 < 4 := Int.tmod_lt_of_pos a (by decide)
  have h3 : (a.tmod 4 + 4).tmod 4 = a % 4 := by
    rw [Int.tmod_eq_emod_of_nonneg (by omega), Int.add_emod_right]
    have := Int.mul_tdiv_add_tmod a 4
    omega
  refine pspec_of (md := 1) (rf := []) mixed tabOK noC_ok Try.func96 (by rfl) (by rfl) (by rfl) ?_
  repeat' (first | ((conv => whnf); refine And.intro ?_ ?_) | ((conv => whnf); with_reducible exact VC.mk rfl) | ((conv => whnf); exact Ok.mk) | ((conv => whnf); exact True.intro) | ((conv => whnf); refine Nx.mk ?_) | ((conv => whnf); refine Fin.mk ?_) | ((conv => whnf); intro _))
  all_goals ((try refine VC.mk ?_); (try simp only [CL.ncell, CL.cnt, Int.toNat_natCast, decide_eq_true_eq, decide_eq_false_iff_not, Bool.not_eq_true, Bool.not_false, Bool.not_true, and_self, and_true, true_and, te3b, te4b, te3s, te4s, Nat.mul_one, Nat.zero_add, List.length_cons, List.length_nil, Bool.false_eq_true, Bool.true_eq_false] at *); (try omega))
  rw [h3]; exact Sup.of rfl
def cMagV (n : Int) : PV := if n < 1 ∨ 16 < n then noGrid 3 else magV n
theorem magic_spec' (n : Int) : PSpec Try.prog 32 [.int .i64 n] (cMagV n) := by
  have hM := mod4_spec n
  have hcase : n % 4 = 0 ∨ n % 4 = 1 ∨ n % 4 = 2 ∨ n % 4 = 3 := by omega
  generalize hz : cMagV n = z
  unfold cMagV magV at hz
  rcases hcase with h | h | h | h
  · rw [h] at hM
    have hC := cpAdd_ok (pureCC_ok (atC_ok (C := True) fun _ => hM)) (cpAdd_ok (pureCC_ok orderly_pok) noC_ok)
    refine pspec_of (md := 1) (rf := []) mixed tabOK hC Try.func32 (by rfl) (by rfl) (by rfl) ?_
    repeat' (first | ((conv => whnf); refine And.intro ?_ ?_) | ((conv => whnf); with_reducible exact VC.mk rfl) | ((conv => whnf); exact Ok.mk) | ((conv => whnf); exact True.intro) | ((conv => whnf); refine Nx.mk ?_) | ((conv => whnf); refine Fin.mk ?_) | ((conv => whnf); intro _))
    all_goals ((try refine VC.mk ?_); (try simp only [CL.ncell, CL.cnt, Int.toNat_natCast, decide_eq_true_eq, decide_eq_false_iff_not, Bool.not_eq_true, Bool.not_false, Bool.not_true, and_self, and_true, true_and, te3b, te4b, te3s, te4s, Nat.mul_one, Nat.zero_add, List.length_cons, List.length_nil, Bool.false_eq_true, Bool.true_eq_false] at *); (try omega))
    · rw [← hz, if_pos ‹_›]; all_goals (refine Sup.via ?_; repeat' (first | ((conv => whnf); refine And.intro ?_ ?_) | ((conv => whnf); with_reducible exact VC.mk rfl) | ((conv => whnf); exact Ok.mk) | ((conv => whnf); exact True.intro) | ((conv => whnf); refine Nx.mk ?_) | ((conv => whnf); refine Fin.mk ?_) | ((conv => whnf); intro _)); all_goals ((try refine VC.mk ?_); (try simp only [CL.ncell, CL.cnt, Int.toNat_natCast, decide_eq_true_eq, decide_eq_false_iff_not, Bool.not_eq_true, Bool.not_false, Bool.not_true, and_self, and_true, true_and, te3b, te4b, te3s, te4s, Nat.mul_one, Nat.zero_add, List.length_cons, List.length_nil, Bool.false_eq_true, Bool.true_eq_false] at *); (try omega)); all_goals (try (simp [CL.sub]; done)))
    · refine ⟨n, n, dblL n, cDbl_spec n (by omega), ?_⟩
      repeat' (first | ((conv => whnf); refine And.intro ?_ ?_) | ((conv => whnf); with_reducible exact VC.mk rfl) | ((conv => whnf); exact Ok.mk) | ((conv => whnf); exact True.intro) | ((conv => whnf); refine Nx.mk ?_) | ((conv => whnf); refine Fin.mk ?_) | ((conv => whnf); intro _))
      all_goals ((try refine VC.mk ?_); (try simp only [CL.ncell, CL.cnt, Int.toNat_natCast, decide_eq_true_eq, decide_eq_false_iff_not, Bool.not_eq_true, Bool.not_false, Bool.not_true, and_self, and_true, true_and, te3b, te4b, te3s, te4s, Nat.mul_one, Nat.zero_add, List.length_cons, List.length_nil, Bool.false_eq_true, Bool.true_eq_false] at *); (try omega))
      rw [← hz, if_neg ‹_›, if_neg (by omega), if_neg (by omega), if_pos (by omega)]
      all_goals (refine Sup.via ?_; repeat' (first | ((conv => whnf); refine And.intro ?_ ?_) | ((conv => whnf); with_reducible exact VC.mk rfl) | ((conv => whnf); exact Ok.mk) | ((conv => whnf); exact True.intro) | ((conv => whnf); refine Nx.mk ?_) | ((conv => whnf); refine Fin.mk ?_) | ((conv => whnf); intro _)); all_goals ((try refine VC.mk ?_); (try simp only [CL.ncell, CL.cnt, Int.toNat_natCast, decide_eq_true_eq, decide_eq_false_iff_not, Bool.not_eq_true, Bool.not_false, Bool.not_true, and_self, and_true, true_and, te3b, te4b, te3s, te4s, Nat.mul_one, Nat.zero_add, List.length_cons, List.length_nil, Bool.false_eq_true, Bool.true_eq_false] at *); (try omega)); all_goals (try (simp [CL.sub]; done)))
  · rw [h] at hM
    have hC := cpAdd_ok (pureCC_ok (atC_ok (C := True) fun _ => hM)) (cpAdd_ok (pureCC_ok orderly_pok) noC_ok)
    refine pspec_of (md := 1) (rf := []) mixed tabOK hC Try.func32 (by rfl) (by rfl) (by rfl) ?_
    repeat' (first | ((conv => whnf); refine And.intro ?_ ?_) | ((conv => whnf); with_reducible exact VC.mk rfl) | ((conv => whnf); exact Ok.mk) | ((conv => whnf); exact True.intro) | ((conv => whnf); refine Nx.mk ?_) | ((conv => whnf); refine Fin.mk ?_) | ((conv => whnf); intro _))
    all_goals ((try refine VC.mk ?_); (try simp only [CL.ncell, CL.cnt, Int.toNat_natCast, decide_eq_true_eq, decide_eq_false_iff_not, Bool.not_eq_true, Bool.not_false, Bool.not_true, and_self, and_true, true_and, te3b, te4b, te3s, te4s, Nat.mul_one, Nat.zero_add, List.length_cons, List.length_nil, Bool.false_eq_true, Bool.true_eq_false] at *); (try omega))
    · rw [← hz, if_pos ‹_›]; all_goals (refine Sup.via ?_; repeat' (first | ((conv => whnf); refine And.intro ?_ ?_) | ((conv => whnf); with_reducible exact VC.mk rfl) | ((conv => whnf); exact Ok.mk) | ((conv => whnf); exact True.intro) | ((conv => whnf); refine Nx.mk ?_) | ((conv => whnf); refine Fin.mk ?_) | ((conv => whnf); intro _)); all_goals ((try refine VC.mk ?_); (try simp only [CL.ncell, CL.cnt, Int.toNat_natCast, decide_eq_true_eq, decide_eq_false_iff_not, Bool.not_eq_true, Bool.not_false, Bool.not_true, and_self, and_true, true_and, te3b, te4b, te3s, te4s, Nat.mul_one, Nat.zero_add, List.length_cons, List.length_nil, Bool.false_eq_true, Bool.true_eq_false] at *); (try omega)); all_goals (try (simp [CL.sub]; done)))
    · refine ⟨n, n, siaL n, cSia_spec n (by omega), ?_⟩
      repeat' (first | ((conv => whnf); refine And.intro ?_ ?_) | ((conv => whnf); with_reducible exact VC.mk rfl) | ((conv => whnf); exact Ok.mk) | ((conv => whnf); exact True.intro) | ((conv => whnf); refine Nx.mk ?_) | ((conv => whnf); refine Fin.mk ?_) | ((conv => whnf); intro _))
      all_goals ((try refine VC.mk ?_); (try simp only [CL.ncell, CL.cnt, Int.toNat_natCast, decide_eq_true_eq, decide_eq_false_iff_not, Bool.not_eq_true, Bool.not_false, Bool.not_true, and_self, and_true, true_and, te3b, te4b, te3s, te4s, Nat.mul_one, Nat.zero_add, List.length_cons, List.length_nil, Bool.false_eq_true, Bool.true_eq_false] at *); (try omega))
      rw [← hz, if_neg ‹_›, if_neg (by omega), if_pos (by omega)]
      all_goals (refine Sup.via ?_; repeat' (first | ((conv => whnf); refine And.intro ?_ ?_) | ((conv => whnf); with_reducible exact VC.mk rfl) | ((conv => whnf); exact Ok.mk) | ((conv => whnf); exact True.intro) | ((conv => whnf); refine Nx.mk ?_) | ((conv => whnf); refine Fin.mk ?_) | ((conv => whnf); intro _)); all_goals ((try refine VC.mk ?_); (try simp only [CL.ncell, CL.cnt, Int.toNat_natCast, decide_eq_true_eq, decide_eq_false_iff_not, Bool.not_eq_true, Bool.not_false, Bool.not_true, and_self, and_true, true_and, te3b, te4b, te3s, te4s, Nat.mul_one, Nat.zero_add, List.length_cons, List.length_nil, Bool.false_eq_true, Bool.true_eq_false] at *); (try omega)); all_goals (try (simp [CL.sub]; done)))
  · rw [h] at hM
    have hC := cpAdd_ok (pureCC_ok (atC_ok (C := True) fun _ => hM)) (cpAdd_ok (pureCC_ok orderly_pok) noC_ok)
    refine pspec_of (md := 1) (rf := []) mixed tabOK hC Try.func32 (by rfl) (by rfl) (by rfl) ?_
    repeat' (first | ((conv => whnf); refine And.intro ?_ ?_) | ((conv => whnf); with_reducible exact VC.mk rfl) | ((conv => whnf); exact Ok.mk) | ((conv => whnf); exact True.intro) | ((conv => whnf); refine Nx.mk ?_) | ((conv => whnf); refine Fin.mk ?_) | ((conv => whnf); intro _))
    all_goals ((try refine VC.mk ?_); (try simp only [CL.ncell, CL.cnt, Int.toNat_natCast, decide_eq_true_eq, decide_eq_false_iff_not, Bool.not_eq_true, Bool.not_false, Bool.not_true, and_self, and_true, true_and, te3b, te4b, te3s, te4s, Nat.mul_one, Nat.zero_add, List.length_cons, List.length_nil, Bool.false_eq_true, Bool.true_eq_false] at *); (try omega))
    · rw [← hz, if_pos ‹_›]; all_goals (refine Sup.via ?_; repeat' (first | ((conv => whnf); refine And.intro ?_ ?_) | ((conv => whnf); with_reducible exact VC.mk rfl) | ((conv => whnf); exact Ok.mk) | ((conv => whnf); exact True.intro) | ((conv => whnf); refine Nx.mk ?_) | ((conv => whnf); refine Fin.mk ?_) | ((conv => whnf); intro _)); all_goals ((try refine VC.mk ?_); (try simp only [CL.ncell, CL.cnt, Int.toNat_natCast, decide_eq_true_eq, decide_eq_false_iff_not, Bool.not_eq_true, Bool.not_false, Bool.not_true, and_self, and_true, true_and, te3b, te4b, te3s, te4s, Nat.mul_one, Nat.zero_add, List.length_cons, List.length_nil, Bool.false_eq_true, Bool.true_eq_false] at *); (try omega)); all_goals (try (simp [CL.sub]; done)))
    · rw [← hz, if_neg ‹_›, if_pos (by omega)]; all_goals (refine Sup.via ?_; repeat' (first | ((conv => whnf); refine And.intro ?_ ?_) | ((conv => whnf); with_reducible exact VC.mk rfl) | ((conv => whnf); exact Ok.mk) | ((conv => whnf); exact True.intro) | ((conv => whnf); refine Nx.mk ?_) | ((conv => whnf); refine Fin.mk ?_) | ((conv => whnf); intro _)); all_goals ((try refine VC.mk ?_); (try simp only [CL.ncell, CL.cnt, Int.toNat_natCast, decide_eq_true_eq, decide_eq_false_iff_not, Bool.not_eq_true, Bool.not_false, Bool.not_true, and_self, and_true, true_and, te3b, te4b, te3s, te4s, Nat.mul_one, Nat.zero_add, List.length_cons, List.length_nil, Bool.false_eq_true, Bool.true_eq_false] at *); (try omega)); all_goals (try (simp [CL.sub]; done)))
    · refine ⟨n, n, sglL (n / 2).toNat, cSglP_pspec (by omega), ?_⟩
      repeat' (first | ((conv => whnf); refine And.intro ?_ ?_) | ((conv => whnf); with_reducible exact VC.mk rfl) | ((conv => whnf); exact Ok.mk) | ((conv => whnf); exact True.intro) | ((conv => whnf); refine Nx.mk ?_) | ((conv => whnf); refine Fin.mk ?_) | ((conv => whnf); intro _))
      all_goals ((try refine VC.mk ?_); (try simp only [CL.ncell, CL.cnt, Int.toNat_natCast, decide_eq_true_eq, decide_eq_false_iff_not, Bool.not_eq_true, Bool.not_false, Bool.not_true, and_self, and_true, true_and, te3b, te4b, te3s, te4s, Nat.mul_one, Nat.zero_add, List.length_cons, List.length_nil, Bool.false_eq_true, Bool.true_eq_false] at *); (try omega))
      rw [← hz, if_neg ‹_›, if_neg (by omega), if_neg (by omega), if_neg (by omega)]
      all_goals (refine Sup.via ?_; repeat' (first | ((conv => whnf); refine And.intro ?_ ?_) | ((conv => whnf); with_reducible exact VC.mk rfl) | ((conv => whnf); exact Ok.mk) | ((conv => whnf); exact True.intro) | ((conv => whnf); refine Nx.mk ?_) | ((conv => whnf); refine Fin.mk ?_) | ((conv => whnf); intro _)); all_goals ((try refine VC.mk ?_); (try simp only [CL.ncell, CL.cnt, Int.toNat_natCast, decide_eq_true_eq, decide_eq_false_iff_not, Bool.not_eq_true, Bool.not_false, Bool.not_true, and_self, and_true, true_and, te3b, te4b, te3s, te4s, Nat.mul_one, Nat.zero_add, List.length_cons, List.length_nil, Bool.false_eq_true, Bool.true_eq_false] at *); (try omega)); all_goals (try (simp [CL.sub]; done)))
  · rw [h] at hM
    have hC := cpAdd_ok (pureCC_ok (atC_ok (C := True) fun _ => hM)) (cpAdd_ok (pureCC_ok orderly_pok) noC_ok)
    refine pspec_of (md := 1) (rf := []) mixed tabOK hC Try.func32 (by rfl) (by rfl) (by rfl) ?_
    repeat' (first | ((conv => whnf); refine And.intro ?_ ?_) | ((conv => whnf); with_reducible exact VC.mk rfl) | ((conv => whnf); exact Ok.mk) | ((conv => whnf); exact True.intro) | ((conv => whnf); refine Nx.mk ?_) | ((conv => whnf); refine Fin.mk ?_) | ((conv => whnf); intro _))
    all_goals ((try refine VC.mk ?_); (try simp only [CL.ncell, CL.cnt, Int.toNat_natCast, decide_eq_true_eq, decide_eq_false_iff_not, Bool.not_eq_true, Bool.not_false, Bool.not_true, and_self, and_true, true_and, te3b, te4b, te3s, te4s, Nat.mul_one, Nat.zero_add, List.length_cons, List.length_nil, Bool.false_eq_true, Bool.true_eq_false] at *); (try omega))
    · rw [← hz, if_pos ‹_›]; all_goals (refine Sup.via ?_; repeat' (first | ((conv => whnf); refine And.intro ?_ ?_) | ((conv => whnf); with_reducible exact VC.mk rfl) | ((conv => whnf); exact Ok.mk) | ((conv => whnf); exact True.intro) | ((conv => whnf); refine Nx.mk ?_) | ((conv => whnf); refine Fin.mk ?_) | ((conv => whnf); intro _)); all_goals ((try refine VC.mk ?_); (try simp only [CL.ncell, CL.cnt, Int.toNat_natCast, decide_eq_true_eq, decide_eq_false_iff_not, Bool.not_eq_true, Bool.not_false, Bool.not_true, and_self, and_true, true_and, te3b, te4b, te3s, te4s, Nat.mul_one, Nat.zero_add, List.length_cons, List.length_nil, Bool.false_eq_true, Bool.true_eq_false] at *); (try omega)); all_goals (try (simp [CL.sub]; done)))
    · refine ⟨n, n, siaL n, cSia_spec n (by omega), ?_⟩
      repeat' (first | ((conv => whnf); refine And.intro ?_ ?_) | ((conv => whnf); with_reducible exact VC.mk rfl) | ((conv => whnf); exact Ok.mk) | ((conv => whnf); exact True.intro) | ((conv => whnf); refine Nx.mk ?_) | ((conv => whnf); refine Fin.mk ?_) | ((conv => whnf); intro _))
      all_goals ((try refine VC.mk ?_); (try simp only [CL.ncell, CL.cnt, Int.toNat_natCast, decide_eq_true_eq, decide_eq_false_iff_not, Bool.not_eq_true, Bool.not_false, Bool.not_true, and_self, and_true, true_and, te3b, te4b, te3s, te4s, Nat.mul_one, Nat.zero_add, List.length_cons, List.length_nil, Bool.false_eq_true, Bool.true_eq_false] at *); (try omega))
      rw [← hz, if_neg ‹_›, if_neg (by omega), if_pos (by omega)]
      all_goals (refine Sup.via ?_; repeat' (first | ((conv => whnf); refine And.intro ?_ ?_) | ((conv => whnf); with_reducible exact VC.mk rfl) | ((conv => whnf); exact Ok.mk) | ((conv => whnf); exact True.intro) | ((conv => whnf); refine Nx.mk ?_) | ((conv => whnf); refine Fin.mk ?_) | ((conv => whnf); intro _)); all_goals ((try refine VC.mk ?_); (try simp only [CL.ncell, CL.cnt, Int.toNat_natCast, decide_eq_true_eq, decide_eq_false_iff_not, Bool.not_eq_true, Bool.not_false, Bool.not_true, and_self, and_true, true_and, te3b, te4b, te3s, te4s, Nat.mul_one, Nat.zero_add, List.length_cons, List.length_nil, Bool.false_eq_true, Bool.true_eq_false] at *); (try omega)); all_goals (try (simp [CL.sub]; done)))
/-! the values of the orders -/
theorem uniL_len {n s0 s1 x0 x1 b0 b1 : Int} (hn : 1 ≤ n ∧ n ≤ 16) : (uniL n s0 s1 x0 x1 b0 b1).length ≤ 256 := by
  have := mul_bd (show 0 ≤ n ∧ n ≤ 16 by omega) (show 0 ≤ n ∧ n ≤ 16 by omega)
  unfold uniL; rw [gAt_len]; omega
theorem madeL_le {n : Nat} (hn : n ≤ 16) (h : Nat → Nat → Int) : (madeL n h).length ≤ 256 := by
  have := Nat.mul_le_mul hn hn
  simp [madeL]; omega
/-- a result as the law looks at it -/
def IsRes (v : PV) (bad : Int) (r c : Int) (l : List Int) : Prop := ∃ (r0 c0 : Int) (l0 : List Int) (e : Int), v = .tup [gridV r0 c0 l0, .int .i64 e] ∧ l0.length ≤ 2000000 ∧ MadeOK r0 c0 l0 e r c l bad
theorem isRes_no {bad r c : Int} {l : List Int} (h : bad ≠ 0) : IsRes (noGrid bad) bad r c l := ⟨0, 0, [], bad, rfl, by simp, .inl ⟨h, rfl, rfl, rfl, rfl⟩⟩
theorem isRes_ok {r c : Int} {l : List Int} (h : l.length ≤ 256) : IsRes (okGrid r c l) 0 r c l := ⟨r, c, l, 0, rfl, by omega, .inr ⟨rfl, rfl, rfl, rfl, rfl⟩⟩
theorem gridOr_res {n : Int} {h : Prop} [Decidable h] {l : List Int} (hl : 1 ≤ n ∧ n ≤ 16 → h → l.length ≤ 256) : IsRes (gridOr n h l) (if n < 1 ∨ 16 < n then 3 else if h then 0 else 7) n n l := by
  unfold gridOr
  by_cases h1 : n < 1 ∨ 16 < n
  · rw [if_pos h1, if_pos h1]; exact isRes_no (by decide)
  · rw [if_neg h1, if_neg h1]
    by_cases h2 : h
    · rw [if_pos h2, if_pos h2]; exact isRes_ok (hl (by omega) h2)
    · rw [if_neg h2, if_neg h2]; exact isRes_no (by decide)
end Go.Eng.Ytppflbccfdbogaa
namespace Go.Eng.Ytppflbccfdbogaa
open Go.Proofs
set_option maxRecDepth 100000
set_option maxHeartbeats 0
set_option linter.unusedVariables false
set_option linter.unusedSimpArgs false
theorem colL_succ' (n : Nat) (h : Nat → Int) (m : Nat) : colL n h (m + 1) = colL n h m ++ [(m : Int) * n + h m % n] := by
  simp [colL, List.range_succ, Int.mul_comm]
theorem diag_spec (n k s : Nat) (hn : 1 ≤ n ∧ n ≤ 16) (hk : k ≤ 1000) (hs : s ≤ 1000) : PSpec Try.prog 83 [.int .i64 (n : Int), .int .i64 (k : Int), .int .i64 (s : Int)] (.isl (.ints .i64 (colL n (fun i => (k : Int) + i * s) n)) .none) := by
  refine pspec_of (md := 0) (rf := []) mixed tabOK noC_ok Try.func83 (by rfl) (by rfl) (by rfl) ?_
  repeat' (first | ((conv => whnf); refine And.intro ?_ ?_) | ((conv => whnf); with_reducible exact VC.mk rfl) | ((conv => whnf); exact Ok.mk) | ((conv => whnf); exact True.intro) | ((conv => whnf); refine Nx.mk ?_) | ((conv => whnf); refine Fin.mk ?_) | ((conv => whnf); intro _))
  all_goals ((try refine VC.mk ?_); (try simp only [CL.ncell, CL.cnt, Int.toNat_natCast, decide_eq_true_eq, decide_eq_false_iff_not, Bool.not_eq_true, Bool.not_false, Bool.not_true, and_self, and_true, true_and, te3b, te4b, te3s, te4s, Nat.mul_one, Nat.zero_add, List.length_cons, List.length_nil, Bool.false_eq_true, Bool.true_eq_false] at *); (try omega))
  conv => whnf
  refine loop_of (X := Nat) (fun i => i ≤ n) (fun i => [(8, .int .i64 i), (7, .isl (.ints .i64 (colL n (fun i => (k : Int) + i * s) i)) (.own 0))]) (fun i => [(0, .tok 1 i)]) (fun i => n - i) 0 ⟨anyB_ok, mixed, tabOK, noC_ok, noY_ok⟩ (by rfl) (by omega) ?_ ?_
  · repeat' (first | ((conv => whnf); refine And.intro ?_ ?_) | ((conv => whnf); with_reducible exact VC.mk rfl) | ((conv => whnf); exact Ok.mk) | ((conv => whnf); exact True.intro) | ((conv => whnf); refine Nx.mk ?_) | ((conv => whnf); refine Fin.mk ?_) | ((conv => whnf); intro _))
    all_goals ((try refine VC.mk ?_); (try simp only [CL.ncell, CL.cnt, Int.toNat_natCast, decide_eq_true_eq, decide_eq_false_iff_not, Bool.not_eq_true, Bool.not_false, Bool.not_true, and_self, and_true, true_and, te3b, te4b, te3s, te4s, Nat.mul_one, Nat.zero_add, List.length_cons, List.length_nil, Bool.false_eq_true, Bool.true_eq_false] at *); (try omega))
  · intro i hi
    have e1 := colL_succ' n (fun i => (k : Int) + i * s) i
    have e2 := colL_len n (fun i => (k : Int) + i * s) i
    by_cases hlt : i < n
    · have h1 := mul_bd (A := 16) (B := 16) (show 0 ≤ (i : Int) ∧ (i : Int) ≤ 16 by omega) (show 0 ≤ (n : Int) ∧ (n : Int) ≤ 16 by omega)
      have h2 := mul_bd (A := 16) (B := 1000) (show 0 ≤ (i : Int) ∧ (i : Int) ≤ 16 by omega) (show 0 ≤ (s : Int) ∧ (s : Int) ≤ 1000 by omega)
      have h3 : 0 ≤ ((k : Int) + i * s) % n := Int.emod_nonneg _ (by omega)
      have h4 : ((k : Int) + i * s) % n < n := Int.emod_lt_of_pos _ (by omega)
      repeat' (first | ((conv => whnf); refine And.intro ?_ ?_) | ((conv => whnf); with_reducible exact VC.mk rfl) | ((conv => whnf); exact Ok.mk) | ((conv => whnf); exact True.intro) | ((conv => whnf); refine Nx.mk ?_) | ((conv => whnf); refine Fin.mk ?_) | ((conv => whnf); intro _))
      all_goals ((try refine VC.mk ?_); (try simp only [CL.ncell, CL.cnt, Int.toNat_natCast, decide_eq_true_eq, decide_eq_false_iff_not, Bool.not_eq_true, Bool.not_false, Bool.not_true, and_self, and_true, true_and, te3b, te4b, te3s, te4s, Nat.mul_one, Nat.zero_add, List.length_cons, List.length_nil, Bool.false_eq_true, Bool.true_eq_false] at *); (try omega))
      all_goals (try (simp only [List.length_append, List.length_cons, List.length_nil]; omega))
      refine ⟨i + 1, [], ⟨by omega, by omega⟩, ?_⟩
      repeat' (first | ((conv => whnf); refine And.intro ?_ ?_) | ((conv => whnf); with_reducible exact VC.mk rfl) | ((conv => whnf); exact Ok.mk) | ((conv => whnf); exact True.intro) | ((conv => whnf); refine Nx.mk ?_) | ((conv => whnf); refine Fin.mk ?_) | ((conv => whnf); intro _))
      all_goals ((try refine VC.mk ?_); (try simp only [CL.ncell, CL.cnt, Int.toNat_natCast, decide_eq_true_eq, decide_eq_false_iff_not, Bool.not_eq_true, Bool.not_false, Bool.not_true, and_self, and_true, true_and, te3b, te4b, te3s, te4s, Nat.mul_one, Nat.zero_add, List.length_cons, List.length_nil, Bool.false_eq_true, Bool.true_eq_false] at *); (try omega))
      all_goals (try (rw [e1]))
    · have : n = i := by omega
      subst this
      repeat' (first | ((conv => whnf); refine And.intro ?_ ?_) | ((conv => whnf); with_reducible exact VC.mk rfl) | ((conv => whnf); exact Ok.mk) | ((conv => whnf); exact True.intro) | ((conv => whnf); refine Nx.mk ?_) | ((conv => whnf); refine Fin.mk ?_) | ((conv => whnf); intro _))
      all_goals ((try refine VC.mk ?_); (try simp only [CL.ncell, CL.cnt, Int.toNat_natCast, decide_eq_true_eq, decide_eq_false_iff_not, Bool.not_eq_true, Bool.not_false, Bool.not_true, and_self, and_true, true_and, te3b, te4b, te3s, te4s, Nat.mul_one, Nat.zero_add, List.length_cons, List.length_nil, Bool.false_eq_true, Bool.true_eq_false] at *); (try omega))
      all_goals (first | (refine Sup.of ?_; first | rfl | (simp [*, resOf]; done)) | (refine Sup.via ?_; repeat' (first | ((conv => whnf); refine And.intro ?_ ?_) | ((conv => whnf); with_reducible exact VC.mk rfl) | ((conv => whnf); exact Ok.mk) | ((conv => whnf); exact True.intro) | ((conv => whnf); refine Nx.mk ?_) | ((conv => whnf); refine Fin.mk ?_) | ((conv => whnf); intro _)); all_goals ((try refine VC.mk ?_); (try simp only [CL.ncell, CL.cnt, Int.toNat_natCast, decide_eq_true_eq, decide_eq_false_iff_not, Bool.not_eq_true, Bool.not_false, Bool.not_true, and_self, and_true, true_and, te3b, te4b, te3s, te4s, Nat.mul_one, Nat.zero_add, List.length_cons, List.length_nil, Bool.false_eq_true, Bool.true_eq_false] at *); (try omega)); all_goals (try (simp [CL.sub]; done))))
theorem diag_spec' {n k s : Int} (hn : 1 ≤ n ∧ n ≤ 16) (hk : 0 ≤ k ∧ k ≤ 1000) (hs : 0 ≤ s ∧ s ≤ 1000) : PSpec Try.prog 83 [.int .i64 n, .int .i64 k, .int .i64 s] (.isl (.ints .i64 (colL n.toNat (fun i => k + i * s) n.toNat)) .none) := by
  have := diag_spec n.toNat k.toNat s.toNat (by omega) (by omega) (by omega)
  rwa [Int.toNat_of_nonneg (by omega), Int.toNat_of_nonneg (by omega), Int.toNat_of_nonneg (by omega)] at this
def diagP : PSp := fun xs K => match xs with
  | [.int .i64 n, .int .i64 k, .int .i64 s] => VC ((1 ≤ n ∧ n ≤ 16) ∧ (0 ≤ k ∧ k ≤ 1000) ∧ 0 ≤ s ∧ s ≤ 1000) ∧ K (.isl (.ints .i64 (colL n.toNat (fun i => k + i * s) n.toNat)) .none)
  | _ => False
theorem diag_ok : POK Try.prog 83 diagP := by
  intro xs K h
  unfold diagP at h
  split at h
  · exact ⟨_, h.2, diag_spec' h.1.get.1 h.1.get.2.1 h.1.get.2.2⟩
  · exact h.elim
/-! the sum of some cells -/
theorem rSum_spec (r c : Int) (cs l : List Int) (hc : ∀ x ∈ l, 0 ≤ x ∧ x < cs.length) (hl : l.length ≤ 1000000) (hb : ∀ i, i ≤ l.length → -1000000000000 ≤ sumAt cs l i ∧ sumAt cs l i ≤ 1000000000000) : PSpec Try.prog 71 [gridV r c cs, .isl (.ints .i64 l) .none] (.int .i64 (sumAt cs l l.length)) := by
  refine pspec_of (md := 0) (rf := []) mixed tabOK noC_ok Try.func71 (by rfl) (by rfl) (by rfl) ?_
  repeat' (first | ((conv => whnf); refine And.intro ?_ ?_) | ((conv => whnf); with_reducible exact VC.mk rfl) | ((conv => whnf); exact Ok.mk) | ((conv => whnf); exact True.intro) | ((conv => whnf); refine Nx.mk ?_) | ((conv => whnf); refine Fin.mk ?_) | ((conv => whnf); intro _))
  all_goals ((try refine VC.mk ?_); (try simp only [CL.ncell, CL.cnt, Int.toNat_natCast, decide_eq_true_eq, decide_eq_false_iff_not, Bool.not_eq_true, Bool.not_false, Bool.not_true, and_self, and_true, true_and, te3b, te4b, te3s, te4s, Nat.mul_one, Nat.zero_add, List.length_cons, List.length_nil, Bool.false_eq_true, Bool.true_eq_false] at *); (try omega))
  conv => whnf
  refine loop_of (X := Nat) (fun i => i ≤ l.length) (fun i => [(6, .int .i64 i), (5, .int .i64 (sumAt cs l i))]) (fun i => []) (fun i => l.length - i) 0 ⟨anyB_ok, mixed, tabOK, noC_ok, noY_ok⟩ (by rfl) (by omega) ?_ ?_
  · repeat' (first | ((conv => whnf); refine And.intro ?_ ?_) | ((conv => whnf); with_reducible exact VC.mk rfl) | ((conv => whnf); exact Ok.mk) | ((conv => whnf); exact True.intro) | ((conv => whnf); refine Nx.mk ?_) | ((conv => whnf); refine Fin.mk ?_) | ((conv => whnf); intro _))
    all_goals ((try refine VC.mk ?_); (try simp only [CL.ncell, CL.cnt, Int.toNat_natCast, decide_eq_true_eq, decide_eq_false_iff_not, Bool.not_eq_true, Bool.not_false, Bool.not_true, and_self, and_true, true_and, te3b, te4b, te3s, te4s, Nat.mul_one, Nat.zero_add, List.length_cons, List.length_nil, Bool.false_eq_true, Bool.true_eq_false] at *); (try omega))
    all_goals (try rfl)
  · intro i hi
    have e1 := hb i hi
    by_cases hlt : i < l.length
    · have e2 := sumAt_succ cs l i hlt
      have e3 := hb (i + 1) (by omega)
      have e4 := hc (l.getD i 0) (by rw [List.getD_eq_getElem?_getD, List.getElem?_eq_getElem hlt]; exact List.getElem_mem _)
      repeat' (first | ((conv => whnf); refine And.intro ?_ ?_) | ((conv => whnf); with_reducible exact VC.mk rfl) | ((conv => whnf); exact Ok.mk) | ((conv => whnf); exact True.intro) | ((conv => whnf); refine Nx.mk ?_) | ((conv => whnf); refine Fin.mk ?_) | ((conv => whnf); intro _))
      all_goals ((try refine VC.mk ?_); (try simp only [CL.ncell, CL.cnt, Int.toNat_natCast, decide_eq_true_eq, decide_eq_false_iff_not, Bool.not_eq_true, Bool.not_false, Bool.not_true, and_self, and_true, true_and, te3b, te4b, te3s, te4s, Nat.mul_one, Nat.zero_add, List.length_cons, List.length_nil, Bool.false_eq_true, Bool.true_eq_false] at *); (try omega))
      refine ⟨i + 1, [], ⟨by omega, by omega⟩, ?_⟩
      repeat' (first | ((conv => whnf); refine And.intro ?_ ?_) | ((conv => whnf); with_reducible exact VC.mk rfl) | ((conv => whnf); exact Ok.mk) | ((conv => whnf); exact True.intro) | ((conv => whnf); refine Nx.mk ?_) | ((conv => whnf); refine Fin.mk ?_) | ((conv => whnf); intro _))
      all_goals ((try refine VC.mk ?_); (try simp only [CL.ncell, CL.cnt, Int.toNat_natCast, decide_eq_true_eq, decide_eq_false_iff_not, Bool.not_eq_true, Bool.not_false, Bool.not_true, and_self, and_true, true_and, te3b, te4b, te3s, te4s, Nat.mul_one, Nat.zero_add, List.length_cons, List.length_nil, Bool.false_eq_true, Bool.true_eq_false] at *); (try omega))
      all_goals (try (rw [e2]))
    · have : l.length = i := by omega
      subst this
      repeat' (first | ((conv => whnf); refine And.intro ?_ ?_) | ((conv => whnf); with_reducible exact VC.mk rfl) | ((conv => whnf); exact Ok.mk) | ((conv => whnf); exact True.intro) | ((conv => whnf); refine Nx.mk ?_) | ((conv => whnf); refine Fin.mk ?_) | ((conv => whnf); intro _))
      all_goals ((try refine VC.mk ?_); (try simp only [CL.ncell, CL.cnt, Int.toNat_natCast, decide_eq_true_eq, decide_eq_false_iff_not, Bool.not_eq_true, Bool.not_false, Bool.not_true, and_self, and_true, true_and, te3b, te4b, te3s, te4s, Nat.mul_one, Nat.zero_add, List.length_cons, List.length_nil, Bool.false_eq_true, Bool.true_eq_false] at *); (try omega))
      all_goals (first | (refine Sup.of ?_; first | rfl | (simp [*, resOf]; done)) | (refine Sup.via ?_; repeat' (first | ((conv => whnf); refine And.intro ?_ ?_) | ((conv => whnf); with_reducible exact VC.mk rfl) | ((conv => whnf); exact Ok.mk) | ((conv => whnf); exact True.intro) | ((conv => whnf); refine Nx.mk ?_) | ((conv => whnf); refine Fin.mk ?_) | ((conv => whnf); intro _)); all_goals ((try refine VC.mk ?_); (try simp only [CL.ncell, CL.cnt, Int.toNat_natCast, decide_eq_true_eq, decide_eq_false_iff_not, Bool.not_eq_true, Bool.not_false, Bool.not_true, and_self, and_true, true_and, te3b, te4b, te3s, te4s, Nat.mul_one, Nat.zero_add, List.length_cons, List.length_nil, Bool.false_eq_true, Bool.true_eq_false] at *); (try omega)); all_goals (try (simp [CL.sub]; done))))
def rSumP : PSp := fun xs K => match xs with
  | [.agg [.int .i64 r, .int .i64 c, .isl (.ints .i64 cs) .none], .isl (.ints .i64 l) .none] => VC ((∀ x ∈ l, 0 ≤ x ∧ x < cs.length) ∧ l.length ≤ 1000000 ∧ ∀ i, i ≤ l.length → -1000000000000 ≤ sumAt cs l i ∧ sumAt cs l i ≤ 1000000000000) ∧ K (.int .i64 (sumAt cs l l.length))
  | _ => False
theorem rSum_ok : POK Try.prog 71 rSumP := by
  intro xs K h
  unfold rSumP at h
  split at h
  · exact ⟨_, h.2, rSum_spec _ _ _ _ h.1.get.1 h.1.get.2.1 h.1.get.2.2⟩
  · exact h.elim
/-! all lines -/
def gOf (s : ByteArray) : Int := if s = kSq then 0 else if s = kSemi then 1 else if s = kMag then 2 else 3
def linesTo (n m : Nat) : List (List Int) := (List.range m).map (lineAt n)
theorem linesTo_succ (n m : Nat) : linesTo n (m + 1) = linesTo n m ++ [lineAt n m] := by simp [linesTo, List.range_succ]
theorem linesTo_get (n m i : Nat) (h : i < m) : (linesTo n m).getD i [] = lineAt n i := by
  simp [linesTo, List.getD_eq_getElem?_getD, h]
theorem linesTo_len (n m : Nat) : (linesTo n m).length = m := by simp [linesTo]
theorem colL_congr {n : Nat} {h h' : Nat → Int} (e : ∀ i, i < n → h i % n = h' i % n) : colL n h n = colL n h' n := by
  unfold colL
  exact List.map_congr_left fun i hi => by rw [e i (List.mem_range.1 hi)]
theorem emod_of_sub {a b n k : Int} (h : a - b = n * k) : a % n = b % n := by
  have : a = b + n * k := by omega
  rw [this, Int.add_mul_emod_self_left]
theorem dg1 (n : Nat) : colL n (fun i => 0 + (i : Int) * 1) n = lineAt n (2 * n) := by
  rw [lineAt_d1]; exact colL_congr fun i _ => by congr 1; omega
theorem dg2 (n : Nat) : colL n (fun i => (n : Int) - 1 + (i : Int) * ((n : Int) - 1)) n = lineAt n (2 * n + 1) := by
  rw [lineAt_d2]; exact colL_congr fun i _ => emod_of_sub (k := (i : Int)) (by rw [Int.mul_sub, Int.mul_comm (n : Int) (i : Int)]; omega)
theorem dg3 (n k : Nat) (hk : 1 ≤ k ∧ k < n) : colL n (fun i => (k : Int) + (i : Int) * 1) n = lineAt n (2 * n + 1 + k) := by
  have : lineAt n (2 * n + 1 + k) = colL n (fun j => (j : Int) + (((2 * n + 1 + k : Nat) : Int) - 2 * n - 1)) n := by
    unfold lineAt; rw [if_neg (by omega), if_neg (by omega), if_neg (by omega), if_neg (by omega), if_pos (by omega)]
  rw [this]; exact colL_congr fun i _ => by congr 1; omega
theorem dg4 (n k : Nat) (hn : 1 ≤ n) (hk : k + 1 < n) : colL n (fun i => (k : Int) + (i : Int) * ((n : Int) - 1)) n = lineAt n (3 * n + 1 + k) := by
  have : lineAt n (3 * n + 1 + k) = colL n (fun j => ((3 * n + 1 + k : Nat) : Int) - 3 * n - 1 - j) n := by
    unfold lineAt; rw [if_neg (by omega), if_neg (by omega), if_neg (by omega), if_neg (by omega), if_neg (by omega)]
  rw [this]; exact colL_congr fun i _ => emod_of_sub (k := (i : Int)) (by rw [Int.mul_sub, Int.mul_comm (n : Int) (i : Int)]; push_cast; omega)
theorem linesTo_two (n : Nat) : linesTo n (n + n) ++ [colL n (fun i => 0 + (i : Int) * 1) n, colL n (fun i => (n : Int) - 1 + (i : Int) * ((n : Int) - 1)) n] = linesTo n (2 * n + 2) := by
  rw [dg1, dg2, show 2 * n + 2 = n + n + 1 + 1 by omega, linesTo_succ, linesTo_succ, show n + n + 1 = 2 * n + 1 by omega, show n + n = 2 * n by omega]
  simp
noncomputable def cpLn : CPT := cpAdd 83 (pureCC diagP) noC
theorem cpLn_ok : CPOK Try.prog cpLn := cpAdd_ok (pureCC_ok diag_ok) noC_ok
theorem Lines_spec (n : Nat) (hn : 1 ≤ n ∧ n ≤ 16) (s : ByteArray) : PSpec Try.prog 105 [.int .i64 (n : Int), .str s] (.isl (.rows .i64 (linesTo n (lineCnt n (gOf s)))) .none) := by
  refine pspec_of (md := 0) (rf := []) mixed tabOK cpLn_ok Try.func105 (by rfl) (by rfl) (by rfl) ?_
  repeat' (first | ((conv => whnf); refine And.intro ?_ ?_) | ((conv => whnf); with_reducible exact VC.mk rfl) | ((conv => whnf); exact Ok.mk) | ((conv => whnf); exact True.intro) | ((conv => whnf); refine Nx.mk ?_) | ((conv => whnf); refine Fin.mk ?_) | ((conv => whnf); intro _))
  all_goals ((try refine VC.mk ?_); (try simp only [CL.ncell, CL.cnt, Int.toNat_natCast, decide_eq_true_eq, decide_eq_false_iff_not, Bool.not_eq_true, Bool.not_false, Bool.not_true, and_self, and_true, true_and, te3b, te4b, te3s, te4s, Nat.mul_one, Nat.zero_add, List.length_cons, List.length_nil, Bool.false_eq_true, Bool.true_eq_false] at *); (try omega))
  · rename_i hs
    have : lineCnt n (gOf s) = 0 := by unfold gOf; rw [if_pos hs]; rfl
    rw [this]
    all_goals (refine Sup.via ?_; repeat' (first | ((conv => whnf); refine And.intro ?_ ?_) | ((conv => whnf); with_reducible exact VC.mk rfl) | ((conv => whnf); exact Ok.mk) | ((conv => whnf); exact True.intro) | ((conv => whnf); refine Nx.mk ?_) | ((conv => whnf); refine Fin.mk ?_) | ((conv => whnf); intro _)); all_goals ((try refine VC.mk ?_); (try simp only [CL.ncell, CL.cnt, Int.toNat_natCast, decide_eq_true_eq, decide_eq_false_iff_not, Bool.not_eq_true, Bool.not_false, Bool.not_true, and_self, and_true, true_and, te3b, te4b, te3s, te4s, Nat.mul_one, Nat.zero_add, List.length_cons, List.length_nil, Bool.false_eq_true, Bool.true_eq_false] at *); (try omega)); all_goals (try (simp [CL.sub]; done)))
    rfl
  rename_i hsq
  conv => whnf
  refine loop_of (X := Nat) (fun i => i ≤ n) (fun i => [(6, .int .i64 i), (5, .isl (.rows .i64 (linesTo n i)) (.own 0))]) (fun i => [(0, .tok 1 i)]) (fun i => n - i) 0 ⟨anyB_ok, mixed, tabOK, cpLn_ok, noY_ok⟩ (by rfl) (by omega) ?_ ?_
  · repeat' (first | ((conv => whnf); refine And.intro ?_ ?_) | ((conv => whnf); with_reducible exact VC.mk rfl) | ((conv => whnf); exact Ok.mk) | ((conv => whnf); exact True.intro) | ((conv => whnf); refine Nx.mk ?_) | ((conv => whnf); refine Fin.mk ?_) | ((conv => whnf); intro _))
    all_goals ((try refine VC.mk ?_); (try simp only [CL.ncell, CL.cnt, Int.toNat_natCast, decide_eq_true_eq, decide_eq_false_iff_not, Bool.not_eq_true, Bool.not_false, Bool.not_true, and_self, and_true, true_and, te3b, te4b, te3s, te4s, Nat.mul_one, Nat.zero_add, List.length_cons, List.length_nil, Bool.false_eq_true, Bool.true_eq_false] at *); (try omega))
  intro i hi
  by_cases hlt : i < n
  · repeat' (first | ((conv => whnf); refine And.intro ?_ ?_) | ((conv => whnf); with_reducible exact VC.mk rfl) | ((conv => whnf); exact Ok.mk) | ((conv => whnf); exact True.intro) | ((conv => whnf); refine Nx.mk ?_) | ((conv => whnf); refine Fin.mk ?_) | ((conv => whnf); intro _))
    all_goals ((try refine VC.mk ?_); (try simp only [CL.ncell, CL.cnt, Int.toNat_natCast, decide_eq_true_eq, decide_eq_false_iff_not, Bool.not_eq_true, Bool.not_false, Bool.not_true, and_self, and_true, true_and, te3b, te4b, te3s, te4s, Nat.mul_one, Nat.zero_add, List.length_cons, List.length_nil, Bool.false_eq_true, Bool.true_eq_false] at *); (try omega))
    conv => whnf
    refine loop_of (X := Nat) (fun j => j ≤ n) (fun j => [(8, .int .i64 j), (7, .isl (.ints .i64 (rowL n i j)) (.own 1))]) (fun j => [(1, .tok 1 j)]) (fun j => n - j) 0 ⟨anyB_ok, mixed, tabOK, cpLn_ok, noY_ok⟩ (by rfl) (by omega) ?_ ?_
    · repeat' (first | ((conv => whnf); refine And.intro ?_ ?_) | ((conv => whnf); with_reducible exact VC.mk rfl) | ((conv => whnf); exact Ok.mk) | ((conv => whnf); exact True.intro) | ((conv => whnf); refine Nx.mk ?_) | ((conv => whnf); refine Fin.mk ?_) | ((conv => whnf); intro _))
      all_goals ((try refine VC.mk ?_); (try simp only [CL.ncell, CL.cnt, Int.toNat_natCast, decide_eq_true_eq, decide_eq_false_iff_not, Bool.not_eq_true, Bool.not_false, Bool.not_true, and_self, and_true, true_and, te3b, te4b, te3s, te4s, Nat.mul_one, Nat.zero_add, List.length_cons, List.length_nil, Bool.false_eq_true, Bool.true_eq_false] at *); (try omega))
    intro j hj
    have e1 := rowL_succ n i j
    have e2 := rowL_len n i j
    have h1 := mul_bd (A := 16) (B := 16) (show 0 ≤ (i : Int) ∧ (i : Int) ≤ 16 by omega) (show 0 ≤ (n : Int) ∧ (n : Int) ≤ 16 by omega)
    by_cases hlj : j < n
    · repeat' (first | ((conv => whnf); refine And.intro ?_ ?_) | ((conv => whnf); with_reducible exact VC.mk rfl) | ((conv => whnf); exact Ok.mk) | ((conv => whnf); exact True.intro) | ((conv => whnf); refine Nx.mk ?_) | ((conv => whnf); refine Fin.mk ?_) | ((conv => whnf); intro _))
      all_goals ((try refine VC.mk ?_); (try simp only [CL.ncell, CL.cnt, Int.toNat_natCast, decide_eq_true_eq, decide_eq_false_iff_not, Bool.not_eq_true, Bool.not_false, Bool.not_true, and_self, and_true, true_and, te3b, te4b, te3s, te4s, Nat.mul_one, Nat.zero_add, List.length_cons, List.length_nil, Bool.false_eq_true, Bool.true_eq_false] at *); (try omega))
      all_goals (try (simp only [List.length_append, List.length_cons, List.length_nil]; omega))
      refine ⟨j + 1, [], ⟨by omega, by omega⟩, ?_⟩
      repeat' (first | ((conv => whnf); refine And.intro ?_ ?_) | ((conv => whnf); with_reducible exact VC.mk rfl) | ((conv => whnf); exact Ok.mk) | ((conv => whnf); exact True.intro) | ((conv => whnf); refine Nx.mk ?_) | ((conv => whnf); refine Fin.mk ?_) | ((conv => whnf); intro _))
      all_goals ((try refine VC.mk ?_); (try simp only [CL.ncell, CL.cnt, Int.toNat_natCast, decide_eq_true_eq, decide_eq_false_iff_not, Bool.not_eq_true, Bool.not_false, Bool.not_true, and_self, and_true, true_and, te3b, te4b, te3s, te4s, Nat.mul_one, Nat.zero_add, List.length_cons, List.length_nil, Bool.false_eq_true, Bool.true_eq_false] at *); (try omega))
      all_goals (try (rw [e1, Int.mul_comm (n : Int)]))
    · have : n = j := by omega
      subst this
      have e3 := linesTo_len n i
      have e4 := linesTo_succ n i
      rw [lineAt_row hlt] at e4
      repeat' (first | ((conv => whnf); refine And.intro ?_ ?_) | ((conv => whnf); with_reducible exact VC.mk rfl) | ((conv => whnf); exact Ok.mk) | ((conv => whnf); exact True.intro) | ((conv => whnf); refine Nx.mk ?_) | ((conv => whnf); refine Fin.mk ?_) | ((conv => whnf); intro _))
      all_goals ((try refine VC.mk ?_); (try simp only [CL.ncell, CL.cnt, Int.toNat_natCast, decide_eq_true_eq, decide_eq_false_iff_not, Bool.not_eq_true, Bool.not_false, Bool.not_true, and_self, and_true, true_and, te3b, te4b, te3s, te4s, Nat.mul_one, Nat.zero_add, List.length_cons, List.length_nil, Bool.false_eq_true, Bool.true_eq_false] at *); (try omega))
      all_goals (try (simp only [List.length_append, List.length_cons, List.length_nil]; omega))
      refine ⟨i + 1, [], ⟨by omega, by omega⟩, ?_⟩
      repeat' (first | ((conv => whnf); refine And.intro ?_ ?_) | ((conv => whnf); with_reducible exact VC.mk rfl) | ((conv => whnf); exact Ok.mk) | ((conv => whnf); exact True.intro) | ((conv => whnf); refine Nx.mk ?_) | ((conv => whnf); refine Fin.mk ?_) | ((conv => whnf); intro _))
      all_goals ((try refine VC.mk ?_); (try simp only [CL.ncell, CL.cnt, Int.toNat_natCast, decide_eq_true_eq, decide_eq_false_iff_not, Bool.not_eq_true, Bool.not_false, Bool.not_true, and_self, and_true, true_and, te3b, te4b, te3s, te4s, Nat.mul_one, Nat.zero_add, List.length_cons, List.length_nil, Bool.false_eq_true, Bool.true_eq_false] at *); (try omega))
      all_goals (try (rw [e4]))
  have : n = i := by omega
  subst this
  repeat' (first | ((conv => whnf); refine And.intro ?_ ?_) | ((conv => whnf); with_reducible exact VC.mk rfl) | ((conv => whnf); exact Ok.mk) | ((conv => whnf); exact True.intro) | ((conv => whnf); refine Nx.mk ?_) | ((conv => whnf); refine Fin.mk ?_) | ((conv => whnf); intro _))
  all_goals ((try refine VC.mk ?_); (try simp only [CL.ncell, CL.cnt, Int.toNat_natCast, decide_eq_true_eq, decide_eq_false_iff_not, Bool.not_eq_true, Bool.not_false, Bool.not_true, and_self, and_true, true_and, te3b, te4b, te3s, te4s, Nat.mul_one, Nat.zero_add, List.length_cons, List.length_nil, Bool.false_eq_true, Bool.true_eq_false] at *); (try omega))
  conv => whnf
  refine loop_of (X := Nat) (fun i => i ≤ n) (fun i => [(9, .int .i64 i), (5, .isl (.rows .i64 (linesTo n (n + i))) (.own 0))]) (fun i => [(0, .tok 1 (n + i))]) (fun i => n - i) 0 ⟨anyB_ok, mixed, tabOK, cpLn_ok, noY_ok⟩ (by rfl) (by omega) ?_ ?_
  · repeat' (first | ((conv => whnf); refine And.intro ?_ ?_) | ((conv => whnf); with_reducible exact VC.mk rfl) | ((conv => whnf); exact Ok.mk) | ((conv => whnf); exact True.intro) | ((conv => whnf); refine Nx.mk ?_) | ((conv => whnf); refine Fin.mk ?_) | ((conv => whnf); intro _))
    all_goals ((try refine VC.mk ?_); (try simp only [CL.ncell, CL.cnt, Int.toNat_natCast, decide_eq_true_eq, decide_eq_false_iff_not, Bool.not_eq_true, Bool.not_false, Bool.not_true, and_self, and_true, true_and, te3b, te4b, te3s, te4s, Nat.mul_one, Nat.zero_add, List.length_cons, List.length_nil, Bool.false_eq_true, Bool.true_eq_false] at *); (try omega))
  intro i hi
  by_cases hlt : i < n
  · repeat' (first | ((conv => whnf); refine And.intro ?_ ?_) | ((conv => whnf); with_reducible exact VC.mk rfl) | ((conv => whnf); exact Ok.mk) | ((conv => whnf); exact True.intro) | ((conv => whnf); refine Nx.mk ?_) | ((conv => whnf); refine Fin.mk ?_) | ((conv => whnf); intro _))
    all_goals ((try refine VC.mk ?_); (try simp only [CL.ncell, CL.cnt, Int.toNat_natCast, decide_eq_true_eq, decide_eq_false_iff_not, Bool.not_eq_true, Bool.not_false, Bool.not_true, and_self, and_true, true_and, te3b, te4b, te3s, te4s, Nat.mul_one, Nat.zero_add, List.length_cons, List.length_nil, Bool.false_eq_true, Bool.true_eq_false] at *); (try omega))
    conv => whnf
    refine loop_of (X := Nat) (fun j => j ≤ n) (fun j => [(11, .int .i64 j), (10, .isl (.ints .i64 (colL n (fun _ => (i : Int)) j)) (.own 1))]) (fun j => [(1, .tok 1 j)]) (fun j => n - j) 0 ⟨anyB_ok, mixed, tabOK, cpLn_ok, noY_ok⟩ (by rfl) (by omega) ?_ ?_
    · repeat' (first | ((conv => whnf); refine And.intro ?_ ?_) | ((conv => whnf); with_reducible exact VC.mk rfl) | ((conv => whnf); exact Ok.mk) | ((conv => whnf); exact True.intro) | ((conv => whnf); refine Nx.mk ?_) | ((conv => whnf); refine Fin.mk ?_) | ((conv => whnf); intro _))
      all_goals ((try refine VC.mk ?_); (try simp only [CL.ncell, CL.cnt, Int.toNat_natCast, decide_eq_true_eq, decide_eq_false_iff_not, Bool.not_eq_true, Bool.not_false, Bool.not_true, and_self, and_true, true_and, te3b, te4b, te3s, te4s, Nat.mul_one, Nat.zero_add, List.length_cons, List.length_nil, Bool.false_eq_true, Bool.true_eq_false] at *); (try omega))
    intro j hj
    have e1 := colL_succ' n (fun _ => (i : Int)) j
    rw [Int.emod_eq_of_lt (by omega) (by omega)] at e1
    have e2 := colL_len n (fun _ => (i : Int)) j
    have h1 := mul_bd (A := 16) (B := 16) (show 0 ≤ (j : Int) ∧ (j : Int) ≤ 16 by omega) (show 0 ≤ (n : Int) ∧ (n : Int) ≤ 16 by omega)
    by_cases hlj : j < n
    · repeat' (first | ((conv => whnf); refine And.intro ?_ ?_) | ((conv => whnf); with_reducible exact VC.mk rfl) | ((conv => whnf); exact Ok.mk) | ((conv => whnf); exact True.intro) | ((conv => whnf); refine Nx.mk ?_) | ((conv => whnf); refine Fin.mk ?_) | ((conv => whnf); intro _))
      all_goals ((try refine VC.mk ?_); (try simp only [CL.ncell, CL.cnt, Int.toNat_natCast, decide_eq_true_eq, decide_eq_false_iff_not, Bool.not_eq_true, Bool.not_false, Bool.not_true, and_self, and_true, true_and, te3b, te4b, te3s, te4s, Nat.mul_one, Nat.zero_add, List.length_cons, List.length_nil, Bool.false_eq_true, Bool.true_eq_false] at *); (try omega))
      all_goals (try (simp only [List.length_append, List.length_cons, List.length_nil]; omega))
      refine ⟨j + 1, [], ⟨by omega, by omega⟩, ?_⟩
      repeat' (first | ((conv => whnf); refine And.intro ?_ ?_) | ((conv => whnf); with_reducible exact VC.mk rfl) | ((conv => whnf); exact Ok.mk) | ((conv => whnf); exact True.intro) | ((conv => whnf); refine Nx.mk ?_) | ((conv => whnf); refine Fin.mk ?_) | ((conv => whnf); intro _))
      all_goals ((try refine VC.mk ?_); (try simp only [CL.ncell, CL.cnt, Int.toNat_natCast, decide_eq_true_eq, decide_eq_false_iff_not, Bool.not_eq_true, Bool.not_false, Bool.not_true, and_self, and_true, true_and, te3b, te4b, te3s, te4s, Nat.mul_one, Nat.zero_add, List.length_cons, List.length_nil, Bool.false_eq_true, Bool.true_eq_false] at *); (try omega))
      all_goals (try (rw [e1]))
    · have : n = j := by omega
      subst this
      have e3 := linesTo_len n (n + i)
      have e4 := linesTo_succ n (n + i)
      rw [lineAt_col hlt] at e4
      repeat' (first | ((conv => whnf); refine And.intro ?_ ?_) | ((conv => whnf); with_reducible exact VC.mk rfl) | ((conv => whnf); exact Ok.mk) | ((conv => whnf); exact True.intro) | ((conv => whnf); refine Nx.mk ?_) | ((conv => whnf); refine Fin.mk ?_) | ((conv => whnf); intro _))
      all_goals ((try refine VC.mk ?_); (try simp only [CL.ncell, CL.cnt, Int.toNat_natCast, decide_eq_true_eq, decide_eq_false_iff_not, Bool.not_eq_true, Bool.not_false, Bool.not_true, and_self, and_true, true_and, te3b, te4b, te3s, te4s, Nat.mul_one, Nat.zero_add, List.length_cons, List.length_nil, Bool.false_eq_true, Bool.true_eq_false] at *); (try omega))
      all_goals (try (simp only [List.length_append, List.length_cons, List.length_nil]; omega))
      refine ⟨i + 1, [], ⟨by omega, by omega⟩, ?_⟩
      repeat' (first | ((conv => whnf); refine And.intro ?_ ?_) | ((conv => whnf); with_reducible exact VC.mk rfl) | ((conv => whnf); exact Ok.mk) | ((conv => whnf); exact True.intro) | ((conv => whnf); refine Nx.mk ?_) | ((conv => whnf); refine Fin.mk ?_) | ((conv => whnf); intro _))
      all_goals ((try refine VC.mk ?_); (try simp only [CL.ncell, CL.cnt, Int.toNat_natCast, decide_eq_true_eq, decide_eq_false_iff_not, Bool.not_eq_true, Bool.not_false, Bool.not_true, and_self, and_true, true_and, te3b, te4b, te3s, te4s, Nat.mul_one, Nat.zero_add, List.length_cons, List.length_nil, Bool.false_eq_true, Bool.true_eq_false] at *); (try omega))
      all_goals (try (rw [← Nat.add_assoc, e4]))
  have : n = i := by omega
  subst this
  have e3 := linesTo_len n (n + n)
  repeat' (first | ((conv => whnf); refine And.intro ?_ ?_) | ((conv => whnf); with_reducible exact VC.mk rfl) | ((conv => whnf); exact Ok.mk) | ((conv => whnf); exact True.intro) | ((conv => whnf); refine Nx.mk ?_) | ((conv => whnf); refine Fin.mk ?_) | ((conv => whnf); intro _))
  all_goals ((try refine VC.mk ?_); (try simp only [CL.ncell, CL.cnt, Int.toNat_natCast, decide_eq_true_eq, decide_eq_false_iff_not, Bool.not_eq_true, Bool.not_false, Bool.not_true, and_self, and_true, true_and, te3b, te4b, te3s, te4s, Nat.mul_one, Nat.zero_add, List.length_cons, List.length_nil, Bool.false_eq_true, Bool.true_eq_false] at *); (try omega))
  · rename_i hs
    have : lineCnt n (gOf s) = n + n := by
      have e : gOf s = 1 := by unfold gOf; rw [if_neg hsq, if_pos hs]
      rw [e]; unfold lineCnt; rw [if_neg (by omega), if_pos (by omega)]; omega
    rw [this]
    all_goals (first | (refine Sup.of ?_; first | rfl | (simp [*, resOf]; done)) | (refine Sup.via ?_; repeat' (first | ((conv => whnf); refine And.intro ?_ ?_) | ((conv => whnf); with_reducible exact VC.mk rfl) | ((conv => whnf); exact Ok.mk) | ((conv => whnf); exact True.intro) | ((conv => whnf); refine Nx.mk ?_) | ((conv => whnf); refine Fin.mk ?_) | ((conv => whnf); intro _)); all_goals ((try refine VC.mk ?_); (try simp only [CL.ncell, CL.cnt, Int.toNat_natCast, decide_eq_true_eq, decide_eq_false_iff_not, Bool.not_eq_true, Bool.not_false, Bool.not_true, and_self, and_true, true_and, te3b, te4b, te3s, te4s, Nat.mul_one, Nat.zero_add, List.length_cons, List.length_nil, Bool.false_eq_true, Bool.true_eq_false] at *); (try omega)); all_goals (try (simp [CL.sub]; done))))
  · rename_i hs
    simp only [List.length_append, List.length_cons, List.length_nil]; omega
  · rename_i hs1 hs
    have : lineCnt n (gOf s) = 2 * n + 2 := by
      have e : gOf s = 2 := by unfold gOf; rw [if_neg hsq, if_neg hs1, if_pos hs]
      rw [e]; unfold lineCnt; rw [if_neg (by omega), if_neg (by omega), if_pos (by omega)]
    rw [this, linesTo_two]
    all_goals (first | (refine Sup.of ?_; first | rfl | (simp [*, resOf]; done)) | (refine Sup.via ?_; repeat' (first | ((conv => whnf); refine And.intro ?_ ?_) | ((conv => whnf); with_reducible exact VC.mk rfl) | ((conv => whnf); exact Ok.mk) | ((conv => whnf); exact True.intro) | ((conv => whnf); refine Nx.mk ?_) | ((conv => whnf); refine Fin.mk ?_) | ((conv => whnf); intro _)); all_goals ((try refine VC.mk ?_); (try simp only [CL.ncell, CL.cnt, Int.toNat_natCast, decide_eq_true_eq, decide_eq_false_iff_not, Bool.not_eq_true, Bool.not_false, Bool.not_true, and_self, and_true, true_and, te3b, te4b, te3s, te4s, Nat.mul_one, Nat.zero_add, List.length_cons, List.length_nil, Bool.false_eq_true, Bool.true_eq_false] at *); (try omega)); all_goals (try (simp [CL.sub]; done))))
  rename_i hs1 hs2
  have hcnt : lineCnt n (gOf s) = 4 * n := by
    have e : gOf s = 3 := by unfold gOf; rw [if_neg hsq, if_neg hs1, if_neg hs2]
    rw [e]; unfold lineCnt; rw [if_neg (by omega), if_neg (by omega), if_neg (by omega)]
  rw [hcnt]
  simp only [linesTo_two]
  have e3 := linesTo_len n (2 * n + 2)
  generalize hL0 : linesTo n (2 * n + 2) = L0 at *
  try simp only [List.length_append, List.length_cons, List.length_nil]
  conv => whnf
  refine loop_of (X := Nat) (fun k => 1 ≤ k ∧ k ≤ n) (fun k => [(12, .int .i64 k), (5, .isl (.rows .i64 (linesTo n (2 * n + 1 + k))) (.own 0))]) (fun k => [(0, .tok 1 (2 * n + 1 + k))]) (fun k => n - k) 1 ⟨anyB_ok, mixed, tabOK, cpLn_ok, noY_ok⟩ (by rfl) (by omega) ?_ ?_
  · repeat' (first | ((conv => whnf); refine And.intro ?_ ?_) | ((conv => whnf); with_reducible exact VC.mk rfl) | ((conv => whnf); exact Ok.mk) | ((conv => whnf); exact True.intro) | ((conv => whnf); refine Nx.mk ?_) | ((conv => whnf); refine Fin.mk ?_) | ((conv => whnf); intro _))
    all_goals ((try refine VC.mk ?_); (try simp only [CL.ncell, CL.cnt, Int.toNat_natCast, decide_eq_true_eq, decide_eq_false_iff_not, Bool.not_eq_true, Bool.not_false, Bool.not_true, and_self, and_true, true_and, te3b, te4b, te3s, te4s, Nat.mul_one, Nat.zero_add, List.length_cons, List.length_nil, Bool.false_eq_true, Bool.true_eq_false] at *); (try omega))
    all_goals (try (rw [← hL0]; done))
  intro k hk
  have e3 := linesTo_len n (2 * n + 1 + k)
  have e4 := linesTo_succ n (2 * n + 1 + k)
  by_cases hlt : k < n
  · rw [← dg3 n k (by omega)] at e4
    repeat' (first | ((conv => whnf); refine And.intro ?_ ?_) | ((conv => whnf); with_reducible exact VC.mk rfl) | ((conv => whnf); exact Ok.mk) | ((conv => whnf); exact True.intro) | ((conv => whnf); refine Nx.mk ?_) | ((conv => whnf); refine Fin.mk ?_) | ((conv => whnf); intro _))
    all_goals ((try refine VC.mk ?_); (try simp only [CL.ncell, CL.cnt, Int.toNat_natCast, decide_eq_true_eq, decide_eq_false_iff_not, Bool.not_eq_true, Bool.not_false, Bool.not_true, and_self, and_true, true_and, te3b, te4b, te3s, te4s, Nat.mul_one, Nat.zero_add, List.length_cons, List.length_nil, Bool.false_eq_true, Bool.true_eq_false] at *); (try omega))
    all_goals (try (simp only [List.length_append, List.length_cons, List.length_nil]; omega))
    refine ⟨k + 1, [], ⟨by omega, by omega⟩, ?_⟩
    repeat' (first | ((conv => whnf); refine And.intro ?_ ?_) | ((conv => whnf); with_reducible exact VC.mk rfl) | ((conv => whnf); exact Ok.mk) | ((conv => whnf); exact True.intro) | ((conv => whnf); refine Nx.mk ?_) | ((conv => whnf); refine Fin.mk ?_) | ((conv => whnf); intro _))
    all_goals ((try refine VC.mk ?_); (try simp only [CL.ncell, CL.cnt, Int.toNat_natCast, decide_eq_true_eq, decide_eq_false_iff_not, Bool.not_eq_true, Bool.not_false, Bool.not_true, and_self, and_true, true_and, te3b, te4b, te3s, te4s, Nat.mul_one, Nat.zero_add, List.length_cons, List.length_nil, Bool.false_eq_true, Bool.true_eq_false] at *); (try omega))
    all_goals (try (rw [← Nat.add_assoc, e4]))
  have : n = k := by omega
  subst this
  repeat' (first | ((conv => whnf); refine And.intro ?_ ?_) | ((conv => whnf); with_reducible exact VC.mk rfl) | ((conv => whnf); exact Ok.mk) | ((conv => whnf); exact True.intro) | ((conv => whnf); refine Nx.mk ?_) | ((conv => whnf); refine Fin.mk ?_) | ((conv => whnf); intro _))
  all_goals ((try refine VC.mk ?_); (try simp only [CL.ncell, CL.cnt, Int.toNat_natCast, decide_eq_true_eq, decide_eq_false_iff_not, Bool.not_eq_true, Bool.not_false, Bool.not_true, and_self, and_true, true_and, te3b, te4b, te3s, te4s, Nat.mul_one, Nat.zero_add, List.length_cons, List.length_nil, Bool.false_eq_true, Bool.true_eq_false] at *); (try omega))
  conv => whnf
  refine loop_of (X := Nat) (fun k => k + 1 ≤ n) (fun k => [(13, .int .i64 k), (5, .isl (.rows .i64 (linesTo n (3 * n + 1 + k))) (.own 0))]) (fun k => [(0, .tok 1 (3 * n + 1 + k))]) (fun k => n - k) 0 ⟨anyB_ok, mixed, tabOK, cpLn_ok, noY_ok⟩ (by rfl) (by omega) ?_ ?_
  · have : 2 * n + 1 + n = 3 * n + 1 + 0 := by omega
    rw [this]
    repeat' (first | ((conv => whnf); refine And.intro ?_ ?_) | ((conv => whnf); with_reducible exact VC.mk rfl) | ((conv => whnf); exact Ok.mk) | ((conv => whnf); exact True.intro) | ((conv => whnf); refine Nx.mk ?_) | ((conv => whnf); refine Fin.mk ?_) | ((conv => whnf); intro _))
    all_goals ((try refine VC.mk ?_); (try simp only [CL.ncell, CL.cnt, Int.toNat_natCast, decide_eq_true_eq, decide_eq_false_iff_not, Bool.not_eq_true, Bool.not_false, Bool.not_true, and_self, and_true, true_and, te3b, te4b, te3s, te4s, Nat.mul_one, Nat.zero_add, List.length_cons, List.length_nil, Bool.false_eq_true, Bool.true_eq_false] at *); (try omega))
  intro k hk
  have e3 := linesTo_len n (3 * n + 1 + k)
  have e4 := linesTo_succ n (3 * n + 1 + k)
  by_cases hlt : k + 1 < n
  · rw [← dg4 n k hn.1 hlt] at e4
    repeat' (first | ((conv => whnf); refine And.intro ?_ ?_) | ((conv => whnf); with_reducible exact VC.mk rfl) | ((conv => whnf); exact Ok.mk) | ((conv => whnf); exact True.intro) | ((conv => whnf); refine Nx.mk ?_) | ((conv => whnf); refine Fin.mk ?_) | ((conv => whnf); intro _))
    all_goals ((try refine VC.mk ?_); (try simp only [CL.ncell, CL.cnt, Int.toNat_natCast, decide_eq_true_eq, decide_eq_false_iff_not, Bool.not_eq_true, Bool.not_false, Bool.not_true, and_self, and_true, true_and, te3b, te4b, te3s, te4s, Nat.mul_one, Nat.zero_add, List.length_cons, List.length_nil, Bool.false_eq_true, Bool.true_eq_false] at *); (try omega))
    all_goals (try (simp only [List.length_append, List.length_cons, List.length_nil]; omega))
    refine ⟨k + 1, [], ⟨by omega, by omega⟩, ?_⟩
    repeat' (first | ((conv => whnf); refine And.intro ?_ ?_) | ((conv => whnf); with_reducible exact VC.mk rfl) | ((conv => whnf); exact Ok.mk) | ((conv => whnf); exact True.intro) | ((conv => whnf); refine Nx.mk ?_) | ((conv => whnf); refine Fin.mk ?_) | ((conv => whnf); intro _))
    all_goals ((try refine VC.mk ?_); (try simp only [CL.ncell, CL.cnt, Int.toNat_natCast, decide_eq_true_eq, decide_eq_false_iff_not, Bool.not_eq_true, Bool.not_false, Bool.not_true, and_self, and_true, true_and, te3b, te4b, te3s, te4s, Nat.mul_one, Nat.zero_add, List.length_cons, List.length_nil, Bool.false_eq_true, Bool.true_eq_false] at *); (try omega))
    all_goals (try (rw [← Nat.add_assoc, e4]))
  · have : 3 * n + 1 + k = 4 * n := by omega
    rw [this]
    repeat' (first | ((conv => whnf); refine And.intro ?_ ?_) | ((conv => whnf); with_reducible exact VC.mk rfl) | ((conv => whnf); exact Ok.mk) | ((conv => whnf); exact True.intro) | ((conv => whnf); refine Nx.mk ?_) | ((conv => whnf); refine Fin.mk ?_) | ((conv => whnf); intro _))
    all_goals ((try refine VC.mk ?_); (try simp only [CL.ncell, CL.cnt, Int.toNat_natCast, decide_eq_true_eq, decide_eq_false_iff_not, Bool.not_eq_true, Bool.not_false, Bool.not_true, and_self, and_true, true_and, te3b, te4b, te3s, te4s, Nat.mul_one, Nat.zero_add, List.length_cons, List.length_nil, Bool.false_eq_true, Bool.true_eq_false] at *); (try omega))
    all_goals (first | (refine Sup.of ?_; first | rfl | (simp [*, resOf]; done)) | (refine Sup.via ?_; repeat' (first | ((conv => whnf); refine And.intro ?_ ?_) | ((conv => whnf); with_reducible exact VC.mk rfl) | ((conv => whnf); exact Ok.mk) | ((conv => whnf); exact True.intro) | ((conv => whnf); refine Nx.mk ?_) | ((conv => whnf); refine Fin.mk ?_) | ((conv => whnf); intro _)); all_goals ((try refine VC.mk ?_); (try simp only [CL.ncell, CL.cnt, Int.toNat_natCast, decide_eq_true_eq, decide_eq_false_iff_not, Bool.not_eq_true, Bool.not_false, Bool.not_true, and_self, and_true, true_and, te3b, te4b, te3s, te4s, Nat.mul_one, Nat.zero_add, List.length_cons, List.length_nil, Bool.false_eq_true, Bool.true_eq_false] at *); (try omega)); all_goals (try (simp [CL.sub]; done))))
theorem Lines_spec' {n : Int} {s : ByteArray} (hn : 1 ≤ n ∧ n ≤ 16) : PSpec Try.prog 105 [.int .i64 n, .str s] (.isl (.rows .i64 (linesTo n.toNat (lineCnt n.toNat (gOf s)))) .none) := by
  have := Lines_spec n.toNat (by omega) s
  rwa [Int.toNat_of_nonneg (by omega)] at this
def LinesP : PSp := fun xs K => match xs with
  | [.int .i64 n, .str s] => VC (1 ≤ n ∧ n ≤ 16) ∧ K (.isl (.rows .i64 (linesTo n.toNat (lineCnt n.toNat (gOf s)))) .none)
  | _ => False
theorem Lines_ok : POK Try.prog 105 LinesP := by
  intro xs K h
  unfold LinesP at h
  split at h
  · exact ⟨_, h.2, Lines_spec' h.1.get⟩
  · exact h.elim
end Go.Eng.Ytppflbccfdbogaa
namespace Go.Eng.Ytppflbccfdbogaa
open Go.Proofs
set_option maxRecDepth 100000
set_option maxHeartbeats 0
set_option linter.unusedVariables false
set_option linter.unusedSimpArgs false
theorem CheckKind_spec (s : ByteArray) : PSpec Try.prog 20 [.str s] (.int .i64 (kindErr s)) := by
  refine pspec_of (md := 0) (rf := []) mixed tabOK noC_ok Try.func20 (by rfl) (by rfl) (by rfl) ?_
  repeat' (first | ((conv => whnf); refine And.intro ?_ ?_) | ((conv => whnf); with_reducible exact VC.mk rfl) | ((conv => whnf); exact Ok.mk) | ((conv => whnf); exact True.intro) | ((conv => whnf); refine Nx.mk ?_) | ((conv => whnf); refine Fin.mk ?_) | ((conv => whnf); intro _))
  all_goals ((try refine VC.mk ?_); (try simp only [CL.ncell, CL.cnt, Int.toNat_natCast, decide_eq_true_eq, decide_eq_false_iff_not, Bool.not_eq_true, Bool.not_false, Bool.not_true, and_self, and_true, true_and, te3b, te4b, te3s, te4s, Nat.mul_one, Nat.zero_add, List.length_cons, List.length_nil, Bool.false_eq_true, Bool.true_eq_false] at *); (try omega))
  all_goals (refine Sup.of ?_; simp_all [resOf, kindErr])
def CheckKindP : PSp := fun xs K => match xs with
  | [.str s] => VC (True) ∧ K (.int .i64 (kindErr s))
  | _ => False
theorem CheckKind_ok : POK Try.prog 20 CheckKindP := by
  intro xs K h
  unfold CheckKindP at h
  split at h
  · exact ⟨_, h.2, CheckKind_spec _⟩
  · exact h.elim
/-! the first line with another sum -/
theorem badLine_none {n : Nat} {g : Int} {l : List Int} (h : ∀ j, j < lineCnt n g → lineOk n l j = true) : badLine n g l = none := by
  unfold badLine
  rw [List.find?_eq_none]
  intro i hi
  simp [h i (List.mem_range.1 hi)]
theorem badLine_some {n : Nat} {g : Int} {l : List Int} {i : Nat} (hi : i < lineCnt n g) (h : ∀ j, j < i → lineOk n l j = true) (hb : lineOk n l i = false) : badLine n g l = some i := by
  unfold badLine
  rw [List.find?_range_eq_some]
  exact ⟨by simp [hb], by simpa using hi, fun j hj => by simp [h j hj]⟩
def failsV (n : Nat) (g : Int) (l : List Int) : PV := match badLine n g l with
  | some i => .tup [.isl (.ints .i64 (lineAt n i)) .none, .bp true]
  | none => .tup [.isl (.ints .i64 []) .none, .bp false]
theorem lineCnt_le (n : Nat) (g : Int) : lineCnt n g ≤ 4 * n + 2 := by unfold lineCnt; split <;> (try split) <;> (try split) <;> omega
noncomputable def cpFa : CPT := cpAdd 105 (pureCC LinesP) (cpAdd 71 (pureCC rSumP) (cpAdd 72 (pureCC ConstantP) noC))
theorem cpFa_ok : CPOK Try.prog cpFa := cpAdd_ok (pureCC_ok Lines_ok) (cpAdd_ok (pureCC_ok rSum_ok) (cpAdd_ok (pureCC_ok Constant_ok) noC_ok))
theorem Fails_spec (n : Nat) (c : Int) (l : List Int) (s : ByteArray) (hn : 1 ≤ n ∧ n ≤ 16) (hl : l.length = n * n) (hv : ∀ x ∈ l, 0 ≤ x ∧ x ≤ 1000) : PSpec Try.prog 54 [gridV n c l, .str s] (failsV n (gOf s) l) := by
  have hg : ∀ c : Int, 0 ≤ c → c < (n : Int) * n → 0 ≤ l.getD c.toNat 0 ∧ l.getD c.toNat 0 ≤ 1000 := fun c h1 h2 => by
    rw [List.getD_eq_getElem?_getD]
    cases h : l[c.toNat]? with
    | none => simp
    | some v => simpa using hv v (List.mem_of_getElem? h)
  have hll : (l.length : Int) = (n : Int) * n := by rw [hl]; push_cast; rfl
  refine pspec_of (md := 0) (rf := []) mixed tabOK cpFa_ok Try.func54 (by rfl) (by rfl) (by rfl) ?_
  repeat' (first | ((conv => whnf); refine And.intro ?_ ?_) | ((conv => whnf); with_reducible exact VC.mk rfl) | ((conv => whnf); exact Ok.mk) | ((conv => whnf); exact True.intro) | ((conv => whnf); refine Nx.mk ?_) | ((conv => whnf); refine Fin.mk ?_) | ((conv => whnf); intro _))
  all_goals ((try refine VC.mk ?_); (try simp only [CL.ncell, CL.cnt, Int.toNat_natCast, decide_eq_true_eq, decide_eq_false_iff_not, Bool.not_eq_true, Bool.not_false, Bool.not_true, and_self, and_true, true_and, te3b, te4b, te3s, te4s, Nat.mul_one, Nat.zero_add, List.length_cons, List.length_nil, Bool.false_eq_true, Bool.true_eq_false] at *); (try omega))
  generalize hcnt : lineCnt n (gOf s) = cnt at *
  conv => whnf
  refine loop_of (X := Nat) (fun i => i ≤ cnt ∧ ∀ j, j < i → lineOk n l j = true) (fun i => [(7, .int .i64 i)]) (fun i => []) (fun i => cnt - i) 0 ⟨anyB_ok, mixed, tabOK, cpFa_ok, noY_ok⟩ (by rfl) ⟨by omega, fun j hj => by omega⟩ ?_ ?_
  · repeat' (first | ((conv => whnf); refine And.intro ?_ ?_) | ((conv => whnf); with_reducible exact VC.mk rfl) | ((conv => whnf); exact Ok.mk) | ((conv => whnf); exact True.intro) | ((conv => whnf); refine Nx.mk ?_) | ((conv => whnf); refine Fin.mk ?_) | ((conv => whnf); intro _))
    all_goals ((try refine VC.mk ?_); (try simp only [CL.ncell, CL.cnt, Int.toNat_natCast, decide_eq_true_eq, decide_eq_false_iff_not, Bool.not_eq_true, Bool.not_false, Bool.not_true, and_self, and_true, true_and, te3b, te4b, te3s, te4s, Nat.mul_one, Nat.zero_add, List.length_cons, List.length_nil, Bool.false_eq_true, Bool.true_eq_false] at *); (try omega))
  rintro i ⟨hi, hok⟩
  have e1 := linesTo_len n cnt
  by_cases hlt : i < cnt
  · have e2 := linesTo_get n cnt i hlt
    have hm := fun c hc => lineAt_mem (n := n) (i := i) c hc
    have e3 := lineAt_len n i
    have hb := sumAt_bd l (lineAt n i) (fun c hc => hg c (hm c hc).1 (hm c hc).2)
    have hc4 := lineCnt_le n (gOf s)
    repeat' (first | ((conv => whnf); refine And.intro ?_ ?_) | ((conv => whnf); with_reducible exact VC.mk rfl) | ((conv => whnf); exact Ok.mk) | ((conv => whnf); exact True.intro) | ((conv => whnf); refine Nx.mk ?_) | ((conv => whnf); refine Fin.mk ?_) | ((conv => whnf); intro _))
    all_goals ((try refine VC.mk ?_); (try simp only [CL.ncell, CL.cnt, Int.toNat_natCast, decide_eq_true_eq, decide_eq_false_iff_not, Bool.not_eq_true, Bool.not_false, Bool.not_true, and_self, and_true, true_and, te3b, te4b, te3s, te4s, Nat.mul_one, Nat.zero_add, List.length_cons, List.length_nil, Bool.false_eq_true, Bool.true_eq_false] at *); (try omega))
    all_goals (try simp only [e2] at *)
    · refine ⟨fun x hx => by have := hm x hx; omega, by omega, fun j hj => ?_⟩
      have := hb j hj
      rw [e3] at hj
      omega
    · rename_i hbad
      have : failsV n (gOf s) l = .tup [.isl (.ints .i64 (lineAt n i)) .none, .bp true] := by
        unfold failsV
        rw [badLine_some (i := i) (by omega) hok (by unfold lineOk lineSum; rw [e3] at hbad; simpa using hbad)]
      rw [this]
      all_goals (refine Sup.via ?_; repeat' (first | ((conv => whnf); refine And.intro ?_ ?_) | ((conv => whnf); with_reducible exact VC.mk rfl) | ((conv => whnf); exact Ok.mk) | ((conv => whnf); exact True.intro) | ((conv => whnf); refine Nx.mk ?_) | ((conv => whnf); refine Fin.mk ?_) | ((conv => whnf); intro _)); all_goals ((try refine VC.mk ?_); (try simp only [CL.ncell, CL.cnt, Int.toNat_natCast, decide_eq_true_eq, decide_eq_false_iff_not, Bool.not_eq_true, Bool.not_false, Bool.not_true, and_self, and_true, true_and, te3b, te4b, te3s, te4s, Nat.mul_one, Nat.zero_add, List.length_cons, List.length_nil, Bool.false_eq_true, Bool.true_eq_false] at *); (try omega)); all_goals (try (simp [CL.sub]; done)))
    · rename_i hgood
      refine ⟨i + 1, [], ⟨⟨by omega, fun j hj => ?_⟩, by omega⟩, ?_⟩
      · by_cases e : j = i
        · subst e; unfold lineOk lineSum; rw [e3] at hgood; simpa using hgood
        · exact hok j (by omega)
      · repeat' (first | ((conv => whnf); refine And.intro ?_ ?_) | ((conv => whnf); with_reducible exact VC.mk rfl) | ((conv => whnf); exact Ok.mk) | ((conv => whnf); exact True.intro) | ((conv => whnf); refine Nx.mk ?_) | ((conv => whnf); refine Fin.mk ?_) | ((conv => whnf); intro _))
        all_goals ((try refine VC.mk ?_); (try simp only [CL.ncell, CL.cnt, Int.toNat_natCast, decide_eq_true_eq, decide_eq_false_iff_not, Bool.not_eq_true, Bool.not_false, Bool.not_true, and_self, and_true, true_and, te3b, te4b, te3s, te4s, Nat.mul_one, Nat.zero_add, List.length_cons, List.length_nil, Bool.false_eq_true, Bool.true_eq_false] at *); (try omega))
  · have : cnt = i := by omega
    subst this
    have : failsV n (gOf s) l = .tup [.isl (.ints .i64 []) .none, .bp false] := by unfold failsV; rw [badLine_none (by rw [hcnt]; exact hok)]
    rw [this]
    repeat' (first | ((conv => whnf); refine And.intro ?_ ?_) | ((conv => whnf); with_reducible exact VC.mk rfl) | ((conv => whnf); exact Ok.mk) | ((conv => whnf); exact True.intro) | ((conv => whnf); refine Nx.mk ?_) | ((conv => whnf); refine Fin.mk ?_) | ((conv => whnf); intro _))
    all_goals ((try refine VC.mk ?_); (try simp only [CL.ncell, CL.cnt, Int.toNat_natCast, decide_eq_true_eq, decide_eq_false_iff_not, Bool.not_eq_true, Bool.not_false, Bool.not_true, and_self, and_true, true_and, te3b, te4b, te3s, te4s, Nat.mul_one, Nat.zero_add, List.length_cons, List.length_nil, Bool.false_eq_true, Bool.true_eq_false] at *); (try omega))
    all_goals (first | (refine Sup.of ?_; first | rfl | (simp [*, resOf]; done)) | (refine Sup.via ?_; repeat' (first | ((conv => whnf); refine And.intro ?_ ?_) | ((conv => whnf); with_reducible exact VC.mk rfl) | ((conv => whnf); exact Ok.mk) | ((conv => whnf); exact True.intro) | ((conv => whnf); refine Nx.mk ?_) | ((conv => whnf); refine Fin.mk ?_) | ((conv => whnf); intro _)); all_goals ((try refine VC.mk ?_); (try simp only [CL.ncell, CL.cnt, Int.toNat_natCast, decide_eq_true_eq, decide_eq_false_iff_not, Bool.not_eq_true, Bool.not_false, Bool.not_true, and_self, and_true, true_and, te3b, te4b, te3s, te4s, Nat.mul_one, Nat.zero_add, List.length_cons, List.length_nil, Bool.false_eq_true, Bool.true_eq_false] at *); (try omega)); all_goals (try (simp [CL.sub]; done))))
/-! refusals -/
def failsL (n : Nat) (g : Int) (l : List Int) : List Int := match badLine n g l with | some i => lineAt n i | none => []
theorem failsV_eq (n : Nat) (g : Int) (l : List Int) : failsV n g l = .tup [.isl (.ints .i64 (failsL n g l)) .none, .bp (badLine n g l).isSome] := by
  unfold failsV failsL; cases badLine n g l <;> rfl
def refuseR (n : Nat) (c : Nat → Nat) (g : Int) : PV := match meetOf c (n * n) with
  | some y => .tup [refV kMeet ((gAt c (n * n) y).getD (c y) 0) ((y : Int) + 1) [] 0, .bp true]
  | none => match badLine n g (gAt c (n * n) (n * n)) with
    | some i => .tup [refV kSum 0 0 (lineAt n i) (lineSum n (gAt c (n * n) (n * n)) i), .bp true]
    | none => .tup [refV kNo 0 0 [] 0, .bp false]
theorem rRefuse_spec (n : Nat) (s0 s1 x0 x1 b0 b1 : Int) (s : ByteArray) (hn : 1 ≤ n ∧ n ≤ 16) (h : ∀ x ∈ [s0, s1, x0, x1, b0, b1], -999999999 ≤ x ∧ x ≤ 999999999) :
    PSpec Try.prog 22 [stepV n s0 s1 x0 x1 b0 b1, .str s] (refuseR n (cellS n s0 s1 x0 x1 b0 b1) (gOf s)) := by
  have hM := rMeet_spec n s0 s1 x0 x1 b0 b1 (by omega) h
  have hU := rUniform_spec n s0 s1 x0 x1 b0 b1 (by omega) h
  have eN : ((n : Int) * n).toNat = n * n := by rw [← Int.natCast_mul, Int.toNat_natCast]
  rw [eN] at hM hU
  generalize cellS n s0 s1 x0 x1 b0 b1 = c at *
  have hb := mul_bd (show 0 ≤ (n : Int) ∧ (n : Int) ≤ 16 by omega) (show 0 ≤ (n : Int) ∧ (n : Int) ≤ 16 by omega)
  have hnn : ((n * n : Nat) : Int) = (n : Int) * n := by push_cast; rfl
  have hgl := gAt_len c (n * n) (n * n)
  have hgv : ∀ x ∈ gAt c (n * n) (n * n), 0 ≤ x ∧ x ≤ 1000 := fun x hx => by
    have h1 := gAt_nonneg c _ _ x hx
    have h2 := gAt_le c _ _ x hx
    omega
  have hF := Fails_spec n n (gAt c (n * n) (n * n)) s hn hgl hgv
  unfold refuseR
  unfold meetV at hM
  generalize gAt c (n * n) (n * n) = l at *
  cases hm : meetOf c (n * n) with
  | some y =>
    rw [hm] at hM
    have hC := cpAdd_ok (pureCC_ok (atC_ok (C := True) fun _ => hM)) noC_ok
    refine pspec_of (md := 1) (rf := []) mixed tabOK hC Try.func22 (by rfl) (by rfl) (by rfl) ?_
    repeat' (first | ((conv => whnf); refine And.intro ?_ ?_) | ((conv => whnf); with_reducible exact VC.mk rfl) | ((conv => whnf); exact Ok.mk) | ((conv => whnf); exact True.intro) | ((conv => whnf); refine Nx.mk ?_) | ((conv => whnf); refine Fin.mk ?_) | ((conv => whnf); intro _))
    all_goals ((try refine VC.mk ?_); (try simp only [CL.ncell, CL.cnt, Int.toNat_natCast, decide_eq_true_eq, decide_eq_false_iff_not, Bool.not_eq_true, Bool.not_false, Bool.not_true, and_self, and_true, true_and, te3b, te4b, te3s, te4s, Nat.mul_one, Nat.zero_add, List.length_cons, List.length_nil, Bool.false_eq_true, Bool.true_eq_false] at *); (try omega))
    all_goals (refine Sup.via ?_; repeat' (first | ((conv => whnf); refine And.intro ?_ ?_) | ((conv => whnf); with_reducible exact VC.mk rfl) | ((conv => whnf); exact Ok.mk) | ((conv => whnf); exact True.intro) | ((conv => whnf); refine Nx.mk ?_) | ((conv => whnf); refine Fin.mk ?_) | ((conv => whnf); intro _)); all_goals ((try refine VC.mk ?_); (try simp only [CL.ncell, CL.cnt, Int.toNat_natCast, decide_eq_true_eq, decide_eq_false_iff_not, Bool.not_eq_true, Bool.not_false, Bool.not_true, and_self, and_true, true_and, te3b, te4b, te3s, te4s, Nat.mul_one, Nat.zero_add, List.length_cons, List.length_nil, Bool.false_eq_true, Bool.true_eq_false] at *); (try omega)); all_goals (try (simp [CL.sub]; done)))
  | none =>
    rw [hm] at hM
    rw [failsV_eq] at hF
    cases hb : badLine n (gOf s) l with
    | none =>
      rw [hb] at hF
      have hC := cpAdd_ok (pureCC_ok (atC_ok (C := True) fun _ => hM)) (cpAdd_ok (pureCC_ok (atC_ok (C := True) fun _ => hU)) (cpAdd_ok (pureCC_ok (atC_ok (C := True) fun _ => hF)) noC_ok))
      refine pspec_of (md := 1) (rf := []) mixed tabOK hC Try.func22 (by rfl) (by rfl) (by rfl) ?_
      repeat' (first | ((conv => whnf); refine And.intro ?_ ?_) | ((conv => whnf); with_reducible exact VC.mk rfl) | ((conv => whnf); exact Ok.mk) | ((conv => whnf); exact True.intro) | ((conv => whnf); refine Nx.mk ?_) | ((conv => whnf); refine Fin.mk ?_) | ((conv => whnf); intro _))
      all_goals ((try refine VC.mk ?_); (try simp only [CL.ncell, CL.cnt, Int.toNat_natCast, decide_eq_true_eq, decide_eq_false_iff_not, Bool.not_eq_true, Bool.not_false, Bool.not_true, and_self, and_true, true_and, te3b, te4b, te3s, te4s, Nat.mul_one, Nat.zero_add, List.length_cons, List.length_nil, Bool.false_eq_true, Bool.true_eq_false] at *); (try omega))
      all_goals (try (exfalso; simp_all; done))
      all_goals (refine Sup.via ?_; repeat' (first | ((conv => whnf); refine And.intro ?_ ?_) | ((conv => whnf); with_reducible exact VC.mk rfl) | ((conv => whnf); exact Ok.mk) | ((conv => whnf); exact True.intro) | ((conv => whnf); refine Nx.mk ?_) | ((conv => whnf); refine Fin.mk ?_) | ((conv => whnf); intro _)); all_goals ((try refine VC.mk ?_); (try simp only [CL.ncell, CL.cnt, Int.toNat_natCast, decide_eq_true_eq, decide_eq_false_iff_not, Bool.not_eq_true, Bool.not_false, Bool.not_true, and_self, and_true, true_and, te3b, te4b, te3s, te4s, Nat.mul_one, Nat.zero_add, List.length_cons, List.length_nil, Bool.false_eq_true, Bool.true_eq_false] at *); (try omega)); all_goals (try (simp [CL.sub]; done)))
    | some i =>
      rw [hb] at hF
      have hi : i < lineCnt n (gOf s) := by
        unfold badLine at hb
        have := List.mem_of_find?_eq_some hb
        simpa using this
      have hL : failsL n (gOf s) l = lineAt n i := by unfold failsL; rw [hb]
      rw [hL] at hF
      have hm := fun c hc => lineAt_mem (n := n) (i := i) c hc
      have e3 := lineAt_len n i
      have hg : ∀ c : Int, 0 ≤ c → c < (n : Int) * n → 0 ≤ l.getD c.toNat 0 ∧ l.getD c.toNat 0 ≤ 1000 := fun c h1 h2 => by
        rw [List.getD_eq_getElem?_getD]
        cases h : l[c.toNat]? with
        | none => simp
        | some v => simpa using hgv v (List.mem_of_getElem? h)
      have hbd := sumAt_bd l (lineAt n i) (fun c hc => hg c (hm c hc).1 (hm c hc).2)
      have hS := rSum_spec n n l (lineAt n i) (fun x hx => by have := hm x hx; omega) (by omega) (fun j hj => by have := hbd j hj; omega)
      have hC := cpAdd_ok (pureCC_ok (atC_ok (C := True) fun _ => hM)) (cpAdd_ok (pureCC_ok (atC_ok (C := True) fun _ => hU)) (cpAdd_ok (pureCC_ok (atC_ok (C := True) fun _ => hF)) (cpAdd_ok (pureCC_ok (atC_ok (C := True) fun _ => hS)) noC_ok)))
      refine pspec_of (md := 1) (rf := []) mixed tabOK hC Try.func22 (by rfl) (by rfl) (by rfl) ?_
      repeat' (first | ((conv => whnf); refine And.intro ?_ ?_) | ((conv => whnf); with_reducible exact VC.mk rfl) | ((conv => whnf); exact Ok.mk) | ((conv => whnf); exact True.intro) | ((conv => whnf); refine Nx.mk ?_) | ((conv => whnf); refine Fin.mk ?_) | ((conv => whnf); intro _))
      all_goals ((try refine VC.mk ?_); (try simp only [CL.ncell, CL.cnt, Int.toNat_natCast, decide_eq_true_eq, decide_eq_false_iff_not, Bool.not_eq_true, Bool.not_false, Bool.not_true, and_self, and_true, true_and, te3b, te4b, te3s, te4s, Nat.mul_one, Nat.zero_add, List.length_cons, List.length_nil, Bool.false_eq_true, Bool.true_eq_false] at *); (try omega))
      all_goals (try (exfalso; simp_all; done))
      rw [e3]
      unfold lineSum
      all_goals (refine Sup.via ?_; repeat' (first | ((conv => whnf); refine And.intro ?_ ?_) | ((conv => whnf); with_reducible exact VC.mk rfl) | ((conv => whnf); exact Ok.mk) | ((conv => whnf); exact True.intro) | ((conv => whnf); refine Nx.mk ?_) | ((conv => whnf); refine Fin.mk ?_) | ((conv => whnf); intro _)); all_goals ((try refine VC.mk ?_); (try simp only [CL.ncell, CL.cnt, Int.toNat_natCast, decide_eq_true_eq, decide_eq_false_iff_not, Bool.not_eq_true, Bool.not_false, Bool.not_true, and_self, and_true, true_and, te3b, te4b, te3s, te4s, Nat.mul_one, Nat.zero_add, List.length_cons, List.length_nil, Bool.false_eq_true, Bool.true_eq_false] at *); (try omega)); all_goals (try (simp [CL.sub]; done)))
end Go.Eng.Ytppflbccfdbogaa
namespace Go.Eng.Ytppflbccfdbogaa
open Go.Proofs
set_option maxRecDepth 100000
set_option maxHeartbeats 0
set_option linter.unusedVariables false
set_option linter.unusedSimpArgs false
def insN (x : Nat) : List Nat → List Nat
  | [] => [x]
  | y :: r => match Nat.ble x y with
    | true => x :: y :: r
    | false => y :: insN x r
def isortN : List Nat → List Nat
  | [] => []
  | x :: r => insN x (isortN r)
theorem insN_perm (x : Nat) : ∀ l, (insN x l).Perm (x :: l)
  | [] => .refl _
  | y :: r => by
    unfold insN
    split
    · exact .refl _
    · exact ((insN_perm x r).cons y).trans (.swap x y r)
theorem isortN_perm : ∀ l, (isortN l).Perm l
  | [] => .refl _
  | x :: r => (insN_perm x _).trans ((isortN_perm r).cons x)
theorem seen_false (m : Nat) (l : List Int) (i v : Nat) (h : ∀ x ∈ l.take i, x.toNat ≠ v) : (seenAt m l i).getD v false = false := by
  unfold seenAt
  have : ∀ (k : List Int) (s : List Bool), (∀ x ∈ k, x.toNat ≠ v) → s.getD v false = false → (k.foldl (fun s x => s.set x.toNat true) s).getD v false = false := by
    intro k
    induction k with
    | nil => intro s _ hs; exact hs
    | cons x r ih =>
      intro s hk hs
      refine ih _ (fun y hy => hk y (List.mem_cons_of_mem _ hy)) ?_
      rw [List.getD_eq_getElem?_getD, List.getElem?_set_ne (hk x List.mem_cons_self), ← List.getD_eq_getElem?_getD, hs]
  refine this _ _ h ?_
  rw [List.getD_eq_getElem?_getD, List.getElem?_replicate]
  split <;> rfl
theorem isNorm_sort {l : List Int} {N : Nat} (hl : l.length = N) (h : isortN (l.map Int.toNat) = List.range' 1 N) : isNorm l = true := by
  have hp := isortN_perm (l.map Int.toNat)
  rw [h] at hp
  have hn : (l.map Int.toNat).Nodup := hp.nodup_iff.1 List.nodup_range'
  unfold isNorm distinctIn
  refine all_true fun i hi => ?_
  have hm : (l[i]).toNat ∈ List.range' 1 N := hp.mem_iff.2 (List.mem_map_of_mem (List.getElem_mem _))
  rw [List.mem_range'_1] at hm
  have eg : l.getD i 0 = l[i] := by rw [List.getD_eq_getElem?_getD, List.getElem?_eq_getElem hi]; rfl
  unfold okAt
  rw [eg, seen_false]
  · rw [decide_eq_true (by omega)]; rfl
  · intro x hx
    obtain ⟨j, hj, rfl⟩ := List.mem_iff_getElem.1 hx
    rw [List.length_take] at hj
    rw [List.getElem_take]
    have := (List.pairwise_iff_getElem.1 hn) j i (by simp; omega) (by simp; omega) (by omega)
    simpa using this
def assocB (n : Nat) (l : List Int) : Bool := (List.range (n * n)).all fun i => decide (l.getD i 0 + l.getD (n * n - 1 - i) 0 = (n : Int) * n + 1)
def goodB (n : Nat) (g : Int) (l : List Int) : Bool := Nat.beq l.length (n * n) && (decide (isortN (l.map Int.toNat) = List.range' 1 (n * n)) && (badLine n g l).isNone)
structure GoodSq (n : Nat) (g : Int) (l : List Int) : Prop where
  len : l.length = n * n
  norm : isNorm l = true
  bad : badLine n g l = none
theorem goodB_ok {n : Nat} {g : Int} {l : List Int} (h : goodB n g l = true) : GoodSq n g l := by
  unfold goodB at h
  rw [Bool.and_eq_true, Bool.and_eq_true, decide_eq_true_eq] at h
  have h1 := Nat.eq_of_beq_eq_true h.1
  refine ⟨h1, isNorm_sort h1 h.2.1, ?_⟩
  have := h.2.2
  cases hb : badLine n g l with
  | none => rfl
  | some x => rw [hb] at this; simp at this
def tabM : List (List Int) := [[1], [], [8, 1, 6, 3, 5, 7, 4, 9, 2], [16, 2, 3, 13, 5, 11, 10, 8, 9, 7, 6, 12, 4, 14, 15, 1], [17, 24, 1, 8, 15, 23, 5, 7, 14, 16, 4, 6, 13, 20, 22, 10, 12, 19, 21, 3, 11, 18, 25, 2, 9], [35, 1, 6, 26, 19, 24, 3, 32, 7, 21, 23, 25, 31, 9, 2, 22, 27, 20, 8, 28, 33, 17, 10, 15, 30, 5, 34, 12, 14, 16, 4, 36, 29, 13, 18, 11], [30, 39, 48, 1, 10, 19, 28, 38, 47, 7, 9, 18, 27, 29, 46, 6, 8, 17, 26, 35, 37, 5, 14, 16, 25, 34, 36, 45, 13, 15, 24, 33, 42, 44, 4, 21, 23, 32, 41, 43, 3, 12, 22, 31, 40, 49, 2, 11, 20], [64, 2, 3, 61, 60, 6, 7, 57, 9, 55, 54, 12, 13, 51, 50, 16, 17, 47, 46, 20, 21, 43, 42, 24, 40, 26, 27, 37, 36, 30, 31, 33, 32, 34, 35, 29, 28, 38, 39, 25, 41, 23, 22, 44, 45, 19, 18, 48, 49, 15, 14, 52, 53, 11, 10, 56, 8, 58, 59, 5, 4, 62, 63, 1], [47, 58, 69, 80, 1, 12, 23, 34, 45, 57, 68, 79, 9, 11, 22, 33, 44, 46, 67, 78, 8, 10, 21, 32, 43, 54, 56, 77, 7, 18, 20, 31, 42, 53, 55, 66, 6, 17, 19, 30, 41, 52, 63, 65, 76, 16, 27, 29, 40, 51, 62, 64, 75, 5, 26, 28, 39, 50, 61, 72, 74, 4, 15, 36, 38, 49, 60, 71, 73, 3, 14, 25, 37, 48, 59, 70, 81, 2, 13, 24, 35], [92, 99, 1, 8, 15, 67, 74, 51, 58, 40, 98, 80, 7, 14, 16, 73, 55, 57, 64, 41, 4, 81, 88, 20, 22, 54, 56, 63, 70, 47, 85, 87, 19, 21, 3, 60, 62, 69, 71, 28, 86, 93, 25, 2, 9, 61, 68, 75, 52, 34, 17, 24, 76, 83, 90, 42, 49, 26, 33, 65, 23, 5, 82, 89, 91, 48, 30, 32, 39, 66, 79, 6, 13, 95, 97, 29, 31, 38, 45, 72, 10, 12, 94, 96, 78, 35, 37, 44, 46, 53, 11, 18, 100, 77, 84, 36, 43, 50, 27, 59], [68, 81, 94, 107, 120, 1, 14, 27, 40, 53, 66, 80, 93, 106, 119, 11, 13, 26, 39, 52, 65, 67, 92, 105, 118, 10, 12, 25, 38, 51, 64, 77, 79, 104, 117, 9, 22, 24, 37, 50, 63, 76, 78, 91, 116, 8, 21, 23, 36, 49, 62, 75, 88, 90, 103, 7, 20, 33, 35, 48, 61, 74, 87, 89, 102, 115, 19, 32, 34, 47, 60, 73, 86, 99, 101, 114, 6, 31, 44, 46, 59, 72, 85, 98, 100, 113, 5, 18, 43, 45, 58, 71, 84, 97, 110, 112, 4, 17, 30, 55, 57, 70, 83, 96, 109, 111, 3, 16, 29, 42, 56, 69, 82, 95, 108, 121, 2, 15, 28, 41, 54], [144, 2, 3, 141, 140, 6, 7, 137, 136, 10, 11, 133, 13, 131, 130, 16, 17, 127, 126, 20, 21, 123, 122, 24, 25, 119, 118, 28, 29, 115, 114, 32, 33, 111, 110, 36, 108, 38, 39, 105, 104, 42, 43, 101, 100, 46, 47, 97, 96, 50, 51, 93, 92, 54, 55, 89, 88, 58, 59, 85, 61, 83, 82, 64, 65, 79, 78, 68, 69, 75, 74, 72, 73, 71, 70, 76, 77, 67, 66, 80, 81, 63, 62, 84, 60, 86, 87, 57, 56, 90, 91, 53, 52, 94, 95, 49, 48, 98, 99, 45, 44, 102, 103, 41, 40, 106, 107, 37, 109, 35, 34, 112, 113, 31, 30, 116, 117, 27, 26, 120, 121, 23, 22, 124, 125, 19, 18, 128, 129, 15, 14, 132, 12, 134, 135, 9, 8, 138, 139, 5, 4, 142, 143, 1], [93, 108, 123, 138, 153, 168, 1, 16, 31, 46, 61, 76, 91, 107, 122, 137, 152, 167, 13, 15, 30, 45, 60, 75, 90, 92, 121, 136, 151, 166, 12, 14, 29, 44, 59, 74, 89, 104, 106, 135, 150, 165, 11, 26, 28, 43, 58, 73, 88, 103, 105, 120, 149, 164, 10, 25, 27, 42, 57, 72, 87, 102, 117, 119, 134, 163, 9, 24, 39, 41, 56, 71, 86, 101, 116, 118, 133, 148, 8, 23, 38, 40, 55, 70, 85, 100, 115, 130, 132, 147, 162, 22, 37, 52, 54, 69, 84, 99, 114, 129, 131, 146, 161, 7, 36, 51, 53, 68, 83, 98, 113, 128, 143, 145, 160, 6, 21, 50, 65, 67, 82, 97, 112, 127, 142, 144, 159, 5, 20, 35, 64, 66, 81, 96, 111, 126, 141, 156, 158, 4, 19, 34, 49, 78, 80, 95, 110, 125, 140, 155, 157, 3, 18, 33, 48, 63, 79, 94, 109, 124, 139, 154, 169, 2, 17, 32, 47, 62, 77], [177, 186, 195, 1, 10, 19, 28, 128, 137, 146, 99, 108, 68, 77, 185, 194, 154, 9, 18, 27, 29, 136, 145, 105, 107, 116, 76, 78, 193, 153, 155, 17, 26, 35, 37, 144, 104, 106, 115, 124, 84, 86, 5, 161, 163, 172, 34, 36, 45, 103, 112, 114, 123, 132, 85, 94, 160, 162, 171, 33, 42, 44, 4, 111, 113, 122, 131, 140, 93, 53, 168, 170, 179, 41, 43, 3, 12, 119, 121, 130, 139, 141, 52, 61, 169, 178, 187, 49, 2, 11, 20, 120, 129, 138, 147, 100, 60, 69, 30, 39, 48, 148, 157, 166, 175, 79, 88, 97, 50, 59, 117, 126, 38, 47, 7, 156, 165, 174, 176, 87, 96, 56, 58, 67, 125, 127, 46, 6, 8, 164, 173, 182, 184, 95, 55, 57, 66, 75, 133, 135, 152, 14, 16, 25, 181, 183, 192, 54, 63, 65, 74, 83, 134, 143, 13, 15, 24, 180, 189, 191, 151, 62, 64, 73, 82, 91, 142, 102, 21, 23, 32, 188, 190, 150, 159, 70, 72, 81, 90, 92, 101, 110, 22, 31, 40, 196, 149, 158, 167, 71, 80, 89, 98, 51, 109, 118], [122, 139, 156, 173, 190, 207, 224, 1, 18, 35, 52, 69, 86, 103, 120, 138, 155, 172, 189, 206, 223, 15, 17, 34, 51, 68, 85, 102, 119, 121, 154, 171, 188, 205, 222, 14, 16, 33, 50, 67, 84, 101, 118, 135, 137, 170, 187, 204, 221, 13, 30, 32, 49, 66, 83, 100, 117, 134, 136, 153, 186, 203, 220, 12, 29, 31, 48, 65, 82, 99, 116, 133, 150, 152, 169, 202, 219, 11, 28, 45, 47, 64, 81, 98, 115, 132, 149, 151, 168, 185, 218, 10, 27, 44, 46, 63, 80, 97, 114, 131, 148, 165, 167, 184, 201, 9, 26, 43, 60, 62, 79, 96, 113, 130, 147, 164, 166, 183, 200, 217, 25, 42, 59, 61, 78, 95, 112, 129, 146, 163, 180, 182, 199, 216, 8, 41, 58, 75, 77, 94, 111, 128, 145, 162, 179, 181, 198, 215, 7, 24, 57, 74, 76, 93, 110, 127, 144, 161, 178, 195, 197, 214, 6, 23, 40, 73, 90, 92, 109, 126, 143, 160, 177, 194, 196, 213, 5, 22, 39, 56, 89, 91, 108, 125, 142, 159, 176, 193, 210, 212, 4, 21, 38, 55, 72, 105, 107, 124, 141, 158, 175, 192, 209, 211, 3, 20, 37, 54, 71, 88, 106, 123, 140, 157, 174, 191, 208, 225, 2, 19, 36, 53, 70, 87, 104], [256, 2, 3, 253, 252, 6, 7, 249, 248, 10, 11, 245, 244, 14, 15, 241, 17, 239, 238, 20, 21, 235, 234, 24, 25, 231, 230, 28, 29, 227, 226, 32, 33, 223, 222, 36, 37, 219, 218, 40, 41, 215, 214, 44, 45, 211, 210, 48, 208, 50, 51, 205, 204, 54, 55, 201, 200, 58, 59, 197, 196, 62, 63, 193, 192, 66, 67, 189, 188, 70, 71, 185, 184, 74, 75, 181, 180, 78, 79, 177, 81, 175, 174, 84, 85, 171, 170, 88, 89, 167, 166, 92, 93, 163, 162, 96, 97, 159, 158, 100, 101, 155, 154, 104, 105, 151, 150, 108, 109, 147, 146, 112, 144, 114, 115, 141, 140, 118, 119, 137, 136, 122, 123, 133, 132, 126, 127, 129, 128, 130, 131, 125, 124, 134, 135, 121, 120, 138, 139, 117, 116, 142, 143, 113, 145, 111, 110, 148, 149, 107, 106, 152, 153, 103, 102, 156, 157, 99, 98, 160, 161, 95, 94, 164, 165, 91, 90, 168, 169, 87, 86, 172, 173, 83, 82, 176, 80, 178, 179, 77, 76, 182, 183, 73, 72, 186, 187, 69, 68, 190, 191, 65, 64, 194, 195, 61, 60, 198, 199, 57, 56, 202, 203, 53, 52, 206, 207, 49, 209, 47, 46, 212, 213, 43, 42, 216, 217, 39, 38, 220, 221, 35, 34, 224, 225, 31, 30, 228, 229, 27, 26, 232, 233, 23, 22, 236, 237, 19, 18, 240, 16, 242, 243, 13, 12, 246, 247, 9, 8, 250, 251, 5, 4, 254, 255, 1]]
def tabP : List (List Int) := [[1], [], [], [1, 8, 13, 12, 14, 11, 2, 7, 4, 5, 16, 9, 15, 10, 3, 6], [1, 20, 9, 23, 12, 24, 13, 2, 16, 10, 17, 6, 25, 14, 3, 15, 4, 18, 7, 21, 8, 22, 11, 5, 19], [], [1, 18, 35, 45, 13, 23, 40, 24, 41, 2, 19, 29, 46, 14, 47, 8, 25, 42, 3, 20, 30, 21, 31, 48, 9, 26, 36, 4, 37, 5, 15, 32, 49, 10, 27, 11, 28, 38, 6, 16, 33, 43, 34, 44, 12, 22, 39, 7, 17], [1, 16, 17, 32, 57, 56, 41, 40, 58, 55, 42, 39, 2, 15, 18, 31, 3, 14, 19, 30, 59, 54, 43, 38, 60, 53, 44, 37, 4, 13, 20, 29, 8, 9, 24, 25, 64, 49, 48, 33, 63, 50, 47, 34, 7, 10, 23, 26, 6, 11, 22, 27, 62, 51, 46, 35, 61, 52, 45, 36, 5, 12, 21, 28], [], [], [1, 86, 39, 113, 77, 30, 104, 57, 21, 95, 48, 96, 49, 2, 87, 40, 114, 67, 31, 105, 58, 22, 59, 12, 97, 50, 3, 88, 41, 115, 68, 32, 106, 33, 107, 60, 13, 98, 51, 4, 78, 42, 116, 69, 117, 70, 23, 108, 61, 14, 99, 52, 5, 79, 43, 80, 44, 118, 71, 24, 109, 62, 15, 89, 53, 6, 54, 7, 81, 34, 119, 72, 25, 110, 63, 16, 90, 17, 91, 55, 8, 82, 35, 120, 73, 26, 100, 64, 101, 65, 18, 92, 45, 9, 83, 36, 121, 74, 27, 75, 28, 102, 66, 19, 93, 46, 10, 84, 37, 111, 38, 112, 76, 29, 103, 56, 20, 94, 47, 11, 85], [1, 24, 25, 48, 49, 72, 133, 132, 109, 108, 85, 84, 134, 131, 110, 107, 86, 83, 2, 23, 26, 47, 50, 71, 3, 22, 27, 46, 51, 70, 135, 130, 111, 106, 87, 82, 136, 129, 112, 105, 88, 81, 4, 21, 28, 45, 52, 69, 5, 20, 29, 44, 53, 68, 137, 128, 113, 104, 89, 80, 138, 127, 114, 103, 90, 79, 6, 19, 30, 43, 54, 67, 12, 13, 36, 37, 60, 61, 144, 121, 120, 97, 96, 73, 143, 122, 119, 98, 95, 74, 11, 14, 35, 38, 59, 62, 10, 15, 34, 39, 58, 63, 142, 123, 118, 99, 94, 75, 141, 124, 117, 100, 93, 76, 9, 16, 33, 40, 57, 64, 8, 17, 32, 41, 56, 65, 140, 125, 116, 101, 92, 77, 139, 126, 115, 102, 91, 78, 7, 18, 31, 42, 55, 66], [1, 58, 115, 159, 47, 104, 148, 36, 80, 137, 25, 69, 126, 70, 127, 2, 59, 116, 160, 48, 92, 149, 37, 81, 138, 26, 139, 14, 71, 128, 3, 60, 117, 161, 49, 93, 150, 38, 82, 39, 83, 140, 15, 72, 129, 4, 61, 105, 162, 50, 94, 151, 95, 152, 27, 84, 141, 16, 73, 130, 5, 62, 106, 163, 51, 164, 52, 96, 153, 28, 85, 142, 17, 74, 118, 6, 63, 107, 64, 108, 165, 40, 97, 154, 29, 86, 143, 18, 75, 119, 7, 120, 8, 65, 109, 166, 41, 98, 155, 30, 87, 131, 19, 76, 20, 77, 121, 9, 53, 110, 167, 42, 99, 156, 31, 88, 132, 89, 133, 21, 78, 122, 10, 54, 111, 168, 43, 100, 144, 32, 145, 33, 90, 134, 22, 66, 123, 11, 55, 112, 169, 44, 101, 45, 102, 146, 34, 91, 135, 23, 67, 124, 12, 56, 113, 157, 114, 158, 46, 103, 147, 35, 79, 136, 24, 68, 125, 13, 57], [], [], [1, 32, 33, 64, 65, 96, 97, 128, 241, 240, 209, 208, 177, 176, 145, 144, 242, 239, 210, 207, 178, 175, 146, 143, 2, 31, 34, 63, 66, 95, 98, 127, 3, 30, 35, 62, 67, 94, 99, 126, 243, 238, 211, 206, 179, 174, 147, 142, 244, 237, 212, 205, 180, 173, 148, 141, 4, 29, 36, 61, 68, 93, 100, 125, 5, 28, 37, 60, 69, 92, 101, 124, 245, 236, 213, 204, 181, 172, 149, 140, 246, 235, 214, 203, 182, 171, 150, 139, 6, 27, 38, 59, 70, 91, 102, 123, 7, 26, 39, 58, 71, 90, 103, 122, 247, 234, 215, 202, 183, 170, 151, 138, 248, 233, 216, 201, 184, 169, 152, 137, 8, 25, 40, 57, 72, 89, 104, 121, 16, 17, 48, 49, 80, 81, 112, 113, 256, 225, 224, 193, 192, 161, 160, 129, 255, 226, 223, 194, 191, 162, 159, 130, 15, 18, 47, 50, 79, 82, 111, 114, 14, 19, 46, 51, 78, 83, 110, 115, 254, 227, 222, 195, 190, 163, 158, 131, 253, 228, 221, 196, 189, 164, 157, 132, 13, 20, 45, 52, 77, 84, 109, 116, 12, 21, 44, 53, 76, 85, 108, 117, 252, 229, 220, 197, 188, 165, 156, 133, 251, 230, 219, 198, 187, 166, 155, 134, 11, 22, 43, 54, 75, 86, 107, 118, 10, 23, 42, 55, 74, 87, 106, 119, 250, 231, 218, 199, 186, 167, 154, 135, 249, 232, 217, 200, 185, 168, 153, 136, 9, 24, 41, 56, 73, 88, 105, 120]]
def magL0 (n : Nat) : List Int := if n % 2 = 1 then siaL n else if n % 4 = 0 then dblL n else sglL ((n : Int) / 2).toNat
def panL0 (n : Nat) : List Int := if n % 2 = 1 then panL n else panM n
def isPanN (n : Nat) : Prop := n % 2 = 1 ∧ n % 3 ≠ 0 ∨ n % 4 = 0
instance (n : Nat) : Decidable (isPanN n) := by unfold isPanN; infer_instance
theorem tabM_eq : ∀ k, k < 16 → k ≠ 1 → magL0 (k + 1) = tabM.getD k [] := by decide +kernel
theorem tabP_eq : ∀ k, k < 16 → isPanN (k + 1) → panL0 (k + 1) = tabP.getD k [] := by decide +kernel
theorem tabM_ok : ∀ k, k < 16 → k ≠ 1 → goodB (k + 1) 2 (tabM.getD k []) = true := by decide +kernel
theorem tabP_ok : ∀ k, k < 16 → isPanN (k + 1) → goodB (k + 1) 3 (tabP.getD k []) = true := by decide +kernel
theorem tabM_as : ∀ k, k < 16 → (k + 1) % 4 ≠ 2 → assocB (k + 1) (tabM.getD k []) = true := by decide +kernel
theorem magL0_good {n : Nat} (hn : 1 ≤ n ∧ n ≤ 16) (h2 : n ≠ 2) : GoodSq n 2 (magL0 n) := by
  obtain ⟨k, rfl⟩ : ∃ k, n = k + 1 := ⟨n - 1, by omega⟩
  rw [tabM_eq k (by omega) (by omega)]
  exact goodB_ok (tabM_ok k (by omega) (by omega))
theorem panL0_good {n : Nat} (hn : 1 ≤ n ∧ n ≤ 16) (h2 : isPanN n) : GoodSq n 3 (panL0 n) := by
  obtain ⟨k, rfl⟩ : ∃ k, n = k + 1 := ⟨n - 1, by omega⟩
  rw [tabP_eq k (by omega) h2]
  exact goodB_ok (tabP_ok k (by omega) h2)
theorem magL0_assoc {n : Nat} (hn : 1 ≤ n ∧ n ≤ 16) (h2 : n % 4 ≠ 2) (i : Nat) (hi : i < n * n) : (magL0 n).getD i 0 + (magL0 n).getD (n * n - 1 - i) 0 = (n : Int) * n + 1 := by
  obtain ⟨k, rfl⟩ : ∃ k, n = k + 1 := ⟨n - 1, by omega⟩
  rw [tabM_eq k (by omega) (by omega)]
  have h := tabM_as k (by omega) h2
  unfold assocB at h
  rw [List.all_eq_true] at h
  exact of_decide_eq_true (h i (List.mem_range.2 hi))
theorem magV_eq {n : Nat} (h2 : n ≠ 2) : magV n = okGrid n n (magL0 n) := by
  unfold magV magL0
  rw [if_neg (by omega)]
  by_cases h : n % 2 = 1
  · rw [if_pos h, if_pos (by omega)]
  · rw [if_neg h, if_neg (by omega)]
    by_cases h4 : n % 4 = 0
    · rw [if_pos h4, if_pos (by omega)]
    · rw [if_neg h4, if_neg (by omega)]
theorem panV_yes {n : Nat} (h : isPanN n) : panV n = okGrid n n (panL0 n) := by
  unfold isPanN at h
  unfold panV panL0
  by_cases h1 : n % 2 = 1
  · rw [if_pos h1, if_pos (by omega)]
  · rw [if_neg h1, if_neg (by omega), if_pos (by omega)]
theorem panV_no {n : Nat} (h : ¬ isPanN n) : panV n = noGrid 7 := by
  unfold isPanN at h
  unfold panV
  rw [if_neg (by omega), if_neg (by omega)]
end Go.Eng.Ytppflbccfdbogaa
namespace Go.Eng.Ytppflbccfdbogaa
open Go.Proofs
set_option maxRecDepth 100000
set_option maxHeartbeats 0
set_option linter.unusedVariables false
set_option linter.unusedSimpArgs false
noncomputable def cpOr : CPT := cpAdd 35 (pureCC orderP) (cpAdd 36 (pureCC noneP) (cpAdd 37 (pureCC rSiaP) (cpAdd 38 (pureCC rDblP) (cpAdd 39 (pureCC rSglP) (cpAdd 42 (pureCC madeT) (cpAdd 43 (pureCC intsT) (cpAdd 44 (pureCC rHalvedQP) (cpAdd 16 (pureCC awakeT) noC))))))))
theorem cpOr_ok : CPOK Try.prog cpOr := cpAdd_ok (pureCC_ok order_ok) (cpAdd_ok (pureCC_ok none_ok) (cpAdd_ok (pureCC_ok rSia_ok) (cpAdd_ok (pureCC_ok rDbl_ok) (cpAdd_ok (pureCC_ok rSgl_ok) (cpAdd_ok (pureCC_ok madeT_ok) (cpAdd_ok (pureCC_ok intsT_ok) (cpAdd_ok (pureCC_ok rHalvedQ_ok) (cpAdd_ok (pureCC_ok awakeT_ok) noC_ok))))))))
def noneOut : PSp := fun xs K => match xs with
  | [.int .i64 b, .bp c] => VC (b = 3) ∧ K (.int .i64 3)
  | _ => False
theorem noneOut_ok : POK Try.prog 36 noneOut := by
  intro xs K h
  unfold noneOut at h
  split at h
  · obtain ⟨⟨rfl⟩, h⟩ := h
    exact ⟨_, h, none_spec 3 _⟩
  · exact h.elim
theorem orders_out (n : Int) (hn : n < 1 ∨ 16 < n) : PSpec Try.prog 5 [.int .i64 n] (.bp true) := by
  have h29 := siamese_spec n
  have h30 := doublyEven_spec n
  have h31 := singlyEven_spec n
  have h32 := magic_spec' n
  have h33 := pandiagonal_spec n
  have h34 := halved_spec n
  unfold gridOr at h29 h30 h31 h33
  unfold cMagV at h32
  unfold halvedV at h34
  rw [if_pos hn] at h29 h30 h31 h32 h33 h34
  have h35 := order_spec n
  rw [if_pos hn] at h35
  have hC := cpAdd_ok (pureCC_ok (atC_ok (C := True) fun _ => h29)) (cpAdd_ok (pureCC_ok (atC_ok (C := True) fun _ => h30)) (cpAdd_ok (pureCC_ok (atC_ok (C := True) fun _ => h31)) (cpAdd_ok (pureCC_ok (atC_ok (C := True) fun _ => h32)) (cpAdd_ok (pureCC_ok (atC_ok (C := True) fun _ => h33)) (cpAdd_ok (pureCC_ok (atC_ok (C := True) fun _ => h34)) (cpAdd_ok (pureCC_ok (atC_ok (C := True) fun _ => h35)) (cpAdd_ok (pureCC_ok noneOut_ok) cpOr_ok)))))))
  refine pspec_of (md := 1) (rf := []) mixed tabOK hC Try.func5 (by rfl) (by rfl) (by rfl) ?_
  repeat' (first | ((conv => whnf); refine And.intro ?_ ?_) | ((conv => whnf); with_reducible exact VC.mk rfl) | ((conv => whnf); exact Ok.mk) | ((conv => whnf); exact True.intro) | ((conv => whnf); refine Nx.mk ?_) | ((conv => whnf); refine Fin.mk ?_) | ((conv => whnf); intro hq; (try simp only [decide_eq_true_eq, decide_eq_false_iff_not, Bool.not_eq_true, Bool.not_eq_false, Bool.not_eq_true', Bool.not_eq_false', ite_true, ite_false] at hq); (try (exfalso; first | exact absurd hq (by decide) | omega))))
  all_goals ((try refine VC.mk ?_); (try simp only [CL.ncell, CL.cnt, Int.toNat_natCast, decide_eq_true_eq, decide_eq_false_iff_not, Bool.not_eq_true, Bool.not_false, Bool.not_true, and_self, and_true, true_and, te3b, te4b, te3s, te4s, Nat.mul_one, Nat.zero_add, List.length_cons, List.length_nil, Bool.false_eq_true, Bool.true_eq_false] at *); (try omega))
  all_goals first | exact sup_true | (exact .inl ⟨by decide, rfl, rfl, rfl, rfl⟩) | (exfalso; simp_all; done) | trace_state
def noneIn : PSp := fun xs K => match xs with
  | [.int .i64 b, .bp c] => VC (b = 0) ∧ (c = true → K (.int .i64 0)) ∧ (c = false → K (.int .i64 7))
  | _ => False
theorem noneIn_ok : POK Try.prog 36 noneIn := by
  intro xs K h
  unfold noneIn at h
  split at h
  · obtain ⟨⟨rfl⟩, h1, h2⟩ := h
    rename_i c
    have := none_spec 0 c
    cases c with
    | true => exact ⟨_, h1 rfl, this⟩
    | false => exact ⟨_, h2 rfl, this⟩
  · exact h.elim
theorem gridOr_in {n : Int} (hn : 1 ≤ n ∧ n ≤ 16) {h : Prop} [Decidable h] {l : List Int} (hl : h → l.length ≤ 256) : ∃ (r0 c0 : Int) (l0 : List Int) (e : Int), gridOr n h l = .tup [gridV r0 c0 l0, .int .i64 e] ∧ l0.length ≤ 2000000 ∧ (h → MadeOK r0 c0 l0 e n n l 0) ∧ (¬ h → ∀ r c l, MadeOK r0 c0 l0 e r c l 7) := by
  unfold gridOr
  rw [if_neg (by omega)]
  by_cases h2 : h
  · rw [if_pos h2]; exact ⟨n, n, l, 0, rfl, by have := hl h2; omega, fun _ => .inr ⟨rfl, rfl, rfl, rfl, rfl⟩, fun h => absurd h2 h⟩
  · rw [if_neg h2]; exact ⟨0, 0, [], 7, rfl, by simp, fun h => absurd h h2, fun _ r c l => .inl ⟨by decide, rfl, rfl, rfl, rfl⟩⟩
theorem self_no (e : Int) (he : e ≠ 0) : ∃ (r c : Int) (l : List Int) (e' : Int), noGrid e = .tup [gridV r c l, .int .i64 e'] ∧ l.length ≤ 2000000 ∧ MadeOK r c l e' r c l e' := ⟨0, 0, [], e, rfl, by simp, .inl ⟨he, rfl, rfl, rfl, rfl⟩⟩
theorem self_ok {r c : Int} {l : List Int} (h : l.length ≤ 256) : ∃ (r' c' : Int) (l' : List Int) (e' : Int), okGrid r c l = .tup [gridV r' c' l', .int .i64 e'] ∧ l'.length ≤ 2000000 ∧ MadeOK r' c' l' e' r' c' l' e' := ⟨r, c, l, 0, rfl, by omega, .inr ⟨rfl, rfl, rfl, rfl, rfl⟩⟩
theorem sglL_len (m : Nat) : (sglL m).length = 2 * m * (2 * m) := by unfold sglL; rw [swAt_len]; simp [madeL]
theorem siaL_le {n : Int} (hn : 1 ≤ n ∧ n ≤ 16) : (siaL n).length ≤ 256 := uniL_len hn
theorem dblL_le {n : Int} (hn : 1 ≤ n ∧ n ≤ 16) : (dblL n).length ≤ 256 := madeL_le (by omega) _
theorem sglL_le {n : Int} (hn : 1 ≤ n ∧ n ≤ 16) : (sglL (n / 2).toNat).length ≤ 256 := by
  rw [sglL_len]
  have := Nat.mul_le_mul (show 2 * (n / 2).toNat ≤ 16 by omega) (show 2 * (n / 2).toNat ≤ 16 by omega)
  omega
theorem panL_le {n : Int} (hn : 1 ≤ n ∧ n ≤ 16) : (panL n).length ≤ 256 := uniL_len hn
theorem panM_le {n : Int} (hn : 1 ≤ n ∧ n ≤ 16) : (panM n).length ≤ 256 := by unfold panM mpL; rw [halvedL_len]; exact madeL_le (by omega) _
theorem magV_self {n : Int} (hn : 1 ≤ n ∧ n ≤ 16) : ∃ (r c : Int) (l : List Int) (e : Int), magV n = .tup [gridV r c l, .int .i64 e] ∧ l.length ≤ 2000000 ∧ MadeOK r c l e r c l e := by
  unfold magV
  split
  · exact self_no 7 (by decide)
  · split
    · exact self_ok (siaL_le hn)
    · split
      · exact self_ok (dblL_le hn)
      · exact self_ok (sglL_le hn)
theorem panV_self {n : Int} (hn : 1 ≤ n ∧ n ≤ 16) : ∃ (r c : Int) (l : List Int) (e : Int), panV n = .tup [gridV r c l, .int .i64 e] ∧ l.length ≤ 2000000 ∧ MadeOK r c l e r c l e := by
  unfold panV
  split
  · exact self_ok (panL_le hn)
  · split
    · exact self_ok (panM_le hn)
    · exact self_no 7 (by decide)
theorem panV_eq {n : Int} (hn : 1 ≤ n ∧ n ≤ 16) : gridOr n (n % 2 = 1 ∧ n % 3 ≠ 0 ∨ n % 4 = 0) (if n % 2 = 1 then panL n else panM n) = panV n := by
  unfold gridOr panV
  rw [if_neg (by omega)]
  by_cases c1 : n % 2 = 1 ∧ n % 3 ≠ 0
  · rw [if_pos (.inl c1), if_pos c1.1, if_pos c1]
  · rw [if_neg c1]
    by_cases c2 : n % 4 = 0
    · rw [if_pos (.inr c2), if_neg (by omega), if_pos c2]
    · rw [if_neg (by omega), if_neg c2]
theorem orders_in (n : Int) (hn : 1 ≤ n ∧ n ≤ 16) : PSpec Try.prog 5 [.int .i64 n] (.bp true) := by
  have hno : ¬ (n < 1 ∨ 16 < n) := by omega
  have h29 := siamese_spec n
  have h30 := doublyEven_spec n
  have h31 := singlyEven_spec n
  have h32 := magic_spec' n
  have h33 := pandiagonal_spec n
  have h34 := halved_spec n
  have h35 := order_spec n
  have h40 := rMagic_spec n hn
  have h41 := rPan_spec n hn
  rw [if_neg hno] at h35
  obtain ⟨r1, c1, l1, e1, q1, k1, a1, b1⟩ := gridOr_in hn (h := n % 2 = 1) (l := siaL n) fun _ => siaL_le hn
  obtain ⟨r2, c2, l2, e2, q2, k2, a2, b2⟩ := gridOr_in hn (h := n % 4 = 0) (l := dblL n) fun _ => dblL_le hn
  obtain ⟨r3, c3, l3, e3, q3, k3, a3, b3⟩ := gridOr_in hn (h := n % 4 = 2 ∧ n ≠ 2) (l := sglL (n / 2).toNat) fun _ => sglL_le hn
  obtain ⟨r4, c4, l4, e4, q4, k4, a4⟩ := magV_self hn
  obtain ⟨r5, c5, l5, e5, q5, k5, a5⟩ := panV_self hn
  rw [q1] at h29
  rw [q2] at h30
  rw [q3] at h31
  unfold cMagV at h32
  rw [if_neg hno, q4] at h32
  rw [panV_eq hn, q5] at h33
  rw [q4] at h40
  rw [q5] at h41
  obtain ⟨l6, e6, q6, a6, b6⟩ : ∃ l6 e6, halvedV n = .tup [.isl (.ints .i64 l6) .none, .int .i64 e6] ∧ (n % 4 = 0 → l6 = halvedL n n.toNat ∧ e6 = 0) ∧ (¬ n % 4 = 0 → l6 = [] ∧ e6 = 7) := by
    unfold halvedV
    rw [if_neg hno]
    by_cases h : n % 4 = 0
    · rw [if_pos h]; exact ⟨_, _, rfl, fun _ => ⟨rfl, rfl⟩, fun h' => absurd h h'⟩
    · rw [if_neg h]; exact ⟨_, _, rfl, fun h' => absurd h' h, fun _ => ⟨rfl, rfl⟩⟩
  rw [q6] at h34
  have hl6 : l6.length ≤ 2000000 := by
    by_cases h : n % 4 = 0
    · rw [(a6 h).1, halvedL_len]; omega
    · rw [(b6 h).1]; simp
  have t2 : n.tmod 2 = n % 2 := Int.tmod_eq_emod_of_nonneg (by omega)
  have t4 : n.tmod 4 = n % 4 := Int.tmod_eq_emod_of_nonneg (by omega)
  clear q1 q2 q3 q4 q5 q6
  have hC := cpAdd_ok (pureCC_ok (atC_ok (C := True) fun _ => h29)) (cpAdd_ok (pureCC_ok (atC_ok (C := True) fun _ => h30)) (cpAdd_ok (pureCC_ok (atC_ok (C := True) fun _ => h31)) (cpAdd_ok (pureCC_ok (atC_ok (C := True) fun _ => h32)) (cpAdd_ok (pureCC_ok (atC_ok (C := True) fun _ => h33)) (cpAdd_ok (pureCC_ok (atC_ok (C := True) fun _ => h34)) (cpAdd_ok (pureCC_ok (atC_ok (C := True) fun _ => h35)) (cpAdd_ok (pureCC_ok (atC_ok (C := True) fun _ => h40)) (cpAdd_ok (pureCC_ok (atC_ok (C := True) fun _ => h41)) (cpAdd_ok (pureCC_ok noneIn_ok) cpOr_ok)))))))))
  refine pspec_of (md := 1) (rf := []) mixed tabOK hC Try.func5 (by rfl) (by rfl) (by rfl) ?_
  repeat' (first | ((conv => whnf); refine And.intro ?_ ?_) | ((conv => whnf); with_reducible exact VC.mk rfl) | ((conv => whnf); exact Ok.mk) | ((conv => whnf); exact True.intro) | ((conv => whnf); refine Nx.mk ?_) | ((conv => whnf); refine Fin.mk ?_) | ((conv => whnf); intro hq; (try simp only [decide_eq_true_eq, decide_eq_false_iff_not, Bool.not_eq_true, Bool.not_eq_false, Bool.not_eq_true', Bool.not_eq_false', ite_true, ite_false] at hq); (try (exfalso; first | exact absurd hq (by decide) | omega))))
  all_goals ((try refine VC.mk ?_); (try simp only [CL.ncell, CL.cnt, Int.toNat_natCast, decide_eq_true_eq, decide_eq_false_iff_not, Bool.not_eq_true, Bool.not_false, Bool.not_true, and_self, and_true, true_and, te3b, te4b, te3s, te4s, Nat.mul_one, Nat.zero_add, List.length_cons, List.length_nil, Bool.false_eq_true, Bool.true_eq_false] at *); (try omega))
  all_goals clear hC
  all_goals first | exact sup_true | exact a1 (by omega) | exact b1 (by omega) _ _ _ | exact a2 (by omega) | exact b2 (by omega) _ _ _ | exact a3 (by omega) | exact b3 (by omega) _ _ _ | exact a4 | exact a5 | exact (a6 (by omega)).1 | (exfalso; have hb6 := (b6 (by omega)).1; subst hb6; exact hq rfl) | trace_state
theorem orders_law (n : Int) : PSpec Try.prog 5 [.int .i64 n] (.bp true) := by
  by_cases hn : n < 1 ∨ 16 < n
  · exact orders_out n hn
  · exact orders_in n (by omega)
end Go.Eng.Ytppflbccfdbogaa
namespace Go.Eng.Ytppflbccfdbogaa
open Go.Proofs
set_option maxRecDepth 100000
set_option maxHeartbeats 0
set_option linter.unusedVariables false
set_option linter.unusedSimpArgs false
def evenB (d x : Int) : Bool := decide (2 * (x % d) = d - 1)
theorem all_take_succ (p : Int → Bool) (l : List Int) (i : Nat) (h : i < l.length) : (l.take (i + 1)).all p = ((l.take i).all p && p (l.getD i 0)) := by
  rw [List.take_add_one, List.all_append]
  simp [h]
theorem balanced_spec (l : List Int) (d : Int) (hd : 1 ≤ d ∧ d ≤ 1000) (hl : ∀ x ∈ l, 0 ≤ x ∧ x ≤ 1000) (hn : l.length ≤ 100000) : PSpec Try.prog 125 [.isl (.ints .i64 l) .none, .int .i64 d] (.bp (l.all (evenB d))) := by
  refine pspec_of (md := 0) (rf := []) mixed tabOK noC_ok Try.func125 (by rfl) (by rfl) (by rfl) ?_
  repeat' (first | ((conv => whnf); refine And.intro ?_ ?_) | ((conv => whnf); with_reducible exact VC.mk rfl) | ((conv => whnf); exact Ok.mk) | ((conv => whnf); exact True.intro) | ((conv => whnf); refine Nx.mk ?_) | ((conv => whnf); refine Fin.mk ?_) | ((conv => whnf); intro _))
  all_goals ((try refine VC.mk ?_); (try simp only [CL.ncell, CL.cnt, Int.toNat_natCast, decide_eq_true_eq, decide_eq_false_iff_not, Bool.not_eq_true, Bool.not_false, Bool.not_true, and_self, and_true, true_and, te3b, te4b, te3s, te4s, Nat.mul_one, Nat.zero_add, List.length_cons, List.length_nil, Bool.false_eq_true, Bool.true_eq_false] at *); (try omega))
  conv => whnf
  refine loop_of (X := Nat) (fun i => i ≤ l.length ∧ (l.take i).all (evenB d) = true) (fun i => [(5, .int .i64 i)]) (fun i => []) (fun i => l.length - i) 0 ⟨anyB_ok, mixed, tabOK, noC_ok, noY_ok⟩ (by rfl) ⟨by omega, by simp⟩ ?_ ?_
  · repeat' (first | ((conv => whnf); refine And.intro ?_ ?_) | ((conv => whnf); with_reducible exact VC.mk rfl) | ((conv => whnf); exact Ok.mk) | ((conv => whnf); exact True.intro) | ((conv => whnf); refine Nx.mk ?_) | ((conv => whnf); refine Fin.mk ?_) | ((conv => whnf); intro _))
    all_goals ((try refine VC.mk ?_); (try simp only [CL.ncell, CL.cnt, Int.toNat_natCast, decide_eq_true_eq, decide_eq_false_iff_not, Bool.not_eq_true, Bool.not_false, Bool.not_true, and_self, and_true, true_and, te3b, te4b, te3s, te4s, Nat.mul_one, Nat.zero_add, List.length_cons, List.length_nil, Bool.false_eq_true, Bool.true_eq_false] at *); (try omega))
  rintro i ⟨hi, hok⟩
  by_cases hlt : i < l.length
  · have hx := hl (l.getD i 0) (by rw [List.getD_eq_getElem?_getD, List.getElem?_eq_getElem hlt]; exact List.getElem_mem _)
    have hm1 : 0 ≤ l.getD i 0 % d := Int.emod_nonneg _ (by omega)
    have hm2 : l.getD i 0 % d < d := Int.emod_lt_of_pos _ (by omega)
    have e1 := all_take_succ (evenB d) l i hlt
    repeat' (first | ((conv => whnf); refine And.intro ?_ ?_) | ((conv => whnf); with_reducible exact VC.mk rfl) | ((conv => whnf); exact Ok.mk) | ((conv => whnf); exact True.intro) | ((conv => whnf); refine Nx.mk ?_) | ((conv => whnf); refine Fin.mk ?_) | ((conv => whnf); intro _))
    all_goals ((try refine VC.mk ?_); (try simp only [CL.ncell, CL.cnt, Int.toNat_natCast, decide_eq_true_eq, decide_eq_false_iff_not, Bool.not_eq_true, Bool.not_false, Bool.not_true, and_self, and_true, true_and, te3b, te4b, te3s, te4s, Nat.mul_one, Nat.zero_add, List.length_cons, List.length_nil, Bool.false_eq_true, Bool.true_eq_false] at *); (try omega))
    · rename_i hb
      have : l.all (evenB d) = false := by
        rw [List.all_eq_false]
        exact ⟨l.getD i 0, by rw [List.getD_eq_getElem?_getD, List.getElem?_eq_getElem hlt]; exact List.getElem_mem _, by unfold evenB; simpa using hb⟩
      rw [this]; all_goals (first | (refine Sup.of ?_; first | rfl | (simp [*, resOf]; done)) | (refine Sup.via ?_; repeat' (first | ((conv => whnf); refine And.intro ?_ ?_) | ((conv => whnf); with_reducible exact VC.mk rfl) | ((conv => whnf); exact Ok.mk) | ((conv => whnf); exact True.intro) | ((conv => whnf); refine Nx.mk ?_) | ((conv => whnf); refine Fin.mk ?_) | ((conv => whnf); intro _)); all_goals ((try refine VC.mk ?_); (try simp only [CL.ncell, CL.cnt, Int.toNat_natCast, decide_eq_true_eq, decide_eq_false_iff_not, Bool.not_eq_true, Bool.not_false, Bool.not_true, and_self, and_true, true_and, te3b, te4b, te3s, te4s, Nat.mul_one, Nat.zero_add, List.length_cons, List.length_nil, Bool.false_eq_true, Bool.true_eq_false] at *); (try omega)); all_goals (try (simp [CL.sub]; done))))
    · rename_i hb
      refine ⟨i + 1, [], ⟨⟨by omega, by rw [e1, hok]; unfold evenB; simpa using hb⟩, by omega⟩, ?_⟩
      repeat' (first | ((conv => whnf); refine And.intro ?_ ?_) | ((conv => whnf); with_reducible exact VC.mk rfl) | ((conv => whnf); exact Ok.mk) | ((conv => whnf); exact True.intro) | ((conv => whnf); refine Nx.mk ?_) | ((conv => whnf); refine Fin.mk ?_) | ((conv => whnf); intro _))
      all_goals ((try refine VC.mk ?_); (try simp only [CL.ncell, CL.cnt, Int.toNat_natCast, decide_eq_true_eq, decide_eq_false_iff_not, Bool.not_eq_true, Bool.not_false, Bool.not_true, and_self, and_true, true_and, te3b, te4b, te3s, te4s, Nat.mul_one, Nat.zero_add, List.length_cons, List.length_nil, Bool.false_eq_true, Bool.true_eq_false] at *); (try omega))
  · have : l.length = i := by omega
    subst this
    rw [List.take_length] at hok
    rw [hok]
    repeat' (first | ((conv => whnf); refine And.intro ?_ ?_) | ((conv => whnf); with_reducible exact VC.mk rfl) | ((conv => whnf); exact Ok.mk) | ((conv => whnf); exact True.intro) | ((conv => whnf); refine Nx.mk ?_) | ((conv => whnf); refine Fin.mk ?_) | ((conv => whnf); intro _))
    all_goals ((try refine VC.mk ?_); (try simp only [CL.ncell, CL.cnt, Int.toNat_natCast, decide_eq_true_eq, decide_eq_false_iff_not, Bool.not_eq_true, Bool.not_false, Bool.not_true, and_self, and_true, true_and, te3b, te4b, te3s, te4s, Nat.mul_one, Nat.zero_add, List.length_cons, List.length_nil, Bool.false_eq_true, Bool.true_eq_false] at *); (try omega))
    all_goals (first | (refine Sup.of ?_; first | rfl | (simp [*, resOf]; done)) | (refine Sup.via ?_; repeat' (first | ((conv => whnf); refine And.intro ?_ ?_) | ((conv => whnf); with_reducible exact VC.mk rfl) | ((conv => whnf); exact Ok.mk) | ((conv => whnf); exact True.intro) | ((conv => whnf); refine Nx.mk ?_) | ((conv => whnf); refine Fin.mk ?_) | ((conv => whnf); intro _)); all_goals ((try refine VC.mk ?_); (try simp only [CL.ncell, CL.cnt, Int.toNat_natCast, decide_eq_true_eq, decide_eq_false_iff_not, Bool.not_eq_true, Bool.not_false, Bool.not_true, and_self, and_true, true_and, te3b, te4b, te3s, te4s, Nat.mul_one, Nat.zero_add, List.length_cons, List.length_nil, Bool.false_eq_true, Bool.true_eq_false] at *); (try omega)); all_goals (try (simp [CL.sub]; done))))
def balancedP : PSp := fun xs K => match xs with
  | [.isl (.ints .i64 l) .none, .int .i64 d] => VC ((1 ≤ d ∧ d ≤ 1000) ∧ (∀ x ∈ l, 0 ≤ x ∧ x ≤ 1000) ∧ l.length ≤ 100000) ∧ K (.bp (l.all (evenB d)))
  | _ => False
theorem balanced_ok : POK Try.prog 125 balancedP := by
  intro xs K h
  unfold balancedP at h
  split at h
  · exact ⟨_, h.2, balanced_spec _ _ h.1.get.1 h.1.get.2.1 h.1.get.2.2⟩
  · exact h.elim
theorem sup_bool {b c : Bool} (h : c = b) : Sup (resOf [PV.bool b]) (.bp c) := by subst h; exact ⟨fun h => by cases h; exact .bp _ _⟩
theorem sup_bp' {b c : Bool} (h : c = b) : Sup (resOf [PV.bp b]) (.bp c) := by subst h; exact ⟨fun h => h⟩
def digA (n : Int) (cs : List Int) (c : Int) : Int := (cs.getD c.toNat 0 - 1) % n
def digB (n : Int) (cs : List Int) (c : Int) : Int := (cs.getD c.toNat 0 - 1) / n
def lvlB (n : Int) (cs l : List Int) (u v : Int) : Bool := (l.map (digA n cs)).all (evenB (gcdN n v)) && (l.map (digB n cs)).all (evenB (gcdN n u))
noncomputable def cpLv : CPT := cpAdd 80 (pureCC ModP) (cpAdd 124 (pureCC GcdP) (cpAdd 125 (pureCC balancedP) noC))
theorem cpLv_ok : CPOK Try.prog cpLv := cpAdd_ok (pureCC_ok Mod_ok) (cpAdd_ok (pureCC_ok Gcd_ok) (cpAdd_ok (pureCC_ok balanced_ok) noC_ok))
theorem map_take_succ {f : Int → Int} {l : List Int} {i : Nat} (h : i < l.length) : (l.take (i + 1)).map f = (l.take i).map f ++ [f (l.getD i 0)] := by
  rw [List.take_add_one, List.map_append]
  simp [h]
theorem level_spec (n s0 s1 x0 x1 b0 b1 r c u v : Int) (cs l : List Int) (hn : 1 ≤ n ∧ n ≤ 16) (hu : -1000 ≤ u ∧ u ≤ 1000) (hv : -1000 ≤ v ∧ v ≤ 1000) (hl : ∀ x ∈ l, (0 ≤ x ∧ x < cs.length) ∧ 1 ≤ cs.getD x.toNat 0 ∧ cs.getD x.toNat 0 ≤ 256) (hll : l.length ≤ 1000) :
    PSpec Try.prog 82 [stepV n s0 s1 x0 x1 b0 b1, gridV r c cs, .isl (.ints .i64 l) .none, .int .i64 u, .int .i64 v] (.bp (lvlB n cs l u v)) := by
  have g1 := @gcdN_bd n v hn
  have g2 := @gcdN_bd n u hn
  have m1 : 0 ≤ v % n ∧ v % n < n := ⟨Int.emod_nonneg _ (by omega), Int.emod_lt_of_pos _ (by omega)⟩
  have m2 : 0 ≤ u % n ∧ u % n < n := ⟨Int.emod_nonneg _ (by omega), Int.emod_lt_of_pos _ (by omega)⟩
  have q1 : ((Int.gcd (v % n) n : Nat) : Int) = gcdN n v := rfl
  have q2 : ((Int.gcd (u % n) n : Nat) : Int) = gcdN n u := rfl
  refine pspec_of (md := 0) (rf := []) mixed tabOK cpLv_ok Try.func82 (by rfl) (by rfl) (by rfl) ?_
  repeat' (first | ((conv => whnf); refine And.intro ?_ ?_) | ((conv => whnf); with_reducible exact VC.mk rfl) | ((conv => whnf); exact Ok.mk) | ((conv => whnf); exact True.intro) | ((conv => whnf); refine Nx.mk ?_) | ((conv => whnf); refine Fin.mk ?_) | ((conv => whnf); intro _))
  all_goals ((try refine VC.mk ?_); (try simp only [CL.ncell, CL.cnt, Int.toNat_natCast, decide_eq_true_eq, decide_eq_false_iff_not, Bool.not_eq_true, Bool.not_false, Bool.not_true, and_self, and_true, true_and, te3b, te4b, te3s, te4s, Nat.mul_one, Nat.zero_add, List.length_cons, List.length_nil, Bool.false_eq_true, Bool.true_eq_false] at *); (try omega))
  simp only [q1, q2]
  conv => whnf
  refine loop_of (X := Nat) (fun i => i ≤ l.length) (fun i => [(15, .int .i64 i), (13, .isl (.ints .i64 ((l.take i).map (digA n cs))) (.own 2)), (14, .isl (.ints .i64 ((l.take i).map (digB n cs))) (.own 3))]) (fun i => [(2, .tok 1 i), (3, .tok 1 i)]) (fun i => l.length - i) 0 ⟨anyB_ok, mixed, tabOK, cpLv_ok, noY_ok⟩ (by rfl) (by omega) ?_ ?_
  · repeat' (first | ((conv => whnf); refine And.intro ?_ ?_) | ((conv => whnf); with_reducible exact VC.mk rfl) | ((conv => whnf); exact Ok.mk) | ((conv => whnf); exact True.intro) | ((conv => whnf); refine Nx.mk ?_) | ((conv => whnf); refine Fin.mk ?_) | ((conv => whnf); intro _))
    all_goals ((try refine VC.mk ?_); (try simp only [CL.ncell, CL.cnt, Int.toNat_natCast, decide_eq_true_eq, decide_eq_false_iff_not, Bool.not_eq_true, Bool.not_false, Bool.not_true, and_self, and_true, true_and, te3b, te4b, te3s, te4s, Nat.mul_one, Nat.zero_add, List.length_cons, List.length_nil, Bool.false_eq_true, Bool.true_eq_false] at *); (try omega))
    all_goals (try (simp; done))
  intro i hi
  have e2 : ((l.take i).map (digA n cs)).length = i := by simp; omega
  have e3 : ((l.take i).map (digB n cs)).length = i := by simp; omega
  by_cases hlt : i < l.length
  · have hx := hl (l.getD i 0) (by rw [List.getD_eq_getElem?_getD, List.getElem?_eq_getElem hlt]; exact List.getElem_mem _)
    have e4 := map_take_succ (f := digA n cs) hlt
    have e5 := map_take_succ (f := digB n cs) hlt
    have h4 : 0 ≤ (cs.getD (l.getD i 0).toNat 0 - 1) / n := Int.ediv_nonneg (by omega) (by omega)
    have h5 := Int.ediv_le_self (a := cs.getD (l.getD i 0).toNat 0 - 1) n (by omega)
    repeat' (first | ((conv => whnf); refine And.intro ?_ ?_) | ((conv => whnf); with_reducible exact VC.mk rfl) | ((conv => whnf); exact Ok.mk) | ((conv => whnf); exact True.intro) | ((conv => whnf); refine Nx.mk ?_) | ((conv => whnf); refine Fin.mk ?_) | ((conv => whnf); intro _))
    all_goals ((try refine VC.mk ?_); (try simp only [CL.ncell, CL.cnt, Int.toNat_natCast, decide_eq_true_eq, decide_eq_false_iff_not, Bool.not_eq_true, Bool.not_false, Bool.not_true, and_self, and_true, true_and, te3b, te4b, te3s, te4s, Nat.mul_one, Nat.zero_add, List.length_cons, List.length_nil, Bool.false_eq_true, Bool.true_eq_false] at *); (try omega))
    all_goals (try (simp only [List.length_append, List.length_cons, List.length_nil]; omega))
    refine ⟨i + 1, [], ⟨by omega, by omega⟩, ?_⟩
    repeat' (first | ((conv => whnf); refine And.intro ?_ ?_) | ((conv => whnf); with_reducible exact VC.mk rfl) | ((conv => whnf); exact Ok.mk) | ((conv => whnf); exact True.intro) | ((conv => whnf); refine Nx.mk ?_) | ((conv => whnf); refine Fin.mk ?_) | ((conv => whnf); intro _))
    all_goals ((try refine VC.mk ?_); (try simp only [CL.ncell, CL.cnt, Int.toNat_natCast, decide_eq_true_eq, decide_eq_false_iff_not, Bool.not_eq_true, Bool.not_false, Bool.not_true, and_self, and_true, true_and, te3b, te4b, te3s, te4s, Nat.mul_one, Nat.zero_add, List.length_cons, List.length_nil, Bool.false_eq_true, Bool.true_eq_false] at *); (try omega))
    all_goals first | (rw [e4]; rfl) | (rw [e5]; rfl)
  · have : l.length = i := by omega
    subst this
    rw [List.take_length] at e2 e3
    simp only [List.take_length]
    have k1 : ∀ x ∈ l.map (digA n cs), 0 ≤ x ∧ x ≤ 1000 := fun x hx => by
      obtain ⟨y, hy, rfl⟩ := List.mem_map.1 hx
      have h6 := hl y hy
      have h7 : 0 ≤ (cs.getD y.toNat 0 - 1) % n := Int.emod_nonneg _ (by omega)
      have h8 : (cs.getD y.toNat 0 - 1) % n < n := Int.emod_lt_of_pos _ (by omega)
      unfold digA; omega
    have k2 : ∀ x ∈ l.map (digB n cs), 0 ≤ x ∧ x ≤ 1000 := fun x hx => by
      obtain ⟨y, hy, rfl⟩ := List.mem_map.1 hx
      have h6 := hl y hy
      have h7 : 0 ≤ (cs.getD y.toNat 0 - 1) / n := Int.ediv_nonneg (by omega) (by omega)
      have h8 := Int.ediv_le_self (a := cs.getD y.toNat 0 - 1) n (by omega)
      unfold digB; omega
    unfold lvlB
    repeat' (first | ((conv => whnf); refine And.intro ?_ ?_) | ((conv => whnf); with_reducible exact VC.mk rfl) | ((conv => whnf); exact Ok.mk) | ((conv => whnf); exact True.intro) | ((conv => whnf); refine Nx.mk ?_) | ((conv => whnf); refine Fin.mk ?_) | ((conv => whnf); intro _))
    all_goals ((try refine VC.mk ?_); (try simp only [CL.ncell, CL.cnt, Int.toNat_natCast, decide_eq_true_eq, decide_eq_false_iff_not, Bool.not_eq_true, Bool.not_false, Bool.not_true, and_self, and_true, true_and, te3b, te4b, te3s, te4s, Nat.mul_one, Nat.zero_add, List.length_cons, List.length_nil, Bool.false_eq_true, Bool.true_eq_false] at *); (try omega))
    · exact ⟨by omega, k1, by omega⟩
    · exact ⟨by omega, k2, by omega⟩
    · rename_i _ h; refine sup_bp' ?_; simp_all
    · rename_i h; refine sup_bool ?_; rw [h]; rfl
def levelP : PSp := fun xs K => match xs with
  | [.agg [.int .i64 n, .int .i64 s0, .int .i64 s1, .int .i64 x0, .int .i64 x1, .int .i64 b0, .int .i64 b1], .agg [.int .i64 r, .int .i64 c, .isl (.ints .i64 cs) .none], .isl (.ints .i64 l) .none, .int .i64 u, .int .i64 v] => VC ((1 ≤ n ∧ n ≤ 16) ∧ (-1000 ≤ u ∧ u ≤ 1000) ∧ (-1000 ≤ v ∧ v ≤ 1000) ∧ (∀ x ∈ l, (0 ≤ x ∧ x < cs.length) ∧ 1 ≤ cs.getD x.toNat 0 ∧ cs.getD x.toNat 0 ≤ 256) ∧ l.length ≤ 1000) ∧ K (.bp (lvlB n cs l u v))
  | _ => False
theorem level_ok : POK Try.prog 82 levelP := by
  intro xs K h
  unfold levelP at h
  split at h
  · exact ⟨_, h.2, level_spec _ _ _ _ _ _ _ _ _ _ _ _ _ h.1.get.1 h.1.get.2.1 h.1.get.2.2.1 h.1.get.2.2.2.1 h.1.get.2.2.2.2⟩
  · exact h.elim
/-! Admits -/
def rMagB (n s0 s1 x0 x1 b0 b1 : Int) : Bool := isSemi n x0 x1 b0 b1 && (lvlB n (sqL n s0 s1 x0 x1 b0 b1) (colL n.toNat (fun i => 0 + (i : Int) * 1) n.toNat) (x0 - x1) (b0 - b1) && lvlB n (sqL n s0 s1 x0 x1 b0 b1) (colL n.toNat (fun i => n - 1 + (i : Int) * (n - 1)) n.toNat) (x0 + x1) (b0 + b1))
def rAdmB (n s0 s1 x0 x1 b0 b1 : Int) (s : ByteArray) : Bool :=
  if s = kSq then isSq n (x0 % n) (x1 % n) (b0 % n) (b1 % n) else if s = kSemi then isSemi n (x0 % n) (x1 % n) (b0 % n) (b1 % n) else if s = kMag then rMagB n (s0 % n) (s1 % n) (x0 % n) (x1 % n) (b0 % n) (b1 % n)
  else isPan n (x0 % n) (x1 % n) (b0 % n) (b1 % n)
noncomputable def cpAd : CPT := cpAdd 80 (pureCC ModP) (cpAdd 81 (pureCC primeP) (cpAdd 50 (pureCC rUniformP) (cpAdd 83 (pureCC diagP) (cpAdd 82 (pureCC levelP) noC))))
theorem cpAd_ok : CPOK Try.prog cpAd := cpAdd_ok (pureCC_ok Mod_ok) (cpAdd_ok (pureCC_ok prime_ok) (cpAdd_ok (pureCC_ok rUniform_ok) (cpAdd_ok (pureCC_ok diag_ok) (cpAdd_ok (pureCC_ok level_ok) noC_ok))))
theorem rAdmits_spec (n s0 s1 x0 x1 b0 b1 : Int) (s : ByteArray) (hn : 1 ≤ n ∧ n ≤ 16) (h : ∀ x ∈ [s0, s1, x0, x1, b0, b1], -999999999 ≤ x ∧ x ≤ 999999999) (hk : kindErr s = 0) :
    PSpec Try.prog 23 [stepV n s0 s1 x0 x1 b0 b1, .str s] (.bp (rAdmB n s0 s1 x0 x1 b0 b1 s)) := by
  have hh := h
  simp only [List.mem_cons, List.not_mem_nil, or_false, forall_eq_or_imp, forall_eq] at h
  obtain ⟨h1, h2, h3, h4, h5, h6⟩ := h
  have md : ∀ y : Int, 0 ≤ y % n ∧ y % n < n := fun y => ⟨Int.emod_nonneg _ (by omega), Int.emod_lt_of_pos _ (by omega)⟩
  have a1 := md x0
  have a2 := md x1
  have a3 := md b0
  have a4 := md b1
  have m1 := mul_bd (A := 16) (B := 16) (show 0 ≤ x0 % n ∧ x0 % n ≤ 16 by omega) (show 0 ≤ b1 % n ∧ b1 % n ≤ 16 by omega)
  have m2 := mul_bd (A := 16) (B := 16) (show 0 ≤ x1 % n ∧ x1 % n ≤ 16 by omega) (show 0 ≤ b0 % n ∧ b0 % n ≤ 16 by omega)
  have hks : s = kSq ∨ s = kSemi ∨ s = kMag ∨ s = kPan := by
    unfold kindErr at hk
    split at hk
    · assumption
    · omega
  have q : ∀ y : Int, decide (Int.gcd (y % n) n = 1) = coprime n y := fun y => rfl
  have hnn := mul_bd (show 0 ≤ n ∧ n ≤ 16 by omega) (show 0 ≤ n ∧ n ≤ 16 by omega)
  obtain ⟨L, hL⟩ : ∃ L, gAt (cellS n s0 s1 x0 x1 b0 b1) (n * n).toNat (n * n).toNat = L := ⟨_, rfl⟩
  have hL2 : sqL n (s0 % n) (s1 % n) (x0 % n) (x1 % n) (b0 % n) (b1 % n) = L := hL
  have hLl : (L.length : Int) = n * n := by rw [← hL, gAt_len]; omega
  have hfull : coprime n (x0 % n * (b1 % n) - x1 % n * (b0 % n)) = true → ∀ k : Int, 0 ≤ k → k < n * n → 1 ≤ L.getD k.toNat 0 ∧ L.getD k.toNat 0 ≤ 256 := fun hsq k k1 k2 => by
    have hm := meet_none (s0 := s0 % n) (s1 := s1 % n) hn.1 (show isSq n (x0 % n) (x1 % n) (b0 % n) (b1 % n) = true from hsq)
    obtain ⟨i, q1, q2, q3⟩ := gAt_full (fun i _ => cellN_lt (s0 := s0 % n) (s1 := s1 % n) (x0 := x0 % n) (x1 := x1 % n) (b0 := b0 % n) (b1 := b1 % n) hn.1 i) (meetOf_inj (fun i _ => cellN_lt hn.1 i) hm) k.toNat (by omega)
    rw [← hL]
    have q3 : (gAt (cellS n s0 s1 x0 x1 b0 b1) (n * n).toNat (n * n).toNat).getD k.toNat 0 = (i : Int) + 1 := q3
    rw [q3]; omega
  have hcol : ∀ h : Nat → Int, (!coprime n (x0 % n * (b1 % n) - x1 % n * (b0 % n))) = false → (∀ x ∈ colL n.toNat h n.toNat, (0 ≤ x ∧ x < L.length) ∧ 1 ≤ L.getD x.toNat 0 ∧ L.getD x.toNat 0 ≤ 256) ∧ (colL n.toNat h n.toNat).length ≤ 1000 := fun h hc => by
    refine ⟨fun x hx => ?_, by rw [colL_len]; omega⟩
    have h1 := colL_mem x hx
    rw [Int.toNat_of_nonneg (by omega)] at h1
    exact ⟨by omega, hfull (by simpa using hc) x h1.1 h1.2⟩
  generalize hres : rAdmB n s0 s1 x0 x1 b0 b1 s = res
  unfold rAdmB rMagB at hres
  rw [hL2] at hres
  refine pspec_of (md := 1) (rf := []) mixed tabOK cpAd_ok Try.func23 (by rfl) (by rfl) (by rfl) ?_
  repeat' (first | ((conv => whnf); refine And.intro ?_ ?_) | ((conv => whnf); with_reducible exact VC.mk rfl) | ((conv => whnf); exact Ok.mk) | ((conv => whnf); exact True.intro) | ((conv => whnf); refine Nx.mk ?_) | ((conv => whnf); refine Fin.mk ?_) | ((conv => whnf); intro _))
  all_goals ((try refine VC.mk ?_); (try simp only [CL.ncell, CL.cnt, Int.toNat_natCast, decide_eq_true_eq, decide_eq_false_iff_not, Bool.not_eq_true, Bool.not_false, Bool.not_true, and_self, and_true, true_and, te3b, te4b, te3s, te4s, Nat.mul_one, Nat.zero_add, List.length_cons, List.length_nil, Bool.false_eq_true, Bool.true_eq_false] at *); (try omega))
  all_goals (try (first | refine sup_bool ?_ | refine sup_bp' ?_))
  all_goals (try simp only [hL])
  all_goals (try exact ⟨hn, by omega, by omega, hcol _ (by assumption)⟩)
  all_goals (try exact ⟨hn, hh⟩)
  all_goals (rw [← hres]; clear hcol hfull hL2 hLl; subst hL; rcases hks with rfl | rfl | rfl | rfl <;> simp_all [isSemi, isSq, isPan, coprime, kSq, kSemi, kMag, kPan])
/-! the program's condition is the reference's -/
theorem even_iff (d x : Int) : evenB d x = true ↔ ¬ d % 2 = 0 ∧ x % d = (d - 1) / 2 := by
  unfold evenB
  rw [decide_eq_true_eq]
  omega
theorem lvl_bal {n : Int} (hn : 1 ≤ n) (cs : List Int) (f : Nat → Int) (u v : Int) :
    lvlB n cs ((List.range n.toNat).map f) u v = balB n (fun i => cs.getD (f i).toNat 0) u v := by
  have hr : (List.range n.toNat).all (fun _ => false) = false := by
    obtain ⟨m, hm⟩ : ∃ m, n.toNat = m + 1 := ⟨n.toNat - 1, by omega⟩
    rw [hm, List.range_succ_eq_map]; rfl
  unfold lvlB balB
  simp only [List.map_map, List.all_map]
  rw [Bool.eq_iff_iff]
  simp only [Bool.and_eq_true, List.all_eq_true, List.mem_range, Function.comp, even_iff, Bool.not_eq_true', decide_eq_false_iff_not, balAt, decide_eq_true_eq, digA, digB]
  constructor
  · rintro ⟨h1, h2⟩
    exact ⟨⟨(h1 0 (by omega)).1, (h2 0 (by omega)).1⟩, fun i hi => ⟨(h1 i hi).2, (h2 i hi).2⟩⟩
  · rintro ⟨⟨h1, h2⟩, h3⟩
    exact ⟨fun i hi => ⟨h1, (h3 i hi).1⟩, fun i hi => ⟨h2, (h3 i hi).2⟩⟩
theorem balB_congr {n : Int} {h h' : Nat → Int} (e : ∀ i : Nat, (i : Int) < n → h i = h' i) (u v : Int) : balB n h u v = balB n h' u v := by
  unfold balB
  congr 1
  rw [Bool.eq_iff_iff]
  simp only [List.all_eq_true, List.mem_range, balAt]
  constructor
  · intro h1 i hi; rw [← e i (by omega)]; exact h1 i hi
  · intro h1 i hi; rw [e i (by omega)]; exact h1 i hi
theorem mag_eq {n : Int} (hn : 1 ≤ n) (s0 s1 x0 x1 b0 b1 : Int) : rMagB n s0 s1 x0 x1 b0 b1 = isMag n s0 s1 x0 x1 b0 b1 := by
  unfold rMagB isMag
  congr 1
  unfold colL
  rw [lvl_bal hn, lvl_bal hn]
  congr 1
  · refine balB_congr (fun i hi => ?_) _ _
    unfold mainAt
    show (sqL n s0 s1 x0 x1 b0 b1).getD ((n.toNat : Int) * i + (0 + (i : Int) * 1) % (n.toNat : Int)).toNat 0 = _
    rw [Int.toNat_of_nonneg (by omega), Int.emod_eq_of_lt (by omega) (by omega)]
    congr 2; omega
  · refine balB_congr (fun i hi => ?_) _ _
    unfold antiAt
    rw [Int.toNat_of_nonneg (by omega), emod_of_sub (a := n - 1 + (i : Int) * (n - 1)) (b := n - 1 - i) (k := (i : Int)) (by rw [Int.mul_sub, Int.mul_comm n (i : Int)]; omega), Int.emod_eq_of_lt (by omega) (by omega)]
    congr 2; omega
theorem adm_eq {n : Int} (hn : 1 ≤ n) (s0 s1 x0 x1 b0 b1 : Int) (s : ByteArray) : rAdmB n s0 s1 x0 x1 b0 b1 s = admB n s0 s1 x0 x1 b0 b1 s := by
  unfold rAdmB admB; rw [mag_eq hn]
end Go.Eng.Ytppflbccfdbogaa
namespace Go.Eng.Ytppflbccfdbogaa
open Go.Proofs
set_option maxRecDepth 100000
set_option maxHeartbeats 0
set_option linter.unusedVariables false
set_option linter.unusedSimpArgs false
theorem madeL_flat (n : Nat) (g : Nat → Int) : madeL n (fun i j => g (n * i + j)) = (List.range (n * n)).map g := by
  unfold madeL
  exact List.map_congr_left fun k _ => by simp only [Nat.div_add_mod]
def dgA (n : Int) (l : List Int) (k : Nat) : Int := (l.getD k 0 - 1) % n
def dgB (n : Int) (l : List Int) (k : Nat) : Int := (l.getD k 0 - 1) / n
def dgC (n : Int) (a b : List Int) (k : Nat) : Int := a.getD k 0 + n * b.getD k 0 + 1
def flatL (N : Nat) (g : Nat → Int) : List Int := (List.range N).map g
def out3 (r : Int) (x : Int) : Bool := decide (x < 0 ∨ r ≤ x)
def digErr (r c : Int) (l : List Int) : Int := if sqErr r c l = 0 then (if l.any (out3 r) then 3 else 0) else sqErr r c l
theorem bd_of {l : List Int} {lo hi : Int} (h : ∀ x ∈ l, lo ≤ x ∧ x ≤ hi) {k : Nat} (hk : k < l.length) : lo ≤ l.getD k 0 ∧ l.getD k 0 ≤ hi := by
  rw [List.getD_eq_getElem?_getD, List.getElem?_eq_getElem hk]
  exact h _ (List.getElem_mem _)
theorem flat_idx {n i j : Nat} (hi : i < n) (hj : j < n) : n * i + j < n * n := by
  have := Nat.mul_le_mul_left n (show i + 1 ≤ n by omega)
  rw [Nat.mul_add] at this; omega
theorem c108_spec (n : Nat) (c : Int) (l : List Int) (i j : Nat) (hn : 1 ≤ n ∧ n ≤ 16) (hl : l.length = n * n) (hb : ∀ x ∈ l, 1 ≤ x ∧ x ≤ 256) (hi : i < n) (hj : j < n) :
    PSpec Try.prog 108 ([] ++ [.int .i64 i, .int .i64 j] ++ [.ip (.pv [.int .i64 n, .int .i64 c, .isl (.ints .i64 l) .none]) 0, .ip (.pv [.int .i64 (n : Int)]) 0]) (.int .i64 (dgA n l (n * i + j))) := by
  have h1 := mul_bd (A := 16) (B := 16) (show 0 ≤ (n : Int) ∧ (n : Int) ≤ 16 by omega) (show 0 ≤ (i : Int) ∧ (i : Int) ≤ 16 by omega)
  have h2 := flat_idx hi hj
  have h3 := bd_of hb (k := n * i + j) (by omega)
  have h4 : (n : Int) * i + j = ((n * i + j : Nat) : Int) := by push_cast; rfl
  refine pspec_of (md := 0) (rf := []) mixed tabOK noC_ok Try.func108 (by rfl) (by rfl) (by rfl) ?_
  repeat' (first | ((conv => whnf); refine And.intro ?_ ?_) | ((conv => whnf); with_reducible exact VC.mk rfl) | ((conv => whnf); exact Ok.mk) | ((conv => whnf); exact True.intro) | ((conv => whnf); refine Nx.mk ?_) | ((conv => whnf); refine Fin.mk ?_) | ((conv => whnf); intro _))
  all_goals ((try refine VC.mk ?_); (try simp only [CL.ncell, CL.cnt, Int.toNat_natCast, decide_eq_true_eq, decide_eq_false_iff_not, Bool.not_eq_true, Bool.not_false, Bool.not_true, and_self, and_true, true_and, te3b, te4b, te3s, te4s, Nat.mul_one, Nat.zero_add, List.length_cons, List.length_nil, Bool.false_eq_true, Bool.true_eq_false] at *); (try omega))
  all_goals (try simp only [h4, Int.toNat_natCast])
  all_goals (try omega)
  all_goals exact Sup.of rfl
theorem c109_spec (n : Nat) (c : Int) (l : List Int) (i j : Nat) (hn : 1 ≤ n ∧ n ≤ 16) (hl : l.length = n * n) (hb : ∀ x ∈ l, 1 ≤ x ∧ x ≤ 256) (hi : i < n) (hj : j < n) :
    PSpec Try.prog 109 ([] ++ [.int .i64 i, .int .i64 j] ++ [.ip (.pv [.int .i64 n, .int .i64 c, .isl (.ints .i64 l) .none]) 0, .ip (.pv [.int .i64 (n : Int)]) 0]) (.int .i64 (dgB n l (n * i + j))) := by
  have h1 := mul_bd (A := 16) (B := 16) (show 0 ≤ (n : Int) ∧ (n : Int) ≤ 16 by omega) (show 0 ≤ (i : Int) ∧ (i : Int) ≤ 16 by omega)
  have h2 := flat_idx hi hj
  have h3 := bd_of hb (k := n * i + j) (by omega)
  have h4 : (n : Int) * i + j = ((n * i + j : Nat) : Int) := by push_cast; rfl
  have h5 := Int.ediv_le_self (a := l.getD (n * i + j) 0 - 1) n (by omega)
  have h6 : 0 ≤ (l.getD (n * i + j) 0 - 1) / n := Int.ediv_nonneg (by omega) (by omega)
  refine pspec_of (md := 0) (rf := []) mixed tabOK noC_ok Try.func109 (by rfl) (by rfl) (by rfl) ?_
  repeat' (first | ((conv => whnf); refine And.intro ?_ ?_) | ((conv => whnf); with_reducible exact VC.mk rfl) | ((conv => whnf); exact Ok.mk) | ((conv => whnf); exact True.intro) | ((conv => whnf); refine Nx.mk ?_) | ((conv => whnf); refine Fin.mk ?_) | ((conv => whnf); intro _))
  all_goals ((try refine VC.mk ?_); (try simp only [CL.ncell, CL.cnt, Int.toNat_natCast, decide_eq_true_eq, decide_eq_false_iff_not, Bool.not_eq_true, Bool.not_false, Bool.not_true, and_self, and_true, true_and, te3b, te4b, te3s, te4s, Nat.mul_one, Nat.zero_add, List.length_cons, List.length_nil, Bool.false_eq_true, Bool.true_eq_false] at *); (try omega))
  all_goals (try simp only [h4, Int.toNat_natCast])
  all_goals (try omega)
  all_goals exact Sup.of rfl
theorem c111_spec (n : Nat) (c c' : Int) (a b : List Int) (i j : Nat) (hn : 1 ≤ n ∧ n ≤ 16) (ha : a.length = n * n) (hb : b.length = n * n) (hab : ∀ x ∈ a, 0 ≤ x ∧ x ≤ 16) (hbb : ∀ x ∈ b, 0 ≤ x ∧ x ≤ 16) (hi : i < n) (hj : j < n) (r' : Int) :
    PSpec Try.prog 111 ([] ++ [.int .i64 i, .int .i64 j] ++ [.ip (.pv [.int .i64 n, .int .i64 c, .isl (.ints .i64 a) .none]) 0, .ip (.pv [.int .i64 (n : Int)]) 0, .ip (.pv [.int .i64 r', .int .i64 c', .isl (.ints .i64 b) .none]) 0]) (.int .i64 (dgC n a b (n * i + j))) := by
  have h1 := mul_bd (A := 16) (B := 16) (show 0 ≤ (n : Int) ∧ (n : Int) ≤ 16 by omega) (show 0 ≤ (i : Int) ∧ (i : Int) ≤ 16 by omega)
  have h2 := flat_idx hi hj
  have h3 := bd_of hab (k := n * i + j) (by omega)
  have h3' := bd_of hbb (k := n * i + j) (by omega)
  have h4 : (n : Int) * i + j = ((n * i + j : Nat) : Int) := by push_cast; rfl
  have h5 := mul_bd (A := 16) (B := 16) (show 0 ≤ (n : Int) ∧ (n : Int) ≤ 16 by omega) h3'
  refine pspec_of (md := 0) (rf := []) mixed tabOK noC_ok Try.func111 (by rfl) (by rfl) (by rfl) ?_
  repeat' (first | ((conv => whnf); refine And.intro ?_ ?_) | ((conv => whnf); with_reducible exact VC.mk rfl) | ((conv => whnf); exact Ok.mk) | ((conv => whnf); exact True.intro) | ((conv => whnf); refine Nx.mk ?_) | ((conv => whnf); refine Fin.mk ?_) | ((conv => whnf); intro _))
  all_goals ((try refine VC.mk ?_); (try simp only [CL.ncell, CL.cnt, Int.toNat_natCast, decide_eq_true_eq, decide_eq_false_iff_not, Bool.not_eq_true, Bool.not_false, Bool.not_true, and_self, and_true, true_and, te3b, te4b, te3s, te4s, Nat.mul_one, Nat.zero_add, List.length_cons, List.length_nil, Bool.false_eq_true, Bool.true_eq_false] at *); (try omega))
  all_goals (try simp only [h4, Int.toNat_natCast])
  all_goals (try omega)
  all_goals exact Sup.of rfl
theorem c142_spec (r c : Int) (l : List Int) (x : Int) : PSpec Try.prog 142 ([] ++ [.int .i64 x] ++ [.ip (.pv [.int .i64 r, .int .i64 c, .isl (.ints .i64 l) .none]) 0]) (.bp (out3 r x)) := by
  refine pspec_of (md := 0) (rf := []) mixed tabOK noC_ok Try.func142 (by rfl) (by rfl) (by rfl) ?_
  repeat' (first | ((conv => whnf); refine And.intro ?_ ?_) | ((conv => whnf); with_reducible exact VC.mk rfl) | ((conv => whnf); exact Ok.mk) | ((conv => whnf); exact True.intro) | ((conv => whnf); refine Nx.mk ?_) | ((conv => whnf); refine Fin.mk ?_) | ((conv => whnf); intro _))
  all_goals ((try refine VC.mk ?_); (try simp only [CL.ncell, CL.cnt, Int.toNat_natCast, decide_eq_true_eq, decide_eq_false_iff_not, Bool.not_eq_true, Bool.not_false, Bool.not_true, and_self, and_true, true_and, te3b, te4b, te3s, te4s, Nat.mul_one, Nat.zero_add, List.length_cons, List.length_nil, Bool.false_eq_true, Bool.true_eq_false] at *); (try omega))
  · refine sup_bp' ?_; unfold out3; rw [Bool.eq_iff_iff]; simp only [decide_eq_true_eq]; omega
  · refine sup_bool ?_; unfold out3; rw [decide_eq_true_eq]; omega
noncomputable def cpCD : CPT := cpAdd 126 (pureCC checkSquareP) (cpAdd 141 (pureCC hasFP) (cpAdd 86 (pureCC whenP) (cpAdd 87 (pureCC CheckSquareP) noC)))
theorem cpCD_ok : CPOK Try.prog cpCD := cpAdd_ok (pureCC_ok checkSquare_ok) (cpAdd_ok (pureCC_ok hasF_ok) (cpAdd_ok (pureCC_ok when_ok) (cpAdd_ok (pureCC_ok CheckSquare_ok) noC_ok)))
theorem digErr_or (r c : Int) (l : List Int) : digErr r c l = 0 ∨ digErr r c l = 2 ∨ digErr r c l = 3 := by
  unfold digErr sqErr
  (repeat' split) <;> simp
theorem checkDigits_spec (r c : Int) (l : List Int) : PSpec Try.prog 110 [gridV r c l] (.int .i64 (digErr r c l)) := by
  have hz := @sqErr_zero r c l
  unfold digErr
  refine pspec_of (md := 1) (rf := []) mixed tabOK cpCD_ok Try.func110 (by rfl) (by rfl) (by rfl) ?_
  repeat' (first | ((conv => whnf); refine And.intro ?_ ?_) | ((conv => whnf); with_reducible exact VC.mk rfl) | ((conv => whnf); exact Ok.mk) | ((conv => whnf); exact True.intro) | ((conv => whnf); refine Nx.mk ?_) | ((conv => whnf); refine Fin.mk ?_) | ((conv => whnf); intro _))
  all_goals ((try refine VC.mk ?_); (try simp only [CL.ncell, CL.cnt, Int.toNat_natCast, decide_eq_true_eq, decide_eq_false_iff_not, Bool.not_eq_true, Bool.not_false, Bool.not_true, and_self, and_true, true_and, te3b, te4b, te3s, te4s, Nat.mul_one, Nat.zero_add, List.length_cons, List.length_nil, Bool.false_eq_true, Bool.true_eq_false] at *); (try omega))
  · rw [if_neg (by omega)]; all_goals (first | (refine Sup.of ?_; first | rfl | (simp [*, resOf]; done)) | (refine Sup.via ?_; repeat' (first | ((conv => whnf); refine And.intro ?_ ?_) | ((conv => whnf); with_reducible exact VC.mk rfl) | ((conv => whnf); exact Ok.mk) | ((conv => whnf); exact True.intro) | ((conv => whnf); refine Nx.mk ?_) | ((conv => whnf); refine Fin.mk ?_) | ((conv => whnf); intro _)); all_goals ((try refine VC.mk ?_); (try simp only [CL.ncell, CL.cnt, Int.toNat_natCast, decide_eq_true_eq, decide_eq_false_iff_not, Bool.not_eq_true, Bool.not_false, Bool.not_true, and_self, and_true, true_and, te3b, te4b, te3s, te4s, Nat.mul_one, Nat.zero_add, List.length_cons, List.length_nil, Bool.false_eq_true, Bool.true_eq_false] at *); (try omega)); all_goals (try (simp [CL.sub]; done))))
  have he : sqErr r c l = 0 := by omega
  obtain ⟨z1, z2, z3, z4, z5⟩ := hz he
  · exact ⟨by omega, rfl, rfl⟩
  rw [if_pos (by omega)]
  refine ⟨out3 r, fun x hx => c142_spec r c l x, ?_⟩
  repeat' (first | ((conv => whnf); refine And.intro ?_ ?_) | ((conv => whnf); with_reducible exact VC.mk rfl) | ((conv => whnf); exact Ok.mk) | ((conv => whnf); exact True.intro) | ((conv => whnf); refine Nx.mk ?_) | ((conv => whnf); refine Fin.mk ?_) | ((conv => whnf); intro _))
  all_goals ((try refine VC.mk ?_); (try simp only [CL.ncell, CL.cnt, Int.toNat_natCast, decide_eq_true_eq, decide_eq_false_iff_not, Bool.not_eq_true, Bool.not_false, Bool.not_true, and_self, and_true, true_and, te3b, te4b, te3s, te4s, Nat.mul_one, Nat.zero_add, List.length_cons, List.length_nil, Bool.false_eq_true, Bool.true_eq_false] at *); (try omega))
  all_goals (first | (refine Sup.of ?_; first | rfl | (simp [*, resOf]; done)) | (refine Sup.via ?_; repeat' (first | ((conv => whnf); refine And.intro ?_ ?_) | ((conv => whnf); with_reducible exact VC.mk rfl) | ((conv => whnf); exact Ok.mk) | ((conv => whnf); exact True.intro) | ((conv => whnf); refine Nx.mk ?_) | ((conv => whnf); refine Fin.mk ?_) | ((conv => whnf); intro _)); all_goals ((try refine VC.mk ?_); (try simp only [CL.ncell, CL.cnt, Int.toNat_natCast, decide_eq_true_eq, decide_eq_false_iff_not, Bool.not_eq_true, Bool.not_false, Bool.not_true, and_self, and_true, true_and, te3b, te4b, te3s, te4s, Nat.mul_one, Nat.zero_add, List.length_cons, List.length_nil, Bool.false_eq_true, Bool.true_eq_false] at *); (try omega)); all_goals (try (simp [CL.sub]; done))))
def checkDigitsP : PSp := fun xs K => match xs with
  | [.agg [.int .i64 r, .int .i64 c, .isl (.ints .i64 l) .none]] => VC (True) ∧ K (.int .i64 (digErr r c l))
  | _ => False
theorem checkDigits_ok : POK Try.prog 110 checkDigitsP := by
  intro xs K h
  unfold checkDigitsP at h
  split at h
  · exact ⟨_, h.2, checkDigits_spec _ _ _⟩
  · exact h.elim
theorem any_take_succ (p : Int → Bool) (l : List Int) (i : Nat) (h : i < l.length) : (l.take (i + 1)).any p = ((l.take i).any p || p (l.getD i 0)) := by
  rw [List.take_add_one, List.any_append]
  simp [h]
theorem rCheckDigits_spec (r c : Int) (l : List Int) : PSpec Try.prog 62 [gridV r c l] (.int .i64 (digErr r c l)) := by
  have hz := @sqErr_zero r c l
  by_cases he : sqErr r c l = 0
  · obtain ⟨z1, z2, z3, z4, z5⟩ := hz he
    have hd : digErr r c l = if l.any (out3 r) then 3 else 0 := by unfold digErr; rw [if_pos he]
    rw [hd]
    refine pspec_of (md := 1) (rf := []) mixed tabOK cpCD_ok Try.func62 (by rfl) (by rfl) (by rfl) ?_
    repeat' (first | ((conv => whnf); refine And.intro ?_ ?_) | ((conv => whnf); with_reducible exact VC.mk rfl) | ((conv => whnf); exact Ok.mk) | ((conv => whnf); exact True.intro) | ((conv => whnf); refine Nx.mk ?_) | ((conv => whnf); refine Fin.mk ?_) | ((conv => whnf); intro _))
    all_goals ((try refine VC.mk ?_); (try simp only [CL.ncell, CL.cnt, Int.toNat_natCast, decide_eq_true_eq, decide_eq_false_iff_not, Bool.not_eq_true, Bool.not_false, Bool.not_true, and_self, and_true, true_and, te3b, te4b, te3s, te4s, Nat.mul_one, Nat.zero_add, List.length_cons, List.length_nil, Bool.false_eq_true, Bool.true_eq_false] at *); (try omega))
    rw [he]
    conv => whnf
    refine loop_of (X := Nat × Int) (fun x => x.1 ≤ l.length ∧ x.2 = (if (l.take x.1).any (out3 r) then 3 else 0) ∧ ((l.take x.1).any (out3 r) = true → 1 ≤ x.1 ∧ (l.take (x.1 - 1)).any (out3 r) = false)) (fun x => [(4, .int .i64 x.1), (3, .int .i64 x.2)]) (fun x => []) (fun x => l.length - x.1) (0, 0) ⟨anyB_ok, mixed, tabOK, cpCD_ok, noY_ok⟩ (by rfl) ⟨by omega, by simp, by simp⟩ ?_ ?_
    · repeat' (first | ((conv => whnf); refine And.intro ?_ ?_) | ((conv => whnf); with_reducible exact VC.mk rfl) | ((conv => whnf); exact Ok.mk) | ((conv => whnf); exact True.intro) | ((conv => whnf); refine Nx.mk ?_) | ((conv => whnf); refine Fin.mk ?_) | ((conv => whnf); intro _))
      all_goals ((try refine VC.mk ?_); (try simp only [CL.ncell, CL.cnt, Int.toNat_natCast, decide_eq_true_eq, decide_eq_false_iff_not, Bool.not_eq_true, Bool.not_false, Bool.not_true, and_self, and_true, true_and, te3b, te4b, te3s, te4s, Nat.mul_one, Nat.zero_add, List.length_cons, List.length_nil, Bool.false_eq_true, Bool.true_eq_false] at *); (try omega))
    rintro ⟨i, e⟩ ⟨hi, he2, he3⟩
    simp only at hi he2 he3
    by_cases hlt : i < l.length
    · have e1 := any_take_succ (out3 r) l i hlt
      by_cases hany : (l.take i).any (out3 r) = true
      · rw [if_pos hany] at he2
        subst he2
        have : l.any (out3 r) = true := by
          rw [List.any_eq_true] at hany ⊢
          obtain ⟨x, hx, hp⟩ := hany
          exact ⟨x, List.mem_of_mem_take hx, hp⟩
        rw [this]
        repeat' (first | ((conv => whnf); refine And.intro ?_ ?_) | ((conv => whnf); with_reducible exact VC.mk rfl) | ((conv => whnf); exact Ok.mk) | ((conv => whnf); exact True.intro) | ((conv => whnf); refine Nx.mk ?_) | ((conv => whnf); refine Fin.mk ?_) | ((conv => whnf); intro _))
        all_goals ((try refine VC.mk ?_); (try simp only [CL.ncell, CL.cnt, Int.toNat_natCast, decide_eq_true_eq, decide_eq_false_iff_not, Bool.not_eq_true, Bool.not_false, Bool.not_true, and_self, and_true, true_and, te3b, te4b, te3s, te4s, Nat.mul_one, Nat.zero_add, List.length_cons, List.length_nil, Bool.false_eq_true, Bool.true_eq_false] at *); (try omega))
        all_goals (try (exfalso; omega))
        all_goals (first | (refine Sup.of ?_; first | rfl | (simp [*, resOf]; done)) | (refine Sup.via ?_; repeat' (first | ((conv => whnf); refine And.intro ?_ ?_) | ((conv => whnf); with_reducible exact VC.mk rfl) | ((conv => whnf); exact Ok.mk) | ((conv => whnf); exact True.intro) | ((conv => whnf); refine Nx.mk ?_) | ((conv => whnf); refine Fin.mk ?_) | ((conv => whnf); intro _)); all_goals ((try refine VC.mk ?_); (try simp only [CL.ncell, CL.cnt, Int.toNat_natCast, decide_eq_true_eq, decide_eq_false_iff_not, Bool.not_eq_true, Bool.not_false, Bool.not_true, and_self, and_true, true_and, te3b, te4b, te3s, te4s, Nat.mul_one, Nat.zero_add, List.length_cons, List.length_nil, Bool.false_eq_true, Bool.true_eq_false] at *); (try omega)); all_goals (try (simp [CL.sub]; done))))
      · have hany : (l.take i).any (out3 r) = false := by simpa using hany
        rw [hany] at he2 e1
        simp only [Bool.false_or] at e1
        simp only [Bool.false_eq_true, if_false] at he2
        subst he2
        repeat' (first | ((conv => whnf); refine And.intro ?_ ?_) | ((conv => whnf); with_reducible exact VC.mk rfl) | ((conv => whnf); exact Ok.mk) | ((conv => whnf); exact True.intro) | ((conv => whnf); refine Nx.mk ?_) | ((conv => whnf); refine Fin.mk ?_) | ((conv => whnf); intro hq; (try simp only [decide_eq_true_eq, decide_eq_false_iff_not, Bool.not_eq_true, Bool.not_eq_false, Bool.not_eq_true', Bool.not_eq_false', ite_true, ite_false] at hq); (try (exfalso; first | exact absurd hq (by decide) | omega))))
        all_goals ((try refine VC.mk ?_); (try simp only [CL.ncell, CL.cnt, Int.toNat_natCast, decide_eq_true_eq, decide_eq_false_iff_not, Bool.not_eq_true, Bool.not_false, Bool.not_true, and_self, and_true, true_and, te3b, te4b, te3s, te4s, Nat.mul_one, Nat.zero_add, List.length_cons, List.length_nil, Bool.false_eq_true, Bool.true_eq_false] at *); (try omega))
        all_goals (try (exfalso; omega))
        · have hp : out3 r (l.getD i 0) = true := by unfold out3; rw [decide_eq_true_eq]; omega
          refine ⟨(i + 1, 3), [], ⟨⟨by omega, by rw [e1, hp]; rfl, fun _ => ⟨by omega, hany⟩⟩, by omega⟩, ?_⟩
          repeat' (first | ((conv => whnf); refine And.intro ?_ ?_) | ((conv => whnf); with_reducible exact VC.mk rfl) | ((conv => whnf); exact Ok.mk) | ((conv => whnf); exact True.intro) | ((conv => whnf); refine Nx.mk ?_) | ((conv => whnf); refine Fin.mk ?_) | ((conv => whnf); intro _))
          all_goals ((try refine VC.mk ?_); (try simp only [CL.ncell, CL.cnt, Int.toNat_natCast, decide_eq_true_eq, decide_eq_false_iff_not, Bool.not_eq_true, Bool.not_false, Bool.not_true, and_self, and_true, true_and, te3b, te4b, te3s, te4s, Nat.mul_one, Nat.zero_add, List.length_cons, List.length_nil, Bool.false_eq_true, Bool.true_eq_false] at *); (try omega))
        · have hp : out3 r (l.getD i 0) = false := by unfold out3; rw [decide_eq_false_iff_not]; omega
          refine ⟨(i + 1, 0), [], ⟨⟨by omega, by rw [e1, hp]; rfl, fun h => by rw [e1, hp] at h; cases h⟩, by omega⟩, ?_⟩
          repeat' (first | ((conv => whnf); refine And.intro ?_ ?_) | ((conv => whnf); with_reducible exact VC.mk rfl) | ((conv => whnf); exact Ok.mk) | ((conv => whnf); exact True.intro) | ((conv => whnf); refine Nx.mk ?_) | ((conv => whnf); refine Fin.mk ?_) | ((conv => whnf); intro _))
          all_goals ((try refine VC.mk ?_); (try simp only [CL.ncell, CL.cnt, Int.toNat_natCast, decide_eq_true_eq, decide_eq_false_iff_not, Bool.not_eq_true, Bool.not_false, Bool.not_true, and_self, and_true, true_and, te3b, te4b, te3s, te4s, Nat.mul_one, Nat.zero_add, List.length_cons, List.length_nil, Bool.false_eq_true, Bool.true_eq_false] at *); (try omega))
        · have hp : out3 r (l.getD i 0) = true := by unfold out3; rw [decide_eq_true_eq]; omega
          refine ⟨(i + 1, 3), [], ⟨⟨by omega, by rw [e1, hp]; rfl, fun _ => ⟨by omega, hany⟩⟩, by omega⟩, ?_⟩
          repeat' (first | ((conv => whnf); refine And.intro ?_ ?_) | ((conv => whnf); with_reducible exact VC.mk rfl) | ((conv => whnf); exact Ok.mk) | ((conv => whnf); exact True.intro) | ((conv => whnf); refine Nx.mk ?_) | ((conv => whnf); refine Fin.mk ?_) | ((conv => whnf); intro _))
          all_goals ((try refine VC.mk ?_); (try simp only [CL.ncell, CL.cnt, Int.toNat_natCast, decide_eq_true_eq, decide_eq_false_iff_not, Bool.not_eq_true, Bool.not_false, Bool.not_true, and_self, and_true, true_and, te3b, te4b, te3s, te4s, Nat.mul_one, Nat.zero_add, List.length_cons, List.length_nil, Bool.false_eq_true, Bool.true_eq_false] at *); (try omega))
    · have : l.length = i := by omega
      subst this
      rw [List.take_length] at he2
      subst he2
      repeat' (first | ((conv => whnf); refine And.intro ?_ ?_) | ((conv => whnf); with_reducible exact VC.mk rfl) | ((conv => whnf); exact Ok.mk) | ((conv => whnf); exact True.intro) | ((conv => whnf); refine Nx.mk ?_) | ((conv => whnf); refine Fin.mk ?_) | ((conv => whnf); intro _))
      all_goals ((try refine VC.mk ?_); (try simp only [CL.ncell, CL.cnt, Int.toNat_natCast, decide_eq_true_eq, decide_eq_false_iff_not, Bool.not_eq_true, Bool.not_false, Bool.not_true, and_self, and_true, true_and, te3b, te4b, te3s, te4s, Nat.mul_one, Nat.zero_add, List.length_cons, List.length_nil, Bool.false_eq_true, Bool.true_eq_false] at *); (try omega))
      all_goals (first | (refine Sup.of ?_; first | rfl | (simp [*, resOf]; done)) | (refine Sup.via ?_; repeat' (first | ((conv => whnf); refine And.intro ?_ ?_) | ((conv => whnf); with_reducible exact VC.mk rfl) | ((conv => whnf); exact Ok.mk) | ((conv => whnf); exact True.intro) | ((conv => whnf); refine Nx.mk ?_) | ((conv => whnf); refine Fin.mk ?_) | ((conv => whnf); intro _)); all_goals ((try refine VC.mk ?_); (try simp only [CL.ncell, CL.cnt, Int.toNat_natCast, decide_eq_true_eq, decide_eq_false_iff_not, Bool.not_eq_true, Bool.not_false, Bool.not_true, and_self, and_true, true_and, te3b, te4b, te3s, te4s, Nat.mul_one, Nat.zero_add, List.length_cons, List.length_nil, Bool.false_eq_true, Bool.true_eq_false] at *); (try omega)); all_goals (try (simp [CL.sub]; done))))
  · have hd : digErr r c l = sqErr r c l := by unfold digErr; rw [if_neg he]
    rw [hd]
    refine pspec_of (md := 1) (rf := []) mixed tabOK cpCD_ok Try.func62 (by rfl) (by rfl) (by rfl) ?_
    repeat' (first | ((conv => whnf); refine And.intro ?_ ?_) | ((conv => whnf); with_reducible exact VC.mk rfl) | ((conv => whnf); exact Ok.mk) | ((conv => whnf); exact True.intro) | ((conv => whnf); refine Nx.mk ?_) | ((conv => whnf); refine Fin.mk ?_) | ((conv => whnf); intro _))
    all_goals ((try refine VC.mk ?_); (try simp only [CL.ncell, CL.cnt, Int.toNat_natCast, decide_eq_true_eq, decide_eq_false_iff_not, Bool.not_eq_true, Bool.not_false, Bool.not_true, and_self, and_true, true_and, te3b, te4b, te3s, te4s, Nat.mul_one, Nat.zero_add, List.length_cons, List.length_nil, Bool.false_eq_true, Bool.true_eq_false] at *); (try omega))
    conv => whnf
    refine loop_of (X := Unit) (fun _ => True) (fun x => [(4, .int .i64 0), (3, .int .i64 (sqErr r c l))]) (fun x => []) (fun _ => 0) () ⟨anyB_ok, mixed, tabOK, cpCD_ok, noY_ok⟩ (by rfl) trivial ?_ ?_
    · repeat' (first | ((conv => whnf); refine And.intro ?_ ?_) | ((conv => whnf); with_reducible exact VC.mk rfl) | ((conv => whnf); exact Ok.mk) | ((conv => whnf); exact True.intro) | ((conv => whnf); refine Nx.mk ?_) | ((conv => whnf); refine Fin.mk ?_) | ((conv => whnf); intro _))
      all_goals ((try refine VC.mk ?_); (try simp only [CL.ncell, CL.cnt, Int.toNat_natCast, decide_eq_true_eq, decide_eq_false_iff_not, Bool.not_eq_true, Bool.not_false, Bool.not_true, and_self, and_true, true_and, te3b, te4b, te3s, te4s, Nat.mul_one, Nat.zero_add, List.length_cons, List.length_nil, Bool.false_eq_true, Bool.true_eq_false] at *); (try omega))
    intro x hx
    repeat' (first | ((conv => whnf); refine And.intro ?_ ?_) | ((conv => whnf); with_reducible exact VC.mk rfl) | ((conv => whnf); exact Ok.mk) | ((conv => whnf); exact True.intro) | ((conv => whnf); refine Nx.mk ?_) | ((conv => whnf); refine Fin.mk ?_) | ((conv => whnf); intro hq; (try simp only [decide_eq_true_eq, decide_eq_false_iff_not, Bool.not_eq_true, Bool.not_eq_false, Bool.not_eq_true', Bool.not_eq_false', ite_true, ite_false] at hq); (try (exfalso; first | exact absurd hq (by decide) | omega))))
    all_goals ((try refine VC.mk ?_); (try simp only [CL.ncell, CL.cnt, Int.toNat_natCast, decide_eq_true_eq, decide_eq_false_iff_not, Bool.not_eq_true, Bool.not_false, Bool.not_true, and_self, and_true, true_and, te3b, te4b, te3s, te4s, Nat.mul_one, Nat.zero_add, List.length_cons, List.length_nil, Bool.false_eq_true, Bool.true_eq_false] at *); (try omega))
    all_goals (try (exfalso; omega))
    all_goals all_goals (first | (refine Sup.of ?_; first | rfl | (simp [*, resOf]; done)) | (refine Sup.via ?_; repeat' (first | ((conv => whnf); refine And.intro ?_ ?_) | ((conv => whnf); with_reducible exact VC.mk rfl) | ((conv => whnf); exact Ok.mk) | ((conv => whnf); exact True.intro) | ((conv => whnf); refine Nx.mk ?_) | ((conv => whnf); refine Fin.mk ?_) | ((conv => whnf); intro _)); all_goals ((try refine VC.mk ?_); (try simp only [CL.ncell, CL.cnt, Int.toNat_natCast, decide_eq_true_eq, decide_eq_false_iff_not, Bool.not_eq_true, Bool.not_false, Bool.not_true, and_self, and_true, true_and, te3b, te4b, te3s, te4s, Nat.mul_one, Nat.zero_add, List.length_cons, List.length_nil, Bool.false_eq_true, Bool.true_eq_false] at *); (try omega)); all_goals (try (simp [CL.sub]; done))))
def rCheckDigitsP : PSp := fun xs K => match xs with
  | [.agg [.int .i64 r, .int .i64 c, .isl (.ints .i64 l) .none]] => VC (True) ∧ K (.int .i64 (digErr r c l))
  | _ => False
theorem rCheckDigits_ok : POK Try.prog 62 rCheckDigitsP := by
  intro xs K h
  unfold rCheckDigitsP at h
  split at h
  · exact ⟨_, h.2, rCheckDigits_spec _ _ _⟩
  · exact h.elim
end Go.Eng.Ytppflbccfdbogaa
namespace Go.Eng.Ytppflbccfdbogaa
open Go.Proofs
set_option maxRecDepth 100000
set_option maxHeartbeats 0
set_option linter.unusedVariables false
set_option linter.unusedSimpArgs false
theorem good_err {n : Nat} (hn : 1 ≤ n ∧ n ≤ 16) {g : Int} {l : List Int} (h : GoodSq n g l) : normErr n n l = 0 := by
  have hl : (l.length : Int) = (n : Int) * n := by rw [h.len]; push_cast; rfl
  unfold normErr
  rw [if_pos, if_pos h.norm]
  unfold sqErr
  rw [if_neg (by omega)]
theorem magic_yes (n : Nat) (g : Int) (l : List Int) (s : ByteArray) (hn : 1 ≤ n ∧ n ≤ 16) (hg : gOf s = g) (h : GoodSq n g l) : PSpec Try.prog 27 [gridV n n l, .int .i64 n, .str s] (.bp true) := by
  have he := good_err hn h
  have hF := Fails_spec n n l s hn h.len (fun x hx => by
    have h1 := isNorm_bd h.norm x hx
    have h2 := Nat.mul_le_mul hn.2 hn.2
    rw [h.len] at h1
    omega)
  rw [failsV_eq, hg, h.bad] at hF
  unfold failsL at hF
  rw [h.bad] at hF
  have hC := cpAdd_ok (pureCC_ok (atC_ok (C := True) fun _ => hF)) (cpAdd_ok (pureCC_ok CheckNormal_ok) noC_ok)
  refine pspec_of (md := 1) (rf := []) mixed tabOK hC Try.func27 (by rfl) (by rfl) (by rfl) ?_
  repeat' (first | ((conv => whnf); refine And.intro ?_ ?_) | ((conv => whnf); with_reducible exact VC.mk rfl) | ((conv => whnf); exact Ok.mk) | ((conv => whnf); exact True.intro) | ((conv => whnf); refine Nx.mk ?_) | ((conv => whnf); refine Fin.mk ?_) | ((conv => whnf); intro hq; (try simp only [decide_eq_true_eq, decide_eq_false_iff_not, Bool.not_eq_true, Bool.not_eq_false, Bool.not_eq_true', Bool.not_eq_false', ite_true, ite_false] at hq); (try (exfalso; first | exact absurd hq (by decide) | omega))))
  all_goals ((try refine VC.mk ?_); (try simp only [CL.ncell, CL.cnt, Int.toNat_natCast, decide_eq_true_eq, decide_eq_false_iff_not, Bool.not_eq_true, Bool.not_false, Bool.not_true, and_self, and_true, true_and, te3b, te4b, te3s, te4s, Nat.mul_one, Nat.zero_add, List.length_cons, List.length_nil, Bool.false_eq_true, Bool.true_eq_false] at *); (try omega))
  exact Sup.of rfl
structure MagOK (r c : Int) (l : List Int) (m g : Int) : Prop where
  ex : ∃ n : Nat, (1 ≤ n ∧ n ≤ 16) ∧ r = n ∧ c = n ∧ m = n ∧ GoodSq n g l
def magT : PSp := fun xs K => match xs with
  | [.agg [.int .i64 r, .int .i64 c, .isl (.ints .i64 l) .none], .int .i64 m, .str s] => VC (MagOK r c l m (gOf s)) ∧ K (.bool true)
  | _ => False
theorem magT_ok : POK Try.prog 27 magT := by
  intro xs K h
  unfold magT at h
  split at h
  · obtain ⟨⟨⟨n, hn, rfl, rfl, rfl, hg⟩⟩, h⟩ := h
    exact ⟨_, h, pspec_sup (magic_yes n _ _ _ hn rfl hg) sup_b⟩
  · exact h.elim
theorem magic_two : PSpec Try.prog 32 [.int .i64 2] (.tup [gridV 0 0 [], .int .i64 7]) := magic_spec' 2
theorem magic_any {n : Nat} (hn : 1 ≤ n ∧ n ≤ 16) (h2 : n ≠ 2) : PSpec Try.prog 32 [.int .i64 n] (.tup [gridV n n (magL0 n), .int .i64 0]) := by
  have h := magic_spec' n
  unfold cMagV at h
  rw [if_neg (by omega), magV_eq h2] at h
  exact h
theorem pan_yes {n : Nat} (hn : 1 ≤ n ∧ n ≤ 16) (h2 : isPanN n) : PSpec Try.prog 33 [.int .i64 n] (.tup [gridV n n (panL0 n), .int .i64 0]) := by
  have h := pandiagonal_spec n
  rw [panV_eq (by omega), panV_yes h2] at h
  exact h
theorem pan_no {n : Nat} (hn : 1 ≤ n ∧ n ≤ 16) (h2 : ¬ isPanN n) : PSpec Try.prog 33 [.int .i64 n] (.tup [gridV 0 0 [], .int .i64 7]) := by
  have h := pandiagonal_spec n
  rw [panV_eq (by omega), panV_no h2] at h
  exact h
theorem magic_law (a : Int) (ha : 0 ≤ a ∧ a ≤ 255) : PSpec Try.prog 6 [.int .u8 a] (.bp true) := by
  have t16 : a.tmod 16 = a % 16 := Int.tmod_eq_emod_of_nonneg (by omega)
  obtain ⟨n, hn⟩ : ∃ n : Nat, 1 + a.tmod 16 = n := ⟨(1 + a.tmod 16).toNat, by omega⟩
  have hb : 1 ≤ n ∧ n ≤ 16 := by omega
  have t2 : (1 + a.tmod 16).tmod 2 = (n : Int) % 2 := by rw [hn]; exact Int.tmod_eq_emod_of_nonneg (by omega)
  have t3 : (1 + a.tmod 16).tmod 3 = (n : Int) % 3 := by rw [hn]; exact Int.tmod_eq_emod_of_nonneg (by omega)
  have t4 : (1 + a.tmod 16).tmod 4 = (n : Int) % 4 := by rw [hn]; exact Int.tmod_eq_emod_of_nonneg (by omega)
  by_cases h2 : n = 2
  · subst h2
    have h32 := magic_two
    have h33 := pan_no (n := 2) (by decide) (by decide)
    rw [show (2 : Int) = ((2 : Nat) : Int) from rfl, ← hn] at h32
    rw [← hn] at h33
    have hC := cpAdd_ok (pureCC_ok (atC_ok (C := True) fun _ => h32)) (cpAdd_ok (pureCC_ok (atC_ok (C := True) fun _ => h33)) (cpAdd_ok (pureCC_ok magT_ok) (cpAdd_ok (pureCC_ok awakeT_ok) noC_ok)))
    refine pspec_of (md := 1) (rf := []) mixed tabOK hC Try.func6 (by rfl) (by rfl) (by rfl) ?_
    repeat' (first | ((conv => whnf); refine And.intro ?_ ?_) | ((conv => whnf); with_reducible exact VC.mk rfl) | ((conv => whnf); exact Ok.mk) | ((conv => whnf); exact True.intro) | ((conv => whnf); refine Nx.mk ?_) | ((conv => whnf); refine Fin.mk ?_) | ((conv => whnf); intro hq; (try simp only [decide_eq_true_eq, decide_eq_false_iff_not, Bool.not_eq_true, Bool.not_eq_false, Bool.not_eq_true', Bool.not_eq_false', ite_true, ite_false] at hq); (try (exfalso; first | exact absurd hq (by decide) | omega))))
    all_goals ((try refine VC.mk ?_); (try simp only [CL.ncell, CL.cnt, Int.toNat_natCast, decide_eq_true_eq, decide_eq_false_iff_not, Bool.not_eq_true, Bool.not_false, Bool.not_true, and_self, and_true, true_and, te3b, te4b, te3s, te4s, Nat.mul_one, Nat.zero_add, List.length_cons, List.length_nil, Bool.false_eq_true, Bool.true_eq_false] at *); (try omega))
    all_goals first | exact sup_true | (exfalso; omega) | (exfalso; simp_all; done)
  · have h32 := magic_any hb h2
    have hG := magL0_good hb h2
    rw [← hn] at h32
    have hA := fun h => magL0_assoc hb (n := n) h
    have hlen := hG.len
    have hll : ((magL0 n).length : Int) = (n : Int) * n := by rw [hlen]; push_cast; rfl
    have hbd : ∀ x ∈ magL0 n, 0 ≤ x ∧ x ≤ 256 := fun x hx => by
      have h1 := isNorm_bd hG.norm x hx
      have h2 := Nat.mul_le_mul hb.2 hb.2
      rw [hlen] at h1
      omega
    generalize magL0 n = lm at *
    by_cases hp : isPanN n
    · have h33 := pan_yes hb hp
      have hP := panL0_good hb hp
      rw [← hn] at h33
      unfold isPanN at hp
      have hC := cpAdd_ok (pureCC_ok (atC_ok (C := True) fun _ => h32)) (cpAdd_ok (pureCC_ok (atC_ok (C := True) fun _ => h33)) (cpAdd_ok (pureCC_ok magT_ok) (cpAdd_ok (pureCC_ok awakeT_ok) noC_ok)))
      generalize panL0 n = lp at *
      refine pspec_of (md := 1) (rf := []) mixed tabOK hC Try.func6 (by rfl) (by rfl) (by rfl) ?_
      repeat' (first | ((conv => whnf); refine And.intro ?_ ?_) | ((conv => whnf); with_reducible exact VC.mk rfl) | ((conv => whnf); exact Ok.mk) | ((conv => whnf); exact True.intro) | ((conv => whnf); refine Nx.mk ?_) | ((conv => whnf); refine Fin.mk ?_) | ((conv => whnf); intro hq; (try simp only [decide_eq_true_eq, decide_eq_false_iff_not, Bool.not_eq_true, Bool.not_eq_false, Bool.not_eq_true', Bool.not_eq_false', ite_true, ite_false] at hq); (try (exfalso; first | exact absurd hq (by decide) | omega))))
      all_goals ((try refine VC.mk ?_); (try simp only [CL.ncell, CL.cnt, Int.toNat_natCast, decide_eq_true_eq, decide_eq_false_iff_not, Bool.not_eq_true, Bool.not_false, Bool.not_true, and_self, and_true, true_and, te3b, te4b, te3s, te4s, Nat.mul_one, Nat.zero_add, List.length_cons, List.length_nil, Bool.false_eq_true, Bool.true_eq_false] at *); (try omega))
      all_goals first | exact sup_true | (exfalso; omega) | (exfalso; simp_all; done) | exact ⟨n, hb, hn, hn, hn, hG⟩ | exact ⟨n, hb, hn, hn, hn, hP⟩ | (exfalso; simp at *; omega) | skip
      all_goals
        conv => whnf
        refine loop_of (X := Nat) (fun k => k ≤ n * n) (fun k => [(13, .any), (15, .any), (18, .any), (20, .any), (78, .int .i64 k)]) (fun k => []) (fun k => n * n - k) 0 ⟨anyB_ok, mixed, tabOK, hC, noY_ok⟩ (by rfl) (by omega) ?_ ?_
        · repeat' (first | ((conv => whnf); refine And.intro ?_ ?_) | ((conv => whnf); with_reducible exact VC.mk rfl) | ((conv => whnf); exact Ok.mk) | ((conv => whnf); exact True.intro) | ((conv => whnf); refine Nx.mk ?_) | ((conv => whnf); refine Fin.mk ?_) | ((conv => whnf); intro _))
          all_goals ((try refine VC.mk ?_); (try simp only [CL.ncell, CL.cnt, Int.toNat_natCast, decide_eq_true_eq, decide_eq_false_iff_not, Bool.not_eq_true, Bool.not_false, Bool.not_true, and_self, and_true, true_and, te3b, te4b, te3s, te4s, Nat.mul_one, Nat.zero_add, List.length_cons, List.length_nil, Bool.false_eq_true, Bool.true_eq_false] at *); (try omega))
        intro k hk
        by_cases hlt : k < n * n
        · have hA2 := hA (by omega) k hlt
          have h3 := bd_of hbd (k := k) (by omega)
          have h4 := bd_of hbd (k := n * n - 1 - k) (by omega)
          have e5 : ((lm.length : Int) - 1 - k).toNat = n * n - 1 - k := by omega
          have h6 := mul_bd (show 0 ≤ 1 + a.tmod 16 ∧ 1 + a.tmod 16 ≤ 16 by omega) (show 0 ≤ 1 + a.tmod 16 ∧ 1 + a.tmod 16 ≤ 16 by omega)
          repeat' (first | ((conv => whnf); refine And.intro ?_ ?_) | ((conv => whnf); with_reducible exact VC.mk rfl) | ((conv => whnf); exact Ok.mk) | ((conv => whnf); exact True.intro) | ((conv => whnf); refine Nx.mk ?_) | ((conv => whnf); refine Fin.mk ?_) | ((conv => whnf); intro hq; (try simp only [decide_eq_true_eq, decide_eq_false_iff_not, Bool.not_eq_true, Bool.not_eq_false, Bool.not_eq_true', Bool.not_eq_false', ite_true, ite_false] at hq); (try (exfalso; first | exact absurd hq (by decide) | omega))))
          all_goals ((try refine VC.mk ?_); (try simp only [CL.ncell, CL.cnt, Int.toNat_natCast, decide_eq_true_eq, decide_eq_false_iff_not, Bool.not_eq_true, Bool.not_false, Bool.not_true, and_self, and_true, true_and, te3b, te4b, te3s, te4s, Nat.mul_one, Nat.zero_add, List.length_cons, List.length_nil, Bool.false_eq_true, Bool.true_eq_false] at *); (try omega))
          all_goals (try rw [e5])
          all_goals (try omega)
          · exfalso
            rename_i hq
            rw [e5, hn] at hq
            exact hq hA2
          · refine ⟨k + 1, [], ⟨by omega, by omega⟩, ?_⟩
            repeat' (first | ((conv => whnf); refine And.intro ?_ ?_) | ((conv => whnf); with_reducible exact VC.mk rfl) | ((conv => whnf); exact Ok.mk) | ((conv => whnf); exact True.intro) | ((conv => whnf); refine Nx.mk ?_) | ((conv => whnf); refine Fin.mk ?_) | ((conv => whnf); intro _))
            all_goals ((try refine VC.mk ?_); (try simp only [CL.ncell, CL.cnt, Int.toNat_natCast, decide_eq_true_eq, decide_eq_false_iff_not, Bool.not_eq_true, Bool.not_false, Bool.not_true, and_self, and_true, true_and, te3b, te4b, te3s, te4s, Nat.mul_one, Nat.zero_add, List.length_cons, List.length_nil, Bool.false_eq_true, Bool.true_eq_false] at *); (try omega))
        · repeat' (first | ((conv => whnf); refine And.intro ?_ ?_) | ((conv => whnf); with_reducible exact VC.mk rfl) | ((conv => whnf); exact Ok.mk) | ((conv => whnf); exact True.intro) | ((conv => whnf); refine Nx.mk ?_) | ((conv => whnf); refine Fin.mk ?_) | ((conv => whnf); intro hq; (try simp only [decide_eq_true_eq, decide_eq_false_iff_not, Bool.not_eq_true, Bool.not_eq_false, Bool.not_eq_true', Bool.not_eq_false', ite_true, ite_false] at hq); (try (exfalso; first | exact absurd hq (by decide) | omega))))
          all_goals ((try refine VC.mk ?_); (try simp only [CL.ncell, CL.cnt, Int.toNat_natCast, decide_eq_true_eq, decide_eq_false_iff_not, Bool.not_eq_true, Bool.not_false, Bool.not_true, and_self, and_true, true_and, te3b, te4b, te3s, te4s, Nat.mul_one, Nat.zero_add, List.length_cons, List.length_nil, Bool.false_eq_true, Bool.true_eq_false] at *); (try omega))
          all_goals first | exact sup_true | (exfalso; omega)
    · have h33 := pan_no hb hp
      rw [← hn] at h33
      unfold isPanN at hp
      have hC := cpAdd_ok (pureCC_ok (atC_ok (C := True) fun _ => h32)) (cpAdd_ok (pureCC_ok (atC_ok (C := True) fun _ => h33)) (cpAdd_ok (pureCC_ok magT_ok) (cpAdd_ok (pureCC_ok awakeT_ok) noC_ok)))
      refine pspec_of (md := 1) (rf := []) mixed tabOK hC Try.func6 (by rfl) (by rfl) (by rfl) ?_
      repeat' (first | ((conv => whnf); refine And.intro ?_ ?_) | ((conv => whnf); with_reducible exact VC.mk rfl) | ((conv => whnf); exact Ok.mk) | ((conv => whnf); exact True.intro) | ((conv => whnf); refine Nx.mk ?_) | ((conv => whnf); refine Fin.mk ?_) | ((conv => whnf); intro hq; (try simp only [decide_eq_true_eq, decide_eq_false_iff_not, Bool.not_eq_true, Bool.not_eq_false, Bool.not_eq_true', Bool.not_eq_false', ite_true, ite_false] at hq); (try (exfalso; first | exact absurd hq (by decide) | omega))))
      all_goals ((try refine VC.mk ?_); (try simp only [CL.ncell, CL.cnt, Int.toNat_natCast, decide_eq_true_eq, decide_eq_false_iff_not, Bool.not_eq_true, Bool.not_false, Bool.not_true, and_self, and_true, true_and, te3b, te4b, te3s, te4s, Nat.mul_one, Nat.zero_add, List.length_cons, List.length_nil, Bool.false_eq_true, Bool.true_eq_false] at *); (try omega))
      all_goals first | exact sup_true | (exfalso; omega) | (exfalso; simp_all; done) | exact ⟨n, hb, hn, hn, hn, hG⟩ | (exfalso; simp at *; omega) | skip
      all_goals
        conv => whnf
        refine loop_of (X := Nat) (fun k => k ≤ n * n) (fun k => [(13, .any), (15, .any), (18, .any), (20, .any), (78, .int .i64 k)]) (fun k => []) (fun k => n * n - k) 0 ⟨anyB_ok, mixed, tabOK, hC, noY_ok⟩ (by rfl) (by omega) ?_ ?_
        · repeat' (first | ((conv => whnf); refine And.intro ?_ ?_) | ((conv => whnf); with_reducible exact VC.mk rfl) | ((conv => whnf); exact Ok.mk) | ((conv => whnf); exact True.intro) | ((conv => whnf); refine Nx.mk ?_) | ((conv => whnf); refine Fin.mk ?_) | ((conv => whnf); intro _))
          all_goals ((try refine VC.mk ?_); (try simp only [CL.ncell, CL.cnt, Int.toNat_natCast, decide_eq_true_eq, decide_eq_false_iff_not, Bool.not_eq_true, Bool.not_false, Bool.not_true, and_self, and_true, true_and, te3b, te4b, te3s, te4s, Nat.mul_one, Nat.zero_add, List.length_cons, List.length_nil, Bool.false_eq_true, Bool.true_eq_false] at *); (try omega))
        intro k hk
        by_cases hlt : k < n * n
        · have hA2 := hA (by omega) k hlt
          have h3 := bd_of hbd (k := k) (by omega)
          have h4 := bd_of hbd (k := n * n - 1 - k) (by omega)
          have e5 : ((lm.length : Int) - 1 - k).toNat = n * n - 1 - k := by omega
          have h6 := mul_bd (show 0 ≤ 1 + a.tmod 16 ∧ 1 + a.tmod 16 ≤ 16 by omega) (show 0 ≤ 1 + a.tmod 16 ∧ 1 + a.tmod 16 ≤ 16 by omega)
          repeat' (first | ((conv => whnf); refine And.intro ?_ ?_) | ((conv => whnf); with_reducible exact VC.mk rfl) | ((conv => whnf); exact Ok.mk) | ((conv => whnf); exact True.intro) | ((conv => whnf); refine Nx.mk ?_) | ((conv => whnf); refine Fin.mk ?_) | ((conv => whnf); intro hq; (try simp only [decide_eq_true_eq, decide_eq_false_iff_not, Bool.not_eq_true, Bool.not_eq_false, Bool.not_eq_true', Bool.not_eq_false', ite_true, ite_false] at hq); (try (exfalso; first | exact absurd hq (by decide) | omega))))
          all_goals ((try refine VC.mk ?_); (try simp only [CL.ncell, CL.cnt, Int.toNat_natCast, decide_eq_true_eq, decide_eq_false_iff_not, Bool.not_eq_true, Bool.not_false, Bool.not_true, and_self, and_true, true_and, te3b, te4b, te3s, te4s, Nat.mul_one, Nat.zero_add, List.length_cons, List.length_nil, Bool.false_eq_true, Bool.true_eq_false] at *); (try omega))
          all_goals (try rw [e5])
          all_goals (try omega)
          · exfalso
            rename_i hq
            rw [e5, hn] at hq
            exact hq hA2
          · refine ⟨k + 1, [], ⟨by omega, by omega⟩, ?_⟩
            repeat' (first | ((conv => whnf); refine And.intro ?_ ?_) | ((conv => whnf); with_reducible exact VC.mk rfl) | ((conv => whnf); exact Ok.mk) | ((conv => whnf); exact True.intro) | ((conv => whnf); refine Nx.mk ?_) | ((conv => whnf); refine Fin.mk ?_) | ((conv => whnf); intro _))
            all_goals ((try refine VC.mk ?_); (try simp only [CL.ncell, CL.cnt, Int.toNat_natCast, decide_eq_true_eq, decide_eq_false_iff_not, Bool.not_eq_true, Bool.not_false, Bool.not_true, and_self, and_true, true_and, te3b, te4b, te3s, te4s, Nat.mul_one, Nat.zero_add, List.length_cons, List.length_nil, Bool.false_eq_true, Bool.true_eq_false] at *); (try omega))
        · repeat' (first | ((conv => whnf); refine And.intro ?_ ?_) | ((conv => whnf); with_reducible exact VC.mk rfl) | ((conv => whnf); exact Ok.mk) | ((conv => whnf); exact True.intro) | ((conv => whnf); refine Nx.mk ?_) | ((conv => whnf); refine Fin.mk ?_) | ((conv => whnf); intro hq; (try simp only [decide_eq_true_eq, decide_eq_false_iff_not, Bool.not_eq_true, Bool.not_eq_false, Bool.not_eq_true', Bool.not_eq_false', ite_true, ite_false] at hq); (try (exfalso; first | exact absurd hq (by decide) | omega))))
          all_goals ((try refine VC.mk ?_); (try simp only [CL.ncell, CL.cnt, Int.toNat_natCast, decide_eq_true_eq, decide_eq_false_iff_not, Bool.not_eq_true, Bool.not_false, Bool.not_true, and_self, and_true, true_and, te3b, te4b, te3s, te4s, Nat.mul_one, Nat.zero_add, List.length_cons, List.length_nil, Bool.false_eq_true, Bool.true_eq_false] at *); (try omega))
          all_goals first | exact sup_true | (exfalso; omega)
theorem magic_law' (a : Int) (h : (Go.Lit.int Go.IntKind.u8 a).wf = true) : PSpec Try.prog 6 [.int .u8 a] (.bp true) := by
  have h1 : Go.IntKind.u8.min = 0 := by decide
  have h2 : Go.IntKind.u8.max = 255 := by decide
  simp [Go.Lit.wf, h1, h2] at h
  exact magic_law a h
end Go.Eng.Ytppflbccfdbogaa
