/-
  Contracts of functions of the program: what each returns. Their conditions stand in them.
-/
import Derived.Test.YtppflbccfdbogaaCd
namespace Go.Eng.Ytppflbccfdbogaa
open Go.Proofs Go.RowKit Go.ChangeShapes Go.WideShapes
set_option linter.unusedVariables false
section
variable {H : Type} {enc : TypeId × Value → H} {W : World}
theorem o5 : OpenC enc Try.prog W 5 [.int .u8] := openC_int Try.underlying5
theorem o93 : OpenC enc Try.prog W 93 [.int .u32] := openC_int Try.underlying93
theorem o9 : OpenC enc Try.prog W 9 [.str] := openC_str Try.underlying9
theorem o29 : OpenC enc Try.prog W 29 [.ints .i64] := openC_ints Try.underlying29 Try.underlying3 (by kernel_rfl)
theorem o43 : OpenC enc Try.prog W 43 [.int .u8, .int .u8] := openC_array (n := 2) Try.underlying43 o5 (by kernel_rfl) (by kernel_rfl)
theorem o42 : OpenC enc Try.prog W 42 [.int .i64, .int .i64, .ints .i64] :=
  openC_struct (lss := [[.int .i64], [.int .i64], [.ints .i64]]) Try.underlying42 ⟨⟨rfl, by kernel_rfl, o3⟩, ⟨rfl, by kernel_rfl, o3⟩, ⟨rfl, by kernel_rfl, o29⟩, trivial⟩ (by kernel_rfl)
theorem o37 : OpenC enc Try.prog W 37 [.str, .int .i64, .int .i64, .ints .i64, .int .i64] :=
  openC_struct (lss := [[.str], [.int .i64], [.int .i64], [.ints .i64], [.int .i64]]) Try.underlying37 ⟨⟨rfl, by kernel_rfl, o9⟩, ⟨rfl, by kernel_rfl, o3⟩, ⟨rfl, by kernel_rfl, o3⟩, ⟨rfl, by kernel_rfl, o29⟩, ⟨rfl, by kernel_rfl, o3⟩, trivial⟩ (by kernel_rfl)
end
end Go.Eng.Ytppflbccfdbogaa
namespace Go.Eng.Ytppflbccfdbogaa
open Go.Proofs
set_option maxRecDepth 100000
set_option maxHeartbeats 0
set_option linter.unusedVariables false
set_option linter.unusedSimpArgs false
noncomputable def cpUn : CPT := cpAdd 50 (pureCC rUniformP) noC
theorem cpUn_ok : CPOK Try.prog cpUn := cpAdd_ok (pureCC_ok rUniform_ok) noC_ok
noncomputable def cpSq : CPT := cpAdd 100 (lendCC [] emptyL) noC
theorem cpSq_ok : CPOK Try.prog cpSq := cpAdd_ok (lendCC_ok [] SquareL_ok) noC_ok
theorem rSiamese_spec (n : Int) (hn : 1 ≤ n ∧ n ≤ 16) : PSpec Try.prog 37 [.int .i64 n] (gridV n n (siaL n)) := by
  refine pspec_of (md := 0) (rf := []) mixed tabOK cpUn_ok Try.func37 (by rfl) (by rfl) (by rfl) ?_
  repeat' (first | ((conv => whnf); refine And.intro ?_ ?_) | ((conv => whnf); with_reducible exact VC.mk rfl) | ((conv => whnf); exact Ok.mk) | ((conv => whnf); exact True.intro) | ((conv => whnf); refine Nx.mk ?_) | ((conv => whnf); refine Fin.mk ?_) | ((conv => whnf); intro _))
  all_goals ((try refine VC.mk ?_); (try simp only [CL.ncell, CL.cnt, Int.toNat_natCast, decide_eq_true_eq, decide_eq_false_iff_not, Bool.not_eq_true, Bool.not_false, Bool.not_true, and_self, and_true, true_and, te3b, te4b, te3s, te4s, Nat.mul_one, Nat.zero_add, List.length_cons, List.length_nil, Bool.false_eq_true, Bool.true_eq_false] at *); (try omega))
  · exact ⟨hn, by simp only [List.mem_cons, List.not_mem_nil, or_false, forall_eq_or_imp, forall_eq]; omega⟩
  · exact Sup.of rfl
theorem rDouble_spec (n : Nat) (hn : 1 ≤ n ∧ n ≤ 16) : PSpec Try.prog 38 [.int .i64 (n : Int)] (gridV n n (madeL n (dblF n))) := by
  have eN : ((n : Int) * n).toNat = n * n := by rw [← Int.natCast_mul, Int.toNat_natCast]
  have hbd : ∀ i j : Nat, i < n → j < n → n * i + j < n * n := fun i j hi hj => by
    have := Nat.mul_le_mul_left n (show i + 1 ≤ n by omega)
    rw [Nat.mul_add] at this; omega
  have hix : ∀ i j : Nat, ((n : Int) * i + j) = ((n * i + j : Nat) : Int) := fun i j => by push_cast; rfl
  have hix' : ∀ i j : Nat, ((i : Int) * n + j) = ((n * i + j : Nat) : Int) := fun i j => by push_cast; rw [Int.mul_comm]
  obtain ⟨g, hgd⟩ : ∃ g : Nat → Int, g = fun k => dblF n (k / n) (k % n) := ⟨_, rfl⟩
  have hg : ∀ i j : Nat, j < n → dblF n i j = g (n * i + j) := fun i j hj => by
    have h1 : (n * i + j) / n = i := by rw [Nat.mul_add_div (by omega), Nat.div_eq_of_lt hj]; simp
    have h2 : (n * i + j) % n = j := by rw [Nat.mul_add_mod, Nat.mod_eq_of_lt hj]
    simp only [hgd, h1, h2]
  have hNN : (n : Int) * n ≤ 1000000 := (mul_bd (show 0 ≤ (n : Int) ∧ (n : Int) ≤ 1000 by omega) (show 0 ≤ (n : Int) ∧ (n : Int) ≤ 1000 by omega)).2
  have hNN' : ((n * n : Nat) : Int) ≤ 1000000 := by rw [Int.natCast_mul]; exact hNN
  refine pspec_of (md := 0) (rf := []) mixed tabOK cpSq_ok Try.func38 (by rfl) (by rfl) (by rfl) ?_
  repeat' (first | ((conv => whnf); refine And.intro ?_ ?_) | ((conv => whnf); with_reducible exact VC.mk rfl) | ((conv => whnf); exact Ok.mk) | ((conv => whnf); exact True.intro) | ((conv => whnf); refine Nx.mk ?_) | ((conv => whnf); refine Fin.mk ?_) | ((conv => whnf); intro _))
  all_goals ((try refine VC.mk ?_); (try simp only [CL.ncell, CL.cnt, Int.toNat_natCast, decide_eq_true_eq, decide_eq_false_iff_not, Bool.not_eq_true, Bool.not_false, Bool.not_true, and_self, and_true, true_and, te3b, te4b, te3s, te4s, Nat.mul_one, Nat.zero_add, List.length_cons, List.length_nil, Bool.false_eq_true, Bool.true_eq_false] at *); (try omega))
  simp only [eN]
  conv => whnf
  refine loop_of (X := Nat) (fun i => i ≤ n) (fun i => [(4, .int .i64 i)]) (fun i => [(1, .cells (.ints .i64 (fillG g (n * n) (n * i))) false)]) (fun i => n - i) 0 ⟨anyB_ok, mixed, tabOK, cpSq_ok, noY_ok⟩ (by rfl) (by omega) ?_ ?_
  · repeat' (first | ((conv => whnf); refine And.intro ?_ ?_) | ((conv => whnf); with_reducible exact VC.mk rfl) | ((conv => whnf); exact Ok.mk) | ((conv => whnf); exact True.intro) | ((conv => whnf); refine Nx.mk ?_) | ((conv => whnf); refine Fin.mk ?_) | ((conv => whnf); intro _))
    all_goals ((try refine VC.mk ?_); (try simp only [CL.ncell, CL.cnt, Int.toNat_natCast, decide_eq_true_eq, decide_eq_false_iff_not, Bool.not_eq_true, Bool.not_false, Bool.not_true, and_self, and_true, true_and, te3b, te4b, te3s, te4s, Nat.mul_one, Nat.zero_add, List.length_cons, List.length_nil, Bool.false_eq_true, Bool.true_eq_false] at *); (try omega))
    all_goals simp [fillG_zero]
  intro i hi
  by_cases hlt : i < n
  · repeat' (first | ((conv => whnf); refine And.intro ?_ ?_) | ((conv => whnf); with_reducible exact VC.mk rfl) | ((conv => whnf); exact Ok.mk) | ((conv => whnf); exact True.intro) | ((conv => whnf); refine Nx.mk ?_) | ((conv => whnf); refine Fin.mk ?_) | ((conv => whnf); intro _))
    all_goals ((try refine VC.mk ?_); (try simp only [CL.ncell, CL.cnt, Int.toNat_natCast, decide_eq_true_eq, decide_eq_false_iff_not, Bool.not_eq_true, Bool.not_false, Bool.not_true, and_self, and_true, true_and, te3b, te4b, te3s, te4s, Nat.mul_one, Nat.zero_add, List.length_cons, List.length_nil, Bool.false_eq_true, Bool.true_eq_false] at *); (try omega))
    conv => whnf
    refine loop_of (X := Nat) (fun j => j ≤ n) (fun j => [(5, .int .i64 j)]) (fun j => [(1, .cells (.ints .i64 (fillG g (n * n) (n * i + j))) false)]) (fun j => n - j) 0 ⟨anyB_ok, mixed, tabOK, cpSq_ok, noY_ok⟩ (by rfl) (by omega) ?_ ?_
    · repeat' (first | ((conv => whnf); refine And.intro ?_ ?_) | ((conv => whnf); with_reducible exact VC.mk rfl) | ((conv => whnf); exact Ok.mk) | ((conv => whnf); exact True.intro) | ((conv => whnf); refine Nx.mk ?_) | ((conv => whnf); refine Fin.mk ?_) | ((conv => whnf); intro _))
      all_goals ((try refine VC.mk ?_); (try simp only [CL.ncell, CL.cnt, Int.toNat_natCast, decide_eq_true_eq, decide_eq_false_iff_not, Bool.not_eq_true, Bool.not_false, Bool.not_true, and_self, and_true, true_and, te3b, te4b, te3s, te4s, Nat.mul_one, Nat.zero_add, List.length_cons, List.length_nil, Bool.false_eq_true, Bool.true_eq_false] at *); (try omega))
      all_goals simp
    intro j hj
    by_cases hlj : j < n
    · have := hbd i j hlt hlj
      have e1 := hix i j
      have e2 := fillG_len g (n * n) (n * i + j) (by omega)
      have e3 := hg i j hlj
      unfold dblF at e3
      have h1 := mul_bd (A := 16) (B := 16) (show 0 ≤ (n : Int) ∧ (n : Int) ≤ 16 by omega) (show 0 ≤ (i : Int) ∧ (i : Int) ≤ 16 by omega)
      repeat' (first | ((conv => whnf); refine And.intro ?_ ?_) | ((conv => whnf); with_reducible exact VC.mk rfl) | ((conv => whnf); exact Ok.mk) | ((conv => whnf); exact True.intro) | ((conv => whnf); refine Nx.mk ?_) | ((conv => whnf); refine Fin.mk ?_) | ((conv => whnf); intro _))
      all_goals ((try refine VC.mk ?_); (try simp only [CL.ncell, CL.cnt, Int.toNat_natCast, decide_eq_true_eq, decide_eq_false_iff_not, Bool.not_eq_true, Bool.not_false, Bool.not_true, and_self, and_true, true_and, te3b, te4b, te3s, te4s, Nat.mul_one, Nat.zero_add, List.length_cons, List.length_nil, Bool.false_eq_true, Bool.true_eq_false] at *); (try omega))
      all_goals (refine ⟨j + 1, [], ⟨by omega, by omega⟩, ?_⟩)
      all_goals repeat' (first | ((conv => whnf); refine And.intro ?_ ?_) | ((conv => whnf); with_reducible exact VC.mk rfl) | ((conv => whnf); exact Ok.mk) | ((conv => whnf); exact True.intro) | ((conv => whnf); refine Nx.mk ?_) | ((conv => whnf); refine Fin.mk ?_) | ((conv => whnf); intro _))
      all_goals ((try refine VC.mk ?_); (try simp only [CL.ncell, CL.cnt, Int.toNat_natCast, decide_eq_true_eq, decide_eq_false_iff_not, Bool.not_eq_true, Bool.not_false, Bool.not_true, and_self, and_true, true_and, te3b, te4b, te3s, te4s, Nat.mul_one, Nat.zero_add, List.length_cons, List.length_nil, Bool.false_eq_true, Bool.true_eq_false] at *); (try omega))
      all_goals (rw [e1, Int.toNat_natCast, show n * i + (j + 1) = n * i + j + 1 from rfl, ← fillG_set g (n * n) (n * i + j) (by omega), ← e3]; split <;> first | rfl | (exfalso; omega))
    · have : n = j := by omega
      subst this
      repeat' (first | ((conv => whnf); refine And.intro ?_ ?_) | ((conv => whnf); with_reducible exact VC.mk rfl) | ((conv => whnf); exact Ok.mk) | ((conv => whnf); exact True.intro) | ((conv => whnf); refine Nx.mk ?_) | ((conv => whnf); refine Fin.mk ?_) | ((conv => whnf); intro _))
      all_goals ((try refine VC.mk ?_); (try simp only [CL.ncell, CL.cnt, Int.toNat_natCast, decide_eq_true_eq, decide_eq_false_iff_not, Bool.not_eq_true, Bool.not_false, Bool.not_true, and_self, and_true, true_and, te3b, te4b, te3s, te4s, Nat.mul_one, Nat.zero_add, List.length_cons, List.length_nil, Bool.false_eq_true, Bool.true_eq_false] at *); (try omega))
      refine ⟨i + 1, [], ⟨by omega, by omega⟩, ?_⟩
      repeat' (first | ((conv => whnf); refine And.intro ?_ ?_) | ((conv => whnf); with_reducible exact VC.mk rfl) | ((conv => whnf); exact Ok.mk) | ((conv => whnf); exact True.intro) | ((conv => whnf); refine Nx.mk ?_) | ((conv => whnf); refine Fin.mk ?_) | ((conv => whnf); intro _))
      all_goals ((try refine VC.mk ?_); (try simp only [CL.ncell, CL.cnt, Int.toNat_natCast, decide_eq_true_eq, decide_eq_false_iff_not, Bool.not_eq_true, Bool.not_false, Bool.not_true, and_self, and_true, true_and, te3b, te4b, te3s, te4s, Nat.mul_one, Nat.zero_add, List.length_cons, List.length_nil, Bool.false_eq_true, Bool.true_eq_false] at *); (try omega))
  · have : n = i := by omega
    subst this
    repeat' (first | ((conv => whnf); refine And.intro ?_ ?_) | ((conv => whnf); with_reducible exact VC.mk rfl) | ((conv => whnf); exact Ok.mk) | ((conv => whnf); exact True.intro) | ((conv => whnf); refine Nx.mk ?_) | ((conv => whnf); refine Fin.mk ?_) | ((conv => whnf); intro _))
    all_goals ((try refine VC.mk ?_); (try simp only [CL.ncell, CL.cnt, Int.toNat_natCast, decide_eq_true_eq, decide_eq_false_iff_not, Bool.not_eq_true, Bool.not_false, Bool.not_true, and_self, and_true, true_and, te3b, te4b, te3s, te4s, Nat.mul_one, Nat.zero_add, List.length_cons, List.length_nil, Bool.false_eq_true, Bool.true_eq_false] at *); (try omega))
    · rw [fillG_len _ _ _ (Nat.le_refl _)]; exact Nat.le_refl _
    rw [fillG_all]
    refine Sup.via ?_
    repeat' (first | ((conv => whnf); refine And.intro ?_ ?_) | ((conv => whnf); with_reducible exact VC.mk rfl) | ((conv => whnf); exact Ok.mk) | ((conv => whnf); exact True.intro) | ((conv => whnf); refine Nx.mk ?_) | ((conv => whnf); refine Fin.mk ?_) | ((conv => whnf); intro _))
    all_goals ((try refine VC.mk ?_); (try simp only [CL.ncell, CL.cnt, Int.toNat_natCast, decide_eq_true_eq, decide_eq_false_iff_not, Bool.not_eq_true, Bool.not_false, Bool.not_true, and_self, and_true, true_and, te3b, te4b, te3s, te4s, Nat.mul_one, Nat.zero_add, List.length_cons, List.length_nil, Bool.false_eq_true, Bool.true_eq_false] at *); (try omega))
    simp [CL.sub, madeL, hgd, List.take_of_length_le]
theorem rHalved_spec (n : Nat) (hn : n ≤ 16) : PSpec Try.prog 44 [.int .i64 (n : Int)] (.isl (.ints .i64 (halvedL n n)) .none) := by
  refine pspec_of (md := 0) (rf := []) mixed tabOK noC_ok Try.func44 (by rfl) (by rfl) (by rfl) ?_
  repeat' (first | ((conv => whnf); refine And.intro ?_ ?_) | ((conv => whnf); with_reducible exact VC.mk rfl) | ((conv => whnf); exact Ok.mk) | ((conv => whnf); exact True.intro) | ((conv => whnf); refine Nx.mk ?_) | ((conv => whnf); refine Fin.mk ?_) | ((conv => whnf); intro _))
  all_goals ((try refine VC.mk ?_); (try simp only [CL.ncell, CL.cnt, Int.toNat_natCast, decide_eq_true_eq, decide_eq_false_iff_not, Bool.not_eq_true, Bool.not_false, Bool.not_true, and_self, and_true, true_and, te3b, te4b, te3s, te4s, Nat.mul_one, Nat.zero_add, List.length_cons, List.length_nil, Bool.false_eq_true, Bool.true_eq_false] at *); (try omega))
  conv => whnf
  refine loop_of (X := Nat) (fun i => i ≤ n) (fun i => [(4, .int .i64 i), (3, .isl (.ints .i64 (halvedL n i)) (.own 0))]) (fun i => [(0, .tok 1 i)]) (fun i => n - i) 0 ⟨anyB_ok, mixed, tabOK, noC_ok, noY_ok⟩ (by rfl) (by omega) ?_ ?_
  · repeat' (first | ((conv => whnf); refine And.intro ?_ ?_) | ((conv => whnf); with_reducible exact VC.mk rfl) | ((conv => whnf); exact Ok.mk) | ((conv => whnf); exact True.intro) | ((conv => whnf); refine Nx.mk ?_) | ((conv => whnf); refine Fin.mk ?_) | ((conv => whnf); intro _))
    all_goals ((try refine VC.mk ?_); (try simp only [CL.ncell, CL.cnt, Int.toNat_natCast, decide_eq_true_eq, decide_eq_false_iff_not, Bool.not_eq_true, Bool.not_false, Bool.not_true, and_self, and_true, true_and, te3b, te4b, te3s, te4s, Nat.mul_one, Nat.zero_add, List.length_cons, List.length_nil, Bool.false_eq_true, Bool.true_eq_false] at *); (try omega))
  intro i hi
  have e1 := halvedL_succ n i
  have e2 := halvedL_len n i
  unfold halvedAt at e1
  by_cases hlt : i < n
  · repeat' (first | ((conv => whnf); refine And.intro ?_ ?_) | ((conv => whnf); with_reducible exact VC.mk rfl) | ((conv => whnf); exact Ok.mk) | ((conv => whnf); exact True.intro) | ((conv => whnf); refine Nx.mk ?_) | ((conv => whnf); refine Fin.mk ?_) | ((conv => whnf); intro _))
    all_goals ((try refine VC.mk ?_); (try simp only [CL.ncell, CL.cnt, Int.toNat_natCast, decide_eq_true_eq, decide_eq_false_iff_not, Bool.not_eq_true, Bool.not_false, Bool.not_true, and_self, and_true, true_and, te3b, te4b, te3s, te4s, Nat.mul_one, Nat.zero_add, List.length_cons, List.length_nil, Bool.false_eq_true, Bool.true_eq_false] at *); (try omega))
    all_goals (try (simp only [List.length_append, List.length_cons, List.length_nil]; omega))
    all_goals (refine ⟨i + 1, [], ⟨by omega, by omega⟩, ?_⟩)
    all_goals repeat' (first | ((conv => whnf); refine And.intro ?_ ?_) | ((conv => whnf); with_reducible exact VC.mk rfl) | ((conv => whnf); exact Ok.mk) | ((conv => whnf); exact True.intro) | ((conv => whnf); refine Nx.mk ?_) | ((conv => whnf); refine Fin.mk ?_) | ((conv => whnf); intro _))
    all_goals ((try refine VC.mk ?_); (try simp only [CL.ncell, CL.cnt, Int.toNat_natCast, decide_eq_true_eq, decide_eq_false_iff_not, Bool.not_eq_true, Bool.not_false, Bool.not_true, and_self, and_true, true_and, te3b, te4b, te3s, te4s, Nat.mul_one, Nat.zero_add, List.length_cons, List.length_nil, Bool.false_eq_true, Bool.true_eq_false] at *); (try omega))
    all_goals (try (rw [e1]; split <;> first | rfl | (exfalso; omega)))
  · have : n = i := by omega
    subst this
    repeat' (first | ((conv => whnf); refine And.intro ?_ ?_) | ((conv => whnf); with_reducible exact VC.mk rfl) | ((conv => whnf); exact Ok.mk) | ((conv => whnf); exact True.intro) | ((conv => whnf); refine Nx.mk ?_) | ((conv => whnf); refine Fin.mk ?_) | ((conv => whnf); intro _))
    all_goals ((try refine VC.mk ?_); (try simp only [CL.ncell, CL.cnt, Int.toNat_natCast, decide_eq_true_eq, decide_eq_false_iff_not, Bool.not_eq_true, Bool.not_false, Bool.not_true, and_self, and_true, true_and, te3b, te4b, te3s, te4s, Nat.mul_one, Nat.zero_add, List.length_cons, List.length_nil, Bool.false_eq_true, Bool.true_eq_false] at *); (try omega))
    all_goals (first | (refine Sup.of ?_; first | rfl | (simp [*, resOf]; done)) | (refine Sup.via ?_; repeat' (first | ((conv => whnf); refine And.intro ?_ ?_) | ((conv => whnf); with_reducible exact VC.mk rfl) | ((conv => whnf); exact Ok.mk) | ((conv => whnf); exact True.intro) | ((conv => whnf); refine Nx.mk ?_) | ((conv => whnf); refine Fin.mk ?_) | ((conv => whnf); intro _)); all_goals ((try refine VC.mk ?_); (try simp only [CL.ncell, CL.cnt, Int.toNat_natCast, decide_eq_true_eq, decide_eq_false_iff_not, Bool.not_eq_true, Bool.not_false, Bool.not_true, and_self, and_true, true_and, te3b, te4b, te3s, te4s, Nat.mul_one, Nat.zero_add, List.length_cons, List.length_nil, Bool.false_eq_true, Bool.true_eq_false] at *); (try omega)); all_goals (try (simp [CL.sub]; done))))
def mpErr (rows cols : List Int) : Int := if rows.length ≠ cols.length then 2 else if rows.length % 4 ≠ 0 ∨ rows.length < 4 ∨ 16 < rows.length then 3 else if halvesErr rows ≠ 0 then halvesErr rows else halvesErr cols
def mpV (rows cols : List Int) : PV := if mpErr rows cols = 0 then okGrid rows.length rows.length (mpL rows cols) else noGrid (mpErr rows cols)
theorem halvesErr_zero {l : List Int} (h : halvesErr l = 0) : ∀ k, k < l.length → 0 ≤ l.getD k 0 ∧ l.getD k 0 < l.length := by
  unfold halvesErr at h
  split at h
  · exact isPerm_bd (permErr_zero ‹_›).2
  · omega
noncomputable def cpMP : CPT := cpAdd 112 (pureCC checkHalvesP) (cpAdd 99 (pureCC mostPerfectP) cp2)
theorem cpMP_ok : CPOK Try.prog cpMP := cpAdd_ok (pureCC_ok checkHalves_ok) (cpAdd_ok (pureCC_ok mostPerfect_ok) cp2_ok)
theorem mpErr_first {rows cols : List Int} {x y : Int} (hx : x = if rows.length = cols.length then 0 else 2) (hy : y = if rows.length % 4 ≠ 0 ∨ rows.length < 4 ∨ 16 < rows.length then 3 else 0) : firstOf [x, y, halvesErr rows, halvesErr cols] = mpErr rows cols := by
  subst hx hy
  simp only [firstOf, mpErr]
  (repeat' split) <;> first | rfl | omega | (exfalso; omega) | (simp_all; done)
theorem mpErr_zero {rows cols : List Int} (h : mpErr rows cols = 0) : rows.length = cols.length ∧ rows.length ≤ 16 ∧ halvesErr rows = 0 ∧ halvesErr cols = 0 := by
  unfold mpErr at h
  split at h
  · omega
  · split at h
    · omega
    · split at h
      · exact absurd h ‹_›
      · exact ⟨by omega, by omega, by omega, h⟩
theorem mostPerf_spec (rows cols : List Int) : PSpec Try.prog 64 [.isl (.ints .i64 rows) .none, .isl (.ints .i64 cols) .none] (mpV rows cols) := by
  have ht : (rows.length : Int).tmod 4 = ((rows.length % 4 : Nat) : Int) := by rw [Int.tmod_eq_emod_of_nonneg (by omega)]; push_cast; rfl
  have hf := fun x y hx hy => @mpErr_first rows cols x y hx hy
  have hz := @mpErr_zero rows cols
  unfold mpV
  generalize mpErr rows cols = e at *
  have h1 := @halvesErr_zero rows
  have h2 := @halvesErr_zero cols
  refine pspec_of (md := 1) (rf := []) mixed tabOK cpMP_ok Try.func64 (by rfl) (by rfl) (by rfl) ?_
  repeat' (first | ((conv => whnf); refine And.intro ?_ ?_) | ((conv => whnf); with_reducible exact VC.mk rfl) | ((conv => whnf); exact Ok.mk) | ((conv => whnf); exact True.intro) | ((conv => whnf); refine Nx.mk ?_) | ((conv => whnf); refine Fin.mk ?_) | ((conv => whnf); intro _))
  all_goals ((try refine VC.mk ?_); (try simp only [CL.ncell, CL.cnt, Int.toNat_natCast, decide_eq_true_eq, decide_eq_false_iff_not, Bool.not_eq_true, Bool.not_false, Bool.not_true, and_self, and_true, true_and, te3b, te4b, te3s, te4s, Nat.mul_one, Nat.zero_add, List.length_cons, List.length_nil, Bool.false_eq_true, Bool.true_eq_false] at *); (try omega))
  all_goals (first
    | (rename_i h; rw [hf _ _ (by split <;> split <;> omega) (by (repeat' split) <;> first | rfl | omega | (exfalso; omega) | (simp_all; done))] at h ⊢; rw [if_neg h]; all_goals (refine Sup.via ?_; repeat' (first | ((conv => whnf); refine And.intro ?_ ?_) | ((conv => whnf); with_reducible exact VC.mk rfl) | ((conv => whnf); exact Ok.mk) | ((conv => whnf); exact True.intro) | ((conv => whnf); refine Nx.mk ?_) | ((conv => whnf); refine Fin.mk ?_) | ((conv => whnf); intro _)); all_goals ((try refine VC.mk ?_); (try simp only [CL.ncell, CL.cnt, Int.toNat_natCast, decide_eq_true_eq, decide_eq_false_iff_not, Bool.not_eq_true, Bool.not_false, Bool.not_true, and_self, and_true, true_and, te3b, te4b, te3s, te4s, Nat.mul_one, Nat.zero_add, List.length_cons, List.length_nil, Bool.false_eq_true, Bool.true_eq_false] at *); (try omega)); all_goals (try (simp [CL.sub]; done))))
    | (rename_i h; rw [hf _ _ (by split <;> split <;> omega) (by (repeat' split) <;> first | rfl | omega | (exfalso; omega) | (simp_all; done))] at h; have h := Decidable.not_not.1 h; obtain ⟨z1, z2, z3, z4⟩ := hz h; exact ⟨z2, z1.symm, h1 z3, by rw [z1]; exact h2 z4⟩)
    | (rename_i h; rw [hf _ _ (by split <;> split <;> omega) (by (repeat' split) <;> first | rfl | omega | (exfalso; omega) | (simp_all; done))] at h; have h := Decidable.not_not.1 h; rw [if_pos h]; all_goals (refine Sup.via ?_; repeat' (first | ((conv => whnf); refine And.intro ?_ ?_) | ((conv => whnf); with_reducible exact VC.mk rfl) | ((conv => whnf); exact Ok.mk) | ((conv => whnf); exact True.intro) | ((conv => whnf); refine Nx.mk ?_) | ((conv => whnf); refine Fin.mk ?_) | ((conv => whnf); intro _)); all_goals ((try refine VC.mk ?_); (try simp only [CL.ncell, CL.cnt, Int.toNat_natCast, decide_eq_true_eq, decide_eq_false_iff_not, Bool.not_eq_true, Bool.not_false, Bool.not_true, and_self, and_true, true_and, te3b, te4b, te3s, te4s, Nat.mul_one, Nat.zero_add, List.length_cons, List.length_nil, Bool.false_eq_true, Bool.true_eq_false] at *); (try omega)); all_goals (try (simp [CL.sub]; done))))
    | trace_state)
end Go.Eng.Ytppflbccfdbogaa
namespace Go.Eng.Ytppflbccfdbogaa
open Go.Proofs
set_option maxRecDepth 100000
set_option maxHeartbeats 0
set_option linter.unusedVariables false
set_option linter.unusedSimpArgs false
noncomputable def cpRM : CPT := cpAdd 113 (pureCC CheckHalvesP) (cpAdd 100 (lendCC [] emptyL) noC)
theorem cpRM_ok : CPOK Try.prog cpRM := cpAdd_ok (pureCC_ok CheckHalves_ok) (cpAdd_ok (lendCC_ok [] SquareL_ok) noC_ok)
theorem rMost_spec (rows cols : List Int) : PSpec Try.prog 65 [.isl (.ints .i64 rows) .none, .isl (.ints .i64 cols) .none] (mpV rows cols) := by
  have ht : (rows.length : Int).tmod 4 = ((rows.length % 4 : Nat) : Int) := by rw [Int.tmod_eq_emod_of_nonneg (by omega)]; push_cast; rfl
  by_cases hz : mpErr rows cols = 0
  · obtain ⟨z1, z2, z3, z4⟩ := mpErr_zero hz
    have hm : ¬ (rows.length % 4 ≠ 0 ∨ rows.length < 4 ∨ 16 < rows.length) := by
      intro h; unfold mpErr at hz; rw [if_neg (by omega), if_pos h] at hz; omega
    unfold mpV
    rw [if_pos hz]
    have h1 := halvesErr_zero z3
    have h2 := halvesErr_zero z4
    obtain ⟨n, hn⟩ : ∃ n, rows.length = n := ⟨_, rfl⟩
    have hc : cols.length = n := by omega
    unfold mpL
    rw [hn] at h1 hm z2 ⊢
    rw [hc] at h2
    have eN : ((n : Int) * n).toNat = n * n := by rw [← Int.natCast_mul, Int.toNat_natCast]
    have hbd : ∀ i j : Nat, i < n → j < n → n * i + j < n * n := fun i j hi hj => by
      have := Nat.mul_le_mul_left n (show i + 1 ≤ n by omega)
      rw [Nat.mul_add] at this; omega
    have hix : ∀ i j : Nat, ((n : Int) * i + j) = ((n * i + j : Nat) : Int) := fun i j => by push_cast; rfl
    have hix' : ∀ i j : Nat, ((i : Int) * n + j) = ((n * i + j : Nat) : Int) := fun i j => by push_cast; rw [Int.mul_comm]
    obtain ⟨g, hgd⟩ : ∃ g : Nat → Int, g = fun k => (mpF n rows cols) (k / n) (k % n) := ⟨_, rfl⟩
    have hg : ∀ i j : Nat, j < n → (mpF n rows cols) i j = g (n * i + j) := fun i j hj => by
      have h1 : (n * i + j) / n = i := by rw [Nat.mul_add_div (by omega), Nat.div_eq_of_lt hj]; simp
      have h2 : (n * i + j) % n = j := by rw [Nat.mul_add_mod, Nat.mod_eq_of_lt hj]
      simp only [hgd, h1, h2]
    have hNN : (n : Int) * n ≤ 1000000 := (mul_bd (show 0 ≤ (n : Int) ∧ (n : Int) ≤ 1000 by omega) (show 0 ≤ (n : Int) ∧ (n : Int) ≤ 1000 by omega)).2
    have hNN' : ((n * n : Nat) : Int) ≤ 1000000 := by rw [Int.natCast_mul]; exact hNN
    refine pspec_of (md := 0) (rf := []) mixed tabOK cpRM_ok Try.func65 (by rfl) (by rfl) (by rfl) ?_
    repeat' (first | ((conv => whnf); refine And.intro ?_ ?_) | ((conv => whnf); with_reducible exact VC.mk rfl) | ((conv => whnf); exact Ok.mk) | ((conv => whnf); exact True.intro) | ((conv => whnf); refine Nx.mk ?_) | ((conv => whnf); refine Fin.mk ?_) | ((conv => whnf); intro _))
    all_goals ((try refine VC.mk ?_); (try simp only [CL.ncell, CL.cnt, Int.toNat_natCast, decide_eq_true_eq, decide_eq_false_iff_not, Bool.not_eq_true, Bool.not_false, Bool.not_true, and_self, and_true, true_and, te3b, te4b, te3s, te4s, Nat.mul_one, Nat.zero_add, List.length_cons, List.length_nil, Bool.false_eq_true, Bool.true_eq_false] at *); (try omega))
    all_goals (try (exfalso; omega))
    rw [hn]
    try simp only [eN]
    conv => whnf
    refine loop_of (X := Nat) (fun i => i ≤ n) (fun i => [(9, .int .i64 i)]) (fun i => [(9, .cells (.ints .i64 (fillG g (n * n) (n * i))) false)]) (fun i => n - i) 0 ⟨anyB_ok, mixed, tabOK, cpRM_ok, noY_ok⟩ (by rfl) (by omega) ?_ ?_
    · repeat' (first | ((conv => whnf); refine And.intro ?_ ?_) | ((conv => whnf); with_reducible exact VC.mk rfl) | ((conv => whnf); exact Ok.mk) | ((conv => whnf); exact True.intro) | ((conv => whnf); refine Nx.mk ?_) | ((conv => whnf); refine Fin.mk ?_) | ((conv => whnf); intro _))
      all_goals ((try refine VC.mk ?_); (try simp only [CL.ncell, CL.cnt, Int.toNat_natCast, decide_eq_true_eq, decide_eq_false_iff_not, Bool.not_eq_true, Bool.not_false, Bool.not_true, and_self, and_true, true_and, te3b, te4b, te3s, te4s, Nat.mul_one, Nat.zero_add, List.length_cons, List.length_nil, Bool.false_eq_true, Bool.true_eq_false] at *); (try omega))
      all_goals simp [fillG_zero]
    intro i hi
    by_cases hlt : i < n
    · have b1 := h1 i hlt
      repeat' (first | ((conv => whnf); refine And.intro ?_ ?_) | ((conv => whnf); with_reducible exact VC.mk rfl) | ((conv => whnf); exact Ok.mk) | ((conv => whnf); exact True.intro) | ((conv => whnf); refine Nx.mk ?_) | ((conv => whnf); refine Fin.mk ?_) | ((conv => whnf); intro _))
      all_goals ((try refine VC.mk ?_); (try simp only [CL.ncell, CL.cnt, Int.toNat_natCast, decide_eq_true_eq, decide_eq_false_iff_not, Bool.not_eq_true, Bool.not_false, Bool.not_true, and_self, and_true, true_and, te3b, te4b, te3s, te4s, Nat.mul_one, Nat.zero_add, List.length_cons, List.length_nil, Bool.false_eq_true, Bool.true_eq_false] at *); (try omega))
      conv => whnf
      refine loop_of (X := Nat) (fun j => j ≤ n) (fun j => [(10, .int .i64 j)]) (fun j => [(9, .cells (.ints .i64 (fillG g (n * n) (n * i + j))) false)]) (fun j => n - j) 0 ⟨anyB_ok, mixed, tabOK, cpRM_ok, noY_ok⟩ (by rfl) (by omega) ?_ ?_
      · repeat' (first | ((conv => whnf); refine And.intro ?_ ?_) | ((conv => whnf); with_reducible exact VC.mk rfl) | ((conv => whnf); exact Ok.mk) | ((conv => whnf); exact True.intro) | ((conv => whnf); refine Nx.mk ?_) | ((conv => whnf); refine Fin.mk ?_) | ((conv => whnf); intro _))
        all_goals ((try refine VC.mk ?_); (try simp only [CL.ncell, CL.cnt, Int.toNat_natCast, decide_eq_true_eq, decide_eq_false_iff_not, Bool.not_eq_true, Bool.not_false, Bool.not_true, and_self, and_true, true_and, te3b, te4b, te3s, te4s, Nat.mul_one, Nat.zero_add, List.length_cons, List.length_nil, Bool.false_eq_true, Bool.true_eq_false] at *); (try omega))
        all_goals simp
      intro j hj
      by_cases hlj : j < n
      · have := hbd i j hlt hlj
        have b2 := h2 j hlj
        have e1 := hix' i j
        have e2 := fillG_len g (n * n) (n * i + j) (by omega)
        have e3 := hg i j hlj
        unfold mpF at e3
        have d1 : turned n (rows.getD i 0) j = if (j : Int) % 2 = 1 then (n : Int) - 1 - rows.getD i 0 else rows.getD i 0 := rfl
        have d2 : turned n (cols.getD j 0) i = if (i : Int) % 2 = 1 then (n : Int) - 1 - cols.getD j 0 else cols.getD j 0 := rfl
        rw [d1, d2] at e3
        have k1 := mul_bd (A := 16) (B := 16) (show 0 ≤ (n : Int) ∧ (n : Int) ≤ 16 by omega) (show 0 ≤ (i : Int) ∧ (i : Int) ≤ 16 by omega)
        have k1' := mul_bd (A := 16) (B := 16) (show 0 ≤ (i : Int) ∧ (i : Int) ≤ 16 by omega) (show 0 ≤ (n : Int) ∧ (n : Int) ≤ 16 by omega)
        have k2 := mul_bd (A := 16) (B := 16) (show 0 ≤ (n : Int) ∧ (n : Int) ≤ 16 by omega) (show 0 ≤ cols.getD j 0 ∧ cols.getD j 0 ≤ 16 by omega)
        have k3 := mul_bd (A := 16) (B := 16) (show 0 ≤ (n : Int) ∧ (n : Int) ≤ 16 by omega) (show 0 ≤ (n : Int) - 1 - cols.getD j 0 ∧ (n : Int) - 1 - cols.getD j 0 ≤ 16 by omega)
        repeat' (first | ((conv => whnf); refine And.intro ?_ ?_) | ((conv => whnf); with_reducible exact VC.mk rfl) | ((conv => whnf); exact Ok.mk) | ((conv => whnf); exact True.intro) | ((conv => whnf); refine Nx.mk ?_) | ((conv => whnf); refine Fin.mk ?_) | ((conv => whnf); intro _))
        all_goals ((try refine VC.mk ?_); (try simp only [CL.ncell, CL.cnt, Int.toNat_natCast, decide_eq_true_eq, decide_eq_false_iff_not, Bool.not_eq_true, Bool.not_false, Bool.not_true, and_self, and_true, true_and, te3b, te4b, te3s, te4s, Nat.mul_one, Nat.zero_add, List.length_cons, List.length_nil, Bool.false_eq_true, Bool.true_eq_false] at *); (try omega))
        all_goals (refine ⟨j + 1, [], ⟨by omega, by omega⟩, ?_⟩)
        all_goals repeat' (first | ((conv => whnf); refine And.intro ?_ ?_) | ((conv => whnf); with_reducible exact VC.mk rfl) | ((conv => whnf); exact Ok.mk) | ((conv => whnf); exact True.intro) | ((conv => whnf); refine Nx.mk ?_) | ((conv => whnf); refine Fin.mk ?_) | ((conv => whnf); intro _))
        all_goals ((try refine VC.mk ?_); (try simp only [CL.ncell, CL.cnt, Int.toNat_natCast, decide_eq_true_eq, decide_eq_false_iff_not, Bool.not_eq_true, Bool.not_false, Bool.not_true, and_self, and_true, true_and, te3b, te4b, te3s, te4s, Nat.mul_one, Nat.zero_add, List.length_cons, List.length_nil, Bool.false_eq_true, Bool.true_eq_false] at *); (try omega))
        all_goals (rw [e1, Int.toNat_natCast, show n * i + (j + 1) = n * i + j + 1 from rfl, ← fillG_set g (n * n) (n * i + j) (by omega), ← e3])
        all_goals ((repeat' split) <;> first | rfl | (exfalso; omega))
      · have : n = j := by omega
        subst this
        repeat' (first | ((conv => whnf); refine And.intro ?_ ?_) | ((conv => whnf); with_reducible exact VC.mk rfl) | ((conv => whnf); exact Ok.mk) | ((conv => whnf); exact True.intro) | ((conv => whnf); refine Nx.mk ?_) | ((conv => whnf); refine Fin.mk ?_) | ((conv => whnf); intro _))
        all_goals ((try refine VC.mk ?_); (try simp only [CL.ncell, CL.cnt, Int.toNat_natCast, decide_eq_true_eq, decide_eq_false_iff_not, Bool.not_eq_true, Bool.not_false, Bool.not_true, and_self, and_true, true_and, te3b, te4b, te3s, te4s, Nat.mul_one, Nat.zero_add, List.length_cons, List.length_nil, Bool.false_eq_true, Bool.true_eq_false] at *); (try omega))
        refine ⟨i + 1, [], ⟨by omega, by omega⟩, ?_⟩
        repeat' (first | ((conv => whnf); refine And.intro ?_ ?_) | ((conv => whnf); with_reducible exact VC.mk rfl) | ((conv => whnf); exact Ok.mk) | ((conv => whnf); exact True.intro) | ((conv => whnf); refine Nx.mk ?_) | ((conv => whnf); refine Fin.mk ?_) | ((conv => whnf); intro _))
        all_goals ((try refine VC.mk ?_); (try simp only [CL.ncell, CL.cnt, Int.toNat_natCast, decide_eq_true_eq, decide_eq_false_iff_not, Bool.not_eq_true, Bool.not_false, Bool.not_true, and_self, and_true, true_and, te3b, te4b, te3s, te4s, Nat.mul_one, Nat.zero_add, List.length_cons, List.length_nil, Bool.false_eq_true, Bool.true_eq_false] at *); (try omega))
    · have : n = i := by omega
      subst this
      repeat' (first | ((conv => whnf); refine And.intro ?_ ?_) | ((conv => whnf); with_reducible exact VC.mk rfl) | ((conv => whnf); exact Ok.mk) | ((conv => whnf); exact True.intro) | ((conv => whnf); refine Nx.mk ?_) | ((conv => whnf); refine Fin.mk ?_) | ((conv => whnf); intro _))
      all_goals ((try refine VC.mk ?_); (try simp only [CL.ncell, CL.cnt, Int.toNat_natCast, decide_eq_true_eq, decide_eq_false_iff_not, Bool.not_eq_true, Bool.not_false, Bool.not_true, and_self, and_true, true_and, te3b, te4b, te3s, te4s, Nat.mul_one, Nat.zero_add, List.length_cons, List.length_nil, Bool.false_eq_true, Bool.true_eq_false] at *); (try omega))
      · rw [fillG_len _ _ _ (Nat.le_refl _)]; exact Nat.le_refl _
      rw [fillG_all]
      refine Sup.via ?_
      repeat' (first | ((conv => whnf); refine And.intro ?_ ?_) | ((conv => whnf); with_reducible exact VC.mk rfl) | ((conv => whnf); exact Ok.mk) | ((conv => whnf); exact True.intro) | ((conv => whnf); refine Nx.mk ?_) | ((conv => whnf); refine Fin.mk ?_) | ((conv => whnf); intro _))
      all_goals ((try refine VC.mk ?_); (try simp only [CL.ncell, CL.cnt, Int.toNat_natCast, decide_eq_true_eq, decide_eq_false_iff_not, Bool.not_eq_true, Bool.not_false, Bool.not_true, and_self, and_true, true_and, te3b, te4b, te3s, te4s, Nat.mul_one, Nat.zero_add, List.length_cons, List.length_nil, Bool.false_eq_true, Bool.true_eq_false] at *); (try omega))
      simp [CL.sub, madeL, hgd, List.take_of_length_le]
  · have hv : mpV rows cols = noGrid (mpErr rows cols) := by unfold mpV; rw [if_neg hz]
    rw [hv]
    unfold mpErr at hz ⊢
    by_cases c1 : rows.length ≠ cols.length
    · rw [if_pos c1]
      refine pspec_of (md := 0) (rf := []) mixed tabOK cpRM_ok Try.func65 (by rfl) (by rfl) (by rfl) ?_
      repeat' (first | ((conv => whnf); refine And.intro ?_ ?_) | ((conv => whnf); with_reducible exact VC.mk rfl) | ((conv => whnf); exact Ok.mk) | ((conv => whnf); exact True.intro) | ((conv => whnf); refine Nx.mk ?_) | ((conv => whnf); refine Fin.mk ?_) | ((conv => whnf); intro _))
      all_goals ((try refine VC.mk ?_); (try simp only [CL.ncell, CL.cnt, Int.toNat_natCast, decide_eq_true_eq, decide_eq_false_iff_not, Bool.not_eq_true, Bool.not_false, Bool.not_true, and_self, and_true, true_and, te3b, te4b, te3s, te4s, Nat.mul_one, Nat.zero_add, List.length_cons, List.length_nil, Bool.false_eq_true, Bool.true_eq_false] at *); (try omega))
      all_goals (try (exfalso; omega))
      all_goals (refine Sup.via ?_; repeat' (first | ((conv => whnf); refine And.intro ?_ ?_) | ((conv => whnf); with_reducible exact VC.mk rfl) | ((conv => whnf); exact Ok.mk) | ((conv => whnf); exact True.intro) | ((conv => whnf); refine Nx.mk ?_) | ((conv => whnf); refine Fin.mk ?_) | ((conv => whnf); intro _)); all_goals ((try refine VC.mk ?_); (try simp only [CL.ncell, CL.cnt, Int.toNat_natCast, decide_eq_true_eq, decide_eq_false_iff_not, Bool.not_eq_true, Bool.not_false, Bool.not_true, and_self, and_true, true_and, te3b, te4b, te3s, te4s, Nat.mul_one, Nat.zero_add, List.length_cons, List.length_nil, Bool.false_eq_true, Bool.true_eq_false] at *); (try omega)); all_goals (try (simp [CL.sub]; done)))
    rw [if_neg c1] at hz ⊢
    by_cases c2 : rows.length % 4 ≠ 0 ∨ rows.length < 4 ∨ 16 < rows.length
    · rw [if_pos c2]
      refine pspec_of (md := 0) (rf := []) mixed tabOK cpRM_ok Try.func65 (by rfl) (by rfl) (by rfl) ?_
      repeat' (first | ((conv => whnf); refine And.intro ?_ ?_) | ((conv => whnf); with_reducible exact VC.mk rfl) | ((conv => whnf); exact Ok.mk) | ((conv => whnf); exact True.intro) | ((conv => whnf); refine Nx.mk ?_) | ((conv => whnf); refine Fin.mk ?_) | ((conv => whnf); intro _))
      all_goals ((try refine VC.mk ?_); (try simp only [CL.ncell, CL.cnt, Int.toNat_natCast, decide_eq_true_eq, decide_eq_false_iff_not, Bool.not_eq_true, Bool.not_false, Bool.not_true, and_self, and_true, true_and, te3b, te4b, te3s, te4s, Nat.mul_one, Nat.zero_add, List.length_cons, List.length_nil, Bool.false_eq_true, Bool.true_eq_false] at *); (try omega))
      all_goals (try (exfalso; omega))
      all_goals all_goals (refine Sup.via ?_; repeat' (first | ((conv => whnf); refine And.intro ?_ ?_) | ((conv => whnf); with_reducible exact VC.mk rfl) | ((conv => whnf); exact Ok.mk) | ((conv => whnf); exact True.intro) | ((conv => whnf); refine Nx.mk ?_) | ((conv => whnf); refine Fin.mk ?_) | ((conv => whnf); intro _)); all_goals ((try refine VC.mk ?_); (try simp only [CL.ncell, CL.cnt, Int.toNat_natCast, decide_eq_true_eq, decide_eq_false_iff_not, Bool.not_eq_true, Bool.not_false, Bool.not_true, and_self, and_true, true_and, te3b, te4b, te3s, te4s, Nat.mul_one, Nat.zero_add, List.length_cons, List.length_nil, Bool.false_eq_true, Bool.true_eq_false] at *); (try omega)); all_goals (try (simp [CL.sub]; done)))
    rw [if_neg c2] at hz ⊢
    have k5 : 0 ≤ (rows.length : Int) * rows.length ∧ (rows.length : Int) * rows.length ≤ 256 := mul_bd (A := 16) (B := 16) (by omega) (by omega)
    by_cases c3 : halvesErr rows ≠ 0
    · rw [if_pos c3]
      refine pspec_of (md := 0) (rf := []) mixed tabOK cpRM_ok Try.func65 (by rfl) (by rfl) (by rfl) ?_
      repeat' (first | ((conv => whnf); refine And.intro ?_ ?_) | ((conv => whnf); with_reducible exact VC.mk rfl) | ((conv => whnf); exact Ok.mk) | ((conv => whnf); exact True.intro) | ((conv => whnf); refine Nx.mk ?_) | ((conv => whnf); refine Fin.mk ?_) | ((conv => whnf); intro _))
      all_goals ((try refine VC.mk ?_); (try simp only [CL.ncell, CL.cnt, Int.toNat_natCast, decide_eq_true_eq, decide_eq_false_iff_not, Bool.not_eq_true, Bool.not_false, Bool.not_true, and_self, and_true, true_and, te3b, te4b, te3s, te4s, Nat.mul_one, Nat.zero_add, List.length_cons, List.length_nil, Bool.false_eq_true, Bool.true_eq_false] at *); (try omega))
      all_goals (try (exfalso; omega))
      all_goals all_goals (refine Sup.via ?_; repeat' (first | ((conv => whnf); refine And.intro ?_ ?_) | ((conv => whnf); with_reducible exact VC.mk rfl) | ((conv => whnf); exact Ok.mk) | ((conv => whnf); exact True.intro) | ((conv => whnf); refine Nx.mk ?_) | ((conv => whnf); refine Fin.mk ?_) | ((conv => whnf); intro _)); all_goals ((try refine VC.mk ?_); (try simp only [CL.ncell, CL.cnt, Int.toNat_natCast, decide_eq_true_eq, decide_eq_false_iff_not, Bool.not_eq_true, Bool.not_false, Bool.not_true, and_self, and_true, true_and, te3b, te4b, te3s, te4s, Nat.mul_one, Nat.zero_add, List.length_cons, List.length_nil, Bool.false_eq_true, Bool.true_eq_false] at *); (try omega)); all_goals (try (simp [CL.sub]; done)))
    rw [if_neg c3] at hz ⊢
    refine pspec_of (md := 0) (rf := []) mixed tabOK cpRM_ok Try.func65 (by rfl) (by rfl) (by rfl) ?_
    repeat' (first | ((conv => whnf); refine And.intro ?_ ?_) | ((conv => whnf); with_reducible exact VC.mk rfl) | ((conv => whnf); exact Ok.mk) | ((conv => whnf); exact True.intro) | ((conv => whnf); refine Nx.mk ?_) | ((conv => whnf); refine Fin.mk ?_) | ((conv => whnf); intro _))
    all_goals ((try refine VC.mk ?_); (try simp only [CL.ncell, CL.cnt, Int.toNat_natCast, decide_eq_true_eq, decide_eq_false_iff_not, Bool.not_eq_true, Bool.not_false, Bool.not_true, and_self, and_true, true_and, te3b, te4b, te3s, te4s, Nat.mul_one, Nat.zero_add, List.length_cons, List.length_nil, Bool.false_eq_true, Bool.true_eq_false] at *); (try omega))
    all_goals (try (exfalso; omega))
    all_goals all_goals (refine Sup.via ?_; repeat' (first | ((conv => whnf); refine And.intro ?_ ?_) | ((conv => whnf); with_reducible exact VC.mk rfl) | ((conv => whnf); exact Ok.mk) | ((conv => whnf); exact True.intro) | ((conv => whnf); refine Nx.mk ?_) | ((conv => whnf); refine Fin.mk ?_) | ((conv => whnf); intro _)); all_goals ((try refine VC.mk ?_); (try simp only [CL.ncell, CL.cnt, Int.toNat_natCast, decide_eq_true_eq, decide_eq_false_iff_not, Bool.not_eq_true, Bool.not_false, Bool.not_true, and_self, and_true, true_and, te3b, te4b, te3s, te4s, Nat.mul_one, Nat.zero_add, List.length_cons, List.length_nil, Bool.false_eq_true, Bool.true_eq_false] at *); (try omega)); all_goals (try (simp [CL.sub]; done)))
def rMostP : PSp := fun xs K => match xs with
  | [.isl (.ints .i64 rows) .none, .isl (.ints .i64 cols) .none] => VC (True) ∧ K (mpV rows cols)
  | _ => False
theorem rMost_ok : POK Try.prog 65 rMostP := by
  intro xs K h
  unfold rMostP at h
  split at h
  · exact ⟨_, h.2, rMost_spec _ _⟩
  · exact h.elim
end Go.Eng.Ytppflbccfdbogaa
namespace Go.Eng.Ytppflbccfdbogaa
open Go.Proofs
set_option maxRecDepth 100000
set_option maxHeartbeats 0
set_option linter.unusedVariables false
set_option linter.unusedSimpArgs false
def quadStep (n m : Nat) (s : List Int) (l : List Int) (k : Nat) : List Int :=
  (((l.set (k / m * n + k % m) (s.getD k 0)).set ((k / m + m) * n + k % m + m) (s.getD k 0 + (m : Int) * m)).set (k / m * n + k % m + m) (s.getD k 0 + 2 * (m : Int) * m)).set ((k / m + m) * n + k % m) (s.getD k 0 + 3 * (m : Int) * m)
def quadAt (n m : Nat) (s : List Int) (t : Nat) : List Int := (List.range t).foldl (quadStep n m s) (List.replicate (n * n) 0)
theorem quadAt_succ (n m : Nat) (s : List Int) (t : Nat) : quadAt n m s (t + 1) = quadStep n m s (quadAt n m s t) t := by simp [quadAt, List.range_succ]
theorem quadAt_len (n m : Nat) (s : List Int) : ∀ t, (quadAt n m s t).length = n * n := by
  intro t
  induction t with
  | zero => simp [quadAt]
  | succ t ih => rw [quadAt_succ]; simp [quadStep, ih]
theorem quad_eq {m : Nat} (h : m = 3 ∨ m = 5 ∨ m = 7) : quadAt (2 * m) m (siaL m) (m * m) = madeL (2 * m) (sglF m (siaL m)) := by
  rcases h with rfl | rfl | rfl <;> decide +kernel
def rSiaP : PSp := fun xs K => match xs with
  | [.int .i64 n] => VC (1 ≤ n ∧ n ≤ 16) ∧ K (gridV n n (siaL n))
  | _ => False
theorem rSia_ok : POK Try.prog 37 rSiaP := by
  intro xs K h
  unfold rSiaP at h
  split at h
  · exact ⟨_, h.2, rSiamese_spec _ h.1.get⟩
  · exact h.elim
noncomputable def cpSg : CPT := cpAdd 37 (pureCC rSiaP) (cpAdd 100 (lendCC [] emptyL) noC)
theorem cpSg_ok : CPOK Try.prog cpSg := cpAdd_ok (pureCC_ok rSia_ok) (cpAdd_ok (lendCC_ok [] SquareL_ok) noC_ok)
theorem rSgl_spec (m : Nat) (hm : m = 3 ∨ m = 5 ∨ m = 7) : PSpec Try.prog 39 [.int .i64 ((2 * m : Nat) : Int)] (gridV ((2 * m : Nat) : Int) ((2 * m : Nat) : Int) (sglL m)) := by
  have hq := quad_eq hm
  have hsl := siaL_len m
  have hsb := siaL_bd m (by omega)
  have hmb : 3 ≤ m ∧ m ≤ 8 := by omega
  unfold sglL
  rw [← hq]
  obtain ⟨n, hn⟩ : ∃ n, n = 2 * m := ⟨_, rfl⟩
  have hd : (n : Int) / 2 = m := by omega
  have hd4 : ((n : Int) - 2) / 4 = (((m - 1) / 2 : Nat) : Int) := by omega
  have h2mm : 2 * m * m = n * m := by rw [hn]
  rw [h2mm]
  rw [← hn]
  generalize hk : (m - 1) / 2 = kk at *
  have hkb : kk ≤ 3 := by omega
  clear hq
  have hM := mul_bd (show 0 ≤ (m : Int) ∧ (m : Int) ≤ 8 by omega) (show 0 ≤ (m : Int) ∧ (m : Int) ≤ 8 by omega)
  have hN := mul_bd (show 0 ≤ (n : Int) ∧ (n : Int) ≤ 16 by omega) (show 0 ≤ (n : Int) ∧ (n : Int) ≤ 16 by omega)
  have hnm : ((n * n : Nat) : Int) = (n : Int) * n := by push_cast; rfl
  have hmm : ((m * m : Nat) : Int) = (m : Int) * m := by push_cast; rfl
  have eN : ((n : Int) * n).toNat = n * n := by rw [← Int.natCast_mul, Int.toNat_natCast]
  have h2 : (2 : Int) * m * m = 2 * (m * m) := by rw [Int.mul_assoc]
  have h3 : (3 : Int) * m * m = 3 * (m * m) := by rw [Int.mul_assoc]
  obtain ⟨s, hs⟩ : ∃ s, siaL m = s := ⟨_, rfl⟩
  rw [hs] at hsl hsb ⊢
  refine pspec_of (md := 0) (rf := []) mixed tabOK cpSg_ok Try.func39 (by rfl) (by rfl) (by rfl) ?_
  repeat' (first | ((conv => whnf); refine And.intro ?_ ?_) | ((conv => whnf); with_reducible exact VC.mk rfl) | ((conv => whnf); exact Ok.mk) | ((conv => whnf); exact True.intro) | ((conv => whnf); refine Nx.mk ?_) | ((conv => whnf); refine Fin.mk ?_) | ((conv => whnf); intro _))
  all_goals ((try refine VC.mk ?_); (try simp only [CL.ncell, CL.cnt, Int.toNat_natCast, decide_eq_true_eq, decide_eq_false_iff_not, Bool.not_eq_true, Bool.not_false, Bool.not_true, and_self, and_true, true_and, te3b, te4b, te3s, te4s, Nat.mul_one, Nat.zero_add, List.length_cons, List.length_nil, Bool.false_eq_true, Bool.true_eq_false] at *); (try omega))
  simp only [hd, hd4, hs, eN]
  conv => whnf
  refine loop_of (X := Nat) (fun i => i ≤ m) (fun i => [(7, .int .i64 i)]) (fun i => [(5, .cells (.ints .i64 (quadAt n m s (m * i))) false)]) (fun i => m - i) 0 ⟨anyB_ok, mixed, tabOK, cpSg_ok, noY_ok⟩ (by rfl) (by omega) ?_ ?_
  · repeat' (first | ((conv => whnf); refine And.intro ?_ ?_) | ((conv => whnf); with_reducible exact VC.mk rfl) | ((conv => whnf); exact Ok.mk) | ((conv => whnf); exact True.intro) | ((conv => whnf); refine Nx.mk ?_) | ((conv => whnf); refine Fin.mk ?_) | ((conv => whnf); intro _))
    all_goals ((try refine VC.mk ?_); (try simp only [CL.ncell, CL.cnt, Int.toNat_natCast, decide_eq_true_eq, decide_eq_false_iff_not, Bool.not_eq_true, Bool.not_false, Bool.not_true, and_self, and_true, true_and, te3b, te4b, te3s, te4s, Nat.mul_one, Nat.zero_add, List.length_cons, List.length_nil, Bool.false_eq_true, Bool.true_eq_false] at *); (try omega))
    all_goals (try rfl)
  intro i hi
  by_cases hlt : i < m
  · repeat' (first | ((conv => whnf); refine And.intro ?_ ?_) | ((conv => whnf); with_reducible exact VC.mk rfl) | ((conv => whnf); exact Ok.mk) | ((conv => whnf); exact True.intro) | ((conv => whnf); refine Nx.mk ?_) | ((conv => whnf); refine Fin.mk ?_) | ((conv => whnf); intro _))
    all_goals ((try refine VC.mk ?_); (try simp only [CL.ncell, CL.cnt, Int.toNat_natCast, decide_eq_true_eq, decide_eq_false_iff_not, Bool.not_eq_true, Bool.not_false, Bool.not_true, and_self, and_true, true_and, te3b, te4b, te3s, te4s, Nat.mul_one, Nat.zero_add, List.length_cons, List.length_nil, Bool.false_eq_true, Bool.true_eq_false] at *); (try omega))
    conv => whnf
    refine loop_of (X := Nat) (fun j => j ≤ m) (fun j => [(8, .int .i64 j)]) (fun j => [(5, .cells (.ints .i64 (quadAt n m s (m * i + j))) false)]) (fun j => m - j) 0 ⟨anyB_ok, mixed, tabOK, cpSg_ok, noY_ok⟩ (by rfl) (by omega) ?_ ?_
    · repeat' (first | ((conv => whnf); refine And.intro ?_ ?_) | ((conv => whnf); with_reducible exact VC.mk rfl) | ((conv => whnf); exact Ok.mk) | ((conv => whnf); exact True.intro) | ((conv => whnf); refine Nx.mk ?_) | ((conv => whnf); refine Fin.mk ?_) | ((conv => whnf); intro _))
      all_goals ((try refine VC.mk ?_); (try simp only [CL.ncell, CL.cnt, Int.toNat_natCast, decide_eq_true_eq, decide_eq_false_iff_not, Bool.not_eq_true, Bool.not_false, Bool.not_true, and_self, and_true, true_and, te3b, te4b, te3s, te4s, Nat.mul_one, Nat.zero_add, List.length_cons, List.length_nil, Bool.false_eq_true, Bool.true_eq_false] at *); (try omega))
    intro j hj
    by_cases hlj : j < m
    · have k1 : (m * i + j) / m = i := by rw [Nat.mul_add_div (by omega), Nat.div_eq_of_lt hlj]; omega
      have k2 : (m * i + j) % m = j := by rw [Nat.mul_add_mod, Nat.mod_eq_of_lt hlj]
      have e1 := quadAt_succ n m s (m * i + j)
      unfold quadStep at e1
      rw [k1, k2] at e1
      have e2 := quadAt_len n m s (m * i + j)
      have b0 : m * i + j < m * m := by have := Nat.mul_le_mul_left m (show i + 1 ≤ m by omega); rw [Nat.mul_add] at this; omega
      have b1 := hsb _ b0
      have b2 : (i + m) * n + j + m < n * n := by have := Nat.mul_le_mul_right n (show i + m + 1 ≤ n by omega); rw [Nat.add_mul] at this; omega
      have b3 : i * n + m * n = (i + m) * n := by rw [Nat.add_mul]
      have b4 : 0 ≤ (i : Int) * m ∧ (i : Int) * m ≤ 64 := mul_bd (A := 8) (B := 8) (by omega) (by omega)
      have b5 : 0 ≤ (i : Int) * n ∧ (i : Int) * n ≤ 128 := mul_bd (A := 8) (B := 16) (by omega) (by omega)
      have b6 : 0 ≤ ((i : Int) + m) * n ∧ ((i : Int) + m) * n ≤ 256 := mul_bd (A := 16) (B := 16) (by omega) (by omega)
      have i1 : (i : Int) * m + j = ((m * i + j : Nat) : Int) := by push_cast; rw [Int.mul_comm]
      have i2 : (i : Int) * n + j = ((i * n + j : Nat) : Int) := by push_cast; rfl
      have i3 : ((i : Int) + m) * n + j = (((i + m) * n + j : Nat) : Int) := by push_cast; rfl
      have i4 : (((i * n + j : Nat) : Int) + m) = ((i * n + j + m : Nat) : Int) := by push_cast; rfl
      have i5 : ((((i + m) * n + j : Nat) : Int) + m) = (((i + m) * n + j + m : Nat) : Int) := by push_cast; rfl
      repeat' (first | ((conv => whnf); refine And.intro ?_ ?_) | ((conv => whnf); with_reducible exact VC.mk rfl) | ((conv => whnf); exact Ok.mk) | ((conv => whnf); exact True.intro) | ((conv => whnf); refine Nx.mk ?_) | ((conv => whnf); refine Fin.mk ?_) | ((conv => whnf); intro _))
      all_goals ((try refine VC.mk ?_); (try simp only [CL.ncell, CL.cnt, Int.toNat_natCast, decide_eq_true_eq, decide_eq_false_iff_not, Bool.not_eq_true, Bool.not_false, Bool.not_true, and_self, and_true, true_and, te3b, te4b, te3s, te4s, Nat.mul_one, Nat.zero_add, List.length_cons, List.length_nil, Bool.false_eq_true, Bool.true_eq_false] at *); (try omega))
      all_goals (try simp only [i1, i2, i3, i4, i5, Int.toNat_natCast, List.length_set] at *)
      all_goals (try omega)
      all_goals (refine ⟨j + 1, [], ⟨by omega, by omega⟩, ?_⟩)
      all_goals repeat' (first | ((conv => whnf); refine And.intro ?_ ?_) | ((conv => whnf); with_reducible exact VC.mk rfl) | ((conv => whnf); exact Ok.mk) | ((conv => whnf); exact True.intro) | ((conv => whnf); refine Nx.mk ?_) | ((conv => whnf); refine Fin.mk ?_) | ((conv => whnf); intro _))
      all_goals ((try refine VC.mk ?_); (try simp only [CL.ncell, CL.cnt, Int.toNat_natCast, decide_eq_true_eq, decide_eq_false_iff_not, Bool.not_eq_true, Bool.not_false, Bool.not_true, and_self, and_true, true_and, te3b, te4b, te3s, te4s, Nat.mul_one, Nat.zero_add, List.length_cons, List.length_nil, Bool.false_eq_true, Bool.true_eq_false] at *); (try omega))
      all_goals (rw [show m * i + (j + 1) = m * i + j + 1 from rfl, e1])
    · have : m = j := by omega
      subst this
      repeat' (first | ((conv => whnf); refine And.intro ?_ ?_) | ((conv => whnf); with_reducible exact VC.mk rfl) | ((conv => whnf); exact Ok.mk) | ((conv => whnf); exact True.intro) | ((conv => whnf); refine Nx.mk ?_) | ((conv => whnf); refine Fin.mk ?_) | ((conv => whnf); intro _))
      all_goals ((try refine VC.mk ?_); (try simp only [CL.ncell, CL.cnt, Int.toNat_natCast, decide_eq_true_eq, decide_eq_false_iff_not, Bool.not_eq_true, Bool.not_false, Bool.not_true, and_self, and_true, true_and, te3b, te4b, te3s, te4s, Nat.mul_one, Nat.zero_add, List.length_cons, List.length_nil, Bool.false_eq_true, Bool.true_eq_false] at *); (try omega))
      refine ⟨i + 1, [], ⟨by omega, by omega⟩, ?_⟩
      repeat' (first | ((conv => whnf); refine And.intro ?_ ?_) | ((conv => whnf); with_reducible exact VC.mk rfl) | ((conv => whnf); exact Ok.mk) | ((conv => whnf); exact True.intro) | ((conv => whnf); refine Nx.mk ?_) | ((conv => whnf); refine Fin.mk ?_) | ((conv => whnf); intro _))
      all_goals ((try refine VC.mk ?_); (try simp only [CL.ncell, CL.cnt, Int.toNat_natCast, decide_eq_true_eq, decide_eq_false_iff_not, Bool.not_eq_true, Bool.not_false, Bool.not_true, and_self, and_true, true_and, te3b, te4b, te3s, te4s, Nat.mul_one, Nat.zero_add, List.length_cons, List.length_nil, Bool.false_eq_true, Bool.true_eq_false] at *); (try omega))
  have : m = i := by omega
  subst this
  repeat' (first | ((conv => whnf); refine And.intro ?_ ?_) | ((conv => whnf); with_reducible exact VC.mk rfl) | ((conv => whnf); exact Ok.mk) | ((conv => whnf); exact True.intro) | ((conv => whnf); refine Nx.mk ?_) | ((conv => whnf); refine Fin.mk ?_) | ((conv => whnf); intro _))
  all_goals ((try refine VC.mk ?_); (try simp only [CL.ncell, CL.cnt, Int.toNat_natCast, decide_eq_true_eq, decide_eq_false_iff_not, Bool.not_eq_true, Bool.not_false, Bool.not_true, and_self, and_true, true_and, te3b, te4b, te3s, te4s, Nat.mul_one, Nat.zero_add, List.length_cons, List.length_nil, Bool.false_eq_true, Bool.true_eq_false] at *); (try omega))
  generalize hl0 : quadAt n m s (m * m) = l0 at *
  have hlen : l0.length = n * n := by rw [← hl0]; exact quadAt_len _ _ _ _
  clear hl0
  have hix : ∀ i j : Nat, i < m → j < n → (n * i + j + n * m < n * n) ∧ (0 ≤ (i : Int) * n ∧ (i : Int) * n ≤ 256) ∧ (0 ≤ ((i : Int) + m) * n ∧ ((i : Int) + m) * n ≤ 256) := fun i j hi hj => by
    have a := Nat.mul_le_mul_left n (show i + 1 + m ≤ n by omega)
    rw [Nat.mul_add, Nat.mul_add] at a
    exact ⟨by omega, mul_bd (A := 16) (B := 16) (by omega) (by omega), mul_bd (A := 16) (B := 16) (by omega) (by omega)⟩
  have hdm : ∀ i j : Nat, j < n → (n * i + j) / n = i ∧ (n * i + j) % n = j := fun i j hj => by
    rw [Nat.mul_add_div (by omega), Nat.div_eq_of_lt hj, Nat.mul_add_mod, Nat.mod_eq_of_lt hj]; exact ⟨by omega, rfl⟩
  conv => whnf
  refine loop_of (X := Nat) (fun i => i ≤ m) (fun i => [(10, .int .i64 i)]) (fun i => [(5, .cells (.ints .i64 (swAt kk n m l0 (n * i))) false)]) (fun i => m - i) 0 ⟨anyB_ok, mixed, tabOK, cpSg_ok, noY_ok⟩ (by rfl) (by omega) ?_ ?_
  · repeat' (first | ((conv => whnf); refine And.intro ?_ ?_) | ((conv => whnf); with_reducible exact VC.mk rfl) | ((conv => whnf); exact Ok.mk) | ((conv => whnf); exact True.intro) | ((conv => whnf); refine Nx.mk ?_) | ((conv => whnf); refine Fin.mk ?_) | ((conv => whnf); intro _))
    all_goals ((try refine VC.mk ?_); (try simp only [CL.ncell, CL.cnt, Int.toNat_natCast, decide_eq_true_eq, decide_eq_false_iff_not, Bool.not_eq_true, Bool.not_false, Bool.not_true, and_self, and_true, true_and, te3b, te4b, te3s, te4s, Nat.mul_one, Nat.zero_add, List.length_cons, List.length_nil, Bool.false_eq_true, Bool.true_eq_false] at *); (try omega))
    all_goals (try rfl)
  intro i hi
  by_cases hlt : i < m
  · repeat' (first | ((conv => whnf); refine And.intro ?_ ?_) | ((conv => whnf); with_reducible exact VC.mk rfl) | ((conv => whnf); exact Ok.mk) | ((conv => whnf); exact True.intro) | ((conv => whnf); refine Nx.mk ?_) | ((conv => whnf); refine Fin.mk ?_) | ((conv => whnf); intro _))
    all_goals ((try refine VC.mk ?_); (try simp only [CL.ncell, CL.cnt, Int.toNat_natCast, decide_eq_true_eq, decide_eq_false_iff_not, Bool.not_eq_true, Bool.not_false, Bool.not_true, and_self, and_true, true_and, te3b, te4b, te3s, te4s, Nat.mul_one, Nat.zero_add, List.length_cons, List.length_nil, Bool.false_eq_true, Bool.true_eq_false] at *); (try omega))
    conv => whnf
    refine loop_of (X := Nat) (fun j => j ≤ n) (fun j => [(11, .int .i64 j)]) (fun j => [(5, .cells (.ints .i64 (swAt kk n m l0 (n * i + j))) false)]) (fun j => n - j) 0 ⟨anyB_ok, mixed, tabOK, cpSg_ok, noY_ok⟩ (by rfl) (by omega) ?_ ?_
    · repeat' (first | ((conv => whnf); refine And.intro ?_ ?_) | ((conv => whnf); with_reducible exact VC.mk rfl) | ((conv => whnf); exact Ok.mk) | ((conv => whnf); exact True.intro) | ((conv => whnf); refine Nx.mk ?_) | ((conv => whnf); refine Fin.mk ?_) | ((conv => whnf); intro _))
      all_goals ((try refine VC.mk ?_); (try simp only [CL.ncell, CL.cnt, Int.toNat_natCast, decide_eq_true_eq, decide_eq_false_iff_not, Bool.not_eq_true, Bool.not_false, Bool.not_true, and_self, and_true, true_and, te3b, te4b, te3s, te4s, Nat.mul_one, Nat.zero_add, List.length_cons, List.length_nil, Bool.false_eq_true, Bool.true_eq_false] at *); (try omega))
    intro j hj
    by_cases hlj : j < n
    · have hx := hix i j hlt hlj
      have e1 := swAt_succ kk n m l0 (n * i + j)
      rw [(hdm i j hlj).1, (hdm i j hlj).2] at e1
      have e2 : (i : Int) * n + j = ((n * i + j : Nat) : Int) := by push_cast; rw [Int.mul_comm]
      have e3 : ((i : Int) + m) * n + j = ((n * i + j + n * m : Nat) : Int) := by push_cast; rw [Int.add_mul, Int.mul_comm (i : Int), Int.mul_comm (m : Int)]; omega
      have hls := swAt_len kk n m l0 (n * i + j)
      repeat' (first | ((conv => whnf); refine And.intro ?_ ?_) | ((conv => whnf); with_reducible exact VC.mk rfl) | ((conv => whnf); exact Ok.mk) | ((conv => whnf); exact True.intro) | ((conv => whnf); refine Nx.mk ?_) | ((conv => whnf); refine Fin.mk ?_) | ((conv => whnf); intro _))
      all_goals ((try refine VC.mk ?_); (try simp only [CL.ncell, CL.cnt, Int.toNat_natCast, decide_eq_true_eq, decide_eq_false_iff_not, Bool.not_eq_true, Bool.not_false, Bool.not_true, and_self, and_true, true_and, te3b, te4b, te3s, te4s, Nat.mul_one, Nat.zero_add, List.length_cons, List.length_nil, Bool.false_eq_true, Bool.true_eq_false] at *); (try omega))
      all_goals (try simp only [e2, e3, Int.toNat_natCast, List.length_set] at *)
      all_goals (try omega)
      all_goals (refine ⟨j + 1, [], ⟨by omega, by omega⟩, ?_⟩)
      all_goals repeat' (first | ((conv => whnf); refine And.intro ?_ ?_) | ((conv => whnf); with_reducible exact VC.mk rfl) | ((conv => whnf); exact Ok.mk) | ((conv => whnf); exact True.intro) | ((conv => whnf); refine Nx.mk ?_) | ((conv => whnf); refine Fin.mk ?_) | ((conv => whnf); intro _))
      all_goals ((try refine VC.mk ?_); (try simp only [CL.ncell, CL.cnt, Int.toNat_natCast, decide_eq_true_eq, decide_eq_false_iff_not, Bool.not_eq_true, Bool.not_false, Bool.not_true, and_self, and_true, true_and, te3b, te4b, te3s, te4s, Nat.mul_one, Nat.zero_add, List.length_cons, List.length_nil, Bool.false_eq_true, Bool.true_eq_false] at *); (try omega))
      all_goals (rw [show n * i + (j + 1) = n * i + j + 1 from rfl, e1]; split <;> first | rfl | (exfalso; simp_all [exB] <;> omega))
    · have : n = j := by omega
      subst this
      repeat' (first | ((conv => whnf); refine And.intro ?_ ?_) | ((conv => whnf); with_reducible exact VC.mk rfl) | ((conv => whnf); exact Ok.mk) | ((conv => whnf); exact True.intro) | ((conv => whnf); refine Nx.mk ?_) | ((conv => whnf); refine Fin.mk ?_) | ((conv => whnf); intro _))
      all_goals ((try refine VC.mk ?_); (try simp only [CL.ncell, CL.cnt, Int.toNat_natCast, decide_eq_true_eq, decide_eq_false_iff_not, Bool.not_eq_true, Bool.not_false, Bool.not_true, and_self, and_true, true_and, te3b, te4b, te3s, te4s, Nat.mul_one, Nat.zero_add, List.length_cons, List.length_nil, Bool.false_eq_true, Bool.true_eq_false] at *); (try omega))
      refine ⟨i + 1, [], ⟨by omega, by omega⟩, ?_⟩
      repeat' (first | ((conv => whnf); refine And.intro ?_ ?_) | ((conv => whnf); with_reducible exact VC.mk rfl) | ((conv => whnf); exact Ok.mk) | ((conv => whnf); exact True.intro) | ((conv => whnf); refine Nx.mk ?_) | ((conv => whnf); refine Fin.mk ?_) | ((conv => whnf); intro _))
      all_goals ((try refine VC.mk ?_); (try simp only [CL.ncell, CL.cnt, Int.toNat_natCast, decide_eq_true_eq, decide_eq_false_iff_not, Bool.not_eq_true, Bool.not_false, Bool.not_true, and_self, and_true, true_and, te3b, te4b, te3s, te4s, Nat.mul_one, Nat.zero_add, List.length_cons, List.length_nil, Bool.false_eq_true, Bool.true_eq_false] at *); (try omega))
  · have : m = i := by omega
    subst this
    repeat' (first | ((conv => whnf); refine And.intro ?_ ?_) | ((conv => whnf); with_reducible exact VC.mk rfl) | ((conv => whnf); exact Ok.mk) | ((conv => whnf); exact True.intro) | ((conv => whnf); refine Nx.mk ?_) | ((conv => whnf); refine Fin.mk ?_) | ((conv => whnf); intro _))
    all_goals ((try refine VC.mk ?_); (try simp only [CL.ncell, CL.cnt, Int.toNat_natCast, decide_eq_true_eq, decide_eq_false_iff_not, Bool.not_eq_true, Bool.not_false, Bool.not_true, and_self, and_true, true_and, te3b, te4b, te3s, te4s, Nat.mul_one, Nat.zero_add, List.length_cons, List.length_nil, Bool.false_eq_true, Bool.true_eq_false] at *); (try omega))
    all_goals (try (rw [swAt_len]; omega))
    have h6 : (swAt kk n m l0 (n * m)).length = n * n := by rw [swAt_len, hlen]
    refine Sup.of ?_
    generalize swAt kk n m l0 (n * m) = ll at *
    rw [← h6]
    simp [resOf, gridV, CL.sub]
end Go.Eng.Ytppflbccfdbogaa
namespace Go.Eng.Ytppflbccfdbogaa
open Go.Proofs
set_option maxRecDepth 100000
set_option maxHeartbeats 0
set_option linter.unusedVariables false
set_option linter.unusedSimpArgs false
def magV (n : Int) : PV := if n = 2 then noGrid 7 else if n % 2 = 1 then okGrid n n (siaL n) else if n % 4 = 0 then okGrid n n (dblL n) else okGrid n n (sglL (n / 2).toNat)
def panV (n : Int) : PV := if n % 2 = 1 ∧ n % 3 ≠ 0 then okGrid n n (panL n) else if n % 4 = 0 then okGrid n n (panM n) else noGrid 7
theorem rDbl' {n : Int} (hn : 1 ≤ n ∧ n ≤ 16) : PSpec Try.prog 38 [.int .i64 n] (gridV n n (dblL n)) := by
  have := rDouble_spec n.toNat (by omega)
  rw [Int.toNat_of_nonneg (by omega)] at this
  exact this
theorem rSgl' {n : Int} (h : n % 4 = 2 ∧ 6 ≤ n ∧ n ≤ 16) : PSpec Try.prog 39 [.int .i64 n] (gridV n n (sglL (n / 2).toNat)) := by
  have := rSgl_spec (n / 2).toNat (by omega)
  rw [show ((2 * (n / 2).toNat : Nat) : Int) = n by omega] at this
  exact this
def rDblP : PSp := fun xs K => match xs with
  | [.int .i64 n] => VC (1 ≤ n ∧ n ≤ 16) ∧ K (gridV n n (dblL n))
  | _ => False
theorem rDbl_ok : POK Try.prog 38 rDblP := by
  intro xs K h
  unfold rDblP at h
  split at h
  · exact ⟨_, h.2, rDbl' h.1.get⟩
  · exact h.elim
def rSglP : PSp := fun xs K => match xs with
  | [.int .i64 n] => VC (n % 4 = 2 ∧ 6 ≤ n ∧ n ≤ 16) ∧ K (gridV n n (sglL (n / 2).toNat))
  | _ => False
theorem rSgl_ok : POK Try.prog 39 rSglP := by
  intro xs K h
  unfold rSglP at h
  split at h
  · exact ⟨_, h.2, rSgl' h.1.get⟩
  · exact h.elim
noncomputable def cpMa : CPT := cpAdd 37 (pureCC rSiaP) (cpAdd 38 (pureCC rDblP) (cpAdd 39 (pureCC rSglP) noC))
theorem cpMa_ok : CPOK Try.prog cpMa := cpAdd_ok (pureCC_ok rSia_ok) (cpAdd_ok (pureCC_ok rDbl_ok) (cpAdd_ok (pureCC_ok rSgl_ok) noC_ok))
theorem rMagic_spec (n : Int) (hn : 1 ≤ n ∧ n ≤ 16) : PSpec Try.prog 40 [.int .i64 n] (magV n) := by
  unfold magV
  generalize hz : (if n = 2 then noGrid 7 else if n % 2 = 1 then okGrid n n (siaL n) else if n % 4 = 0 then okGrid n n (dblL n) else okGrid n n (sglL (n / 2).toNat)) = z
  refine pspec_of (md := 0) (rf := []) mixed tabOK cpMa_ok Try.func40 (by rfl) (by rfl) (by rfl) ?_
  repeat' (first | ((conv => whnf); refine And.intro ?_ ?_) | ((conv => whnf); with_reducible exact VC.mk rfl) | ((conv => whnf); exact Ok.mk) | ((conv => whnf); exact True.intro) | ((conv => whnf); refine Nx.mk ?_) | ((conv => whnf); refine Fin.mk ?_) | ((conv => whnf); intro _))
  all_goals ((try refine VC.mk ?_); (try simp only [CL.ncell, CL.cnt, Int.toNat_natCast, decide_eq_true_eq, decide_eq_false_iff_not, Bool.not_eq_true, Bool.not_false, Bool.not_true, and_self, and_true, true_and, te3b, te4b, te3s, te4s, Nat.mul_one, Nat.zero_add, List.length_cons, List.length_nil, Bool.false_eq_true, Bool.true_eq_false] at *); (try omega))
  · rw [← hz, if_pos (by omega)]; all_goals (refine Sup.via ?_; repeat' (first | ((conv => whnf); refine And.intro ?_ ?_) | ((conv => whnf); with_reducible exact VC.mk rfl) | ((conv => whnf); exact Ok.mk) | ((conv => whnf); exact True.intro) | ((conv => whnf); refine Nx.mk ?_) | ((conv => whnf); refine Fin.mk ?_) | ((conv => whnf); intro _)); all_goals ((try refine VC.mk ?_); (try simp only [CL.ncell, CL.cnt, Int.toNat_natCast, decide_eq_true_eq, decide_eq_false_iff_not, Bool.not_eq_true, Bool.not_false, Bool.not_true, and_self, and_true, true_and, te3b, te4b, te3s, te4s, Nat.mul_one, Nat.zero_add, List.length_cons, List.length_nil, Bool.false_eq_true, Bool.true_eq_false] at *); (try omega)); all_goals (try (simp [CL.sub]; done)))
  · rw [← hz, if_neg (by omega), if_pos (by omega)]; all_goals (refine Sup.via ?_; repeat' (first | ((conv => whnf); refine And.intro ?_ ?_) | ((conv => whnf); with_reducible exact VC.mk rfl) | ((conv => whnf); exact Ok.mk) | ((conv => whnf); exact True.intro) | ((conv => whnf); refine Nx.mk ?_) | ((conv => whnf); refine Fin.mk ?_) | ((conv => whnf); intro _)); all_goals ((try refine VC.mk ?_); (try simp only [CL.ncell, CL.cnt, Int.toNat_natCast, decide_eq_true_eq, decide_eq_false_iff_not, Bool.not_eq_true, Bool.not_false, Bool.not_true, and_self, and_true, true_and, te3b, te4b, te3s, te4s, Nat.mul_one, Nat.zero_add, List.length_cons, List.length_nil, Bool.false_eq_true, Bool.true_eq_false] at *); (try omega)); all_goals (try (simp [CL.sub]; done)))
  · rw [← hz, if_neg (by omega), if_neg (by omega), if_pos (by omega)]; all_goals (refine Sup.via ?_; repeat' (first | ((conv => whnf); refine And.intro ?_ ?_) | ((conv => whnf); with_reducible exact VC.mk rfl) | ((conv => whnf); exact Ok.mk) | ((conv => whnf); exact True.intro) | ((conv => whnf); refine Nx.mk ?_) | ((conv => whnf); refine Fin.mk ?_) | ((conv => whnf); intro _)); all_goals ((try refine VC.mk ?_); (try simp only [CL.ncell, CL.cnt, Int.toNat_natCast, decide_eq_true_eq, decide_eq_false_iff_not, Bool.not_eq_true, Bool.not_false, Bool.not_true, and_self, and_true, true_and, te3b, te4b, te3s, te4s, Nat.mul_one, Nat.zero_add, List.length_cons, List.length_nil, Bool.false_eq_true, Bool.true_eq_false] at *); (try omega)); all_goals (try (simp [CL.sub]; done)))
  · rw [← hz, if_neg (by omega), if_neg (by omega), if_neg (by omega)]; all_goals (refine Sup.via ?_; repeat' (first | ((conv => whnf); refine And.intro ?_ ?_) | ((conv => whnf); with_reducible exact VC.mk rfl) | ((conv => whnf); exact Ok.mk) | ((conv => whnf); exact True.intro) | ((conv => whnf); refine Nx.mk ?_) | ((conv => whnf); refine Fin.mk ?_) | ((conv => whnf); intro _)); all_goals ((try refine VC.mk ?_); (try simp only [CL.ncell, CL.cnt, Int.toNat_natCast, decide_eq_true_eq, decide_eq_false_iff_not, Bool.not_eq_true, Bool.not_false, Bool.not_true, and_self, and_true, true_and, te3b, te4b, te3s, te4s, Nat.mul_one, Nat.zero_add, List.length_cons, List.length_nil, Bool.false_eq_true, Bool.true_eq_false] at *); (try omega)); all_goals (try (simp [CL.sub]; done)))
theorem rHalved' {n : Int} (hn : 1 ≤ n ∧ n ≤ 16) : PSpec Try.prog 44 [.int .i64 n] (.isl (.ints .i64 (halvedL n n.toNat)) .none) := by
  have := rHalved_spec n.toNat (by omega)
  rw [Int.toNat_of_nonneg (by omega)] at this
  exact this
def rHalvedQP : PSp := fun xs K => match xs with
  | [.int .i64 n] => VC (1 ≤ n ∧ n ≤ 16) ∧ K (.isl (.ints .i64 (halvedL n n.toNat)) .none)
  | _ => False
theorem rHalvedQ_ok : POK Try.prog 44 rHalvedQP := by
  intro xs K h
  unfold rHalvedQP at h
  split at h
  · exact ⟨_, h.2, rHalved' h.1.get⟩
  · exact h.elim
theorem mp_halved {n : Int} (hn : 1 ≤ n ∧ n ≤ 16) (h : n % 4 = 0) : mpV (halvedL n n.toNat) (halvedL n n.toNat) = okGrid n n (panM n) := by
  have : n = 4 ∨ n = 8 ∨ n = 12 ∨ n = 16 := by omega
  have he : mpErr (halvedL n n.toNat) (halvedL n n.toNat) = 0 := by rcases this with rfl | rfl | rfl | rfl <;> decide +kernel
  have hl : ((halvedL n n.toNat).length : Int) = n := by rw [halvedL_len]; omega
  unfold mpV panM
  rw [if_pos he, hl]
noncomputable def cpPa : CPT := cpAdd 50 (pureCC rUniformP) (cpAdd 44 (pureCC rHalvedQP) (cpAdd 65 (pureCC rMostP) noC))
theorem cpPa_ok : CPOK Try.prog cpPa := cpAdd_ok (pureCC_ok rUniform_ok) (cpAdd_ok (pureCC_ok rHalvedQ_ok) (cpAdd_ok (pureCC_ok rMost_ok) noC_ok))
theorem rPan_spec (n : Int) (hn : 1 ≤ n ∧ n ≤ 16) : PSpec Try.prog 41 [.int .i64 n] (panV n) := by
  unfold panV
  have hmp := @mp_halved n hn
  generalize hz : (if n % 2 = 1 ∧ n % 3 ≠ 0 then okGrid n n (panL n) else if n % 4 = 0 then okGrid n n (panM n) else noGrid 7) = z
  by_cases c1 : n % 2 = 1 ∧ n % 3 ≠ 0
  · rw [if_pos c1] at hz; subst hz
    refine pspec_of (md := 0) (rf := []) mixed tabOK cpPa_ok Try.func41 (by rfl) (by rfl) (by rfl) ?_
    repeat' (first | ((conv => whnf); refine And.intro ?_ ?_) | ((conv => whnf); with_reducible exact VC.mk rfl) | ((conv => whnf); exact Ok.mk) | ((conv => whnf); exact True.intro) | ((conv => whnf); refine Nx.mk ?_) | ((conv => whnf); refine Fin.mk ?_) | ((conv => whnf); intro _))
    all_goals ((try refine VC.mk ?_); (try simp only [CL.ncell, CL.cnt, Int.toNat_natCast, decide_eq_true_eq, decide_eq_false_iff_not, Bool.not_eq_true, Bool.not_false, Bool.not_true, and_self, and_true, true_and, te3b, te4b, te3s, te4s, Nat.mul_one, Nat.zero_add, List.length_cons, List.length_nil, Bool.false_eq_true, Bool.true_eq_false] at *); (try omega))
    all_goals (try (exfalso; omega))
    · exact ⟨hn, by simp only [List.mem_cons, List.not_mem_nil, or_false, forall_eq_or_imp, forall_eq]; omega⟩
    all_goals all_goals (refine Sup.via ?_; repeat' (first | ((conv => whnf); refine And.intro ?_ ?_) | ((conv => whnf); with_reducible exact VC.mk rfl) | ((conv => whnf); exact Ok.mk) | ((conv => whnf); exact True.intro) | ((conv => whnf); refine Nx.mk ?_) | ((conv => whnf); refine Fin.mk ?_) | ((conv => whnf); intro _)); all_goals ((try refine VC.mk ?_); (try simp only [CL.ncell, CL.cnt, Int.toNat_natCast, decide_eq_true_eq, decide_eq_false_iff_not, Bool.not_eq_true, Bool.not_false, Bool.not_true, and_self, and_true, true_and, te3b, te4b, te3s, te4s, Nat.mul_one, Nat.zero_add, List.length_cons, List.length_nil, Bool.false_eq_true, Bool.true_eq_false] at *); (try omega)); all_goals (try (simp [CL.sub]; done)))
    all_goals (try rfl)
  rw [if_neg c1] at hz
  by_cases c2 : n % 4 = 0
  · rw [if_pos c2] at hz; subst hz
    have hM := rMost_spec (halvedL n n.toNat) (halvedL n n.toNat)
    rw [hmp c2] at hM
    have hC := cpAdd_ok (pureCC_ok rHalvedQ_ok) (cpAdd_ok (pureCC_ok (atC_ok (C := True) fun _ => hM)) noC_ok)
    refine pspec_of (md := 0) (rf := []) mixed tabOK hC Try.func41 (by rfl) (by rfl) (by rfl) ?_
    repeat' (first | ((conv => whnf); refine And.intro ?_ ?_) | ((conv => whnf); with_reducible exact VC.mk rfl) | ((conv => whnf); exact Ok.mk) | ((conv => whnf); exact True.intro) | ((conv => whnf); refine Nx.mk ?_) | ((conv => whnf); refine Fin.mk ?_) | ((conv => whnf); intro _))
    all_goals ((try refine VC.mk ?_); (try simp only [CL.ncell, CL.cnt, Int.toNat_natCast, decide_eq_true_eq, decide_eq_false_iff_not, Bool.not_eq_true, Bool.not_false, Bool.not_true, and_self, and_true, true_and, te3b, te4b, te3s, te4s, Nat.mul_one, Nat.zero_add, List.length_cons, List.length_nil, Bool.false_eq_true, Bool.true_eq_false] at *); (try omega))
    all_goals (try (exfalso; omega))
    all_goals all_goals (refine Sup.via ?_; repeat' (first | ((conv => whnf); refine And.intro ?_ ?_) | ((conv => whnf); with_reducible exact VC.mk rfl) | ((conv => whnf); exact Ok.mk) | ((conv => whnf); exact True.intro) | ((conv => whnf); refine Nx.mk ?_) | ((conv => whnf); refine Fin.mk ?_) | ((conv => whnf); intro _)); all_goals ((try refine VC.mk ?_); (try simp only [CL.ncell, CL.cnt, Int.toNat_natCast, decide_eq_true_eq, decide_eq_false_iff_not, Bool.not_eq_true, Bool.not_false, Bool.not_true, and_self, and_true, true_and, te3b, te4b, te3s, te4s, Nat.mul_one, Nat.zero_add, List.length_cons, List.length_nil, Bool.false_eq_true, Bool.true_eq_false] at *); (try omega)); all_goals (try (simp [CL.sub]; done)))
    all_goals (try rfl)
  · rw [if_neg c2] at hz; subst hz
    refine pspec_of (md := 0) (rf := []) mixed tabOK noC_ok Try.func41 (by rfl) (by rfl) (by rfl) ?_
    repeat' (first | ((conv => whnf); refine And.intro ?_ ?_) | ((conv => whnf); with_reducible exact VC.mk rfl) | ((conv => whnf); exact Ok.mk) | ((conv => whnf); exact True.intro) | ((conv => whnf); refine Nx.mk ?_) | ((conv => whnf); refine Fin.mk ?_) | ((conv => whnf); intro _))
    all_goals ((try refine VC.mk ?_); (try simp only [CL.ncell, CL.cnt, Int.toNat_natCast, decide_eq_true_eq, decide_eq_false_iff_not, Bool.not_eq_true, Bool.not_false, Bool.not_true, and_self, and_true, true_and, te3b, te4b, te3s, te4s, Nat.mul_one, Nat.zero_add, List.length_cons, List.length_nil, Bool.false_eq_true, Bool.true_eq_false] at *); (try omega))
    all_goals (try (exfalso; omega))
    all_goals all_goals (refine Sup.via ?_; repeat' (first | ((conv => whnf); refine And.intro ?_ ?_) | ((conv => whnf); with_reducible exact VC.mk rfl) | ((conv => whnf); exact Ok.mk) | ((conv => whnf); exact True.intro) | ((conv => whnf); refine Nx.mk ?_) | ((conv => whnf); refine Fin.mk ?_) | ((conv => whnf); intro _)); all_goals ((try refine VC.mk ?_); (try simp only [CL.ncell, CL.cnt, Int.toNat_natCast, decide_eq_true_eq, decide_eq_false_iff_not, Bool.not_eq_true, Bool.not_false, Bool.not_true, and_self, and_true, true_and, te3b, te4b, te3s, te4s, Nat.mul_one, Nat.zero_add, List.length_cons, List.length_nil, Bool.false_eq_true, Bool.true_eq_false] at *); (try omega)); all_goals (try (simp [CL.sub]; done)))
    all_goals (try rfl)
end Go.Eng.Ytppflbccfdbogaa
namespace Go.Eng.Ytppflbccfdbogaa
open Go.Proofs
set_option maxRecDepth 100000
set_option maxHeartbeats 0
set_option linter.unusedVariables false
set_option linter.unusedSimpArgs false
theorem mod4_spec (a : Int) : PSpec Try.prog 96 [.int .i64 a, .int .i64 4] (.int .i64 (a % 4)) := by
  have h1 : -4 < a.tmod 4 := by have := Int.lt_tmod_of_pos a (show (0 : Int) < 4 by decide); omega
  have h2 : a.tmod 4 < 4 := Int.tmod_lt_of_pos a (by decide)
  have h3 : (a.tmod 4 + 4).tmod 4 = a % 4 := by
    rw [Int.tmod_eq_emod_of_nonneg (by omega), Int.add_emod_right]
    have := Int.mul_tdiv_add_tmod a 4
    omega
  refine pspec_of (md := 1) (rf := []) mixed tabOK noC_ok Try.func96 (by rfl) (by rfl) (by rfl) ?_
  repeat' (first | ((conv => whnf); refine And.intro ?_ ?_) | ((conv => whnf); with_reducible exact VC.mk rfl) | ((conv => whnf); exact Ok.mk) | ((conv => whnf); exact True.intro) | ((conv => whnf); refine Nx.mk ?_) | ((conv => whnf); refine Fin.mk ?_) | ((conv => whnf); intro _))
  all_goals ((try refine VC.mk ?_); (try simp only [CL.ncell, CL.cnt, Int.toNat_natCast, decide_eq_true_eq, decide_eq_false_iff_not, Bool.not_eq_true, Bool.not_false, Bool.not_true, and_self, and_true, true_and, te3b, te4b, te3s, te4s, Nat.mul_one, Nat.zero_add, List.length_cons, List.length_nil, Bool.false_eq_true, Bool.true_eq_false] at *); (try omega))
  rw [h3]; exact Sup.of rfl
def cMagV (n : Int) : PV := if n < 1 ∨ 16 < n then noGrid 3 else magV n
theorem magic_spec' (n : Int) : PSpec Try.prog 32 [.int .i64 n] (cMagV n) := by
  have hM := mod4_spec n
  have hcase : n % 4 = 0 ∨ n % 4 = 1 ∨ n % 4 = 2 ∨ n % 4 = 3 := by omega
  generalize hz : cMagV n = z
  unfold cMagV magV at hz
  rcases hcase with h | h | h | h
  · rw [h] at hM
    have hC := cpAdd_ok (pureCC_ok (atC_ok (C := True) fun _ => hM)) (cpAdd_ok (pureCC_ok orderly_pok) noC_ok)
    refine pspec_of (md := 1) (rf := []) mixed tabOK hC Try.func32 (by rfl) (by rfl) (by rfl) ?_
    repeat' (first | ((conv => whnf); refine And.intro ?_ ?_) | ((conv => whnf); with_reducible exact VC.mk rfl) | ((conv => whnf); exact Ok.mk) | ((conv => whnf); exact True.intro) | ((conv => whnf); refine Nx.mk ?_) | ((conv => whnf); refine Fin.mk ?_) | ((conv => whnf); intro _))
    all_goals ((try refine VC.mk ?_); (try simp only [CL.ncell, CL.cnt, Int.toNat_natCast, decide_eq_true_eq, decide_eq_false_iff_not, Bool.not_eq_true, Bool.not_false, Bool.not_true, and_self, and_true, true_and, te3b, te4b, te3s, te4s, Nat.mul_one, Nat.zero_add, List.length_cons, List.length_nil, Bool.false_eq_true, Bool.true_eq_false] at *); (try omega))
    · rw [← hz, if_pos ‹_›]; all_goals (refine Sup.via ?_; repeat' (first | ((conv => whnf); refine And.intro ?_ ?_) | ((conv => whnf); with_reducible exact VC.mk rfl) | ((conv => whnf); exact Ok.mk) | ((conv => whnf); exact True.intro) | ((conv => whnf); refine Nx.mk ?_) | ((conv => whnf); refine Fin.mk ?_) | ((conv => whnf); intro _)); all_goals ((try refine VC.mk ?_); (try simp only [CL.ncell, CL.cnt, Int.toNat_natCast, decide_eq_true_eq, decide_eq_false_iff_not, Bool.not_eq_true, Bool.not_false, Bool.not_true, and_self, and_true, true_and, te3b, te4b, te3s, te4s, Nat.mul_one, Nat.zero_add, List.length_cons, List.length_nil, Bool.false_eq_true, Bool.true_eq_false] at *); (try omega)); all_goals (try (simp [CL.sub]; done)))
    · refine ⟨n, n, dblL n, cDbl_spec n (by omega), ?_⟩
      repeat' (first | ((conv => whnf); refine And.intro ?_ ?_) | ((conv => whnf); with_reducible exact VC.mk rfl) | ((conv => whnf); exact Ok.mk) | ((conv => whnf); exact True.intro) | ((conv => whnf); refine Nx.mk ?_) | ((conv => whnf); refine Fin.mk ?_) | ((conv => whnf); intro _))
      all_goals ((try refine VC.mk ?_); (try simp only [CL.ncell, CL.cnt, Int.toNat_natCast, decide_eq_true_eq, decide_eq_false_iff_not, Bool.not_eq_true, Bool.not_false, Bool.not_true, and_self, and_true, true_and, te3b, te4b, te3s, te4s, Nat.mul_one, Nat.zero_add, List.length_cons, List.length_nil, Bool.false_eq_true, Bool.true_eq_false] at *); (try omega))
      rw [← hz, if_neg ‹_›, if_neg (by omega), if_neg (by omega), if_pos (by omega)]
      all_goals (refine Sup.via ?_; repeat' (first | ((conv => whnf); refine And.intro ?_ ?_) | ((conv => whnf); with_reducible exact VC.mk rfl) | ((conv => whnf); exact Ok.mk) | ((conv => whnf); exact True.intro) | ((conv => whnf); refine Nx.mk ?_) | ((conv => whnf); refine Fin.mk ?_) | ((conv => whnf); intro _)); all_goals ((try refine VC.mk ?_); (try simp only [CL.ncell, CL.cnt, Int.toNat_natCast, decide_eq_true_eq, decide_eq_false_iff_not, Bool.not_eq_true, Bool.not_false, Bool.not_true, and_self, and_true, true_and, te3b, te4b, te3s, te4s, Nat.mul_one, Nat.zero_add, List.length_cons, List.length_nil, Bool.false_eq_true, Bool.true_eq_false] at *); (try omega)); all_goals (try (simp [CL.sub]; done)))
  · rw [h] at hM
    have hC := cpAdd_ok (pureCC_ok (atC_ok (C := True) fun _ => hM)) (cpAdd_ok (pureCC_ok orderly_pok) noC_ok)
    refine pspec_of (md := 1) (rf := []) mixed tabOK hC Try.func32 (by rfl) (by rfl) (by rfl) ?_
    repeat' (first | ((conv => whnf); refine And.intro ?_ ?_) | ((conv => whnf); with_reducible exact VC.mk rfl) | ((conv => whnf); exact Ok.mk) | ((conv => whnf); exact True.intro) | ((conv => whnf); refine Nx.mk ?_) | ((conv => whnf); refine Fin.mk ?_) | ((conv => whnf); intro _))
    all_goals ((try refine VC.mk ?_); (try simp only [CL.ncell, CL.cnt, Int.toNat_natCast, decide_eq_true_eq, decide_eq_false_iff_not, Bool.not_eq_true, Bool.not_false, Bool.not_true, and_self, and_true, true_and, te3b, te4b, te3s, te4s, Nat.mul_one, Nat.zero_add, List.length_cons, List.length_nil, Bool.false_eq_true, Bool.true_eq_false] at *); (try omega))
    · rw [← hz, if_pos ‹_›]; all_goals (refine Sup.via ?_; repeat' (first | ((conv => whnf); refine And.intro ?_ ?_) | ((conv => whnf); with_reducible exact VC.mk rfl) | ((conv => whnf); exact Ok.mk) | ((conv => whnf); exact True.intro) | ((conv => whnf); refine Nx.mk ?_) | ((conv => whnf); refine Fin.mk ?_) | ((conv => whnf); intro _)); all_goals ((try refine VC.mk ?_); (try simp only [CL.ncell, CL.cnt, Int.toNat_natCast, decide_eq_true_eq, decide_eq_false_iff_not, Bool.not_eq_true, Bool.not_false, Bool.not_true, and_self, and_true, true_and, te3b, te4b, te3s, te4s, Nat.mul_one, Nat.zero_add, List.length_cons, List.length_nil, Bool.false_eq_true, Bool.true_eq_false] at *); (try omega)); all_goals (try (simp [CL.sub]; done)))
    · refine ⟨n, n, siaL n, cSia_spec n (by omega), ?_⟩
      repeat' (first | ((conv => whnf); refine And.intro ?_ ?_) | ((conv => whnf); with_reducible exact VC.mk rfl) | ((conv => whnf); exact Ok.mk) | ((conv => whnf); exact True.intro) | ((conv => whnf); refine Nx.mk ?_) | ((conv => whnf); refine Fin.mk ?_) | ((conv => whnf); intro _))
      all_goals ((try refine VC.mk ?_); (try simp only [CL.ncell, CL.cnt, Int.toNat_natCast, decide_eq_true_eq, decide_eq_false_iff_not, Bool.not_eq_true, Bool.not_false, Bool.not_true, and_self, and_true, true_and, te3b, te4b, te3s, te4s, Nat.mul_one, Nat.zero_add, List.length_cons, List.length_nil, Bool.false_eq_true, Bool.true_eq_false] at *); (try omega))
      rw [← hz, if_neg ‹_›, if_neg (by omega), if_pos (by omega)]
      all_goals (refine Sup.via ?_; repeat' (first | ((conv => whnf); refine And.intro ?_ ?_) | ((conv => whnf); with_reducible exact VC.mk rfl) | ((conv => whnf); exact Ok.mk) | ((conv => whnf); exact True.intro) | ((conv => whnf); refine Nx.mk ?_) | ((conv => whnf); refine Fin.mk ?_) | ((conv => whnf); intro _)); all_goals ((try refine VC.mk ?_); (try simp only [CL.ncell, CL.cnt, Int.toNat_natCast, decide_eq_true_eq, decide_eq_false_iff_not, Bool.not_eq_true, Bool.not_false, Bool.not_true, and_self, and_true, true_and, te3b, te4b, te3s, te4s, Nat.mul_one, Nat.zero_add, List.length_cons, List.length_nil, Bool.false_eq_true, Bool.true_eq_false] at *); (try omega)); all_goals (try (simp [CL.sub]; done)))
  · rw [h] at hM
    have hC := cpAdd_ok (pureCC_ok (atC_ok (C := True) fun _ => hM)) (cpAdd_ok (pureCC_ok orderly_pok) noC_ok)
    refine pspec_of (md := 1) (rf := []) mixed tabOK hC Try.func32 (by rfl) (by rfl) (by rfl) ?_
    repeat' (first | ((conv => whnf); refine And.intro ?_ ?_) | ((conv => whnf); with_reducible exact VC.mk rfl) | ((conv => whnf); exact Ok.mk) | ((conv => whnf); exact True.intro) | ((conv => whnf); refine Nx.mk ?_) | ((conv => whnf); refine Fin.mk ?_) | ((conv => whnf); intro _))
    all_goals ((try refine VC.mk ?_); (try simp only [CL.ncell, CL.cnt, Int.toNat_natCast, decide_eq_true_eq, decide_eq_false_iff_not, Bool.not_eq_true, Bool.not_false, Bool.not_true, and_self, and_true, true_and, te3b, te4b, te3s, te4s, Nat.mul_one, Nat.zero_add, List.length_cons, List.length_nil, Bool.false_eq_true, Bool.true_eq_false] at *); (try omega))
    · rw [← hz, if_pos ‹_›]; all_goals (refine Sup.via ?_; repeat' (first | ((conv => whnf); refine And.intro ?_ ?_) | ((conv => whnf); with_reducible exact VC.mk rfl) | ((conv => whnf); exact Ok.mk) | ((conv => whnf); exact True.intro) | ((conv => whnf); refine Nx.mk ?_) | ((conv => whnf); refine Fin.mk ?_) | ((conv => whnf); intro _)); all_goals ((try refine VC.mk ?_); (try simp only [CL.ncell, CL.cnt, Int.toNat_natCast, decide_eq_true_eq, decide_eq_false_iff_not, Bool.not_eq_true, Bool.not_false, Bool.not_true, and_self, and_true, true_and, te3b, te4b, te3s, te4s, Nat.mul_one, Nat.zero_add, List.length_cons, List.length_nil, Bool.false_eq_true, Bool.true_eq_false] at *); (try omega)); all_goals (try (simp [CL.sub]; done)))
    · rw [← hz, if_neg ‹_›, if_pos (by omega)]; all_goals (refine Sup.via ?_; repeat' (first | ((conv => whnf); refine And.intro ?_ ?_) | ((conv => whnf); with_reducible exact VC.mk rfl) | ((conv => whnf); exact Ok.mk) | ((conv => whnf); exact True.intro) | ((conv => whnf); refine Nx.mk ?_) | ((conv => whnf); refine Fin.mk ?_) | ((conv => whnf); intro _)); all_goals ((try refine VC.mk ?_); (try simp only [CL.ncell, CL.cnt, Int.toNat_natCast, decide_eq_true_eq, decide_eq_false_iff_not, Bool.not_eq_true, Bool.not_false, Bool.not_true, and_self, and_true, true_and, te3b, te4b, te3s, te4s, Nat.mul_one, Nat.zero_add, List.length_cons, List.length_nil, Bool.false_eq_true, Bool.true_eq_false] at *); (try omega)); all_goals (try (simp [CL.sub]; done)))
    · refine ⟨n, n, sglL (n / 2).toNat, cSglP_pspec (by omega), ?_⟩
      repeat' (first | ((conv => whnf); refine And.intro ?_ ?_) | ((conv => whnf); with_reducible exact VC.mk rfl) | ((conv => whnf); exact Ok.mk) | ((conv => whnf); exact True.intro) | ((conv => whnf); refine Nx.mk ?_) | ((conv => whnf); refine Fin.mk ?_) | ((conv => whnf); intro _))
      all_goals ((try refine VC.mk ?_); (try simp only [CL.ncell, CL.cnt, Int.toNat_natCast, decide_eq_true_eq, decide_eq_false_iff_not, Bool.not_eq_true, Bool.not_false, Bool.not_true, and_self, and_true, true_and, te3b, te4b, te3s, te4s, Nat.mul_one, Nat.zero_add, List.length_cons, List.length_nil, Bool.false_eq_true, Bool.true_eq_false] at *); (try omega))
      rw [← hz, if_neg ‹_›, if_neg (by omega), if_neg (by omega), if_neg (by omega)]
      all_goals (refine Sup.via ?_; repeat' (first | ((conv => whnf); refine And.intro ?_ ?_) | ((conv => whnf); with_reducible exact VC.mk rfl) | ((conv => whnf); exact Ok.mk) | ((conv => whnf); exact True.intro) | ((conv => whnf); refine Nx.mk ?_) | ((conv => whnf); refine Fin.mk ?_) | ((conv => whnf); intro _)); all_goals ((try refine VC.mk ?_); (try simp only [CL.ncell, CL.cnt, Int.toNat_natCast, decide_eq_true_eq, decide_eq_false_iff_not, Bool.not_eq_true, Bool.not_false, Bool.not_true, and_self, and_true, true_and, te3b, te4b, te3s, te4s, Nat.mul_one, Nat.zero_add, List.length_cons, List.length_nil, Bool.false_eq_true, Bool.true_eq_false] at *); (try omega)); all_goals (try (simp [CL.sub]; done)))
  · rw [h] at hM
    have hC := cpAdd_ok (pureCC_ok (atC_ok (C := True) fun _ => hM)) (cpAdd_ok (pureCC_ok orderly_pok) noC_ok)
    refine pspec_of (md := 1) (rf := []) mixed tabOK hC Try.func32 (by rfl) (by rfl) (by rfl) ?_
    repeat' (first | ((conv => whnf); refine And.intro ?_ ?_) | ((conv => whnf); with_reducible exact VC.mk rfl) | ((conv => whnf); exact Ok.mk) | ((conv => whnf); exact True.intro) | ((conv => whnf); refine Nx.mk ?_) | ((conv => whnf); refine Fin.mk ?_) | ((conv => whnf); intro _))
    all_goals ((try refine VC.mk ?_); (try simp only [CL.ncell, CL.cnt, Int.toNat_natCast, decide_eq_true_eq, decide_eq_false_iff_not, Bool.not_eq_true, Bool.not_false, Bool.not_true, and_self, and_true, true_and, te3b, te4b, te3s, te4s, Nat.mul_one, Nat.zero_add, List.length_cons, List.length_nil, Bool.false_eq_true, Bool.true_eq_false] at *); (try omega))
    · rw [← hz, if_pos ‹_›]; all_goals (refine Sup.via ?_; repeat' (first | ((conv => whnf); refine And.intro ?_ ?_) | ((conv => whnf); with_reducible exact VC.mk rfl) | ((conv => whnf); exact Ok.mk) | ((conv => whnf); exact True.intro) | ((conv => whnf); refine Nx.mk ?_) | ((conv => whnf); refine Fin.mk ?_) | ((conv => whnf); intro _)); all_goals ((try refine VC.mk ?_); (try simp only [CL.ncell, CL.cnt, Int.toNat_natCast, decide_eq_true_eq, decide_eq_false_iff_not, Bool.not_eq_true, Bool.not_false, Bool.not_true, and_self, and_true, true_and, te3b, te4b, te3s, te4s, Nat.mul_one, Nat.zero_add, List.length_cons, List.length_nil, Bool.false_eq_true, Bool.true_eq_false] at *); (try omega)); all_goals (try (simp [CL.sub]; done)))
    · refine ⟨n, n, siaL n, cSia_spec n (by omega), ?_⟩
      repeat' (first | ((conv => whnf); refine And.intro ?_ ?_) | ((conv => whnf); with_reducible exact VC.mk rfl) | ((conv => whnf); exact Ok.mk) | ((conv => whnf); exact True.intro) | ((conv => whnf); refine Nx.mk ?_) | ((conv => whnf); refine Fin.mk ?_) | ((conv => whnf); intro _))
      all_goals ((try refine VC.mk ?_); (try simp only [CL.ncell, CL.cnt, Int.toNat_natCast, decide_eq_true_eq, decide_eq_false_iff_not, Bool.not_eq_true, Bool.not_false, Bool.not_true, and_self, and_true, true_and, te3b, te4b, te3s, te4s, Nat.mul_one, Nat.zero_add, List.length_cons, List.length_nil, Bool.false_eq_true, Bool.true_eq_false] at *); (try omega))
      rw [← hz, if_neg ‹_›, if_neg (by omega), if_pos (by omega)]
      all_goals (refine Sup.via ?_; repeat' (first | ((conv => whnf); refine And.intro ?_ ?_) | ((conv => whnf); with_reducible exact VC.mk rfl) | ((conv => whnf); exact Ok.mk) | ((conv => whnf); exact True.intro) | ((conv => whnf); refine Nx.mk ?_) | ((conv => whnf); refine Fin.mk ?_) | ((conv => whnf); intro _)); all_goals ((try refine VC.mk ?_); (try simp only [CL.ncell, CL.cnt, Int.toNat_natCast, decide_eq_true_eq, decide_eq_false_iff_not, Bool.not_eq_true, Bool.not_false, Bool.not_true, and_self, and_true, true_and, te3b, te4b, te3s, te4s, Nat.mul_one, Nat.zero_add, List.length_cons, List.length_nil, Bool.false_eq_true, Bool.true_eq_false] at *); (try omega)); all_goals (try (simp [CL.sub]; done)))
/-! the values of the orders -/
theorem uniL_len {n s0 s1 x0 x1 b0 b1 : Int} (hn : 1 ≤ n ∧ n ≤ 16) : (uniL n s0 s1 x0 x1 b0 b1).length ≤ 256 := by
  have := mul_bd (show 0 ≤ n ∧ n ≤ 16 by omega) (show 0 ≤ n ∧ n ≤ 16 by omega)
  unfold uniL; rw [gAt_len]; omega
theorem madeL_le {n : Nat} (hn : n ≤ 16) (h : Nat → Nat → Int) : (madeL n h).length ≤ 256 := by
  have := Nat.mul_le_mul hn hn
  simp [madeL]; omega
/-- a result as the law looks at it -/
def IsRes (v : PV) (bad : Int) (r c : Int) (l : List Int) : Prop := ∃ (r0 c0 : Int) (l0 : List Int) (e : Int), v = .tup [gridV r0 c0 l0, .int .i64 e] ∧ l0.length ≤ 2000000 ∧ MadeOK r0 c0 l0 e r c l bad
theorem isRes_no {bad r c : Int} {l : List Int} (h : bad ≠ 0) : IsRes (noGrid bad) bad r c l := ⟨0, 0, [], bad, rfl, by simp, .inl ⟨h, rfl, rfl, rfl, rfl⟩⟩
theorem isRes_ok {r c : Int} {l : List Int} (h : l.length ≤ 256) : IsRes (okGrid r c l) 0 r c l := ⟨r, c, l, 0, rfl, by omega, .inr ⟨rfl, rfl, rfl, rfl, rfl⟩⟩
theorem gridOr_res {n : Int} {h : Prop} [Decidable h] {l : List Int} (hl : 1 ≤ n ∧ n ≤ 16 → h → l.length ≤ 256) : IsRes (gridOr n h l) (if n < 1 ∨ 16 < n then 3 else if h then 0 else 7) n n l := by
  unfold gridOr
  by_cases h1 : n < 1 ∨ 16 < n
  · rw [if_pos h1, if_pos h1]; exact isRes_no (by decide)
  · rw [if_neg h1, if_neg h1]
    by_cases h2 : h
    · rw [if_pos h2, if_pos h2]; exact isRes_ok (hl (by omega) h2)
    · rw [if_neg h2, if_neg h2]; exact isRes_no (by decide)
end Go.Eng.Ytppflbccfdbogaa
namespace Go.Eng.Ytppflbccfdbogaa
open Go.Proofs
set_option maxRecDepth 100000
set_option maxHeartbeats 0
set_option linter.unusedVariables false
set_option linter.unusedSimpArgs false
noncomputable def cpOr : CPT := cpAdd 35 (pureCC orderP) (cpAdd 36 (pureCC noneP) (cpAdd 37 (pureCC rSiaP) (cpAdd 38 (pureCC rDblP) (cpAdd 39 (pureCC rSglP) (cpAdd 42 (pureCC madeT) (cpAdd 43 (pureCC intsT) (cpAdd 44 (pureCC rHalvedQP) (cpAdd 16 (pureCC awakeT) noC))))))))
theorem cpOr_ok : CPOK Try.prog cpOr := cpAdd_ok (pureCC_ok order_ok) (cpAdd_ok (pureCC_ok none_ok) (cpAdd_ok (pureCC_ok rSia_ok) (cpAdd_ok (pureCC_ok rDbl_ok) (cpAdd_ok (pureCC_ok rSgl_ok) (cpAdd_ok (pureCC_ok madeT_ok) (cpAdd_ok (pureCC_ok intsT_ok) (cpAdd_ok (pureCC_ok rHalvedQ_ok) (cpAdd_ok (pureCC_ok awakeT_ok) noC_ok))))))))
def noneOut : PSp := fun xs K => match xs with
  | [.int .i64 b, .bp c] => VC (b = 3) ∧ K (.int .i64 3)
  | _ => False
theorem noneOut_ok : POK Try.prog 36 noneOut := by
  intro xs K h
  unfold noneOut at h
  split at h
  · obtain ⟨⟨rfl⟩, h⟩ := h
    exact ⟨_, h, none_spec 3 _⟩
  · exact h.elim
theorem orders_out (n : Int) (hn : n < 1 ∨ 16 < n) : PSpec Try.prog 5 [.int .i64 n] (.bp true) := by
  have h29 := siamese_spec n
  have h30 := doublyEven_spec n
  have h31 := singlyEven_spec n
  have h32 := magic_spec' n
  have h33 := pandiagonal_spec n
  have h34 := halved_spec n
  unfold gridOr at h29 h30 h31 h33
  unfold cMagV at h32
  unfold halvedV at h34
  rw [if_pos hn] at h29 h30 h31 h32 h33 h34
  have h35 := order_spec n
  rw [if_pos hn] at h35
  have hC := cpAdd_ok (pureCC_ok (atC_ok (C := True) fun _ => h29)) (cpAdd_ok (pureCC_ok (atC_ok (C := True) fun _ => h30)) (cpAdd_ok (pureCC_ok (atC_ok (C := True) fun _ => h31)) (cpAdd_ok (pureCC_ok (atC_ok (C := True) fun _ => h32)) (cpAdd_ok (pureCC_ok (atC_ok (C := True) fun _ => h33)) (cpAdd_ok (pureCC_ok (atC_ok (C := True) fun _ => h34)) (cpAdd_ok (pureCC_ok (atC_ok (C := True) fun _ => h35)) (cpAdd_ok (pureCC_ok noneOut_ok) cpOr_ok)))))))
  refine pspec_of (md := 1) (rf := []) mixed tabOK hC Try.func5 (by rfl) (by rfl) (by rfl) ?_
  repeat' (first | ((conv => whnf); refine And.intro ?_ ?_) | ((conv => whnf); with_reducible exact VC.mk rfl) | ((conv => whnf); exact Ok.mk) | ((conv => whnf); exact True.intro) | ((conv => whnf); refine Nx.mk ?_) | ((conv => whnf); refine Fin.mk ?_) | ((conv => whnf); intro hq; (try simp only [decide_eq_true_eq, decide_eq_false_iff_not, Bool.not_eq_true, Bool.not_eq_false, Bool.not_eq_true', Bool.not_eq_false', ite_true, ite_false] at hq); (try (exfalso; first | exact absurd hq (by decide) | omega))))
  all_goals ((try refine VC.mk ?_); (try simp only [CL.ncell, CL.cnt, Int.toNat_natCast, decide_eq_true_eq, decide_eq_false_iff_not, Bool.not_eq_true, Bool.not_false, Bool.not_true, and_self, and_true, true_and, te3b, te4b, te3s, te4s, Nat.mul_one, Nat.zero_add, List.length_cons, List.length_nil, Bool.false_eq_true, Bool.true_eq_false] at *); (try omega))
  all_goals first | exact sup_true | (exact .inl ⟨by decide, rfl, rfl, rfl, rfl⟩) | (exfalso; simp_all; done) | trace_state
def noneIn : PSp := fun xs K => match xs with
  | [.int .i64 b, .bp c] => VC (b = 0) ∧ (c = true → K (.int .i64 0)) ∧ (c = false → K (.int .i64 7))
  | _ => False
theorem noneIn_ok : POK Try.prog 36 noneIn := by
  intro xs K h
  unfold noneIn at h
  split at h
  · obtain ⟨⟨rfl⟩, h1, h2⟩ := h
    rename_i c
    have := none_spec 0 c
    cases c with
    | true => exact ⟨_, h1 rfl, this⟩
    | false => exact ⟨_, h2 rfl, this⟩
  · exact h.elim
theorem gridOr_in {n : Int} (hn : 1 ≤ n ∧ n ≤ 16) {h : Prop} [Decidable h] {l : List Int} (hl : h → l.length ≤ 256) : ∃ (r0 c0 : Int) (l0 : List Int) (e : Int), gridOr n h l = .tup [gridV r0 c0 l0, .int .i64 e] ∧ l0.length ≤ 2000000 ∧ (h → MadeOK r0 c0 l0 e n n l 0) ∧ (¬ h → ∀ r c l, MadeOK r0 c0 l0 e r c l 7) := by
  unfold gridOr
  rw [if_neg (by omega)]
  by_cases h2 : h
  · rw [if_pos h2]; exact ⟨n, n, l, 0, rfl, by have := hl h2; omega, fun _ => .inr ⟨rfl, rfl, rfl, rfl, rfl⟩, fun h => absurd h2 h⟩
  · rw [if_neg h2]; exact ⟨0, 0, [], 7, rfl, by simp, fun h => absurd h h2, fun _ r c l => .inl ⟨by decide, rfl, rfl, rfl, rfl⟩⟩
theorem self_no (e : Int) (he : e ≠ 0) : ∃ (r c : Int) (l : List Int) (e' : Int), noGrid e = .tup [gridV r c l, .int .i64 e'] ∧ l.length ≤ 2000000 ∧ MadeOK r c l e' r c l e' := ⟨0, 0, [], e, rfl, by simp, .inl ⟨he, rfl, rfl, rfl, rfl⟩⟩
theorem self_ok {r c : Int} {l : List Int} (h : l.length ≤ 256) : ∃ (r' c' : Int) (l' : List Int) (e' : Int), okGrid r c l = .tup [gridV r' c' l', .int .i64 e'] ∧ l'.length ≤ 2000000 ∧ MadeOK r' c' l' e' r' c' l' e' := ⟨r, c, l, 0, rfl, by omega, .inr ⟨rfl, rfl, rfl, rfl, rfl⟩⟩
theorem sglL_len (m : Nat) : (sglL m).length = 2 * m * (2 * m) := by unfold sglL; rw [swAt_len]; simp [madeL]
theorem siaL_le {n : Int} (hn : 1 ≤ n ∧ n ≤ 16) : (siaL n).length ≤ 256 := uniL_len hn
theorem dblL_le {n : Int} (hn : 1 ≤ n ∧ n ≤ 16) : (dblL n).length ≤ 256 := madeL_le (by omega) _
theorem sglL_le {n : Int} (hn : 1 ≤ n ∧ n ≤ 16) : (sglL (n / 2).toNat).length ≤ 256 := by
  rw [sglL_len]
  have := Nat.mul_le_mul (show 2 * (n / 2).toNat ≤ 16 by omega) (show 2 * (n / 2).toNat ≤ 16 by omega)
  omega
theorem panL_le {n : Int} (hn : 1 ≤ n ∧ n ≤ 16) : (panL n).length ≤ 256 := uniL_len hn
theorem panM_le {n : Int} (hn : 1 ≤ n ∧ n ≤ 16) : (panM n).length ≤ 256 := by unfold panM mpL; rw [halvedL_len]; exact madeL_le (by omega) _
theorem magV_self {n : Int} (hn : 1 ≤ n ∧ n ≤ 16) : ∃ (r c : Int) (l : List Int) (e : Int), magV n = .tup [gridV r c l, .int .i64 e] ∧ l.length ≤ 2000000 ∧ MadeOK r c l e r c l e := by
  unfold magV
  split
  · exact self_no 7 (by decide)
  · split
    · exact self_ok (siaL_le hn)
    · split
      · exact self_ok (dblL_le hn)
      · exact self_ok (sglL_le hn)
theorem panV_self {n : Int} (hn : 1 ≤ n ∧ n ≤ 16) : ∃ (r c : Int) (l : List Int) (e : Int), panV n = .tup [gridV r c l, .int .i64 e] ∧ l.length ≤ 2000000 ∧ MadeOK r c l e r c l e := by
  unfold panV
  split
  · exact self_ok (panL_le hn)
  · split
    · exact self_ok (panM_le hn)
    · exact self_no 7 (by decide)
theorem panV_eq {n : Int} (hn : 1 ≤ n ∧ n ≤ 16) : gridOr n (n % 2 = 1 ∧ n % 3 ≠ 0 ∨ n % 4 = 0) (if n % 2 = 1 then panL n else panM n) = panV n := by
  unfold gridOr panV
  rw [if_neg (by omega)]
  by_cases c1 : n % 2 = 1 ∧ n % 3 ≠ 0
  · rw [if_pos (.inl c1), if_pos c1.1, if_pos c1]
  · rw [if_neg c1]
    by_cases c2 : n % 4 = 0
    · rw [if_pos (.inr c2), if_neg (by omega), if_pos c2]
    · rw [if_neg (by omega), if_neg c2]
theorem orders_in (n : Int) (hn : 1 ≤ n ∧ n ≤ 16) : PSpec Try.prog 5 [.int .i64 n] (.bp true) := by
  have hno : ¬ (n < 1 ∨ 16 < n) := by omega
  have h29 := siamese_spec n
  have h30 := doublyEven_spec n
  have h31 := singlyEven_spec n
  have h32 := magic_spec' n
  have h33 := pandiagonal_spec n
  have h34 := halved_spec n
  have h35 := order_spec n
  have h40 := rMagic_spec n hn
  have h41 := rPan_spec n hn
  rw [if_neg hno] at h35
  obtain ⟨r1, c1, l1, e1, q1, k1, a1, b1⟩ := gridOr_in hn (h := n % 2 = 1) (l := siaL n) fun _ => siaL_le hn
  obtain ⟨r2, c2, l2, e2, q2, k2, a2, b2⟩ := gridOr_in hn (h := n % 4 = 0) (l := dblL n) fun _ => dblL_le hn
  obtain ⟨r3, c3, l3, e3, q3, k3, a3, b3⟩ := gridOr_in hn (h := n % 4 = 2 ∧ n ≠ 2) (l := sglL (n / 2).toNat) fun _ => sglL_le hn
  obtain ⟨r4, c4, l4, e4, q4, k4, a4⟩ := magV_self hn
  obtain ⟨r5, c5, l5, e5, q5, k5, a5⟩ := panV_self hn
  rw [q1] at h29
  rw [q2] at h30
  rw [q3] at h31
  unfold cMagV at h32
  rw [if_neg hno, q4] at h32
  rw [panV_eq hn, q5] at h33
  rw [q4] at h40
  rw [q5] at h41
  obtain ⟨l6, e6, q6, a6, b6⟩ : ∃ l6 e6, halvedV n = .tup [.isl (.ints .i64 l6) .none, .int .i64 e6] ∧ (n % 4 = 0 → l6 = halvedL n n.toNat ∧ e6 = 0) ∧ (¬ n % 4 = 0 → l6 = [] ∧ e6 = 7) := by
    unfold halvedV
    rw [if_neg hno]
    by_cases h : n % 4 = 0
    · rw [if_pos h]; exact ⟨_, _, rfl, fun _ => ⟨rfl, rfl⟩, fun h' => absurd h h'⟩
    · rw [if_neg h]; exact ⟨_, _, rfl, fun h' => absurd h' h, fun _ => ⟨rfl, rfl⟩⟩
  rw [q6] at h34
  have hl6 : l6.length ≤ 2000000 := by
    by_cases h : n % 4 = 0
    · rw [(a6 h).1, halvedL_len]; omega
    · rw [(b6 h).1]; simp
  have t2 : n.tmod 2 = n % 2 := Int.tmod_eq_emod_of_nonneg (by omega)
  have t4 : n.tmod 4 = n % 4 := Int.tmod_eq_emod_of_nonneg (by omega)
  clear q1 q2 q3 q4 q5 q6
  have hC := cpAdd_ok (pureCC_ok (atC_ok (C := True) fun _ => h29)) (cpAdd_ok (pureCC_ok (atC_ok (C := True) fun _ => h30)) (cpAdd_ok (pureCC_ok (atC_ok (C := True) fun _ => h31)) (cpAdd_ok (pureCC_ok (atC_ok (C := True) fun _ => h32)) (cpAdd_ok (pureCC_ok (atC_ok (C := True) fun _ => h33)) (cpAdd_ok (pureCC_ok (atC_ok (C := True) fun _ => h34)) (cpAdd_ok (pureCC_ok (atC_ok (C := True) fun _ => h35)) (cpAdd_ok (pureCC_ok (atC_ok (C := True) fun _ => h40)) (cpAdd_ok (pureCC_ok (atC_ok (C := True) fun _ => h41)) (cpAdd_ok (pureCC_ok noneIn_ok) cpOr_ok)))))))))
  refine pspec_of (md := 1) (rf := []) mixed tabOK hC Try.func5 (by rfl) (by rfl) (by rfl) ?_
  repeat' (first | ((conv => whnf); refine And.intro ?_ ?_) | ((conv => whnf); with_reducible exact VC.mk rfl) | ((conv => whnf); exact Ok.mk) | ((conv => whnf); exact True.intro) | ((conv => whnf); refine Nx.mk ?_) | ((conv => whnf); refine Fin.mk ?_) | ((conv => whnf); intro hq; (try simp only [decide_eq_true_eq, decide_eq_false_iff_not, Bool.not_eq_true, Bool.not_eq_false, Bool.not_eq_true', Bool.not_eq_false', ite_true, ite_false] at hq); (try (exfalso; first | exact absurd hq (by decide) | omega))))
  all_goals ((try refine VC.mk ?_); (try simp only [CL.ncell, CL.cnt, Int.toNat_natCast, decide_eq_true_eq, decide_eq_false_iff_not, Bool.not_eq_true, Bool.not_false, Bool.not_true, and_self, and_true, true_and, te3b, te4b, te3s, te4s, Nat.mul_one, Nat.zero_add, List.length_cons, List.length_nil, Bool.false_eq_true, Bool.true_eq_false] at *); (try omega))
  all_goals clear hC
  all_goals first | exact sup_true | exact a1 (by omega) | exact b1 (by omega) _ _ _ | exact a2 (by omega) | exact b2 (by omega) _ _ _ | exact a3 (by omega) | exact b3 (by omega) _ _ _ | exact a4 | exact a5 | exact (a6 (by omega)).1 | (exfalso; have hb6 := (b6 (by omega)).1; subst hb6; exact hq rfl) | trace_state
theorem orders_law (n : Int) : PSpec Try.prog 5 [.int .i64 n] (.bp true) := by
  by_cases hn : n < 1 ∨ 16 < n
  · exact orders_out n hn
  · exact orders_in n (by omega)
end Go.Eng.Ytppflbccfdbogaa
