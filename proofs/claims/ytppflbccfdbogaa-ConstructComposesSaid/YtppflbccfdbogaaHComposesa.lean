/-
  Contracts of functions of the program: what each returns. Their conditions stand in them.
-/
import Derived.Test.YtppflbccfdbogaaCd
namespace Go.Eng.Ytppflbccfdbogaa
open Go.Proofs Go.RowKit Go.ChangeShapes Go.WideShapes
set_option linter.unusedVariables false
section
variable {H : Type} {enc : TypeId × Value → H} {W : World}
theorem o29 : OpenC enc Try.prog W 29 [.ints .i64] := openC_ints Try.underlying29 Try.underlying3 (by kernel_rfl)
theorem o42 : OpenC enc Try.prog W 42 [.int .i64, .int .i64, .ints .i64] :=
  openC_struct (lss := [[.int .i64], [.int .i64], [.ints .i64]]) Try.underlying42 ⟨⟨rfl, by kernel_rfl, o3⟩, ⟨rfl, by kernel_rfl, o3⟩, ⟨rfl, by kernel_rfl, o29⟩, trivial⟩ (by kernel_rfl)
end
end Go.Eng.Ytppflbccfdbogaa
namespace Go.Eng.Ytppflbccfdbogaa
open Go.Proofs
set_option maxRecDepth 100000
set_option maxHeartbeats 0
set_option linter.unusedVariables false
set_option linter.unusedSimpArgs false
theorem colL_succ' (n : Nat) (h : Nat → Int) (m : Nat) : colL n h (m + 1) = colL n h m ++ [(m : Int) * n + h m % n] := by
  simp [colL, List.range_succ, Int.mul_comm]
theorem diag_spec (n k s : Nat) (hn : 1 ≤ n ∧ n ≤ 16) (hk : k ≤ 1000) (hs : s ≤ 1000) : PSpec Try.prog 83 [.int .i64 (n : Int), .int .i64 (k : Int), .int .i64 (s : Int)] (.isl (.ints .i64 (colL n (fun i => (k : Int) + i * s) n)) .none) := by
  refine pspec_of (md := 0) (rf := []) mixed tabOK noC_ok Try.func83 (by rfl) (by rfl) (by rfl) ?_
  repeat' (first | ((conv => whnf); refine And.intro ?_ ?_) | ((conv => whnf); with_reducible exact VC.mk rfl) | ((conv => whnf); exact Ok.mk) | ((conv => whnf); exact True.intro) | ((conv => whnf); refine Nx.mk ?_) | ((conv => whnf); refine Fin.mk ?_) | ((conv => whnf); intro _))
  all_goals ((try refine VC.mk ?_); (try simp only [CL.ncell, CL.cnt, Int.toNat_natCast, decide_eq_true_eq, decide_eq_false_iff_not, Bool.not_eq_true, Bool.not_false, Bool.not_true, and_self, and_true, true_and, te3b, te4b, te3s, te4s, Nat.mul_one, Nat.zero_add, List.length_cons, List.length_nil, Bool.false_eq_true, Bool.true_eq_false] at *); (try omega))
  conv => whnf
  refine loop_of (X := Nat) (fun i => i ≤ n) (fun i => [(8, .int .i64 i), (7, .isl (.ints .i64 (colL n (fun i => (k : Int) + i * s) i)) (.own 0))]) (fun i => [(0, .tok 1 i)]) (fun i => n - i) 0 ⟨anyB_ok, mixed, tabOK, noC_ok, noY_ok⟩ (by rfl) (by omega) ?_ ?_
  · repeat' (first | ((conv => whnf); refine And.intro ?_ ?_) | ((conv => whnf); with_reducible exact VC.mk rfl) | ((conv => whnf); exact Ok.mk) | ((conv => whnf); exact True.intro) | ((conv => whnf); refine Nx.mk ?_) | ((conv => whnf); refine Fin.mk ?_) | ((conv => whnf); intro _))
    all_goals ((try refine VC.mk ?_); (try simp only [CL.ncell, CL.cnt, Int.toNat_natCast, decide_eq_true_eq, decide_eq_false_iff_not, Bool.not_eq_true, Bool.not_false, Bool.not_true, and_self, and_true, true_and, te3b, te4b, te3s, te4s, Nat.mul_one, Nat.zero_add, List.length_cons, List.length_nil, Bool.false_eq_true, Bool.true_eq_false] at *); (try omega))
  · intro i hi
    have e1 := colL_succ' n (fun i => (k : Int) + i * s) i
    have e2 := colL_len n (fun i => (k : Int) + i * s) i
    by_cases hlt : i < n
    · have h1 := mul_bd (A := 16) (B := 16) (show 0 ≤ (i : Int) ∧ (i : Int) ≤ 16 by omega) (show 0 ≤ (n : Int) ∧ (n : Int) ≤ 16 by omega)
      have h2 := mul_bd (A := 16) (B := 1000) (show 0 ≤ (i : Int) ∧ (i : Int) ≤ 16 by omega) (show 0 ≤ (s : Int) ∧ (s : Int) ≤ 1000 by omega)
      have h3 : 0 ≤ ((k : Int) + i * s) % n := Int.emod_nonneg _ (by omega)
      have h4 : ((k : Int) + i * s) % n < n := Int.emod_lt_of_pos _ (by omega)
      repeat' (first | ((conv => whnf); refine And.intro ?_ ?_) | ((conv => whnf); with_reducible exact VC.mk rfl) | ((conv => whnf); exact Ok.mk) | ((conv => whnf); exact True.intro) | ((conv => whnf); refine Nx.mk ?_) | ((conv => whnf); refine Fin.mk ?_) | ((conv => whnf); intro _))
      all_goals ((try refine VC.mk ?_); (try simp only [CL.ncell, CL.cnt, Int.toNat_natCast, decide_eq_true_eq, decide_eq_false_iff_not, Bool.not_eq_true, Bool.not_false, Bool.not_true, and_self, and_true, true_and, te3b, te4b, te3s, te4s, Nat.mul_one, Nat.zero_add, List.length_cons, List.length_nil, Bool.false_eq_true, Bool.true_eq_false] at *); (try omega))
      all_goals (try (simp only [List.length_append, List.length_cons, List.length_nil]; omega))
      refine ⟨i + 1, [], ⟨by omega, by omega⟩, ?_⟩
      repeat' (first | ((conv => whnf); refine And.intro ?_ ?_) | ((conv => whnf); with_reducible exact VC.mk rfl) | ((conv => whnf); exact Ok.mk) | ((conv => whnf); exact True.intro) | ((conv => whnf); refine Nx.mk ?_) | ((conv => whnf); refine Fin.mk ?_) | ((conv => whnf); intro _))
      all_goals ((try refine VC.mk ?_); (try simp only [CL.ncell, CL.cnt, Int.toNat_natCast, decide_eq_true_eq, decide_eq_false_iff_not, Bool.not_eq_true, Bool.not_false, Bool.not_true, and_self, and_true, true_and, te3b, te4b, te3s, te4s, Nat.mul_one, Nat.zero_add, List.length_cons, List.length_nil, Bool.false_eq_true, Bool.true_eq_false] at *); (try omega))
      all_goals (try (rw [e1]))
    · have : n = i := by omega
      subst this
      repeat' (first | ((conv => whnf); refine And.intro ?_ ?_) | ((conv => whnf); with_reducible exact VC.mk rfl) | ((conv => whnf); exact Ok.mk) | ((conv => whnf); exact True.intro) | ((conv => whnf); refine Nx.mk ?_) | ((conv => whnf); refine Fin.mk ?_) | ((conv => whnf); intro _))
      all_goals ((try refine VC.mk ?_); (try simp only [CL.ncell, CL.cnt, Int.toNat_natCast, decide_eq_true_eq, decide_eq_false_iff_not, Bool.not_eq_true, Bool.not_false, Bool.not_true, and_self, and_true, true_and, te3b, te4b, te3s, te4s, Nat.mul_one, Nat.zero_add, List.length_cons, List.length_nil, Bool.false_eq_true, Bool.true_eq_false] at *); (try omega))
      all_goals (first | (refine Sup.of ?_; first | rfl | (simp [*, resOf]; done)) | (refine Sup.via ?_; repeat' (first | ((conv => whnf); refine And.intro ?_ ?_) | ((conv => whnf); with_reducible exact VC.mk rfl) | ((conv => whnf); exact Ok.mk) | ((conv => whnf); exact True.intro) | ((conv => whnf); refine Nx.mk ?_) | ((conv => whnf); refine Fin.mk ?_) | ((conv => whnf); intro _)); all_goals ((try refine VC.mk ?_); (try simp only [CL.ncell, CL.cnt, Int.toNat_natCast, decide_eq_true_eq, decide_eq_false_iff_not, Bool.not_eq_true, Bool.not_false, Bool.not_true, and_self, and_true, true_and, te3b, te4b, te3s, te4s, Nat.mul_one, Nat.zero_add, List.length_cons, List.length_nil, Bool.false_eq_true, Bool.true_eq_false] at *); (try omega)); all_goals (try (simp [CL.sub]; done))))
theorem diag_spec' {n k s : Int} (hn : 1 ≤ n ∧ n ≤ 16) (hk : 0 ≤ k ∧ k ≤ 1000) (hs : 0 ≤ s ∧ s ≤ 1000) : PSpec Try.prog 83 [.int .i64 n, .int .i64 k, .int .i64 s] (.isl (.ints .i64 (colL n.toNat (fun i => k + i * s) n.toNat)) .none) := by
  have := diag_spec n.toNat k.toNat s.toNat (by omega) (by omega) (by omega)
  rwa [Int.toNat_of_nonneg (by omega), Int.toNat_of_nonneg (by omega), Int.toNat_of_nonneg (by omega)] at this
def diagP : PSp := fun xs K => match xs with
  | [.int .i64 n, .int .i64 k, .int .i64 s] => VC ((1 ≤ n ∧ n ≤ 16) ∧ (0 ≤ k ∧ k ≤ 1000) ∧ 0 ≤ s ∧ s ≤ 1000) ∧ K (.isl (.ints .i64 (colL n.toNat (fun i => k + i * s) n.toNat)) .none)
  | _ => False
theorem diag_ok : POK Try.prog 83 diagP := by
  intro xs K h
  unfold diagP at h
  split at h
  · exact ⟨_, h.2, diag_spec' h.1.get.1 h.1.get.2.1 h.1.get.2.2⟩
  · exact h.elim
/-! the sum of some cells -/
theorem rSum_spec (r c : Int) (cs l : List Int) (hc : ∀ x ∈ l, 0 ≤ x ∧ x < cs.length) (hl : l.length ≤ 1000000) (hb : ∀ i, i ≤ l.length → -1000000000000 ≤ sumAt cs l i ∧ sumAt cs l i ≤ 1000000000000) : PSpec Try.prog 71 [gridV r c cs, .isl (.ints .i64 l) .none] (.int .i64 (sumAt cs l l.length)) := by
  refine pspec_of (md := 0) (rf := []) mixed tabOK noC_ok Try.func71 (by rfl) (by rfl) (by rfl) ?_
  repeat' (first | ((conv => whnf); refine And.intro ?_ ?_) | ((conv => whnf); with_reducible exact VC.mk rfl) | ((conv => whnf); exact Ok.mk) | ((conv => whnf); exact True.intro) | ((conv => whnf); refine Nx.mk ?_) | ((conv => whnf); refine Fin.mk ?_) | ((conv => whnf); intro _))
  all_goals ((try refine VC.mk ?_); (try simp only [CL.ncell, CL.cnt, Int.toNat_natCast, decide_eq_true_eq, decide_eq_false_iff_not, Bool.not_eq_true, Bool.not_false, Bool.not_true, and_self, and_true, true_and, te3b, te4b, te3s, te4s, Nat.mul_one, Nat.zero_add, List.length_cons, List.length_nil, Bool.false_eq_true, Bool.true_eq_false] at *); (try omega))
  conv => whnf
  refine loop_of (X := Nat) (fun i => i ≤ l.length) (fun i => [(6, .int .i64 i), (5, .int .i64 (sumAt cs l i))]) (fun i => []) (fun i => l.length - i) 0 ⟨anyB_ok, mixed, tabOK, noC_ok, noY_ok⟩ (by rfl) (by omega) ?_ ?_
  · repeat' (first | ((conv => whnf); refine And.intro ?_ ?_) | ((conv => whnf); with_reducible exact VC.mk rfl) | ((conv => whnf); exact Ok.mk) | ((conv => whnf); exact True.intro) | ((conv => whnf); refine Nx.mk ?_) | ((conv => whnf); refine Fin.mk ?_) | ((conv => whnf); intro _))
    all_goals ((try refine VC.mk ?_); (try simp only [CL.ncell, CL.cnt, Int.toNat_natCast, decide_eq_true_eq, decide_eq_false_iff_not, Bool.not_eq_true, Bool.not_false, Bool.not_true, and_self, and_true, true_and, te3b, te4b, te3s, te4s, Nat.mul_one, Nat.zero_add, List.length_cons, List.length_nil, Bool.false_eq_true, Bool.true_eq_false] at *); (try omega))
    all_goals (try rfl)
  · intro i hi
    have e1 := hb i hi
    by_cases hlt : i < l.length
    · have e2 := sumAt_succ cs l i hlt
      have e3 := hb (i + 1) (by omega)
      have e4 := hc (l.getD i 0) (by rw [List.getD_eq_getElem?_getD, List.getElem?_eq_getElem hlt]; exact List.getElem_mem _)
      repeat' (first | ((conv => whnf); refine And.intro ?_ ?_) | ((conv => whnf); with_reducible exact VC.mk rfl) | ((conv => whnf); exact Ok.mk) | ((conv => whnf); exact True.intro) | ((conv => whnf); refine Nx.mk ?_) | ((conv => whnf); refine Fin.mk ?_) | ((conv => whnf); intro _))
      all_goals ((try refine VC.mk ?_); (try simp only [CL.ncell, CL.cnt, Int.toNat_natCast, decide_eq_true_eq, decide_eq_false_iff_not, Bool.not_eq_true, Bool.not_false, Bool.not_true, and_self, and_true, true_and, te3b, te4b, te3s, te4s, Nat.mul_one, Nat.zero_add, List.length_cons, List.length_nil, Bool.false_eq_true, Bool.true_eq_false] at *); (try omega))
      refine ⟨i + 1, [], ⟨by omega, by omega⟩, ?_⟩
      repeat' (first | ((conv => whnf); refine And.intro ?_ ?_) | ((conv => whnf); with_reducible exact VC.mk rfl) | ((conv => whnf); exact Ok.mk) | ((conv => whnf); exact True.intro) | ((conv => whnf); refine Nx.mk ?_) | ((conv => whnf); refine Fin.mk ?_) | ((conv => whnf); intro _))
      all_goals ((try refine VC.mk ?_); (try simp only [CL.ncell, CL.cnt, Int.toNat_natCast, decide_eq_true_eq, decide_eq_false_iff_not, Bool.not_eq_true, Bool.not_false, Bool.not_true, and_self, and_true, true_and, te3b, te4b, te3s, te4s, Nat.mul_one, Nat.zero_add, List.length_cons, List.length_nil, Bool.false_eq_true, Bool.true_eq_false] at *); (try omega))
      all_goals (try (rw [e2]))
    · have : l.length = i := by omega
      subst this
      repeat' (first | ((conv => whnf); refine And.intro ?_ ?_) | ((conv => whnf); with_reducible exact VC.mk rfl) | ((conv => whnf); exact Ok.mk) | ((conv => whnf); exact True.intro) | ((conv => whnf); refine Nx.mk ?_) | ((conv => whnf); refine Fin.mk ?_) | ((conv => whnf); intro _))
      all_goals ((try refine VC.mk ?_); (try simp only [CL.ncell, CL.cnt, Int.toNat_natCast, decide_eq_true_eq, decide_eq_false_iff_not, Bool.not_eq_true, Bool.not_false, Bool.not_true, and_self, and_true, true_and, te3b, te4b, te3s, te4s, Nat.mul_one, Nat.zero_add, List.length_cons, List.length_nil, Bool.false_eq_true, Bool.true_eq_false] at *); (try omega))
      all_goals (first | (refine Sup.of ?_; first | rfl | (simp [*, resOf]; done)) | (refine Sup.via ?_; repeat' (first | ((conv => whnf); refine And.intro ?_ ?_) | ((conv => whnf); with_reducible exact VC.mk rfl) | ((conv => whnf); exact Ok.mk) | ((conv => whnf); exact True.intro) | ((conv => whnf); refine Nx.mk ?_) | ((conv => whnf); refine Fin.mk ?_) | ((conv => whnf); intro _)); all_goals ((try refine VC.mk ?_); (try simp only [CL.ncell, CL.cnt, Int.toNat_natCast, decide_eq_true_eq, decide_eq_false_iff_not, Bool.not_eq_true, Bool.not_false, Bool.not_true, and_self, and_true, true_and, te3b, te4b, te3s, te4s, Nat.mul_one, Nat.zero_add, List.length_cons, List.length_nil, Bool.false_eq_true, Bool.true_eq_false] at *); (try omega)); all_goals (try (simp [CL.sub]; done))))
def rSumP : PSp := fun xs K => match xs with
  | [.agg [.int .i64 r, .int .i64 c, .isl (.ints .i64 cs) .none], .isl (.ints .i64 l) .none] => VC ((∀ x ∈ l, 0 ≤ x ∧ x < cs.length) ∧ l.length ≤ 1000000 ∧ ∀ i, i ≤ l.length → -1000000000000 ≤ sumAt cs l i ∧ sumAt cs l i ≤ 1000000000000) ∧ K (.int .i64 (sumAt cs l l.length))
  | _ => False
theorem rSum_ok : POK Try.prog 71 rSumP := by
  intro xs K h
  unfold rSumP at h
  split at h
  · exact ⟨_, h.2, rSum_spec _ _ _ _ h.1.get.1 h.1.get.2.1 h.1.get.2.2⟩
  · exact h.elim
/-! all lines -/
def gOf (s : ByteArray) : Int := if s = kSq then 0 else if s = kSemi then 1 else if s = kMag then 2 else 3
def linesTo (n m : Nat) : List (List Int) := (List.range m).map (lineAt n)
theorem linesTo_succ (n m : Nat) : linesTo n (m + 1) = linesTo n m ++ [lineAt n m] := by simp [linesTo, List.range_succ]
theorem linesTo_get (n m i : Nat) (h : i < m) : (linesTo n m).getD i [] = lineAt n i := by
  simp [linesTo, List.getD_eq_getElem?_getD, h]
theorem linesTo_len (n m : Nat) : (linesTo n m).length = m := by simp [linesTo]
theorem colL_congr {n : Nat} {h h' : Nat → Int} (e : ∀ i, i < n → h i % n = h' i % n) : colL n h n = colL n h' n := by
  unfold colL
  exact List.map_congr_left fun i hi => by rw [e i (List.mem_range.1 hi)]
theorem emod_of_sub {a b n k : Int} (h : a - b = n * k) : a % n = b % n := by
  have : a = b + n * k := by omega
  rw [this, Int.add_mul_emod_self_left]
theorem dg1 (n : Nat) : colL n (fun i => 0 + (i : Int) * 1) n = lineAt n (2 * n) := by
  rw [lineAt_d1]; exact colL_congr fun i _ => by congr 1; omega
theorem dg2 (n : Nat) : colL n (fun i => (n : Int) - 1 + (i : Int) * ((n : Int) - 1)) n = lineAt n (2 * n + 1) := by
  rw [lineAt_d2]; exact colL_congr fun i _ => emod_of_sub (k := (i : Int)) (by rw [Int.mul_sub, Int.mul_comm (n : Int) (i : Int)]; omega)
theorem dg3 (n k : Nat) (hk : 1 ≤ k ∧ k < n) : colL n (fun i => (k : Int) + (i : Int) * 1) n = lineAt n (2 * n + 1 + k) := by
  have : lineAt n (2 * n + 1 + k) = colL n (fun j => (j : Int) + (((2 * n + 1 + k : Nat) : Int) - 2 * n - 1)) n := by
    unfold lineAt; rw [if_neg (by omega), if_neg (by omega), if_neg (by omega), if_neg (by omega), if_pos (by omega)]
  rw [this]; exact colL_congr fun i _ => by congr 1; omega
theorem dg4 (n k : Nat) (hn : 1 ≤ n) (hk : k + 1 < n) : colL n (fun i => (k : Int) + (i : Int) * ((n : Int) - 1)) n = lineAt n (3 * n + 1 + k) := by
  have : lineAt n (3 * n + 1 + k) = colL n (fun j => ((3 * n + 1 + k : Nat) : Int) - 3 * n - 1 - j) n := by
    unfold lineAt; rw [if_neg (by omega), if_neg (by omega), if_neg (by omega), if_neg (by omega), if_neg (by omega)]
  rw [this]; exact colL_congr fun i _ => emod_of_sub (k := (i : Int)) (by rw [Int.mul_sub, Int.mul_comm (n : Int) (i : Int)]; push_cast; omega)
theorem linesTo_two (n : Nat) : linesTo n (n + n) ++ [colL n (fun i => 0 + (i : Int) * 1) n, colL n (fun i => (n : Int) - 1 + (i : Int) * ((n : Int) - 1)) n] = linesTo n (2 * n + 2) := by
  rw [dg1, dg2, show 2 * n + 2 = n + n + 1 + 1 by omega, linesTo_succ, linesTo_succ, show n + n + 1 = 2 * n + 1 by omega, show n + n = 2 * n by omega]
  simp
noncomputable def cpLn : CPT := cpAdd 83 (pureCC diagP) noC
theorem cpLn_ok : CPOK Try.prog cpLn := cpAdd_ok (pureCC_ok diag_ok) noC_ok
theorem Lines_spec (n : Nat) (hn : 1 ≤ n ∧ n ≤ 16) (s : ByteArray) : PSpec Try.prog 105 [.int .i64 (n : Int), .str s] (.isl (.rows .i64 (linesTo n (lineCnt n (gOf s)))) .none) := by
  refine pspec_of (md := 0) (rf := []) mixed tabOK cpLn_ok Try.func105 (by rfl) (by rfl) (by rfl) ?_
  repeat' (first | ((conv => whnf); refine And.intro ?_ ?_) | ((conv => whnf); with_reducible exact VC.mk rfl) | ((conv => whnf); exact Ok.mk) | ((conv => whnf); exact True.intro) | ((conv => whnf); refine Nx.mk ?_) | ((conv => whnf); refine Fin.mk ?_) | ((conv => whnf); intro _))
  all_goals ((try refine VC.mk ?_); (try simp only [CL.ncell, CL.cnt, Int.toNat_natCast, decide_eq_true_eq, decide_eq_false_iff_not, Bool.not_eq_true, Bool.not_false, Bool.not_true, and_self, and_true, true_and, te3b, te4b, te3s, te4s, Nat.mul_one, Nat.zero_add, List.length_cons, List.length_nil, Bool.false_eq_true, Bool.true_eq_false] at *); (try omega))
  · rename_i hs
    have : lineCnt n (gOf s) = 0 := by unfold gOf; rw [if_pos hs]; rfl
    rw [this]
    all_goals (refine Sup.via ?_; repeat' (first | ((conv => whnf); refine And.intro ?_ ?_) | ((conv => whnf); with_reducible exact VC.mk rfl) | ((conv => whnf); exact Ok.mk) | ((conv => whnf); exact True.intro) | ((conv => whnf); refine Nx.mk ?_) | ((conv => whnf); refine Fin.mk ?_) | ((conv => whnf); intro _)); all_goals ((try refine VC.mk ?_); (try simp only [CL.ncell, CL.cnt, Int.toNat_natCast, decide_eq_true_eq, decide_eq_false_iff_not, Bool.not_eq_true, Bool.not_false, Bool.not_true, and_self, and_true, true_and, te3b, te4b, te3s, te4s, Nat.mul_one, Nat.zero_add, List.length_cons, List.length_nil, Bool.false_eq_true, Bool.true_eq_false] at *); (try omega)); all_goals (try (simp [CL.sub]; done)))
    rfl
  rename_i hsq
  conv => whnf
  refine loop_of (X := Nat) (fun i => i ≤ n) (fun i => [(6, .int .i64 i), (5, .isl (.rows .i64 (linesTo n i)) (.own 0))]) (fun i => [(0, .tok 1 i)]) (fun i => n - i) 0 ⟨anyB_ok, mixed, tabOK, cpLn_ok, noY_ok⟩ (by rfl) (by omega) ?_ ?_
  · repeat' (first | ((conv => whnf); refine And.intro ?_ ?_) | ((conv => whnf); with_reducible exact VC.mk rfl) | ((conv => whnf); exact Ok.mk) | ((conv => whnf); exact True.intro) | ((conv => whnf); refine Nx.mk ?_) | ((conv => whnf); refine Fin.mk ?_) | ((conv => whnf); intro _))
    all_goals ((try refine VC.mk ?_); (try simp only [CL.ncell, CL.cnt, Int.toNat_natCast, decide_eq_true_eq, decide_eq_false_iff_not, Bool.not_eq_true, Bool.not_false, Bool.not_true, and_self, and_true, true_and, te3b, te4b, te3s, te4s, Nat.mul_one, Nat.zero_add, List.length_cons, List.length_nil, Bool.false_eq_true, Bool.true_eq_false] at *); (try omega))
  intro i hi
  by_cases hlt : i < n
  · repeat' (first | ((conv => whnf); refine And.intro ?_ ?_) | ((conv => whnf); with_reducible exact VC.mk rfl) | ((conv => whnf); exact Ok.mk) | ((conv => whnf); exact True.intro) | ((conv => whnf); refine Nx.mk ?_) | ((conv => whnf); refine Fin.mk ?_) | ((conv => whnf); intro _))
    all_goals ((try refine VC.mk ?_); (try simp only [CL.ncell, CL.cnt, Int.toNat_natCast, decide_eq_true_eq, decide_eq_false_iff_not, Bool.not_eq_true, Bool.not_false, Bool.not_true, and_self, and_true, true_and, te3b, te4b, te3s, te4s, Nat.mul_one, Nat.zero_add, List.length_cons, List.length_nil, Bool.false_eq_true, Bool.true_eq_false] at *); (try omega))
    conv => whnf
    refine loop_of (X := Nat) (fun j => j ≤ n) (fun j => [(8, .int .i64 j), (7, .isl (.ints .i64 (rowL n i j)) (.own 1))]) (fun j => [(1, .tok 1 j)]) (fun j => n - j) 0 ⟨anyB_ok, mixed, tabOK, cpLn_ok, noY_ok⟩ (by rfl) (by omega) ?_ ?_
    · repeat' (first | ((conv => whnf); refine And.intro ?_ ?_) | ((conv => whnf); with_reducible exact VC.mk rfl) | ((conv => whnf); exact Ok.mk) | ((conv => whnf); exact True.intro) | ((conv => whnf); refine Nx.mk ?_) | ((conv => whnf); refine Fin.mk ?_) | ((conv => whnf); intro _))
      all_goals ((try refine VC.mk ?_); (try simp only [CL.ncell, CL.cnt, Int.toNat_natCast, decide_eq_true_eq, decide_eq_false_iff_not, Bool.not_eq_true, Bool.not_false, Bool.not_true, and_self, and_true, true_and, te3b, te4b, te3s, te4s, Nat.mul_one, Nat.zero_add, List.length_cons, List.length_nil, Bool.false_eq_true, Bool.true_eq_false] at *); (try omega))
    intro j hj
    have e1 := rowL_succ n i j
    have e2 := rowL_len n i j
    have h1 := mul_bd (A := 16) (B := 16) (show 0 ≤ (i : Int) ∧ (i : Int) ≤ 16 by omega) (show 0 ≤ (n : Int) ∧ (n : Int) ≤ 16 by omega)
    by_cases hlj : j < n
    · repeat' (first | ((conv => whnf); refine And.intro ?_ ?_) | ((conv => whnf); with_reducible exact VC.mk rfl) | ((conv => whnf); exact Ok.mk) | ((conv => whnf); exact True.intro) | ((conv => whnf); refine Nx.mk ?_) | ((conv => whnf); refine Fin.mk ?_) | ((conv => whnf); intro _))
      all_goals ((try refine VC.mk ?_); (try simp only [CL.ncell, CL.cnt, Int.toNat_natCast, decide_eq_true_eq, decide_eq_false_iff_not, Bool.not_eq_true, Bool.not_false, Bool.not_true, and_self, and_true, true_and, te3b, te4b, te3s, te4s, Nat.mul_one, Nat.zero_add, List.length_cons, List.length_nil, Bool.false_eq_true, Bool.true_eq_false] at *); (try omega))
      all_goals (try (simp only [List.length_append, List.length_cons, List.length_nil]; omega))
      refine ⟨j + 1, [], ⟨by omega, by omega⟩, ?_⟩
      repeat' (first | ((conv => whnf); refine And.intro ?_ ?_) | ((conv => whnf); with_reducible exact VC.mk rfl) | ((conv => whnf); exact Ok.mk) | ((conv => whnf); exact True.intro) | ((conv => whnf); refine Nx.mk ?_) | ((conv => whnf); refine Fin.mk ?_) | ((conv => whnf); intro _))
      all_goals ((try refine VC.mk ?_); (try simp only [CL.ncell, CL.cnt, Int.toNat_natCast, decide_eq_true_eq, decide_eq_false_iff_not, Bool.not_eq_true, Bool.not_false, Bool.not_true, and_self, and_true, true_and, te3b, te4b, te3s, te4s, Nat.mul_one, Nat.zero_add, List.length_cons, List.length_nil, Bool.false_eq_true, Bool.true_eq_false] at *); (try omega))
      all_goals (try (rw [e1, Int.mul_comm (n : Int)]))
    · have : n = j := by omega
      subst this
      have e3 := linesTo_len n i
      have e4 := linesTo_succ n i
      rw [lineAt_row hlt] at e4
      repeat' (first | ((conv => whnf); refine And.intro ?_ ?_) | ((conv => whnf); with_reducible exact VC.mk rfl) | ((conv => whnf); exact Ok.mk) | ((conv => whnf); exact True.intro) | ((conv => whnf); refine Nx.mk ?_) | ((conv => whnf); refine Fin.mk ?_) | ((conv => whnf); intro _))
      all_goals ((try refine VC.mk ?_); (try simp only [CL.ncell, CL.cnt, Int.toNat_natCast, decide_eq_true_eq, decide_eq_false_iff_not, Bool.not_eq_true, Bool.not_false, Bool.not_true, and_self, and_true, true_and, te3b, te4b, te3s, te4s, Nat.mul_one, Nat.zero_add, List.length_cons, List.length_nil, Bool.false_eq_true, Bool.true_eq_false] at *); (try omega))
      all_goals (try (simp only [List.length_append, List.length_cons, List.length_nil]; omega))
      refine ⟨i + 1, [], ⟨by omega, by omega⟩, ?_⟩
      repeat' (first | ((conv => whnf); refine And.intro ?_ ?_) | ((conv => whnf); with_reducible exact VC.mk rfl) | ((conv => whnf); exact Ok.mk) | ((conv => whnf); exact True.intro) | ((conv => whnf); refine Nx.mk ?_) | ((conv => whnf); refine Fin.mk ?_) | ((conv => whnf); intro _))
      all_goals ((try refine VC.mk ?_); (try simp only [CL.ncell, CL.cnt, Int.toNat_natCast, decide_eq_true_eq, decide_eq_false_iff_not, Bool.not_eq_true, Bool.not_false, Bool.not_true, and_self, and_true, true_and, te3b, te4b, te3s, te4s, Nat.mul_one, Nat.zero_add, List.length_cons, List.length_nil, Bool.false_eq_true, Bool.true_eq_false] at *); (try omega))
      all_goals (try (rw [e4]))
  have : n = i := by omega
  subst this
  repeat' (first | ((conv => whnf); refine And.intro ?_ ?_) | ((conv => whnf); with_reducible exact VC.mk rfl) | ((conv => whnf); exact Ok.mk) | ((conv => whnf); exact True.intro) | ((conv => whnf); refine Nx.mk ?_) | ((conv => whnf); refine Fin.mk ?_) | ((conv => whnf); intro _))
  all_goals ((try refine VC.mk ?_); (try simp only [CL.ncell, CL.cnt, Int.toNat_natCast, decide_eq_true_eq, decide_eq_false_iff_not, Bool.not_eq_true, Bool.not_false, Bool.not_true, and_self, and_true, true_and, te3b, te4b, te3s, te4s, Nat.mul_one, Nat.zero_add, List.length_cons, List.length_nil, Bool.false_eq_true, Bool.true_eq_false] at *); (try omega))
  conv => whnf
  refine loop_of (X := Nat) (fun i => i ≤ n) (fun i => [(9, .int .i64 i), (5, .isl (.rows .i64 (linesTo n (n + i))) (.own 0))]) (fun i => [(0, .tok 1 (n + i))]) (fun i => n - i) 0 ⟨anyB_ok, mixed, tabOK, cpLn_ok, noY_ok⟩ (by rfl) (by omega) ?_ ?_
  · repeat' (first | ((conv => whnf); refine And.intro ?_ ?_) | ((conv => whnf); with_reducible exact VC.mk rfl) | ((conv => whnf); exact Ok.mk) | ((conv => whnf); exact True.intro) | ((conv => whnf); refine Nx.mk ?_) | ((conv => whnf); refine Fin.mk ?_) | ((conv => whnf); intro _))
    all_goals ((try refine VC.mk ?_); (try simp only [CL.ncell, CL.cnt, Int.toNat_natCast, decide_eq_true_eq, decide_eq_false_iff_not, Bool.not_eq_true, Bool.not_false, Bool.not_true, and_self, and_true, true_and, te3b, te4b, te3s, te4s, Nat.mul_one, Nat.zero_add, List.length_cons, List.length_nil, Bool.false_eq_true, Bool.true_eq_false] at *); (try omega))
  intro i hi
  by_cases hlt : i < n
  · repeat' (first | ((conv => whnf); refine And.intro ?_ ?_) | ((conv => whnf); with_reducible exact VC.mk rfl) | ((conv => whnf); exact Ok.mk) | ((conv => whnf); exact True.intro) | ((conv => whnf); refine Nx.mk ?_) | ((conv => whnf); refine Fin.mk ?_) | ((conv => whnf); intro _))
    all_goals ((try refine VC.mk ?_); (try simp only [CL.ncell, CL.cnt, Int.toNat_natCast, decide_eq_true_eq, decide_eq_false_iff_not, Bool.not_eq_true, Bool.not_false, Bool.not_true, and_self, and_true, true_and, te3b, te4b, te3s, te4s, Nat.mul_one, Nat.zero_add, List.length_cons, List.length_nil, Bool.false_eq_true, Bool.true_eq_false] at *); (try omega))
    conv => whnf
    refine loop_of (X := Nat) (fun j => j ≤ n) (fun j => [(11, .int .i64 j), (10, .isl (.ints .i64 (colL n (fun _ => (i : Int)) j)) (.own 1))]) (fun j => [(1, .tok 1 j)]) (fun j => n - j) 0 ⟨anyB_ok, mixed, tabOK, cpLn_ok, noY_ok⟩ (by rfl) (by omega) ?_ ?_
    · repeat' (first | ((conv => whnf); refine And.intro ?_ ?_) | ((conv => whnf); with_reducible exact VC.mk rfl) | ((conv => whnf); exact Ok.mk) | ((conv => whnf); exact True.intro) | ((conv => whnf); refine Nx.mk ?_) | ((conv => whnf); refine Fin.mk ?_) | ((conv => whnf); intro _))
      all_goals ((try refine VC.mk ?_); (try simp only [CL.ncell, CL.cnt, Int.toNat_natCast, decide_eq_true_eq, decide_eq_false_iff_not, Bool.not_eq_true, Bool.not_false, Bool.not_true, and_self, and_true, true_and, te3b, te4b, te3s, te4s, Nat.mul_one, Nat.zero_add, List.length_cons, List.length_nil, Bool.false_eq_true, Bool.true_eq_false] at *); (try omega))
    intro j hj
    have e1 := colL_succ' n (fun _ => (i : Int)) j
    rw [Int.emod_eq_of_lt (by omega) (by omega)] at e1
    have e2 := colL_len n (fun _ => (i : Int)) j
    have h1 := mul_bd (A := 16) (B := 16) (show 0 ≤ (j : Int) ∧ (j : Int) ≤ 16 by omega) (show 0 ≤ (n : Int) ∧ (n : Int) ≤ 16 by omega)
    by_cases hlj : j < n
    · repeat' (first | ((conv => whnf); refine And.intro ?_ ?_) | ((conv => whnf); with_reducible exact VC.mk rfl) | ((conv => whnf); exact Ok.mk) | ((conv => whnf); exact True.intro) | ((conv => whnf); refine Nx.mk ?_) | ((conv => whnf); refine Fin.mk ?_) | ((conv => whnf); intro _))
      all_goals ((try refine VC.mk ?_); (try simp only [CL.ncell, CL.cnt, Int.toNat_natCast, decide_eq_true_eq, decide_eq_false_iff_not, Bool.not_eq_true, Bool.not_false, Bool.not_true, and_self, and_true, true_and, te3b, te4b, te3s, te4s, Nat.mul_one, Nat.zero_add, List.length_cons, List.length_nil, Bool.false_eq_true, Bool.true_eq_false] at *); (try omega))
      all_goals (try (simp only [List.length_append, List.length_cons, List.length_nil]; omega))
      refine ⟨j + 1, [], ⟨by omega, by omega⟩, ?_⟩
      repeat' (first | ((conv => whnf); refine And.intro ?_ ?_) | ((conv => whnf); with_reducible exact VC.mk rfl) | ((conv => whnf); exact Ok.mk) | ((conv => whnf); exact True.intro) | ((conv => whnf); refine Nx.mk ?_) | ((conv => whnf); refine Fin.mk ?_) | ((conv => whnf); intro _))
      all_goals ((try refine VC.mk ?_); (try simp only [CL.ncell, CL.cnt, Int.toNat_natCast, decide_eq_true_eq, decide_eq_false_iff_not, Bool.not_eq_true, Bool.not_false, Bool.not_true, and_self, and_true, true_and, te3b, te4b, te3s, te4s, Nat.mul_one, Nat.zero_add, List.length_cons, List.length_nil, Bool.false_eq_true, Bool.true_eq_false] at *); (try omega))
      all_goals (try (rw [e1]))
    · have : n = j := by omega
      subst this
      have e3 := linesTo_len n (n + i)
      have e4 := linesTo_succ n (n + i)
      rw [lineAt_col hlt] at e4
      repeat' (first | ((conv => whnf); refine And.intro ?_ ?_) | ((conv => whnf); with_reducible exact VC.mk rfl) | ((conv => whnf); exact Ok.mk) | ((conv => whnf); exact True.intro) | ((conv => whnf); refine Nx.mk ?_) | ((conv => whnf); refine Fin.mk ?_) | ((conv => whnf); intro _))
      all_goals ((try refine VC.mk ?_); (try simp only [CL.ncell, CL.cnt, Int.toNat_natCast, decide_eq_true_eq, decide_eq_false_iff_not, Bool.not_eq_true, Bool.not_false, Bool.not_true, and_self, and_true, true_and, te3b, te4b, te3s, te4s, Nat.mul_one, Nat.zero_add, List.length_cons, List.length_nil, Bool.false_eq_true, Bool.true_eq_false] at *); (try omega))
      all_goals (try (simp only [List.length_append, List.length_cons, List.length_nil]; omega))
      refine ⟨i + 1, [], ⟨by omega, by omega⟩, ?_⟩
      repeat' (first | ((conv => whnf); refine And.intro ?_ ?_) | ((conv => whnf); with_reducible exact VC.mk rfl) | ((conv => whnf); exact Ok.mk) | ((conv => whnf); exact True.intro) | ((conv => whnf); refine Nx.mk ?_) | ((conv => whnf); refine Fin.mk ?_) | ((conv => whnf); intro _))
      all_goals ((try refine VC.mk ?_); (try simp only [CL.ncell, CL.cnt, Int.toNat_natCast, decide_eq_true_eq, decide_eq_false_iff_not, Bool.not_eq_true, Bool.not_false, Bool.not_true, and_self, and_true, true_and, te3b, te4b, te3s, te4s, Nat.mul_one, Nat.zero_add, List.length_cons, List.length_nil, Bool.false_eq_true, Bool.true_eq_false] at *); (try omega))
      all_goals (try (rw [← Nat.add_assoc, e4]))
  have : n = i := by omega
  subst this
  have e3 := linesTo_len n (n + n)
  repeat' (first | ((conv => whnf); refine And.intro ?_ ?_) | ((conv => whnf); with_reducible exact VC.mk rfl) | ((conv => whnf); exact Ok.mk) | ((conv => whnf); exact True.intro) | ((conv => whnf); refine Nx.mk ?_) | ((conv => whnf); refine Fin.mk ?_) | ((conv => whnf); intro _))
  all_goals ((try refine VC.mk ?_); (try simp only [CL.ncell, CL.cnt, Int.toNat_natCast, decide_eq_true_eq, decide_eq_false_iff_not, Bool.not_eq_true, Bool.not_false, Bool.not_true, and_self, and_true, true_and, te3b, te4b, te3s, te4s, Nat.mul_one, Nat.zero_add, List.length_cons, List.length_nil, Bool.false_eq_true, Bool.true_eq_false] at *); (try omega))
  · rename_i hs
    have : lineCnt n (gOf s) = n + n := by
      have e : gOf s = 1 := by unfold gOf; rw [if_neg hsq, if_pos hs]
      rw [e]; unfold lineCnt; rw [if_neg (by omega), if_pos (by omega)]; omega
    rw [this]
    all_goals (first | (refine Sup.of ?_; first | rfl | (simp [*, resOf]; done)) | (refine Sup.via ?_; repeat' (first | ((conv => whnf); refine And.intro ?_ ?_) | ((conv => whnf); with_reducible exact VC.mk rfl) | ((conv => whnf); exact Ok.mk) | ((conv => whnf); exact True.intro) | ((conv => whnf); refine Nx.mk ?_) | ((conv => whnf); refine Fin.mk ?_) | ((conv => whnf); intro _)); all_goals ((try refine VC.mk ?_); (try simp only [CL.ncell, CL.cnt, Int.toNat_natCast, decide_eq_true_eq, decide_eq_false_iff_not, Bool.not_eq_true, Bool.not_false, Bool.not_true, and_self, and_true, true_and, te3b, te4b, te3s, te4s, Nat.mul_one, Nat.zero_add, List.length_cons, List.length_nil, Bool.false_eq_true, Bool.true_eq_false] at *); (try omega)); all_goals (try (simp [CL.sub]; done))))
  · rename_i hs
    simp only [List.length_append, List.length_cons, List.length_nil]; omega
  · rename_i hs1 hs
    have : lineCnt n (gOf s) = 2 * n + 2 := by
      have e : gOf s = 2 := by unfold gOf; rw [if_neg hsq, if_neg hs1, if_pos hs]
      rw [e]; unfold lineCnt; rw [if_neg (by omega), if_neg (by omega), if_pos (by omega)]
    rw [this, linesTo_two]
    all_goals (first | (refine Sup.of ?_; first | rfl | (simp [*, resOf]; done)) | (refine Sup.via ?_; repeat' (first | ((conv => whnf); refine And.intro ?_ ?_) | ((conv => whnf); with_reducible exact VC.mk rfl) | ((conv => whnf); exact Ok.mk) | ((conv => whnf); exact True.intro) | ((conv => whnf); refine Nx.mk ?_) | ((conv => whnf); refine Fin.mk ?_) | ((conv => whnf); intro _)); all_goals ((try refine VC.mk ?_); (try simp only [CL.ncell, CL.cnt, Int.toNat_natCast, decide_eq_true_eq, decide_eq_false_iff_not, Bool.not_eq_true, Bool.not_false, Bool.not_true, and_self, and_true, true_and, te3b, te4b, te3s, te4s, Nat.mul_one, Nat.zero_add, List.length_cons, List.length_nil, Bool.false_eq_true, Bool.true_eq_false] at *); (try omega)); all_goals (try (simp [CL.sub]; done))))
  rename_i hs1 hs2
  have hcnt : lineCnt n (gOf s) = 4 * n := by
    have e : gOf s = 3 := by unfold gOf; rw [if_neg hsq, if_neg hs1, if_neg hs2]
    rw [e]; unfold lineCnt; rw [if_neg (by omega), if_neg (by omega), if_neg (by omega)]
  rw [hcnt]
  simp only [linesTo_two]
  have e3 := linesTo_len n (2 * n + 2)
  generalize hL0 : linesTo n (2 * n + 2) = L0 at *
  try simp only [List.length_append, List.length_cons, List.length_nil]
  conv => whnf
  refine loop_of (X := Nat) (fun k => 1 ≤ k ∧ k ≤ n) (fun k => [(12, .int .i64 k), (5, .isl (.rows .i64 (linesTo n (2 * n + 1 + k))) (.own 0))]) (fun k => [(0, .tok 1 (2 * n + 1 + k))]) (fun k => n - k) 1 ⟨anyB_ok, mixed, tabOK, cpLn_ok, noY_ok⟩ (by rfl) (by omega) ?_ ?_
  · repeat' (first | ((conv => whnf); refine And.intro ?_ ?_) | ((conv => whnf); with_reducible exact VC.mk rfl) | ((conv => whnf); exact Ok.mk) | ((conv => whnf); exact True.intro) | ((conv => whnf); refine Nx.mk ?_) | ((conv => whnf); refine Fin.mk ?_) | ((conv => whnf); intro _))
    all_goals ((try refine VC.mk ?_); (try simp only [CL.ncell, CL.cnt, Int.toNat_natCast, decide_eq_true_eq, decide_eq_false_iff_not, Bool.not_eq_true, Bool.not_false, Bool.not_true, and_self, and_true, true_and, te3b, te4b, te3s, te4s, Nat.mul_one, Nat.zero_add, List.length_cons, List.length_nil, Bool.false_eq_true, Bool.true_eq_false] at *); (try omega))
    all_goals (try (rw [← hL0]; done))
  intro k hk
  have e3 := linesTo_len n (2 * n + 1 + k)
  have e4 := linesTo_succ n (2 * n + 1 + k)
  by_cases hlt : k < n
  · rw [← dg3 n k (by omega)] at e4
    repeat' (first | ((conv => whnf); refine And.intro ?_ ?_) | ((conv => whnf); with_reducible exact VC.mk rfl) | ((conv => whnf); exact Ok.mk) | ((conv => whnf); exact True.intro) | ((conv => whnf); refine Nx.mk ?_) | ((conv => whnf); refine Fin.mk ?_) | ((conv => whnf); intro _))
    all_goals ((try refine VC.mk ?_); (try simp only [CL.ncell, CL.cnt, Int.toNat_natCast, decide_eq_true_eq, decide_eq_false_iff_not, Bool.not_eq_true, Bool.not_false, Bool.not_true, and_self, and_true, true_and, te3b, te4b, te3s, te4s, Nat.mul_one, Nat.zero_add, List.length_cons, List.length_nil, Bool.false_eq_true, Bool.true_eq_false] at *); (try omega))
    all_goals (try (simp only [List.length_append, List.length_cons, List.length_nil]; omega))
    refine ⟨k + 1, [], ⟨by omega, by omega⟩, ?_⟩
    repeat' (first | ((conv => whnf); refine And.intro ?_ ?_) | ((conv => whnf); with_reducible exact VC.mk rfl) | ((conv => whnf); exact Ok.mk) | ((conv => whnf); exact True.intro) | ((conv => whnf); refine Nx.mk ?_) | ((conv => whnf); refine Fin.mk ?_) | ((conv => whnf); intro _))
    all_goals ((try refine VC.mk ?_); (try simp only [CL.ncell, CL.cnt, Int.toNat_natCast, decide_eq_true_eq, decide_eq_false_iff_not, Bool.not_eq_true, Bool.not_false, Bool.not_true, and_self, and_true, true_and, te3b, te4b, te3s, te4s, Nat.mul_one, Nat.zero_add, List.length_cons, List.length_nil, Bool.false_eq_true, Bool.true_eq_false] at *); (try omega))
    all_goals (try (rw [← Nat.add_assoc, e4]))
  have : n = k := by omega
  subst this
  repeat' (first | ((conv => whnf); refine And.intro ?_ ?_) | ((conv => whnf); with_reducible exact VC.mk rfl) | ((conv => whnf); exact Ok.mk) | ((conv => whnf); exact True.intro) | ((conv => whnf); refine Nx.mk ?_) | ((conv => whnf); refine Fin.mk ?_) | ((conv => whnf); intro _))
  all_goals ((try refine VC.mk ?_); (try simp only [CL.ncell, CL.cnt, Int.toNat_natCast, decide_eq_true_eq, decide_eq_false_iff_not, Bool.not_eq_true, Bool.not_false, Bool.not_true, and_self, and_true, true_and, te3b, te4b, te3s, te4s, Nat.mul_one, Nat.zero_add, List.length_cons, List.length_nil, Bool.false_eq_true, Bool.true_eq_false] at *); (try omega))
  conv => whnf
  refine loop_of (X := Nat) (fun k => k + 1 ≤ n) (fun k => [(13, .int .i64 k), (5, .isl (.rows .i64 (linesTo n (3 * n + 1 + k))) (.own 0))]) (fun k => [(0, .tok 1 (3 * n + 1 + k))]) (fun k => n - k) 0 ⟨anyB_ok, mixed, tabOK, cpLn_ok, noY_ok⟩ (by rfl) (by omega) ?_ ?_
  · have : 2 * n + 1 + n = 3 * n + 1 + 0 := by omega
    rw [this]
    repeat' (first | ((conv => whnf); refine And.intro ?_ ?_) | ((conv => whnf); with_reducible exact VC.mk rfl) | ((conv => whnf); exact Ok.mk) | ((conv => whnf); exact True.intro) | ((conv => whnf); refine Nx.mk ?_) | ((conv => whnf); refine Fin.mk ?_) | ((conv => whnf); intro _))
    all_goals ((try refine VC.mk ?_); (try simp only [CL.ncell, CL.cnt, Int.toNat_natCast, decide_eq_true_eq, decide_eq_false_iff_not, Bool.not_eq_true, Bool.not_false, Bool.not_true, and_self, and_true, true_and, te3b, te4b, te3s, te4s, Nat.mul_one, Nat.zero_add, List.length_cons, List.length_nil, Bool.false_eq_true, Bool.true_eq_false] at *); (try omega))
  intro k hk
  have e3 := linesTo_len n (3 * n + 1 + k)
  have e4 := linesTo_succ n (3 * n + 1 + k)
  by_cases hlt : k + 1 < n
  · rw [← dg4 n k hn.1 hlt] at e4
    repeat' (first | ((conv => whnf); refine And.intro ?_ ?_) | ((conv => whnf); with_reducible exact VC.mk rfl) | ((conv => whnf); exact Ok.mk) | ((conv => whnf); exact True.intro) | ((conv => whnf); refine Nx.mk ?_) | ((conv => whnf); refine Fin.mk ?_) | ((conv => whnf); intro _))
    all_goals ((try refine VC.mk ?_); (try simp only [CL.ncell, CL.cnt, Int.toNat_natCast, decide_eq_true_eq, decide_eq_false_iff_not, Bool.not_eq_true, Bool.not_false, Bool.not_true, and_self, and_true, true_and, te3b, te4b, te3s, te4s, Nat.mul_one, Nat.zero_add, List.length_cons, List.length_nil, Bool.false_eq_true, Bool.true_eq_false] at *); (try omega))
    all_goals (try (simp only [List.length_append, List.length_cons, List.length_nil]; omega))
    refine ⟨k + 1, [], ⟨by omega, by omega⟩, ?_⟩
    repeat' (first | ((conv => whnf); refine And.intro ?_ ?_) | ((conv => whnf); with_reducible exact VC.mk rfl) | ((conv => whnf); exact Ok.mk) | ((conv => whnf); exact True.intro) | ((conv => whnf); refine Nx.mk ?_) | ((conv => whnf); refine Fin.mk ?_) | ((conv => whnf); intro _))
    all_goals ((try refine VC.mk ?_); (try simp only [CL.ncell, CL.cnt, Int.toNat_natCast, decide_eq_true_eq, decide_eq_false_iff_not, Bool.not_eq_true, Bool.not_false, Bool.not_true, and_self, and_true, true_and, te3b, te4b, te3s, te4s, Nat.mul_one, Nat.zero_add, List.length_cons, List.length_nil, Bool.false_eq_true, Bool.true_eq_false] at *); (try omega))
    all_goals (try (rw [← Nat.add_assoc, e4]))
  · have : 3 * n + 1 + k = 4 * n := by omega
    rw [this]
    repeat' (first | ((conv => whnf); refine And.intro ?_ ?_) | ((conv => whnf); with_reducible exact VC.mk rfl) | ((conv => whnf); exact Ok.mk) | ((conv => whnf); exact True.intro) | ((conv => whnf); refine Nx.mk ?_) | ((conv => whnf); refine Fin.mk ?_) | ((conv => whnf); intro _))
    all_goals ((try refine VC.mk ?_); (try simp only [CL.ncell, CL.cnt, Int.toNat_natCast, decide_eq_true_eq, decide_eq_false_iff_not, Bool.not_eq_true, Bool.not_false, Bool.not_true, and_self, and_true, true_and, te3b, te4b, te3s, te4s, Nat.mul_one, Nat.zero_add, List.length_cons, List.length_nil, Bool.false_eq_true, Bool.true_eq_false] at *); (try omega))
    all_goals (first | (refine Sup.of ?_; first | rfl | (simp [*, resOf]; done)) | (refine Sup.via ?_; repeat' (first | ((conv => whnf); refine And.intro ?_ ?_) | ((conv => whnf); with_reducible exact VC.mk rfl) | ((conv => whnf); exact Ok.mk) | ((conv => whnf); exact True.intro) | ((conv => whnf); refine Nx.mk ?_) | ((conv => whnf); refine Fin.mk ?_) | ((conv => whnf); intro _)); all_goals ((try refine VC.mk ?_); (try simp only [CL.ncell, CL.cnt, Int.toNat_natCast, decide_eq_true_eq, decide_eq_false_iff_not, Bool.not_eq_true, Bool.not_false, Bool.not_true, and_self, and_true, true_and, te3b, te4b, te3s, te4s, Nat.mul_one, Nat.zero_add, List.length_cons, List.length_nil, Bool.false_eq_true, Bool.true_eq_false] at *); (try omega)); all_goals (try (simp [CL.sub]; done))))
theorem Lines_spec' {n : Int} {s : ByteArray} (hn : 1 ≤ n ∧ n ≤ 16) : PSpec Try.prog 105 [.int .i64 n, .str s] (.isl (.rows .i64 (linesTo n.toNat (lineCnt n.toNat (gOf s)))) .none) := by
  have := Lines_spec n.toNat (by omega) s
  rwa [Int.toNat_of_nonneg (by omega)] at this
def LinesP : PSp := fun xs K => match xs with
  | [.int .i64 n, .str s] => VC (1 ≤ n ∧ n ≤ 16) ∧ K (.isl (.rows .i64 (linesTo n.toNat (lineCnt n.toNat (gOf s)))) .none)
  | _ => False
theorem Lines_ok : POK Try.prog 105 LinesP := by
  intro xs K h
  unfold LinesP at h
  split at h
  · exact ⟨_, h.2, Lines_spec' h.1.get⟩
  · exact h.elim
end Go.Eng.Ytppflbccfdbogaa
namespace Go.Eng.Ytppflbccfdbogaa
open Go.Proofs
set_option maxRecDepth 100000
set_option maxHeartbeats 0
set_option linter.unusedVariables false
set_option linter.unusedSimpArgs false
/-! the first line with another sum -/
theorem badLine_none {n : Nat} {g : Int} {l : List Int} (h : ∀ j, j < lineCnt n g → lineOk n l j = true) : badLine n g l = none := by
  unfold badLine
  rw [List.find?_eq_none]
  intro i hi
  simp [h i (List.mem_range.1 hi)]
theorem badLine_some {n : Nat} {g : Int} {l : List Int} {i : Nat} (hi : i < lineCnt n g) (h : ∀ j, j < i → lineOk n l j = true) (hb : lineOk n l i = false) : badLine n g l = some i := by
  unfold badLine
  rw [List.find?_range_eq_some]
  exact ⟨by simp [hb], by simpa using hi, fun j hj => by simp [h j hj]⟩
def failsV (n : Nat) (g : Int) (l : List Int) : PV := match badLine n g l with
  | some i => .tup [.isl (.ints .i64 (lineAt n i)) .none, .bp true]
  | none => .tup [.isl (.ints .i64 []) .none, .bp false]
theorem lineCnt_le (n : Nat) (g : Int) : lineCnt n g ≤ 4 * n + 2 := by unfold lineCnt; split <;> (try split) <;> (try split) <;> omega
noncomputable def cpFa : CPT := cpAdd 105 (pureCC LinesP) (cpAdd 71 (pureCC rSumP) (cpAdd 72 (pureCC ConstantP) noC))
theorem cpFa_ok : CPOK Try.prog cpFa := cpAdd_ok (pureCC_ok Lines_ok) (cpAdd_ok (pureCC_ok rSum_ok) (cpAdd_ok (pureCC_ok Constant_ok) noC_ok))
theorem Fails_spec (n : Nat) (c : Int) (l : List Int) (s : ByteArray) (hn : 1 ≤ n ∧ n ≤ 16) (hl : l.length = n * n) (hv : ∀ x ∈ l, 0 ≤ x ∧ x ≤ 1000) : PSpec Try.prog 54 [gridV n c l, .str s] (failsV n (gOf s) l) := by
  have hg : ∀ c : Int, 0 ≤ c → c < (n : Int) * n → 0 ≤ l.getD c.toNat 0 ∧ l.getD c.toNat 0 ≤ 1000 := fun c h1 h2 => by
    rw [List.getD_eq_getElem?_getD]
    cases h : l[c.toNat]? with
    | none => simp
    | some v => simpa using hv v (List.mem_of_getElem? h)
  have hll : (l.length : Int) = (n : Int) * n := by rw [hl]; push_cast; rfl
  refine pspec_of (md := 0) (rf := []) mixed tabOK cpFa_ok Try.func54 (by rfl) (by rfl) (by rfl) ?_
  repeat' (first | ((conv => whnf); refine And.intro ?_ ?_) | ((conv => whnf); with_reducible exact VC.mk rfl) | ((conv => whnf); exact Ok.mk) | ((conv => whnf); exact True.intro) | ((conv => whnf); refine Nx.mk ?_) | ((conv => whnf); refine Fin.mk ?_) | ((conv => whnf); intro _))
  all_goals ((try refine VC.mk ?_); (try simp only [CL.ncell, CL.cnt, Int.toNat_natCast, decide_eq_true_eq, decide_eq_false_iff_not, Bool.not_eq_true, Bool.not_false, Bool.not_true, and_self, and_true, true_and, te3b, te4b, te3s, te4s, Nat.mul_one, Nat.zero_add, List.length_cons, List.length_nil, Bool.false_eq_true, Bool.true_eq_false] at *); (try omega))
  generalize hcnt : lineCnt n (gOf s) = cnt at *
  conv => whnf
  refine loop_of (X := Nat) (fun i => i ≤ cnt ∧ ∀ j, j < i → lineOk n l j = true) (fun i => [(7, .int .i64 i)]) (fun i => []) (fun i => cnt - i) 0 ⟨anyB_ok, mixed, tabOK, cpFa_ok, noY_ok⟩ (by rfl) ⟨by omega, fun j hj => by omega⟩ ?_ ?_
  · repeat' (first | ((conv => whnf); refine And.intro ?_ ?_) | ((conv => whnf); with_reducible exact VC.mk rfl) | ((conv => whnf); exact Ok.mk) | ((conv => whnf); exact True.intro) | ((conv => whnf); refine Nx.mk ?_) | ((conv => whnf); refine Fin.mk ?_) | ((conv => whnf); intro _))
    all_goals ((try refine VC.mk ?_); (try simp only [CL.ncell, CL.cnt, Int.toNat_natCast, decide_eq_true_eq, decide_eq_false_iff_not, Bool.not_eq_true, Bool.not_false, Bool.not_true, and_self, and_true, true_and, te3b, te4b, te3s, te4s, Nat.mul_one, Nat.zero_add, List.length_cons, List.length_nil, Bool.false_eq_true, Bool.true_eq_false] at *); (try omega))
  rintro i ⟨hi, hok⟩
  have e1 := linesTo_len n cnt
  by_cases hlt : i < cnt
  · have e2 := linesTo_get n cnt i hlt
    have hm := fun c hc => lineAt_mem (n := n) (i := i) c hc
    have e3 := lineAt_len n i
    have hb := sumAt_bd l (lineAt n i) (fun c hc => hg c (hm c hc).1 (hm c hc).2)
    have hc4 := lineCnt_le n (gOf s)
    repeat' (first | ((conv => whnf); refine And.intro ?_ ?_) | ((conv => whnf); with_reducible exact VC.mk rfl) | ((conv => whnf); exact Ok.mk) | ((conv => whnf); exact True.intro) | ((conv => whnf); refine Nx.mk ?_) | ((conv => whnf); refine Fin.mk ?_) | ((conv => whnf); intro _))
    all_goals ((try refine VC.mk ?_); (try simp only [CL.ncell, CL.cnt, Int.toNat_natCast, decide_eq_true_eq, decide_eq_false_iff_not, Bool.not_eq_true, Bool.not_false, Bool.not_true, and_self, and_true, true_and, te3b, te4b, te3s, te4s, Nat.mul_one, Nat.zero_add, List.length_cons, List.length_nil, Bool.false_eq_true, Bool.true_eq_false] at *); (try omega))
    all_goals (try simp only [e2] at *)
    · refine ⟨fun x hx => by have := hm x hx; omega, by omega, fun j hj => ?_⟩
      have := hb j hj
      rw [e3] at hj
      omega
    · rename_i hbad
      have : failsV n (gOf s) l = .tup [.isl (.ints .i64 (lineAt n i)) .none, .bp true] := by
        unfold failsV
        rw [badLine_some (i := i) (by omega) hok (by unfold lineOk lineSum; rw [e3] at hbad; simpa using hbad)]
      rw [this]
      all_goals (refine Sup.via ?_; repeat' (first | ((conv => whnf); refine And.intro ?_ ?_) | ((conv => whnf); with_reducible exact VC.mk rfl) | ((conv => whnf); exact Ok.mk) | ((conv => whnf); exact True.intro) | ((conv => whnf); refine Nx.mk ?_) | ((conv => whnf); refine Fin.mk ?_) | ((conv => whnf); intro _)); all_goals ((try refine VC.mk ?_); (try simp only [CL.ncell, CL.cnt, Int.toNat_natCast, decide_eq_true_eq, decide_eq_false_iff_not, Bool.not_eq_true, Bool.not_false, Bool.not_true, and_self, and_true, true_and, te3b, te4b, te3s, te4s, Nat.mul_one, Nat.zero_add, List.length_cons, List.length_nil, Bool.false_eq_true, Bool.true_eq_false] at *); (try omega)); all_goals (try (simp [CL.sub]; done)))
    · rename_i hgood
      refine ⟨i + 1, [], ⟨⟨by omega, fun j hj => ?_⟩, by omega⟩, ?_⟩
      · by_cases e : j = i
        · subst e; unfold lineOk lineSum; rw [e3] at hgood; simpa using hgood
        · exact hok j (by omega)
      · repeat' (first | ((conv => whnf); refine And.intro ?_ ?_) | ((conv => whnf); with_reducible exact VC.mk rfl) | ((conv => whnf); exact Ok.mk) | ((conv => whnf); exact True.intro) | ((conv => whnf); refine Nx.mk ?_) | ((conv => whnf); refine Fin.mk ?_) | ((conv => whnf); intro _))
        all_goals ((try refine VC.mk ?_); (try simp only [CL.ncell, CL.cnt, Int.toNat_natCast, decide_eq_true_eq, decide_eq_false_iff_not, Bool.not_eq_true, Bool.not_false, Bool.not_true, and_self, and_true, true_and, te3b, te4b, te3s, te4s, Nat.mul_one, Nat.zero_add, List.length_cons, List.length_nil, Bool.false_eq_true, Bool.true_eq_false] at *); (try omega))
  · have : cnt = i := by omega
    subst this
    have : failsV n (gOf s) l = .tup [.isl (.ints .i64 []) .none, .bp false] := by unfold failsV; rw [badLine_none (by rw [hcnt]; exact hok)]
    rw [this]
    repeat' (first | ((conv => whnf); refine And.intro ?_ ?_) | ((conv => whnf); with_reducible exact VC.mk rfl) | ((conv => whnf); exact Ok.mk) | ((conv => whnf); exact True.intro) | ((conv => whnf); refine Nx.mk ?_) | ((conv => whnf); refine Fin.mk ?_) | ((conv => whnf); intro _))
    all_goals ((try refine VC.mk ?_); (try simp only [CL.ncell, CL.cnt, Int.toNat_natCast, decide_eq_true_eq, decide_eq_false_iff_not, Bool.not_eq_true, Bool.not_false, Bool.not_true, and_self, and_true, true_and, te3b, te4b, te3s, te4s, Nat.mul_one, Nat.zero_add, List.length_cons, List.length_nil, Bool.false_eq_true, Bool.true_eq_false] at *); (try omega))
    all_goals (first | (refine Sup.of ?_; first | rfl | (simp [*, resOf]; done)) | (refine Sup.via ?_; repeat' (first | ((conv => whnf); refine And.intro ?_ ?_) | ((conv => whnf); with_reducible exact VC.mk rfl) | ((conv => whnf); exact Ok.mk) | ((conv => whnf); exact True.intro) | ((conv => whnf); refine Nx.mk ?_) | ((conv => whnf); refine Fin.mk ?_) | ((conv => whnf); intro _)); all_goals ((try refine VC.mk ?_); (try simp only [CL.ncell, CL.cnt, Int.toNat_natCast, decide_eq_true_eq, decide_eq_false_iff_not, Bool.not_eq_true, Bool.not_false, Bool.not_true, and_self, and_true, true_and, te3b, te4b, te3s, te4s, Nat.mul_one, Nat.zero_add, List.length_cons, List.length_nil, Bool.false_eq_true, Bool.true_eq_false] at *); (try omega)); all_goals (try (simp [CL.sub]; done))))
/-! refusals -/
def failsL (n : Nat) (g : Int) (l : List Int) : List Int := match badLine n g l with | some i => lineAt n i | none => []
theorem failsV_eq (n : Nat) (g : Int) (l : List Int) : failsV n g l = .tup [.isl (.ints .i64 (failsL n g l)) .none, .bp (badLine n g l).isSome] := by
  unfold failsV failsL; cases badLine n g l <;> rfl
end Go.Eng.Ytppflbccfdbogaa
namespace Go.Eng.Ytppflbccfdbogaa
open Go.Proofs
set_option maxRecDepth 100000
set_option maxHeartbeats 0
set_option linter.unusedVariables false
set_option linter.unusedSimpArgs false
def sumF (f : Nat → Int) : Nat → Int
  | 0 => 0
  | n + 1 => sumF f n + f n
theorem sumF_congr {f g : Nat → Int} : ∀ {n : Nat}, (∀ i, i < n → f i = g i) → sumF f n = sumF g n := by
  intro n
  induction n with
  | zero => intro _; rfl
  | succ n ih => intro h; simp only [sumF]; rw [ih fun i hi => h i (by omega), h n (by omega)]
theorem sumF_nonneg {f : Nat → Int} : ∀ {n : Nat}, (∀ i, i < n → 0 ≤ f i) → 0 ≤ sumF f n := by
  intro n
  induction n with
  | zero => intro _; simp [sumF]
  | succ n ih => intro h; have := ih fun i hi => h i (by omega); have := h n (by omega); simp only [sumF]; omega
theorem sumF_le {f : Nat → Int} {B : Int} : ∀ {n : Nat}, (∀ i, i < n → f i ≤ B) → sumF f n ≤ n * B := by
  intro n
  induction n with
  | zero => intro _; simp [sumF]
  | succ n ih => intro h; have := ih fun i hi => h i (by omega); have := h n (by omega); simp only [sumF]; push_cast; rw [Int.add_mul]; omega
/-! the sum of some cells -/
/-- the lines of the first groups have the sum -/
structure GoodK (n : Nat) (g : Int) (f : Nat → Nat → Int) (c : Int) : Prop where
  row : 1 ≤ g → ∀ i, i < n → sumF (fun j => f i j) n = c
  col : 1 ≤ g → ∀ j, j < n → sumF (fun i => f i j) n = c
  d1 : 2 ≤ g → sumF (fun i => f i i) n = c
  d2 : 2 ≤ g → sumF (fun i => f i (n - 1 - i)) n = c
  up : 3 ≤ g → ∀ k, k < n → sumF (fun i => f i ((i + k) % n)) n = c
  dn : 3 ≤ g → ∀ k, k < n → sumF (fun i => f i ((k + n - i) % n)) n = c
def sqAt (n : Nat) (L : List Int) (i j : Nat) : Int := L.getD (n * i + j) 0
/-! lists with each number once -/
theorem seen_iff (m : Nat) (l : List Int) (v : Nat) (hv : v < m) : ∀ i, i ≤ l.length → ((seenAt m l i).getD v false = true ↔ ∃ j, j < i ∧ (l.getD j 0).toNat = v) := by
  intro i
  induction i with
  | zero => intro _; simp only [seenAt, List.take_zero, List.foldl_nil]; rw [List.getD_eq_getElem?_getD, List.getElem?_replicate, if_pos hv]; simp
  | succ i ih =>
    intro hi
    rw [seenAt_succ m l i hi, List.getD_eq_getElem?_getD, List.getElem?_set]
    have hl := seenAt_len m l i
    by_cases e : (l.getD i 0).toNat = v
    · rw [if_pos e, if_pos (by omega)]
      simp only [Option.getD_some, true_iff]
      exact ⟨i, by omega, e⟩
    · rw [if_neg e, ← List.getD_eq_getElem?_getD, ih (by omega)]
      constructor
      · rintro ⟨j, h1, h2⟩; exact ⟨j, by omega, h2⟩
      · rintro ⟨j, h1, h2⟩
        by_cases ej : j = i
        · subst ej; exact absurd h2 e
        · exact ⟨j, by omega, h2⟩
theorem distinct_iff (lo : Int) (hlo : 0 ≤ lo) (m : Nat) (l : List Int) : distinctIn lo m l = true ↔ (∀ i, i < l.length → lo ≤ l.getD i 0 ∧ l.getD i 0 < m) ∧ ∀ i j, i < j → j < l.length → l.getD i 0 ≠ l.getD j 0 := by
  unfold distinctIn
  rw [List.all_eq_true]
  simp only [List.mem_range, okAt, Bool.and_eq_true, decide_eq_true_eq, Bool.not_eq_true']
  constructor
  · intro h
    refine ⟨fun i hi => (h i hi).1, fun i j hij hj e => ?_⟩
    have h2 := (h j hj).2
    have h3 := (h j hj).1
    have := (seen_iff m l (l.getD j 0).toNat (by omega) j (by omega)).2 ⟨i, hij, by rw [e]⟩
    rw [this] at h2; cases h2
  · rintro ⟨h1, h2⟩ i hi
    refine ⟨h1 i hi, ?_⟩
    have h3 := h1 i hi
    cases hs : (seenAt m l i).getD (l.getD i 0).toNat false with
    | false => rfl
    | true =>
      obtain ⟨j, hj, he⟩ := (seen_iff m l (l.getD i 0).toNat (by omega) i (by omega)).1 hs
      have h4 := h1 j (by omega)
      exact absurd (show l.getD j 0 = l.getD i 0 by omega) (h2 j i hj hi)
theorem isNorm_iff (l : List Int) : isNorm l = true ↔ (∀ i, i < l.length → 1 ≤ l.getD i 0 ∧ l.getD i 0 ≤ l.length) ∧ ∀ i j, i < j → j < l.length → l.getD i 0 ≠ l.getD j 0 := by
  unfold isNorm
  rw [distinct_iff 1 (by omega)]
  refine and_congr_left fun _ => ?_
  constructor
  · intro h i hi; have := h i hi; omega
  · intro h i hi; have := h i hi; omega
theorem GoodK.congr {n : Nat} {g : Int} {f f' : Nat → Nat → Int} {c : Int} (h : GoodK n g f c) (e : ∀ i j, i < n → j < n → f i j = f' i j) : GoodK n g f' c := by
  have key : ∀ p q : Nat → Nat, (∀ i, i < n → p i < n) → (∀ i, i < n → q i < n) → sumF (fun i => f (p i) (q i)) n = c → sumF (fun i => f' (p i) (q i)) n = c := fun p q hp hq h => by
    rw [← h]; exact sumF_congr fun i hi => (e _ _ (hp i hi) (hq i hi)).symm
  refine ⟨fun hg i hi => ?_, fun hg j hj => ?_, fun hg => ?_, fun hg => ?_, fun hg k hk => ?_, fun hg k hk => ?_⟩
  · exact key (fun _ => i) (fun j => j) (fun _ _ => hi) (fun j hj => hj) (h.row hg i hi)
  · exact key (fun i => i) (fun _ => j) (fun j hj => hj) (fun _ _ => hj) (h.col hg j hj)
  · exact key (fun i => i) (fun i => i) (fun j hj => hj) (fun j hj => hj) (h.d1 hg)
  · exact key (fun i => i) (fun i => n - 1 - i) (fun j hj => hj) (fun j hj => by (try simp only); omega) (h.d2 hg)
  · exact key (fun i => i) (fun i => (i + k) % n) (fun j hj => hj) (fun j hj => Nat.mod_lt _ (by omega)) (h.up hg k hk)
  · exact key (fun i => i) (fun i => (k + n - i) % n) (fun j hj => hj) (fun j hj => Nat.mod_lt _ (by omega)) (h.dn hg k hk)
end Go.Eng.Ytppflbccfdbogaa
namespace Go.Eng.Ytppflbccfdbogaa
open Go.Proofs
set_option maxRecDepth 100000
set_option maxHeartbeats 0
set_option linter.unusedVariables false
set_option linter.unusedSimpArgs false
structure GoodSq (n : Nat) (g : Int) (l : List Int) : Prop where
  len : l.length = n * n
  norm : isNorm l = true
  bad : badLine n g l = none
theorem bd_of {l : List Int} {lo hi : Int} (h : ∀ x ∈ l, lo ≤ x ∧ x ≤ hi) {k : Nat} (hk : k < l.length) : lo ≤ l.getD k 0 ∧ l.getD k 0 ≤ hi := by
  rw [List.getD_eq_getElem?_getD, List.getElem?_eq_getElem hk]
  exact h _ (List.getElem_mem _)
theorem flat_idx {n i j : Nat} (hi : i < n) (hj : j < n) : n * i + j < n * n := by
  have := Nat.mul_le_mul_left n (show i + 1 ≤ n by omega)
  rw [Nat.mul_add] at this; omega
/-- a normal square -/
structure NormG (r c : Int) (l : List Int) (n : Nat) : Prop where
  er : r = n
  ec : c = n
  en : 1 ≤ n ∧ n ≤ 16
  el : l.length = n * n
  eb : ∀ x ∈ l, 1 ≤ x ∧ x ≤ 256
theorem normG {r c : Int} {l : List Int} (h : normErr r c l = 0) : NormG r c l r.toNat := by
  obtain ⟨h1, h2⟩ := normErr_zero h
  obtain ⟨z1, z2, z3, z4, z5⟩ := sqErr_zero h1
  have hb := isNorm_bd h2
  refine ⟨by omega, by omega, by omega, ?_, fun x hx => by have := hb x hx; omega⟩
  have : ((r.toNat * r.toNat : Nat) : Int) = r * r := by push_cast; rw [Int.toNat_of_nonneg (by omega)]
  omega
end Go.Eng.Ytppflbccfdbogaa
namespace Go.Eng.Ytppflbccfdbogaa
open Go.Proofs
set_option maxRecDepth 100000
set_option maxHeartbeats 0
set_option linter.unusedVariables false
set_option linter.unusedSimpArgs false
def prodF (m n : Nat) (a b : List Int) (i j : Nat) : Int := (sqAt m a (i / n) (j / n) - 1) * n * n + sqAt n b (i % n) (j % n)
def prodL (m n : Nat) (a b : List Int) : List Int := madeL (m * n) (prodF m n a b)
end Go.Eng.Ytppflbccfdbogaa
namespace Go.Eng.Ytppflbccfdbogaa
open Go.Proofs
set_option maxRecDepth 100000
set_option maxHeartbeats 0
set_option linter.unusedVariables false
set_option linter.unusedSimpArgs false
/-- places in the two squares -/
structure ProdI (m n : Nat) (a b : List Int) (i j : Nat) : Prop where
  ia : m * (i / n) + j / n < m * m
  ib : n * (i % n) + j % n < n * n
  va : 1 ≤ a.getD (m * (i / n) + j / n) 0 ∧ a.getD (m * (i / n) + j / n) 0 ≤ 256
  vb : 1 ≤ b.getD (n * (i % n) + j % n) 0 ∧ b.getD (n * (i % n) + j % n) 0 ≤ 256
theorem prodI {m n : Nat} {a b : List Int} {i j : Nat} (hn : 1 ≤ n) (la : a.length = m * m) (lb : b.length = n * n) (ha : ∀ x ∈ a, 1 ≤ x ∧ x ≤ 256) (hb : ∀ x ∈ b, 1 ≤ x ∧ x ≤ 256) (hi : i < m * n) (hj : j < m * n) : ProdI m n a b i j := by
  have dl : ∀ {x}, x < m * n → x / n < m := fun {x} h => Nat.div_lt_of_lt_mul (by rw [Nat.mul_comm]; exact h)
  have h1 := flat_idx (dl hi) (dl hj)
  have h2 := flat_idx (n := n) (i := i % n) (j := j % n) (Nat.mod_lt _ (by omega)) (Nat.mod_lt _ (by omega))
  exact ⟨h1, h2, bd_of ha (by omega), bd_of hb (by omega)⟩
structure ProdR (m n : Nat) (a b : List Int) (i j : Nat) : Prop where
  e1 : (i : Int) / n * m + (j : Int) / n = ((m * (i / n) + j / n : Nat) : Int)
  e2 : (i : Int) % n * n + (j : Int) % n = ((n * (i % n) + j % n : Nat) : Int)
  b1 : 0 ≤ (i : Int) / n * m ∧ (i : Int) / n * m ≤ 256
  b2 : 0 ≤ (i : Int) % n * n ∧ (i : Int) % n * n ≤ 256
  b3 : 0 ≤ (i : Int) / n ∧ (i : Int) / n ≤ 256
  b4 : 0 ≤ (j : Int) / n ∧ (j : Int) / n ≤ 256
  b5 : 0 ≤ (i : Int) % n ∧ (i : Int) % n ≤ 16
  b6 : 0 ≤ (j : Int) % n ∧ (j : Int) % n ≤ 16
  b7 : 0 ≤ (a.getD (m * (i / n) + j / n) 0 - 1) * n ∧ (a.getD (m * (i / n) + j / n) 0 - 1) * n ≤ 256 * 16
  b8 : 0 ≤ (a.getD (m * (i / n) + j / n) 0 - 1) * n * n ∧ (a.getD (m * (i / n) + j / n) 0 - 1) * n * n ≤ 4096 * 16
theorem prodR {m n : Nat} {a b : List Int} {i j : Nat} (hm : 1 ≤ m ∧ m ≤ 16) (hn : 1 ≤ n ∧ n ≤ 16) (P : ProdI m n a b i j) (hi : i < m * n) (hj : j < m * n) : ProdR m n a b i j := by
  obtain ⟨i1, i2, v1, v2⟩ := P
  have e1 : (i : Int) / n * m + (j : Int) / n = ((m * (i / n) + j / n : Nat) : Int) := by push_cast; rw [Int.mul_comm]
  have e2 : (i : Int) % n * n + (j : Int) % n = ((n * (i % n) + j % n : Nat) : Int) := by push_cast; rw [Int.mul_comm]
  have b3 : 0 ≤ (i : Int) / n ∧ (i : Int) / n ≤ 256 := by
    have h1 : i / n ≤ i := Nat.div_le_self _ _
    have := Nat.mul_le_mul hm.2 hn.2
    have h2 : 0 ≤ (i : Int) / n := Int.ediv_nonneg (by omega) (by omega)
    have h3 : (i : Int) / n ≤ i := Int.ediv_le_self _ (by omega)
    omega
  have b4 : 0 ≤ (j : Int) / n ∧ (j : Int) / n ≤ 256 := by
    have h1 : j / n ≤ j := Nat.div_le_self _ _
    have := Nat.mul_le_mul hm.2 hn.2
    have h2 : 0 ≤ (j : Int) / n := Int.ediv_nonneg (by omega) (by omega)
    have h3 : (j : Int) / n ≤ j := Int.ediv_le_self _ (by omega)
    omega
  have b1 : 0 ≤ (i : Int) / n * m ∧ (i : Int) / n * m ≤ 256 := by
    have : (i : Int) / n * m = ((m * (i / n) : Nat) : Int) := by push_cast; rw [Int.mul_comm]
    have := Nat.mul_le_mul hm.2 hm.2
    omega
  have b2 : 0 ≤ (i : Int) % n * n ∧ (i : Int) % n * n ≤ 256 := by
    have : (i : Int) % n * n = ((n * (i % n) : Nat) : Int) := by push_cast; rw [Int.mul_comm]
    have := Nat.mul_le_mul hn.2 hn.2
    omega
  have b5 : 0 ≤ (i : Int) % n ∧ (i : Int) % n ≤ 16 := ⟨Int.emod_nonneg _ (by omega), by have := Int.emod_lt_of_pos (i : Int) (show (0 : Int) < n by omega); omega⟩
  have b6 : 0 ≤ (j : Int) % n ∧ (j : Int) % n ≤ 16 := ⟨Int.emod_nonneg _ (by omega), by have := Int.emod_lt_of_pos (j : Int) (show (0 : Int) < n by omega); omega⟩
  have b7 := mul_bd (A := 256) (B := 16) (show 0 ≤ a.getD (m * (i / n) + j / n) 0 - 1 ∧ a.getD (m * (i / n) + j / n) 0 - 1 ≤ 256 by omega) (show 0 ≤ (n : Int) ∧ (n : Int) ≤ 16 by omega)
  have b8 := mul_bd (A := 4096) (B := 16) (show 0 ≤ (a.getD (m * (i / n) + j / n) 0 - 1) * n ∧ (a.getD (m * (i / n) + j / n) 0 - 1) * n ≤ 4096 by omega) (show 0 ≤ (n : Int) ∧ (n : Int) ≤ 16 by omega)
  exact ⟨e1, e2, b1, b2, b3, b4, b5, b6, b7, b8⟩
theorem c104_spec (m n : Nat) (ca cb : Int) (a b : List Int) (i j : Nat) (hm : 1 ≤ m ∧ m ≤ 16) (hn : 1 ≤ n ∧ n ≤ 16) (la : a.length = m * m) (lb : b.length = n * n) (ha : ∀ x ∈ a, 1 ≤ x ∧ x ≤ 256) (hb : ∀ x ∈ b, 1 ≤ x ∧ x ≤ 256) (hi : i < m * n) (hj : j < m * n) :
    PSpec Try.prog 104 ([] ++ [.int .i64 i, .int .i64 j] ++ [.ip (.pv [.int .i64 m, .int .i64 ca, .isl (.ints .i64 a) .none]) 0, .ip (.pv [.int .i64 n]) 0, .ip (.pv [.int .i64 m]) 0, .ip (.pv [.int .i64 n, .int .i64 cb, .isl (.ints .i64 b) .none]) 0]) (.int .i64 (prodF m n a b i j)) := by
  obtain ⟨i1, i2, v1, v2⟩ := prodI hn.1 la lb ha hb hi hj
  obtain ⟨e1, e2, b1, b2, b3, b4, b5, b6, b7, b8⟩ := prodR hm hn ⟨i1, i2, v1, v2⟩ hi hj
  have la' : (a.length : Int) = (m * m : Nat) := by rw [la]
  have lb' : (b.length : Int) = (n * n : Nat) := by rw [lb]
  refine pspec_of (md := 0) (rf := []) mixed tabOK noC_ok Try.func104 (by rfl) (by rfl) (by rfl) ?_
  repeat' (first | ((conv => whnf); refine And.intro ?_ ?_) | ((conv => whnf); with_reducible exact VC.mk rfl) | ((conv => whnf); exact Ok.mk) | ((conv => whnf); exact True.intro) | ((conv => whnf); refine Nx.mk ?_) | ((conv => whnf); refine Fin.mk ?_) | ((conv => whnf); intro _))
  all_goals ((try refine VC.mk ?_); (try simp only [CL.ncell, CL.cnt, Int.toNat_natCast, decide_eq_true_eq, decide_eq_false_iff_not, Bool.not_eq_true, Bool.not_false, Bool.not_true, and_self, and_true, true_and, te3b, te4b, te3s, te4s, Nat.mul_one, Nat.zero_add, List.length_cons, List.length_nil, Bool.false_eq_true, Bool.true_eq_false] at *); (try omega))
  all_goals (try simp only [e1, e2, Int.toNat_natCast] at *)
  all_goals (try omega)
  all_goals exact Sup.of rfl
noncomputable def cpPd : CPT := cpAdd 88 (pureCC checkNormalP) (cpAdd 103 (pureCC madeP) cp2)
theorem cpPd_ok : CPOK Try.prog cpPd := cpAdd_ok (pureCC_ok checkNormal_ok) (cpAdd_ok (pureCC_ok made_ok) cp2_ok)
theorem product_good (m n : Nat) (a b : List Int) (ha : normErr m m a = 0) (hb : normErr n n b = 0) (hmn : m * n ≤ 16) : PSpec Try.prog 52 [gridV m m a, gridV n n b] (okGrid (m * n : Nat) (m * n : Nat) (prodL m n a b)) := by
  obtain ⟨_, _, a3, a4, a5⟩ := normG ha
  obtain ⟨_, _, b3, b4, b5⟩ := normG hb
  simp only [Int.toNat_natCast] at a3 a4 b3 b4
  have e : (m : Int) * n = ((m * n : Nat) : Int) := by push_cast; rfl
  unfold prodL
  refine pspec_of (md := 0) (rf := []) mixed tabOK cpPd_ok Try.func52 (by rfl) (by rfl) (by rfl) ?_
  repeat' (first | ((conv => whnf); refine And.intro ?_ ?_) | ((conv => whnf); with_reducible exact VC.mk rfl) | ((conv => whnf); exact Ok.mk) | ((conv => whnf); exact True.intro) | ((conv => whnf); refine Nx.mk ?_) | ((conv => whnf); refine Fin.mk ?_) | ((conv => whnf); intro hq; (try simp only [decide_eq_true_eq, decide_eq_false_iff_not, Bool.not_eq_true, Bool.not_eq_false, Bool.not_eq_true', Bool.not_eq_false', Bool.not_true, Bool.not_false, ite_true, ite_false] at hq); (try (exfalso; first | exact absurd hq (by decide) | omega))))
  all_goals ((try refine VC.mk ?_); (try simp only [CL.ncell, CL.cnt, Int.toNat_natCast, decide_eq_true_eq, decide_eq_false_iff_not, Bool.not_eq_true, Bool.not_false, Bool.not_true, and_self, and_true, true_and, te3b, te4b, te3s, te4s, Nat.mul_one, Nat.zero_add, List.length_cons, List.length_nil, Bool.false_eq_true, Bool.true_eq_false] at *); (try omega))
  all_goals (try (exfalso; simp_all [firstOf]; omega))
  refine ⟨prodF m n a b, fun i j hi hj => c104_spec m n m n a b i j a3 b3 a4 b4 a5 b5 (by omega) (by omega), ?_⟩
  rw [e]
  simp only [Int.toNat_natCast]
  repeat' (first | ((conv => whnf); refine And.intro ?_ ?_) | ((conv => whnf); with_reducible exact VC.mk rfl) | ((conv => whnf); exact Ok.mk) | ((conv => whnf); exact True.intro) | ((conv => whnf); refine Nx.mk ?_) | ((conv => whnf); refine Fin.mk ?_) | ((conv => whnf); intro hq; (try simp only [decide_eq_true_eq, decide_eq_false_iff_not, Bool.not_eq_true, Bool.not_eq_false, Bool.not_eq_true', Bool.not_eq_false', Bool.not_true, Bool.not_false, ite_true, ite_false] at hq); (try (exfalso; first | exact absurd hq (by decide) | omega))))
  all_goals ((try refine VC.mk ?_); (try simp only [CL.ncell, CL.cnt, Int.toNat_natCast, decide_eq_true_eq, decide_eq_false_iff_not, Bool.not_eq_true, Bool.not_false, Bool.not_true, and_self, and_true, true_and, te3b, te4b, te3s, te4s, Nat.mul_one, Nat.zero_add, List.length_cons, List.length_nil, Bool.false_eq_true, Bool.true_eq_false] at *); (try omega))
  all_goals (refine Sup.via ?_; repeat' (first | ((conv => whnf); refine And.intro ?_ ?_) | ((conv => whnf); with_reducible exact VC.mk rfl) | ((conv => whnf); exact Ok.mk) | ((conv => whnf); exact True.intro) | ((conv => whnf); refine Nx.mk ?_) | ((conv => whnf); refine Fin.mk ?_) | ((conv => whnf); intro _)); all_goals ((try refine VC.mk ?_); (try simp only [CL.ncell, CL.cnt, Int.toNat_natCast, decide_eq_true_eq, decide_eq_false_iff_not, Bool.not_eq_true, Bool.not_false, Bool.not_true, and_self, and_true, true_and, te3b, te4b, te3s, te4s, Nat.mul_one, Nat.zero_add, List.length_cons, List.length_nil, Bool.false_eq_true, Bool.true_eq_false] at *); (try omega)); all_goals (try (simp [CL.sub]; done)))
end Go.Eng.Ytppflbccfdbogaa
namespace Go.Eng.Ytppflbccfdbogaa
open Go.Proofs
set_option maxRecDepth 100000
set_option maxHeartbeats 0
set_option linter.unusedVariables false
set_option linter.unusedSimpArgs false
theorem first_bad {x y z : Int} (h : x ≠ 0 ∨ y ≠ 0) : firstOf [x, y, z] = (if x = 0 then y else x) ∧ (if x = 0 then y else x) ≠ 0 := by
  unfold firstOf firstOf
  by_cases c : x = 0
  · rw [if_pos c, if_pos c, if_neg (by omega)]; exact ⟨rfl, by omega⟩
  · rw [if_neg c, if_neg c]; exact ⟨rfl, c⟩
theorem product_bad (ra ca : Int) (a : List Int) (rb cb : Int) (b : List Int) (h : normErr ra ca a ≠ 0 ∨ normErr rb cb b ≠ 0) : PSpec Try.prog 52 [gridV ra ca a, gridV rb cb b] (noGrid (if normErr ra ca a = 0 then normErr rb cb b else normErr ra ca a)) := by
  obtain ⟨f1, f2⟩ := first_bad (z := if 16 < IntKind.i64.wrap (ra * rb) then 20 else 0) h
  refine pspec_of (md := 2) (rf := []) mixed tabOK cpPd_ok Try.func52 (by rfl) (by rfl) (by rfl) ?_
  repeat' (first | ((conv => whnf); refine And.intro ?_ ?_) | ((conv => whnf); with_reducible exact VC.mk rfl) | ((conv => whnf); exact Ok.mk) | ((conv => whnf); exact True.intro) | ((conv => whnf); refine Nx.mk ?_) | ((conv => whnf); refine Fin.mk ?_) | ((conv => whnf); intro hq; (try simp only [decide_eq_true_eq, decide_eq_false_iff_not, Bool.not_eq_true, Bool.not_eq_false, Bool.not_eq_true', Bool.not_eq_false', Bool.not_true, Bool.not_false, ite_true, ite_false] at hq); (try (exfalso; first | exact absurd hq (by decide) | omega))))
  all_goals ((try refine VC.mk ?_); (try simp only [CL.ncell, CL.cnt, Int.toNat_natCast, decide_eq_true_eq, decide_eq_false_iff_not, Bool.not_eq_true, Bool.not_false, Bool.not_true, and_self, and_true, true_and, te3b, te4b, te3s, te4s, Nat.mul_one, Nat.zero_add, List.length_cons, List.length_nil, Bool.false_eq_true, Bool.true_eq_false] at *); (try omega))
  all_goals (rw [f1]; exact Sup.via (by repeat' (first | ((conv => whnf); refine And.intro ?_ ?_) | ((conv => whnf); with_reducible exact VC.mk rfl) | ((conv => whnf); exact Ok.mk) | ((conv => whnf); exact True.intro) | ((conv => whnf); refine Nx.mk ?_) | ((conv => whnf); refine Fin.mk ?_) | ((conv => whnf); intro _)); all_goals ((try refine VC.mk ?_); (try simp only [CL.ncell, CL.cnt, Int.toNat_natCast, decide_eq_true_eq, decide_eq_false_iff_not, Bool.not_eq_true, Bool.not_false, Bool.not_true, and_self, and_true, true_and, te3b, te4b, te3s, te4s, Nat.mul_one, Nat.zero_add, List.length_cons, List.length_nil, Bool.false_eq_true, Bool.true_eq_false] at *); (try omega))))
theorem product_great (m n : Nat) (a b : List Int) (ha : normErr m m a = 0) (hb : normErr n n b = 0) (hmn : 16 < m * n) : PSpec Try.prog 52 [gridV m m a, gridV n n b] (noGrid 20) := by
  obtain ⟨_, _, a3, a4, a5⟩ := normG ha
  obtain ⟨_, _, b3, b4, b5⟩ := normG hb
  simp only [Int.toNat_natCast] at a3 b3
  have e : (m : Int) * n = ((m * n : Nat) : Int) := by push_cast; rfl
  have hb2 := Nat.mul_le_mul a3.2 b3.2
  have f1 : firstOf [normErr m m a, normErr n n b, if 16 < (m : Int) * n then 20 else 0] = 20 := by
    unfold firstOf firstOf firstOf
    have h16 : (if 16 < (m : Int) * n then (20 : Int) else 0) = 20 := if_pos (by omega)
    rw [ha, hb, if_pos rfl, if_pos rfl, h16]; rfl
  refine pspec_of (md := 0) (rf := []) mixed tabOK cpPd_ok Try.func52 (by rfl) (by rfl) (by rfl) ?_
  repeat' (first | ((conv => whnf); refine And.intro ?_ ?_) | ((conv => whnf); with_reducible exact VC.mk rfl) | ((conv => whnf); exact Ok.mk) | ((conv => whnf); exact True.intro) | ((conv => whnf); refine Nx.mk ?_) | ((conv => whnf); refine Fin.mk ?_) | ((conv => whnf); intro hq; (try simp only [decide_eq_true_eq, decide_eq_false_iff_not, Bool.not_eq_true, Bool.not_eq_false, Bool.not_eq_true', Bool.not_eq_false', Bool.not_true, Bool.not_false, ite_true, ite_false] at hq); (try (exfalso; first | exact absurd hq (by decide) | omega))))
  all_goals ((try refine VC.mk ?_); (try simp only [CL.ncell, CL.cnt, Int.toNat_natCast, decide_eq_true_eq, decide_eq_false_iff_not, Bool.not_eq_true, Bool.not_false, Bool.not_true, and_self, and_true, true_and, te3b, te4b, te3s, te4s, Nat.mul_one, Nat.zero_add, List.length_cons, List.length_nil, Bool.false_eq_true, Bool.true_eq_false] at *); (try omega))
  all_goals (try (exfalso; rw [f1] at hq; exact hq (by decide)))
  all_goals (try omega)
  all_goals (try (rw [f1]; exact Sup.via (by repeat' (first | ((conv => whnf); refine And.intro ?_ ?_) | ((conv => whnf); with_reducible exact VC.mk rfl) | ((conv => whnf); exact Ok.mk) | ((conv => whnf); exact True.intro) | ((conv => whnf); refine Nx.mk ?_) | ((conv => whnf); refine Fin.mk ?_) | ((conv => whnf); intro _)); all_goals ((try refine VC.mk ?_); (try simp only [CL.ncell, CL.cnt, Int.toNat_natCast, decide_eq_true_eq, decide_eq_false_iff_not, Bool.not_eq_true, Bool.not_false, Bool.not_true, and_self, and_true, true_and, te3b, te4b, te3s, te4s, Nat.mul_one, Nat.zero_add, List.length_cons, List.length_nil, Bool.false_eq_true, Bool.true_eq_false] at *); (try omega)))))
end Go.Eng.Ytppflbccfdbogaa
namespace Go.Eng.Ytppflbccfdbogaa
open Go.Proofs
set_option maxRecDepth 100000
set_option maxHeartbeats 0
set_option linter.unusedVariables false
set_option linter.unusedSimpArgs false
def rowV (n : Nat) (cs : List Int) (at' : Nat) (k : Nat) : Int := if n ≤ at' then cs.getD (k * n) 0 else cs.getD k 0
def opV (n : Nat) (cs : List Int) (at' : Nat) : Nat → Nat
  | 0 => 0
  | k + 1 => if rowV n cs at' k = 0 then opV n cs at' k + 1 else opV n cs at' k
def stLo (us : List Bool) (s0 : Int) (k0 : Nat) : Nat → Int × Nat
  | 0 => (s0, k0)
  | t + 1 => if 0 < (stLo us s0 k0 t).2 ∧ us.getD (t + 1) false = false then ((stLo us s0 k0 t).1 + (t + 1 : Nat), (stLo us s0 k0 t).2 - 1) else stLo us s0 k0 t
def stHi (n : Nat) (us : List Bool) (s0 : Int) (k0 : Nat) : Nat → Int × Nat
  | 0 => (s0, k0)
  | t + 1 => if 0 < (stHi n us s0 k0 t).2 ∧ us.getD (n * n + 1 - (t + 1)) false = false then ((stHi n us s0 k0 t).1 + (n * n + 1 - (t + 1) : Nat), (stHi n us s0 k0 t).2 - 1) else stHi n us s0 k0 t
theorem opV_le (n : Nat) (cs : List Int) (at' : Nat) : ∀ k, opV n cs at' k ≤ k := by
  intro k
  induction k with
  | zero => exact Nat.le_refl _
  | succ k ih => simp only [opV]; split <;> omega
theorem stLo_bd (us : List Bool) (s0 : Int) (k0 : Nat) (h : 0 ≤ s0 ∧ s0 ≤ 1000) : ∀ t, t ≤ 36 → (0 ≤ (stLo us s0 k0 t).1 ∧ (stLo us s0 k0 t).1 ≤ 1000 + 36 * t) ∧ (stLo us s0 k0 t).2 ≤ k0 := by
  intro t
  induction t with
  | zero => intro _; simp [stLo]; omega
  | succ t ih => intro ht; have := ih (by omega); simp only [stLo]; split <;> (push_cast; omega)
theorem stHi_bd (n : Nat) (us : List Bool) (s0 : Int) (k0 : Nat) (hn : n ≤ 6) (h : 0 ≤ s0 ∧ s0 ≤ 1000) : ∀ t, t ≤ 36 → (0 ≤ (stHi n us s0 k0 t).1 ∧ (stHi n us s0 k0 t).1 ≤ 1000 + 37 * t) ∧ (stHi n us s0 k0 t).2 ≤ k0 := by
  intro t
  have hnn := Nat.mul_le_mul hn hn
  induction t with
  | zero => intro _; simp [stHi]; omega
  | succ t ih => intro ht; have := ih (by omega); simp only [stHi]; split <;> (push_cast; omega)
def fitsB (n : Nat) (cs : List Int) (us : List Bool) (at' : Nat) : Bool :=
  decide ((stLo us (sumF (rowV n cs at') n) (opV n cs at' n) (n * n)).2 = 0) && (decide ((stLo us (sumF (rowV n cs at') n) (opV n cs at' n) (n * n)).1 ≤ constOf n) && decide (constOf n ≤ (stHi n us (sumF (rowV n cs at') n) (opV n cs at' n) (n * n)).1))
noncomputable def cpFt : CPT := cpAdd 72 (pureCC ConstantP) noC
theorem cpFt_ok : CPOK Try.prog cpFt := cpAdd_ok (pureCC_ok Constant_ok) noC_ok
theorem fits_spec (n : Nat) (cs : List Int) (us : List Bool) (at' : Nat) (hn : 3 ≤ n ∧ n ≤ 6) (hc : cs.length = n * n) (hu : us.length = n * n + 1) (hv : ∀ x ∈ cs, 0 ≤ x ∧ x ≤ 100) (ha : at' ≤ 10) :
    LSpec Try.prog 136 [.agg [.int .i64 n, .int .i64 n, .rsl 0 0 (n * n)], .rsl 1 0 (n * n + 1), .int .i64 at'] [.cells (.ints .i64 cs) false, .cells (.bools us) false] [.bp (fitsB n cs us at')] [.cells (.ints .i64 cs) false, .cells (.bools us) false] := by
  have hnn := mul_bd (A := 6) (B := 6) (show 0 ≤ (n : Int) ∧ (n : Int) ≤ 6 by omega) (show 0 ≤ (n : Int) ∧ (n : Int) ≤ 6 by omega)
  have hnN : ((n * n : Nat) : Int) = (n : Int) * n := by push_cast; rfl
  refine lspec_of (md := 0) (rf := []) mixed tabOK cpFt_ok 2 [] Try.func136 (by rfl) (by rfl) (by rfl) ?_
  repeat' (first | ((conv => whnf); refine And.intro ?_ ?_) | ((conv => whnf); with_reducible exact VC.mk rfl) | ((conv => whnf); exact Ok.mk) | ((conv => whnf); exact True.intro) | ((conv => whnf); refine Nx.mk ?_) | ((conv => whnf); refine Fin.mk ?_) | ((conv => whnf); intro _))
  all_goals ((try refine VC.mk ?_); (try simp only [CL.ncell, CL.cnt, Int.toNat_natCast, decide_eq_true_eq, decide_eq_false_iff_not, Bool.not_eq_true, Bool.not_false, Bool.not_true, and_self, and_true, true_and, te3b, te4b, te3s, te4s, Nat.mul_one, Nat.zero_add, List.length_cons, List.length_nil, Bool.false_eq_true, Bool.true_eq_false] at *); (try omega))
  conv => whnf
  refine loop_of (X := Nat) (fun k => k ≤ n) (fun k => [(10, .int .i64 k), (8, .int .i64 (sumF (rowV n cs at') k)), (9, .int .i64 (opV n cs at' k))]) (fun k => []) (fun k => n - k) 0 ⟨anyB_ok, mixed, tabOK, cpFt_ok, noY_ok⟩ (by rfl) (by omega) ?_ ?_
  · repeat' (first | ((conv => whnf); refine And.intro ?_ ?_) | ((conv => whnf); with_reducible exact VC.mk rfl) | ((conv => whnf); exact Ok.mk) | ((conv => whnf); exact True.intro) | ((conv => whnf); refine Nx.mk ?_) | ((conv => whnf); refine Fin.mk ?_) | ((conv => whnf); intro _))
    all_goals ((try refine VC.mk ?_); (try simp only [CL.ncell, CL.cnt, Int.toNat_natCast, decide_eq_true_eq, decide_eq_false_iff_not, Bool.not_eq_true, Bool.not_false, Bool.not_true, and_self, and_true, true_and, te3b, te4b, te3s, te4s, Nat.mul_one, Nat.zero_add, List.length_cons, List.length_nil, Bool.false_eq_true, Bool.true_eq_false] at *); (try omega))
    all_goals (try rfl)
  intro k hk
  have hcb : ∀ i : Nat, 0 ≤ cs.getD i 0 ∧ cs.getD i 0 ≤ 100 := fun i => getD_bd hv i (by omega)
  have hrb : ∀ i : Nat, 0 ≤ rowV n cs at' i ∧ rowV n cs at' i ≤ 100 := fun i => by unfold rowV; split <;> exact hcb _
  have s0 := sumF_nonneg (f := rowV n cs at') (n := k) (fun i _ => (hrb i).1)
  have s1 := sumF_le (f := rowV n cs at') (B := 100) (n := k) (fun i _ => (hrb i).2)
  have o1 := opV_le n cs at' k
  by_cases hlt : k < n
  · have k1 : (k : Int) * n = ((k * n : Nat) : Int) := by push_cast; rfl
    have k2 : k * n + n ≤ n * n := by have := Nat.mul_le_mul_right n (show k + 1 ≤ n by omega); rw [Nat.add_mul] at this; omega
    have k3 := hcb k
    have k4 := hcb (k * n)
    have e1 : opV n cs at' (k + 1) = if rowV n cs at' k = 0 then opV n cs at' k + 1 else opV n cs at' k := rfl
    have e2 : sumF (rowV n cs at') (k + 1) = sumF (rowV n cs at') k + rowV n cs at' k := rfl
    have e3 : rowV n cs at' k = if n ≤ at' then cs.getD (k * n) 0 else cs.getD k 0 := rfl
    clear hcb hrb hv
    repeat' (first | ((conv => whnf); refine And.intro ?_ ?_) | ((conv => whnf); with_reducible exact VC.mk rfl) | ((conv => whnf); exact Ok.mk) | ((conv => whnf); exact True.intro) | ((conv => whnf); refine Nx.mk ?_) | ((conv => whnf); refine Fin.mk ?_) | ((conv => whnf); intro hq; (try simp only [decide_eq_true_eq, decide_eq_false_iff_not, Bool.not_eq_true, Bool.not_eq_false, Bool.not_eq_true', Bool.not_eq_false', Bool.not_true, Bool.not_false, ite_true, ite_false] at hq); (try (exfalso; first | exact absurd hq (by decide) | omega))))
    all_goals ((try refine VC.mk ?_); (try simp only [CL.ncell, CL.cnt, Int.toNat_natCast, decide_eq_true_eq, decide_eq_false_iff_not, Bool.not_eq_true, Bool.not_false, Bool.not_true, and_self, and_true, true_and, te3b, te4b, te3s, te4s, Nat.mul_one, Nat.zero_add, List.length_cons, List.length_nil, Bool.false_eq_true, Bool.true_eq_false] at *); (try omega))
    all_goals (try simp only [k1, Int.toNat_natCast] at *)
    all_goals (try omega)
    all_goals (refine ⟨k + 1, [], ⟨by omega, by omega⟩, ?_⟩)
    all_goals (first | rw [if_pos (by omega)] at e3 | rw [if_neg (by omega)] at e3)
    all_goals (rw [e3] at e1 e2)
    all_goals (first | rw [if_pos (by assumption)] at e1 | rw [if_neg (by assumption)] at e1)
    all_goals repeat' (first | ((conv => whnf); refine And.intro ?_ ?_) | ((conv => whnf); with_reducible exact VC.mk rfl) | ((conv => whnf); exact Ok.mk) | ((conv => whnf); exact True.intro) | ((conv => whnf); refine Nx.mk ?_) | ((conv => whnf); refine Fin.mk ?_) | ((conv => whnf); intro _))
    all_goals ((try refine VC.mk ?_); (try simp only [CL.ncell, CL.cnt, Int.toNat_natCast, decide_eq_true_eq, decide_eq_false_iff_not, Bool.not_eq_true, Bool.not_false, Bool.not_true, and_self, and_true, true_and, te3b, te4b, te3s, te4s, Nat.mul_one, Nat.zero_add, List.length_cons, List.length_nil, Bool.false_eq_true, Bool.true_eq_false] at *); (try omega))
    all_goals first | (rw [e1]; push_cast; rfl) | (rw [e2]) | skip
  have : n = k := by omega
  subst this
  obtain ⟨S, hS⟩ : ∃ S, S = sumF (rowV n cs at') n := ⟨_, rfl⟩
  obtain ⟨o, ho⟩ : ∃ o, o = opV n cs at' n := ⟨_, rfl⟩
  unfold fitsB
  rw [← hS] at s0 s1 ⊢
  rw [← ho] at o1 ⊢
  clear hcb hrb hv
  repeat' (first | ((conv => whnf); refine And.intro ?_ ?_) | ((conv => whnf); with_reducible exact VC.mk rfl) | ((conv => whnf); exact Ok.mk) | ((conv => whnf); exact True.intro) | ((conv => whnf); refine Nx.mk ?_) | ((conv => whnf); refine Fin.mk ?_) | ((conv => whnf); intro hq; (try simp only [decide_eq_true_eq, decide_eq_false_iff_not, Bool.not_eq_true, Bool.not_eq_false, Bool.not_eq_true', Bool.not_eq_false', Bool.not_true, Bool.not_false, ite_true, ite_false] at hq); (try (exfalso; first | exact absurd hq (by decide) | omega))))
  all_goals ((try refine VC.mk ?_); (try simp only [CL.ncell, CL.cnt, Int.toNat_natCast, decide_eq_true_eq, decide_eq_false_iff_not, Bool.not_eq_true, Bool.not_false, Bool.not_true, and_self, and_true, true_and, te3b, te4b, te3s, te4s, Nat.mul_one, Nat.zero_add, List.length_cons, List.length_nil, Bool.false_eq_true, Bool.true_eq_false] at *); (try omega))
  all_goals (try (exfalso; omega))
  all_goals (try omega)
  conv => whnf
  refine loop_of (X := Nat) (fun t => t ≤ n * n) (fun t => [(16, .int .i64 ((t + 1 : Nat) : Int)), (12, .int .i64 (stLo us S o t).1), (14, .int .i64 ((stLo us S o t).2 : Int)), (13, .int .i64 (stHi n us S o t).1), (15, .int .i64 ((stHi n us S o t).2 : Int))]) (fun t => []) (fun t => n * n - t) 0 ⟨anyB_ok, mixed, tabOK, cpFt_ok, noY_ok⟩ (by rfl) (by omega) ?_ ?_
  · repeat' (first | ((conv => whnf); refine And.intro ?_ ?_) | ((conv => whnf); with_reducible exact VC.mk rfl) | ((conv => whnf); exact Ok.mk) | ((conv => whnf); exact True.intro) | ((conv => whnf); refine Nx.mk ?_) | ((conv => whnf); refine Fin.mk ?_) | ((conv => whnf); intro _))
    all_goals ((try refine VC.mk ?_); (try simp only [CL.ncell, CL.cnt, Int.toNat_natCast, decide_eq_true_eq, decide_eq_false_iff_not, Bool.not_eq_true, Bool.not_false, Bool.not_true, and_self, and_true, true_and, te3b, te4b, te3s, te4s, Nat.mul_one, Nat.zero_add, List.length_cons, List.length_nil, Bool.false_eq_true, Bool.true_eq_false] at *); (try omega))
    all_goals (try rfl)
  intro t ht
  have l1 := stLo_bd us S o (by omega) t (by omega)
  have l2 := stHi_bd n us S o hn.2 (by omega) t (by omega)
  by_cases hlt : t < n * n
  · have e1 : stLo us S o (t + 1) = if 0 < (stLo us S o t).2 ∧ us.getD (t + 1) false = false then ((stLo us S o t).1 + (t + 1 : Nat), (stLo us S o t).2 - 1) else stLo us S o t := rfl
    have e2 : stHi n us S o (t + 1) = if 0 < (stHi n us S o t).2 ∧ us.getD (n * n + 1 - (t + 1)) false = false then ((stHi n us S o t).1 + (n * n + 1 - (t + 1) : Nat), (stHi n us S o t).2 - 1) else stHi n us S o t := rfl
    have k1 : (n : Int) * n + 1 - ((t + 1 : Nat) : Int) = ((n * n + 1 - (t + 1) : Nat) : Int) := by omega
    have k2 : ∀ z : Int, z + (n : Int) * n + 1 - ((t + 1 : Nat) : Int) = z + ((n * n + 1 - (t + 1) : Nat) : Int) := fun z => by omega
    generalize stLo us S o t = A at *
    generalize stHi n us S o t = B at *
    obtain ⟨A1, A2⟩ := A
    obtain ⟨B1, B2⟩ := B
    simp only at e1 e2 l1 l2 ⊢
    repeat' (first | ((conv => whnf); refine And.intro ?_ ?_) | ((conv => whnf); with_reducible exact VC.mk rfl) | ((conv => whnf); exact Ok.mk) | ((conv => whnf); exact True.intro) | ((conv => whnf); refine Nx.mk ?_) | ((conv => whnf); refine Fin.mk ?_) | ((conv => whnf); intro hq; (try simp only [decide_eq_true_eq, decide_eq_false_iff_not, Bool.not_eq_true, Bool.not_eq_false, Bool.not_eq_true', Bool.not_eq_false', Bool.not_true, Bool.not_false, ite_true, ite_false] at hq); (try (exfalso; first | exact absurd hq (by decide) | omega))))
    all_goals ((try refine VC.mk ?_); (try simp only [CL.ncell, CL.cnt, Int.toNat_natCast, decide_eq_true_eq, decide_eq_false_iff_not, Bool.not_eq_true, Bool.not_false, Bool.not_true, and_self, and_true, true_and, te3b, te4b, te3s, te4s, Nat.mul_one, Nat.zero_add, List.length_cons, List.length_nil, Bool.false_eq_true, Bool.true_eq_false] at *); (try omega))
    all_goals (try simp only [k1, k2, Int.toNat_natCast] at *)
    all_goals (try omega)
    all_goals (refine ⟨t + 1, [], ⟨by omega, by omega⟩, ?_⟩)
    all_goals repeat' (first | ((conv => whnf); refine And.intro ?_ ?_) | ((conv => whnf); with_reducible exact VC.mk rfl) | ((conv => whnf); exact Ok.mk) | ((conv => whnf); exact True.intro) | ((conv => whnf); refine Nx.mk ?_) | ((conv => whnf); refine Fin.mk ?_) | ((conv => whnf); intro _))
    all_goals ((try refine VC.mk ?_); (try simp only [CL.ncell, CL.cnt, Int.toNat_natCast, decide_eq_true_eq, decide_eq_false_iff_not, Bool.not_eq_true, Bool.not_false, Bool.not_true, and_self, and_true, true_and, te3b, te4b, te3s, te4s, Nat.mul_one, Nat.zero_add, List.length_cons, List.length_nil, Bool.false_eq_true, Bool.true_eq_false] at *); (try omega))
    all_goals (first | rw [e1] | rw [e2])
    all_goals (split <;> rename_i hc <;> first | rfl | ((try simp only); omega) | (exact absurd ⟨by omega, by assumption⟩ hc) | (exfalso; have hc1 := hc.1; omega) | (exfalso; have hc2 := hc.2; first | (rw [hc2] at hq; cases hq) | (simp_all; done)))
  · have : n * n = t := by omega
    rw [this]
    repeat' (first | ((conv => whnf); refine And.intro ?_ ?_) | ((conv => whnf); with_reducible exact VC.mk rfl) | ((conv => whnf); exact Ok.mk) | ((conv => whnf); exact True.intro) | ((conv => whnf); refine Nx.mk ?_) | ((conv => whnf); refine Fin.mk ?_) | ((conv => whnf); intro hq; (try simp only [decide_eq_true_eq, decide_eq_false_iff_not, Bool.not_eq_true, Bool.not_eq_false, Bool.not_eq_true', Bool.not_eq_false', Bool.not_true, Bool.not_false, ite_true, ite_false] at hq); (try (exfalso; first | exact absurd hq (by decide) | omega))))
    all_goals ((try refine VC.mk ?_); (try simp only [CL.ncell, CL.cnt, Int.toNat_natCast, decide_eq_true_eq, decide_eq_false_iff_not, Bool.not_eq_true, Bool.not_false, Bool.not_true, and_self, and_true, true_and, te3b, te4b, te3s, te4s, Nat.mul_one, Nat.zero_add, List.length_cons, List.length_nil, Bool.false_eq_true, Bool.true_eq_false] at *); (try omega))
    all_goals first
      | (rw [decide_eq_true (show (stLo us S o t).2 = 0 by omega), decide_eq_true (show (stLo us S o t).1 ≤ constOf n by assumption)]; rfl)
      | (rw [decide_eq_false (show ¬ (stLo us S o t).1 ≤ constOf n by assumption), Bool.false_and, Bool.and_false])
      | (rw [decide_eq_false (show ¬ (stLo us S o t).2 = 0 by omega), Bool.false_and])
def fitsL : LSp := fun xs objs K => match xs, objs with
  | [.agg [.int .i64 n, .int .i64 n', .rsl 0 0 N], .rsl 1 0 M, .int .i64 a], [.cells (.ints .i64 cs) false, .cells (.bools us) false] =>
    VC ((3 ≤ n ∧ n ≤ 6) ∧ n' = n ∧ (N = n.toNat * n.toNat ∧ M = n.toNat * n.toNat + 1) ∧ (cs.length = n.toNat * n.toNat ∧ us.length = n.toNat * n.toNat + 1) ∧ (∀ x ∈ cs, 0 ≤ x ∧ x ≤ 100) ∧ 0 ≤ a ∧ a ≤ 10) ∧ K [.bp (fitsB n.toNat cs us a.toNat)] [.cells (.ints .i64 cs) false, .cells (.bools us) false]
  | _, _ => False
theorem fitsL_ok : LOK Try.prog 136 fitsL := by
  intro xs objs K h
  unfold fitsL at h
  split at h
  · rename_i n n' N M a cs us
    obtain ⟨⟨h1, rfl, ⟨rfl, rfl⟩, ⟨h4, h5⟩, h6, h7⟩, hK⟩ := h
    obtain ⟨m, rfl⟩ : ∃ m : Nat, n' = m := ⟨n'.toNat, by omega⟩
    obtain ⟨b, rfl⟩ : ∃ b : Nat, a = b := ⟨a.toNat, by omega⟩
    simp only [Int.toNat_natCast] at *
    exact ⟨_, _, hK, fits_spec m cs us b (by omega) h4 h5 h6 (by omega)⟩
  · exact h.elim
end Go.Eng.Ytppflbccfdbogaa
namespace Go.Eng.Ytppflbccfdbogaa
open Go.Proofs
set_option maxRecDepth 100000
set_option maxHeartbeats 0
set_option linter.unusedVariables false
set_option linter.unusedSimpArgs false
theorem getD_app {l r : List Int} {i : Nat} (h : i < l.length) : (l ++ r).getD i 0 = l.getD i 0 := by
  simp only [List.getD_eq_getElem?_getD, List.getElem?_append_left h]
/-! walks over numbers that are free -/
def wk (S : Int) (o : Nat) (l : List Nat) : Int × Nat := l.foldl (fun (a : Int × Nat) (x : Nat) => if 0 < a.2 then (a.1 + (x : Int), a.2 - 1) else a) (S, o)
def castI (l : List Nat) : List Int := l.map (fun (x : Nat) => (x : Int))
theorem wk_eq : ∀ (l : List Nat) (S : Int) (o : Nat), wk S o l = (S + ((castI l).take o).sum, o - l.length) := by
  intro l
  induction l with
  | nil => intro S o; simp [wk, castI]
  | cons x l ih =>
    intro S o
    have e : wk S o (x :: l) = wk (if 0 < o then (S + (x : Int), o - 1) else (S, o)).1 (if 0 < o then (S + (x : Int), o - 1) else (S, o)).2 l := rfl
    rw [e, ih]
    cases o with
    | zero => simp
    | succ o => simp [castI]; omega
theorem stLo_wk (us : List Bool) (S : Int) (o : Nat) : ∀ t, stLo us S o t = wk S o ((List.range' 1 t).filter (fun x => us.getD x false == false)) := by
  intro t
  induction t with
  | zero => rfl
  | succ t ih =>
    rw [List.range'_concat, List.filter_append]
    simp only [wk, List.foldl_append] at ih ⊢
    rw [← ih]
    simp only [stLo, Nat.one_mul, Nat.add_comm 1 t, List.filter_cons, List.filter_nil]
    generalize us.getD (t + 1) false = b
    cases b <;> simp
theorem stHi_wk (n : Nat) (us : List Bool) (S : Int) (o : Nat) : ∀ t, stHi n us S o t = wk S o (((List.range' 1 t).map (fun x => n * n + 1 - x)).filter (fun x => us.getD x false == false)) := by
  intro t
  induction t with
  | zero => rfl
  | succ t ih =>
    rw [List.range'_concat, List.map_append, List.filter_append]
    simp only [wk, List.foldl_append] at ih ⊢
    rw [← ih]
    simp only [stHi, Nat.one_mul, Nat.add_comm 1 t, List.map_cons, List.map_nil, List.filter_cons, List.filter_nil]
    generalize us.getD (n * n + 1 - (t + 1)) false = b
    cases b <;> simp
theorem rev_range (N : Nat) : (List.range' 1 N).map (fun x => N + 1 - x) = (List.range' 1 N).reverse := by
  refine List.ext_getElem (by simp) fun i h1 h2 => ?_
  simp at h1
  simp [List.getElem_reverse]
  omega
theorem loS_take (l : List Int) : ∀ c, loS l c = (l.take c).sum := by
  intro c
  induction c with
  | zero => simp [loS]
  | succ c ih =>
    rw [List.take_add_one, List.sum_append, ← ih]
    simp only [loS, List.getD_eq_getElem?_getD]
    cases l[c]? <;> simp
theorem hiS_take (l : List Int) : ∀ c, c ≤ l.length → hiS l c = (l.reverse.take c).sum := by
  intro c
  induction c with
  | zero => simp [hiS]
  | succ c ih =>
    intro hc
    rw [List.take_add_one, List.sum_append, ← ih (by omega)]
    simp only [hiS, List.getD_eq_getElem?_getD, List.getElem?_reverse (show c < l.length by omega)]
    cases l[l.length - 1 - c]? <;> simp
/-! the marks -/
def usI (n : Nat) (us : List Bool) : List Bool := (List.range (n * n + 1)).map (fun x => decide (1 ≤ x) && !leftB n us x)
theorem usI_len (n : Nat) (us : List Bool) : (usI n us).length = n * n + 1 := by simp [usI]
theorem usI_get {n : Nat} (us : List Bool) {x : Nat} (h1 : 1 ≤ x) (h2 : x ≤ n * n) : (usI n us).getD x false = !leftB n us x := by
  simp [usI, List.getD_eq_getElem?_getD, List.getElem?_map, List.getElem?_range (show x < n * n + 1 by omega), h1]
theorem usI_mark {n : Nat} (hn : 2 ≤ n) {us : List Bool} (hl : us.length = n * n + 1) {x : Int} (hx : 1 ≤ x ∧ x ≤ n * n) (hb : bordB n x.toNat = true) (b : Bool) : markF n (usI n us) x b = usI n (markF n us x b) := by
  obtain ⟨k, rfl⟩ : ∃ k : Nat, x = k := ⟨x.toNat, by omega⟩
  have h2 : k ≤ n * n := by exact_mod_cast hx.2
  simp only [Int.toNat_natCast] at hb
  obtain ⟨c1, c2⟩ := bordB_comp hn (by omega) h2 hb
  refine List.ext_getElem (by simp [markF, usI_len]) fun i h1 h3 => ?_
  have e1 := getD_markF (usI_len n us) (by omega : 1 ≤ k) h2 b i
  have e2 := getD_markF hl (by omega : 1 ≤ k) h2 b i
  have hi : i < n * n + 1 := by simpa [usI_len] using h3
  rw [List.getD_eq_getElem?_getD, List.getElem?_eq_getElem h1, Option.getD_some] at e1
  rw [e1]
  have e3 : (usI n (markF n us (k : Int) b))[i] = (decide (1 ≤ i) && !leftB n (markF n us (k : Int) b) i) := by simp [usI]
  rw [e3]
  unfold leftB
  rw [e2]
  by_cases c : i = k ∨ i = n * n + 1 - k
  · rw [if_pos c, if_pos c]
    have : bordB n i = true := by rcases c with rfl | rfl <;> assumption
    rw [this]; simp; omega
  · rw [if_neg c, if_neg c]
    simp [usI, List.getD_eq_getElem?_getD, List.getElem?_map, List.getElem?_range hi, leftB]
theorem filt_usI {n : Nat} (us : List Bool) : (List.range' 1 (n * n)).filter (fun x => (usI n us).getD x false == false) = (List.range' 1 (n * n)).filter (leftB n us) := by
  refine List.filter_congr fun x hx => ?_
  rw [List.mem_range'_1] at hx
  rw [usI_get us (by omega) (by omega)]
  cases leftB n us x <;> rfl
theorem stLo_eq {n : Nat} (us : List Bool) (S : Int) (o : Nat) : stLo (usI n us) S o (n * n) = (S + loS (numsN n us) o, o - (numsN n us).length) := by
  rw [stLo_wk, filt_usI, wk_eq, loS_take]
  simp [numsN, numsF, castI]
theorem stHi_eq {n : Nat} (us : List Bool) (S : Int) (o : Nat) (ho : o ≤ (numsN n us).length) : (stHi n (usI n us) S o (n * n)).1 = S + hiS (numsN n us) o := by
  rw [stHi_wk, rev_range, List.filter_reverse, filt_usI, wk_eq, hiS_take _ _ ho]
  simp [numsN, numsF, castI, List.map_reverse]
/-! the cells -/
def posN (n t : Nat) : Nat := if n ≤ t then (t + 1 - n) * n else t
def oppN (n t : Nat) : Nat := if n ≤ t then (t + 1 - n) * n + (n - 1) else if t = 0 ∨ t = n - 1 then n * n - 1 - t else (n - 1) * n + t
def fillC (n : Nat) (g cs : List Int) : Nat → List Int
  | 0 => g
  | t + 1 => ((fillC n g cs t).set (posN n t) (cs.getD t 0)).set (oppN n t) ((n : Int) * n + 1 - cs.getD t 0)
theorem fillC_len (n : Nat) (g cs : List Int) : ∀ t, (fillC n g cs t).length = g.length := by
  intro t
  induction t with
  | zero => rfl
  | succ t ih => simp [fillC, ih]
theorem fillC_app (n : Nat) (g cs : List Int) (x : Int) : ∀ t, t ≤ cs.length → fillC n g (cs ++ [x]) t = fillC n g cs t := by
  intro t
  induction t with
  | zero => intro _; rfl
  | succ t ih => intro h; simp only [fillC]; rw [ih (by omega), getD_app (by omega)]
theorem fillC_succ (n : Nat) (g cs : List Int) (x : Int) : fillC n g (cs ++ [x]) (cs.length + 1) = ((fillC n g cs cs.length).set (posN n cs.length) x).set (oppN n cs.length) ((n : Int) * n + 1 - x) := by
  simp only [fillC]
  rw [fillC_app n g cs x _ (Nat.le_refl _)]
  simp [List.getD_eq_getElem?_getD]
def idxC (n r c : Nat) : Nat × Bool :=
  if r = 0 then (c, false)
  else if r = n - 1 then (if c = 0 then (n - 1, true) else if c = n - 1 then (0, true) else (c, true))
  else if c = 0 then (n + r - 1, false) else if c = n - 1 then (n + r - 1, true) else (1000, false)
def valC (n : Nat) (g : Int) (cs : List Int) (t r c : Nat) : Int :=
  if (idxC n r c).1 < t then (if (idxC n r c).2 then (n : Int) * n + 1 - cs.getD (idxC n r c).1 0 else cs.getD (idxC n r c).1 0) else g
def idxB (n r c t : Nat) : Bool := (decide (oppN n t = r * n + c) == (idxC n r c == (t, true))) && (decide (posN n t = r * n + c) == (idxC n r c == (t, false))) && decide (posN n t < n * n) && decide (oppN n t < n * n)
theorem idx_all' : ∀ m, m < 4 → ∀ r, r < m + 3 → ∀ c, c < m + 3 → ∀ t, t < 2 * (m + 3) - 2 → idxB (m + 3) r c t = true := by decide +kernel
theorem idx_all {n : Nat} (hn : 3 ≤ n ∧ n ≤ 6) {r c t : Nat} (hr : r < n) (hc : c < n) (ht : t < 2 * n - 2) : (oppN n t = r * n + c ↔ idxC n r c = (t, true)) ∧ (posN n t = r * n + c ↔ idxC n r c = (t, false)) ∧ posN n t < n * n ∧ oppN n t < n * n := by
  obtain ⟨m, rfl⟩ : ∃ m, n = m + 3 := ⟨n - 3, by omega⟩
  have h := idx_all' m (by omega) r hr c hc t ht
  unfold idxB at h
  simp only [Bool.and_eq_true, decide_eq_true_eq] at h
  obtain ⟨⟨⟨h1, h2⟩, h3⟩, h4⟩ := h
  refine ⟨?_, ?_, h3, h4⟩
  · by_cases e : oppN (m + 3) t = r * (m + 3) + c
    · simpa [e] using h1
    · simpa [e] using h1
  · by_cases e : posN (m + 3) t = r * (m + 3) + c
    · simpa [e] using h2
    · simpa [e] using h2
theorem getD_set2 {l : List Int} {p q i : Nat} {a b : Int} (hp : p < l.length) (hq : q < l.length) : ((l.set p a).set q b).getD i 0 = if q = i then b else if p = i then a else l.getD i 0 := by
  simp only [List.getD_eq_getElem?_getD, List.getElem?_set, List.length_set]
  by_cases h1 : q = i
  · subst h1; simp [hq]
  · by_cases h2 : p = i
    · subst h2; simp [h1, hp]
    · simp [h1, h2]
theorem fillC_get {n : Nat} (hn : 3 ≤ n ∧ n ≤ 6) (g cs : List Int) (hg : g.length = n * n) (r c : Nat) (hr : r < n) (hc : c < n) : ∀ t, t ≤ 2 * n - 2 → (fillC n g cs t).getD (r * n + c) 0 = valC n (g.getD (r * n + c) 0) cs t r c := by
  intro t
  induction t with
  | zero => intro _; unfold valC fillC; simp
  | succ t ih =>
    intro ht
    have ih := ih (by omega)
    have hl := fillC_len n g cs t
    obtain ⟨i1, i2, i3, i4⟩ := idx_all hn hr hc (show t < 2 * n - 2 by omega)
    simp only [fillC]
    rw [getD_set2 (by rw [hl, hg]; exact i3) (by rw [hl, hg]; exact i4), ih]
    clear ih hl
    unfold valC
    generalize idxC n r c = p at *
    obtain ⟨k, b⟩ := p
    simp only [Prod.mk.injEq] at i1 i2 ⊢
    by_cases h1 : oppN n t = r * n + c
    · obtain ⟨rfl, rfl⟩ := i1.1 h1
      rw [if_pos h1]; simp
    · rw [if_neg h1]
      by_cases h2 : posN n t = r * n + c
      · obtain ⟨rfl, rfl⟩ := i2.1 h2
        rw [if_pos h2]; simp
      · rw [if_neg h2]
        have : k ≠ t := fun e => by cases b with
          | true => exact h1 (i1.2 ⟨e, rfl⟩)
          | false => exact h2 (i2.2 ⟨e, rfl⟩)
        by_cases h3 : k < t
        · rw [if_pos h3, if_pos (show k < t + 1 by omega)]
        · rw [if_neg h3, if_neg (show ¬ k < t + 1 by omega)]
/-! the first row and the first column -/
def psum (cs : List Int) (k : Nat) : Int := sumF (fun i => cs.getD i 0) k
structure GZ (n : Nat) (g : List Int) : Prop where
  len : g.length = n * n
  zr : ∀ c, c < n → g.getD c 0 = 0
  zc : ∀ r, r < n → g.getD (r * n) 0 = 0
theorem row_get {n : Nat} (hn : 3 ≤ n ∧ n ≤ 6) {g : List Int} (hg : GZ n g) (cs : List Int) (t : Nat) (ht : t ≤ 2 * n - 2) (c : Nat) (hc : c < n) : (fillC n g cs t).getD c 0 = if c < t then cs.getD c 0 else 0 := by
  have := fillC_get hn g cs hg.len 0 c (by omega) hc t ht
  rw [Nat.zero_mul, Nat.zero_add, hg.zr c hc] at this
  rw [this]; rfl
theorem col_get {n : Nat} (hn : 3 ≤ n ∧ n ≤ 6) {g : List Int} (hg : GZ n g) (cs : List Int) (t : Nat) (ht : t ≤ 2 * n - 2) (r : Nat) (hr : r < n) : (fillC n g cs t).getD (r * n) 0 = if r = 0 then (if 0 < t then cs.getD 0 0 else 0) else if r = n - 1 then (if n - 1 < t then (n : Int) * n + 1 - cs.getD (n - 1) 0 else 0) else if n + r - 1 < t then cs.getD (n + r - 1) 0 else 0 := by
  have := fillC_get hn g cs hg.len r 0 hr (by omega) t ht
  rw [Nat.add_zero, hg.zc r hr] at this
  rw [this]
  unfold valC idxC
  by_cases h1 : r = 0
  · simp [h1]
  · by_cases h2 : r = n - 1
    · rw [if_neg h1, if_pos h2, if_pos rfl, if_neg h1, if_pos h2]; rfl
    · rw [if_neg h1, if_neg h2, if_pos rfl, if_neg h1, if_neg h2]; rfl
theorem row_sums {n : Nat} (hn : 3 ≤ n ∧ n ≤ 6) {g : List Int} (hg : GZ n g) {cs : List Int} (hp : ∀ i, i < cs.length → 1 ≤ cs.getD i 0) {at' : Nat} (ha : at' < n) (hl : cs.length = at' + 1) : ∀ k, k ≤ n → sumF (rowV n (fillC n g cs (at' + 1)) at') k = psum cs (min k (at' + 1)) ∧ opV n (fillC n g cs (at' + 1)) at' k = k - (at' + 1) := by
  intro k
  induction k with
  | zero => intro _; exact ⟨by simp [sumF, psum], by simp [opV]⟩
  | succ k ih =>
    intro hk
    obtain ⟨i1, i2⟩ := ih (by omega)
    have hv : rowV n (fillC n g cs (at' + 1)) at' k = if k < at' + 1 then cs.getD k 0 else 0 := by
      unfold rowV; rw [if_neg (by omega)]; exact row_get hn hg cs _ (by omega) k (by omega)
    simp only [sumF, opV]
    rw [i1, i2, hv]
    by_cases h : k < at' + 1
    · have := hp k (by omega)
      rw [if_pos h, Nat.min_eq_left (by omega), Nat.min_eq_left (by omega), if_neg (by omega)]
      exact ⟨rfl, by omega⟩
    · rw [if_neg h, Nat.min_eq_right (by omega), Nat.min_eq_right (by omega), if_pos rfl]
      exact ⟨by omega, by omega⟩
def colS (n : Nat) (cs : List Int) : Int := cs.getD 0 0 + ((n : Int) * n + 1 - cs.getD (n - 1) 0)
theorem col_sums {n : Nat} (hn : 3 ≤ n ∧ n ≤ 6) {g : List Int} (hg : GZ n g) {cs : List Int} (hp : ∀ i, i < cs.length → 1 ≤ cs.getD i 0 ∧ cs.getD i 0 ≤ n * n) {at' : Nat} (ha : n ≤ at') (ha2 : at' ≤ 2 * n - 3) (hl : cs.length = at' + 1) : ∀ k, k ≤ n - 2 → sumF (rowV n (fillC n g cs (at' + 1)) at') (k + 1) = cs.getD 0 0 + (psum cs (min (n + k) (at' + 1)) - psum cs n) ∧ opV n (fillC n g cs (at' + 1)) at' (k + 1) = n + k - (at' + 1) := by
  have h0 : rowV n (fillC n g cs (at' + 1)) at' 0 = cs.getD 0 0 := by
    unfold rowV; rw [if_pos ha, col_get hn hg cs _ (by omega) 0 (by omega), if_pos rfl, if_pos (by omega)]
  intro k
  induction k with
  | zero =>
    intro _
    have := hp 0 (by omega)
    refine ⟨?_, ?_⟩
    · simp only [sumF]; rw [h0, Nat.min_eq_left (by omega)]; simp
    · simp only [opV]; rw [h0, if_neg (by omega)]; omega
  | succ k ih =>
    intro hk
    obtain ⟨i1, i2⟩ := ih (by omega)
    have hv : rowV n (fillC n g cs (at' + 1)) at' (k + 1) = if n + k < at' + 1 then cs.getD (n + k) 0 else 0 := by
      unfold rowV; rw [if_pos ha, col_get hn hg cs _ (by omega) (k + 1) (by omega), if_neg (by omega), if_neg (by omega)]; rfl
    have e1 : sumF (rowV n (fillC n g cs (at' + 1)) at') (k + 1 + 1) = sumF (rowV n (fillC n g cs (at' + 1)) at') (k + 1) + rowV n (fillC n g cs (at' + 1)) at' (k + 1) := rfl
    have e2 : opV n (fillC n g cs (at' + 1)) at' (k + 1 + 1) = if rowV n (fillC n g cs (at' + 1)) at' (k + 1) = 0 then opV n (fillC n g cs (at' + 1)) at' (k + 1) + 1 else opV n (fillC n g cs (at' + 1)) at' (k + 1) := rfl
    rw [e1, e2, i1, i2, hv]
    by_cases h : n + k < at' + 1
    · have := hp (n + k) (by omega)
      rw [if_pos h, Nat.min_eq_left (by omega), Nat.min_eq_left (by omega), if_neg (by omega)]
      have e3 : psum cs (n + (k + 1)) = psum cs (n + k) + cs.getD (n + k) 0 := rfl
      exact ⟨by rw [e3]; omega, by omega⟩
    · rw [if_neg h, Nat.min_eq_right (by omega), Nat.min_eq_right (by omega), if_pos rfl]
      exact ⟨by omega, by omega⟩
theorem col_all {n : Nat} (hn : 3 ≤ n ∧ n ≤ 6) {g : List Int} (hg : GZ n g) {cs : List Int} (hp : ∀ i, i < cs.length → 1 ≤ cs.getD i 0 ∧ cs.getD i 0 ≤ n * n) {at' : Nat} (ha : n ≤ at') (ha2 : at' ≤ 2 * n - 3) (hl : cs.length = at' + 1) : sumF (rowV n (fillC n g cs (at' + 1)) at') n = colS n cs + (psum cs (at' + 1) - psum cs n) ∧ opV n (fillC n g cs (at' + 1)) at' n = 2 * n - 3 - at' := by
  obtain ⟨i1, i2⟩ := col_sums hn hg hp ha ha2 hl (n - 2) (by omega)
  rw [show n - 2 + 1 = n - 1 by omega] at i1 i2
  have hv : rowV n (fillC n g cs (at' + 1)) at' (n - 1) = (n : Int) * n + 1 - cs.getD (n - 1) 0 := by
    unfold rowV; rw [if_pos ha, col_get hn hg cs _ (by omega) (n - 1) (by omega), if_neg (by omega), if_pos rfl, if_pos (by omega)]
  have := hp (n - 1) (by omega)
  obtain ⟨m, rfl⟩ : ∃ m, n = m + 1 := ⟨n - 1, by omega⟩
  rw [show m + 1 - 1 = m by omega] at *
  simp only [sumF, opV]
  rw [i1, i2, hv, if_neg (by omega), Nat.min_eq_right (by omega)]
  unfold colS
  rw [show m + 1 - 1 = m by omega]
  exact ⟨by omega, by omega⟩
def accS (n : Nat) (cs : List Int) : Int := if cs.length ≤ n then psum cs cs.length else colS n cs + (psum cs cs.length - psum cs n)
structure InvL (n : Nat) (cs : List Int) (left : Int) : Prop where
  eq : left = constOf n - accS n cs
  atn : cs.length = n → left = 0
  fin : cs.length = 2 * n - 2 → left = 0
theorem psum_app (cs : List Int) (x : Int) : ∀ k, k ≤ cs.length → psum (cs ++ [x]) k = psum cs k := by
  intro k hk
  exact sumF_congr fun i hi => getD_app (by omega)
theorem psum_app1 (cs : List Int) (x : Int) : psum (cs ++ [x]) (cs.length + 1) = psum cs cs.length + x := by
  show sumF _ cs.length + _ = _
  have := psum_app cs x cs.length (Nat.le_refl _)
  unfold psum at this
  rw [this]; simp [List.getD_eq_getElem?_getD, psum]
theorem acc_step {n : Nat} (hn : 3 ≤ n ∧ n ≤ 6) {cs : List Int} {left x : Int} (hI : InvL n cs left) (ht : cs.length < 2 * n - 2) : left1 n left cs - x = constOf n - accS n (cs ++ [x]) := by
  have h1 := psum_app1 cs x
  have hlen : (cs ++ [x]).length = cs.length + 1 := by simp
  unfold accS left1
  rw [hlen, h1]
  have he := hI.eq
  unfold accS at he
  by_cases c1 : cs.length = n
  · rw [if_pos c1, if_neg (by omega), ← c1, psum_app cs x _ (Nat.le_refl _)]
    unfold colS
    rw [getD_app (by omega), getD_app (by omega)]
    omega
  · rw [if_neg c1]
    by_cases c2 : cs.length < n
    · rw [if_pos (by omega)] at he
      rw [if_pos (by omega)]; omega
    · rw [if_neg (by omega)] at he
      rw [if_neg (by omega), psum_app cs x n (by omega)]
      unfold colS at he ⊢
      rw [getD_app (by omega), getD_app (by omega)]
      omega
/-- what the reference asks of a row is what the search asks -/
theorem fits_eq {n : Nat} (hn : 3 ≤ n ∧ n ≤ 6) {g : List Int} (hg : GZ n g) {cs : List Int} {us : List Bool} {left x : Int} (hF : FInv n cs us) (hI : InvL n cs left) (ht : cs.length < 2 * n - 2) (hx : x ∈ numsN n us) :
    fitsB n (fillC n g (cs ++ [x]) (cs.length + 1)) (usI n (markF n us x true)) cs.length = (decide (loS (numsN n (markF n us x true)) (restN n cs.length) ≤ left1 n left cs - x) && decide (left1 n left cs - x ≤ hiS (numsN n (markF n us x true)) (restN n cs.length)))
    ∧ (loS (numsN n (markF n us x true)) (restN n cs.length) ≤ left1 n left cs - x → left1 n left cs - x ≤ hiS (numsN n (markF n us x true)) (restN n cs.length) → InvL n (cs ++ [x]) (left1 n left cs - x)) := by
  obtain ⟨hF1, hx1, _, _⟩ := hF.step (by omega) hx
  have hlen : (cs ++ [x]).length = cs.length + 1 := by simp
  have hcnt := hF1.cnt
  rw [hlen] at hcnt
  have hp : ∀ i, i < (cs ++ [x]).length → 1 ≤ (cs ++ [x]).getD i 0 ∧ (cs ++ [x]).getD i 0 ≤ n * n := fun i hi => by
    rw [List.getD_eq_getElem?_getD, List.getElem?_eq_getElem hi]
    exact hF1.cb _ (List.getElem_mem hi)
  have hacc := acc_step (x := x) hn hI ht
  have hSo : sumF (rowV n (fillC n g (cs ++ [x]) (cs.length + 1)) cs.length) n = accS n (cs ++ [x]) ∧ opV n (fillC n g (cs ++ [x]) (cs.length + 1)) cs.length n = restN n cs.length := by
    unfold accS restN
    rw [hlen]
    by_cases c : cs.length < n
    · obtain ⟨a1, a2⟩ := row_sums hn hg (fun i hi => (hp i hi).1) c hlen n (Nat.le_refl _)
      rw [a1, a2, if_pos (by omega), if_neg (by omega), Nat.min_eq_right (by omega)]
      exact ⟨rfl, by omega⟩
    · obtain ⟨a1, a2⟩ := col_all hn hg hp (by omega) (by omega) hlen
      rw [a1, a2, if_neg (by omega), if_pos (by omega)]
      exact ⟨rfl, rfl⟩
  have hR : restN n cs.length ≤ (numsN n (markF n us x true)).length := by unfold restN; split <;> omega
  refine ⟨?_, fun h1 h2 => ⟨hacc, fun h3 => ?_, fun h3 => ?_⟩⟩
  · unfold fitsB
    rw [hSo.1, hSo.2, stLo_eq, stHi_eq _ _ _ hR]
    rw [decide_eq_true (show restN n cs.length - (numsN n (markF n us x true)).length = 0 by omega), Bool.true_and]
    congr 1
    · exact decide_eq_decide.2 (by omega)
    · exact decide_eq_decide.2 (by omega)
  · rw [hlen] at h3
    have : restN n cs.length = 0 := by unfold restN; split <;> omega
    rw [this] at h1 h2; simp only [loS, hiS] at h1 h2; omega
  · rw [hlen] at h3
    have : restN n cs.length = 0 := by unfold restN; split <;> omega
    rw [this] at h1 h2; simp only [loS, hiS] at h1 h2; omega
end Go.Eng.Ytppflbccfdbogaa
namespace Go.Eng.Ytppflbccfdbogaa
open Go.Proofs
set_option maxRecDepth 100000
set_option maxHeartbeats 0
set_option linter.unusedVariables false
set_option linter.unusedSimpArgs false
structure GZ2 (n : Nat) (g : List Int) : Prop extends GZ n g where
  zz : ∀ t, t < 2 * n - 2 → g.getD (posN n t) 0 = 0 ∧ g.getD (oppN n t) 0 = 0
def putR (n : Nat) (g : List Int) (r : List Int × List Bool) : List AO := [.cells (.ints .i64 (fillC n g r.1 r.1.length)) false, .cells (.bools (usI n r.2)) false]
def PutOK (f : Nat) : Prop := ∀ (n : Nat) (g cs : List Int) (us : List Bool) (left : Int), 3 ≤ n ∧ n ≤ 6 → GZ2 n g → (∀ x ∈ g, 0 ≤ x ∧ x ≤ 100) → FInv n cs us → InvL n cs left → 2 * n - 1 ≤ cs.length + f →
  LSpec Try.prog 106 [.agg [.int .i64 n, .int .i64 n, .rsl 0 0 (n * n)], .rsl 1 0 (n * n + 1), .int .i64 cs.length] (putR n g (cs, us)) [.bp (srch n f left cs us).isSome] (putR n g ((srch n f left cs us).getD (cs, us)))
def putL (f : Nat) : LSp := fun xs objs K => match xs, objs with
  | [.agg [.int .i64 n, .int .i64 n', .rsl 0 0 N], .rsl 1 0 M, .int .i64 a], [.cells (.ints .i64 gs) false, .cells (.bools bs) false] =>
    ∃ (g cs : List Int) (us : List Bool) (left : Int), VC ((3 ≤ n ∧ n ≤ 6) ∧ n' = n ∧ (N = n.toNat * n.toNat ∧ M = n.toNat * n.toNat + 1) ∧ (gs = fillC n.toNat g cs cs.length ∧ bs = usI n.toNat us) ∧ a = cs.length ∧ GZ2 n.toNat g ∧ (∀ x ∈ g, 0 ≤ x ∧ x ≤ 100) ∧ FInv n.toNat cs us ∧ InvL n.toNat cs left ∧ 2 * n.toNat - 1 ≤ cs.length + f) ∧ K [.bp (srch n.toNat f left cs us).isSome] (putR n.toNat g ((srch n.toNat f left cs us).getD (cs, us)))
  | _, _ => False
theorem putL_ok {f : Nat} (h : PutOK f) : LOK Try.prog 106 (putL f) := by
  intro xs objs K hk
  unfold putL at hk
  split at hk
  · rename_i n n' N M a gs bs
    obtain ⟨g, cs, us, left, ⟨h1, rfl, ⟨rfl, rfl⟩, ⟨rfl, rfl⟩, rfl, h6, h7, h8, h9, h10⟩, hK⟩ := hk
    obtain ⟨m, rfl⟩ : ∃ m : Nat, n' = m := ⟨n'.toNat, by omega⟩
    simp only [Int.toNat_natCast] at *
    exact ⟨_, _, hK, h m g cs us left (by omega) h6 h7 h8 h9 h10⟩
  · exact hk.elim
noncomputable def cpPu (f : Nat) : CPT := cpAdd 136 (lendCC [] fitsL) (cpAdd 106 (lendCC [] (putL f)) noC)
theorem cpPu_ok {f : Nat} (h : PutOK f) : CPOK Try.prog (cpPu f) := cpAdd_ok (lendCC_ok [] fitsL_ok) (cpAdd_ok (lendCC_ok [] (putL_ok h)) noC_ok)
def numsG (n : Nat) (us : List Bool) (x : Nat) : List Int := castI ((List.range' x (n * n + 1 - x)).filter (leftB n us))
theorem numsG_one (n : Nat) (us : List Bool) : numsG n us 1 = numsN n us := by simp [numsG, numsN, numsF, castI]
theorem numsG_step {n : Nat} (us : List Bool) {x : Nat} (h : x ≤ n * n) : numsG n us x = if leftB n us x = true then (x : Int) :: numsG n us (x + 1) else numsG n us (x + 1) := by
  unfold numsG castI
  rw [show n * n + 1 - x = (n * n + 1 - (x + 1)) + 1 by omega, List.range'_succ, List.filter_cons]
  split <;> rfl
theorem numsG_end (n : Nat) (us : List Bool) : numsG n us (n * n + 1) = [] := by simp [numsG, castI]
theorem posN_ne {n t : Nat} (hn : 3 ≤ n ∧ n ≤ 6) (ht : t < 2 * n - 2) : posN n t < n * n ∧ oppN n t < n * n := by
  obtain ⟨_, _, h3, h4⟩ := idx_all (r := 0) (c := 0) hn (by omega) (by omega) ht
  exact ⟨h3, h4⟩
theorem idxI : ∀ m, m < 4 → ∀ t, t < 2 * (m + 3) - 2 → idxC (m + 3) (posN (m + 3) t / (m + 3)) (posN (m + 3) t % (m + 3)) = (t, false) ∧ idxC (m + 3) (oppN (m + 3) t / (m + 3)) (oppN (m + 3) t % (m + 3)) = (t, true) := by decide +kernel
theorem fillC_at {n : Nat} (hn : 3 ≤ n ∧ n ≤ 6) {g cs : List Int} (hg : g.length = n * n) {t : Nat} (ht : t < 2 * n - 2) (hz : g.getD (posN n t) 0 = 0 ∧ g.getD (oppN n t) 0 = 0) : (fillC n g cs t).getD (posN n t) 0 = 0 ∧ (fillC n g cs t).getD (oppN n t) 0 = 0 := by
  obtain ⟨p1, p2⟩ := posN_ne hn ht
  obtain ⟨i1, i2⟩ : idxC n (posN n t / n) (posN n t % n) = (t, false) ∧ idxC n (oppN n t / n) (oppN n t % n) = (t, true) := by
    obtain ⟨m, rfl⟩ : ∃ m, n = m + 3 := ⟨n - 3, by omega⟩
    exact idxI m (by omega) t ht
  have h1 := fillC_get hn g cs hg (posN n t / n) (posN n t % n) (Nat.div_lt_of_lt_mul p1) (Nat.mod_lt _ (by omega)) t (by omega)
  have h2 := fillC_get hn g cs hg (oppN n t / n) (oppN n t % n) (Nat.div_lt_of_lt_mul p2) (Nat.mod_lt _ (by omega)) t (by omega)
  rw [Nat.mul_comm, Nat.div_add_mod, hz.1] at h1
  rw [Nat.mul_comm, Nat.div_add_mod, hz.2] at h2
  unfold valC at h1 h2
  rw [i1, if_neg (by simp)] at h1
  rw [i2, if_neg (by simp)] at h2
  exact ⟨h1, h2⟩
theorem set_undo {l : List Int} {p q : Nat} {a b : Int} (hp : l.getD p 0 = 0) (hq : l.getD q 0 = 0) : ((((l.set p a).set q b).set p 0).set q 0) = l := by
  refine List.ext_getElem (by simp) fun i h1 h2 => ?_
  have e : l[i] = l.getD i 0 := by rw [List.getD_eq_getElem?_getD, List.getElem?_eq_getElem h2]; rfl
  simp only [List.getElem_set]
  by_cases c1 : q = i
  · rw [if_pos c1, e, ← c1, hq]
  · rw [if_neg c1]
    by_cases c2 : p = i
    · rw [if_pos c2, e, ← c2, hp]
    · rw [if_neg c2, if_neg c1, if_neg c2]
theorem fillC_bd {n : Nat} (hn : 3 ≤ n ∧ n ≤ 6) {g cs : List Int} (hg : ∀ v ∈ g, 0 ≤ v ∧ v ≤ 100) (hc : ∀ v ∈ cs, 1 ≤ v ∧ v ≤ n * n) : ∀ t, t ≤ cs.length → ∀ v ∈ fillC n g cs t, 0 ≤ v ∧ v ≤ 100 := by
  have hnn := mul_bd (A := 6) (B := 6) (show 0 ≤ (n : Int) ∧ (n : Int) ≤ 6 by omega) (show 0 ≤ (n : Int) ∧ (n : Int) ≤ 6 by omega)
  intro t
  induction t with
  | zero => intro _; exact hg
  | succ t ih =>
    intro ht v hv
    have hct : 1 ≤ cs.getD t 0 ∧ cs.getD t 0 ≤ n * n := by
      rw [List.getD_eq_getElem?_getD, List.getElem?_eq_getElem (show t < cs.length by omega)]; exact hc _ (List.getElem_mem _)
    simp only [fillC] at hv
    rcases List.mem_or_eq_of_mem_set hv with hv | rfl
    · rcases List.mem_or_eq_of_mem_set hv with hv | rfl
      · exact ih (by omega) v hv
      · omega
    · omega
theorem mem_left {n : Nat} {us : List Bool} {x : Nat} (h1 : 1 ≤ x) (h2 : x ≤ n * n) (h : leftB n us x = true) : (x : Int) ∈ numsN n us := mem_numsN.2 ⟨x, rfl, h1, h2, h⟩
end Go.Eng.Ytppflbccfdbogaa
namespace Go.Eng.Ytppflbccfdbogaa
open Go.Proofs
set_option maxRecDepth 100000
set_option maxHeartbeats 0
set_option linter.unusedVariables false
set_option linter.unusedSimpArgs false
theorem put_zero : PutOK 0 := by
  intro n g cs us left hn hg hgb hF hI hf
  have := hF.cnt
  omega
theorem put_step {f : Nat} (ih : PutOK f) : PutOK (f + 1) := by
  intro n g cs us left hn hg hgb hF hI hf
  have hC := cpPu_ok ih
  have hnn := mul_bd (A := 6) (B := 6) (show 0 ≤ (n : Int) ∧ (n : Int) ≤ 6 by omega) (show 0 ≤ (n : Int) ∧ (n : Int) ≤ 6 by omega)
  have hnN : ((n * n : Nat) : Int) = (n : Int) * n := by push_cast; rfl
  have hcn := hF.cnt
  have hlen : cs.length ≤ 2 * n - 2 := by omega
  have hul := hF.len
  have hcl := fillC_len n g cs cs.length
  have hil := usI_len n us
  rw [hg.len] at hcl
  refine lspec_of (md := 0) (rf := []) mixed tabOK hC 2 [] Try.func106 (by rfl) (by rfl) (by rfl) ?_
  by_cases c2 : cs.length = 2 * n - 2
  · have ho : srch n (f + 1) left cs us = some (cs, us) := by
      have := hI.fin c2
      simp only [srch]; rw [if_neg (by omega), if_pos c2, if_pos (by unfold left1; rw [if_neg (by omega)]; exact this)]
    rw [ho]
    clear ih hgb hF hI
    repeat' (first | ((conv => whnf); refine And.intro ?_ ?_) | ((conv => whnf); with_reducible exact VC.mk rfl) | ((conv => whnf); exact Ok.mk) | ((conv => whnf); exact True.intro) | ((conv => whnf); refine Nx.mk ?_) | ((conv => whnf); refine Fin.mk ?_) | ((conv => whnf); intro hq; (try simp only [decide_eq_true_eq, decide_eq_false_iff_not, Bool.not_eq_true, Bool.not_eq_false, Bool.not_eq_true', Bool.not_eq_false', Bool.not_true, Bool.not_false, ite_true, ite_false] at hq); (try (exfalso; first | exact absurd hq (by decide) | omega))))
    all_goals ((try refine VC.mk ?_); (try simp only [CL.ncell, CL.cnt, Int.toNat_natCast, decide_eq_true_eq, decide_eq_false_iff_not, Bool.not_eq_true, Bool.not_false, Bool.not_true, and_self, and_true, true_and, te3b, te4b, te3s, te4s, Nat.mul_one, Nat.zero_add, List.length_cons, List.length_nil, Bool.false_eq_true, Bool.true_eq_false] at *); (try omega))
    all_goals (try rfl)
  have c1 : ¬ (cs.length = n ∧ left ≠ 0) := fun h => h.2 (hI.atn h.1)
  have ho : srch n (f + 1) left cs us = tryL n (restN n cs.length) (left1 n left cs) us (fun x us' => srch n f (left1 n left cs - x) (cs ++ [x]) us') (numsN n us) := by simp only [srch]; rw [if_neg c1, if_neg c2]
  generalize srch n (f + 1) left cs us = o at *
  obtain ⟨p1, p2⟩ := posN_ne hn (show cs.length < 2 * n - 2 by omega)
  by_cases c3 : n ≤ cs.length
  · have e1 : ((cs.length : Int) - n + 1) * n = ((posN n cs.length : Nat) : Int) := by
      unfold posN; rw [if_pos c3]; push_cast; rw [show ((cs.length + 1 - n : Nat) : Int) = (cs.length : Int) - n + 1 by omega]
    have e2 : ((posN n cs.length : Nat) : Int) / n = (cs.length : Int) - n + 1 := by rw [← e1]; exact Int.mul_ediv_cancel _ (by omega)
    have e3 : ((posN n cs.length : Nat) : Int) % n = 0 := by rw [← e1]; exact Int.mul_emod_left _ _
    have e4 : (posN n cs.length : Int) + ((n : Int) - 1 - 0) = ((oppN n cs.length : Nat) : Int) := by
      unfold oppN; rw [if_pos c3]; unfold posN; rw [if_pos c3]; push_cast; omega
    have e5 : n ≤ posN n cs.length := by unfold posN; rw [if_pos c3]; exact Nat.le_mul_of_pos_left n (by omega)
    generalize hP : posN n cs.length = P at *
    generalize hQ : oppN n cs.length = Q at *
    clear ih
    repeat' (first | ((conv => whnf); refine And.intro ?_ ?_) | ((conv => whnf); with_reducible exact VC.mk rfl) | ((conv => whnf); exact Ok.mk) | ((conv => whnf); exact True.intro) | ((conv => whnf); refine Nx.mk ?_) | ((conv => whnf); refine Fin.mk ?_) | ((conv => whnf); intro hq; (try simp only [decide_eq_true_eq, decide_eq_false_iff_not, Bool.not_eq_true, Bool.not_eq_false, Bool.not_eq_true', Bool.not_eq_false', Bool.not_true, Bool.not_false, ite_true, ite_false] at hq); (try (exfalso; first | exact absurd hq (by decide) | omega))))
    all_goals ((try refine VC.mk ?_); (try simp only [CL.ncell, CL.cnt, Int.toNat_natCast, decide_eq_true_eq, decide_eq_false_iff_not, Bool.not_eq_true, Bool.not_false, Bool.not_true, and_self, and_true, true_and, te3b, te4b, te3s, te4s, Nat.mul_one, Nat.zero_add, List.length_cons, List.length_nil, Bool.false_eq_true, Bool.true_eq_false] at *); (try omega))
    all_goals (try simp only [e1, e2, e3, e4] at *)
    all_goals (try omega)
    conv => whnf
    refine loop_of (X := Nat) (fun x => 1 ≤ x ∧ x ≤ n * n + 1 ∧ o = tryL n (restN n cs.length) (left1 n left cs) us (fun x us' => srch n f (left1 n left cs - x) (cs ++ [x]) us') (numsG n us x)) (fun x => [(12, .int .i64 x)]) (fun x => []) (fun x => n * n + 1 - x) 1 ⟨anyB_ok, mixed, tabOK, hC, noY_ok⟩ (by rfl) ⟨by omega, by omega, by rw [ho, numsG_one]⟩ ?_ ?_
    · repeat' (first | ((conv => whnf); refine And.intro ?_ ?_) | ((conv => whnf); with_reducible exact VC.mk rfl) | ((conv => whnf); exact Ok.mk) | ((conv => whnf); exact True.intro) | ((conv => whnf); refine Nx.mk ?_) | ((conv => whnf); refine Fin.mk ?_) | ((conv => whnf); intro _))
      all_goals ((try refine VC.mk ?_); (try simp only [CL.ncell, CL.cnt, Int.toNat_natCast, decide_eq_true_eq, decide_eq_false_iff_not, Bool.not_eq_true, Bool.not_false, Bool.not_true, and_self, and_true, true_and, te3b, te4b, te3s, te4s, Nat.mul_one, Nat.zero_add, List.length_cons, List.length_nil, Bool.false_eq_true, Bool.true_eq_false] at *); (try omega))
      all_goals (try rfl)
    intro x hx
    obtain ⟨x1, x2, hot⟩ := hx
    by_cases hlt : x ≤ n * n
    · rw [numsG_step us hlt] at hot
      have hux := usI_get us x1 hlt
      have hsub : (n : Int) * n + 1 - x = ((n * n + 1 - x : Nat) : Int) := by omega
      cases hlb : leftB n us x with
      | false =>
        rw [hlb] at hux
        rw [if_neg (by rw [hlb]; exact Bool.false_ne_true)] at hot
        have hux : (usI n us).getD x false = true := hux
        clear hF hI ho hgb hg
        repeat' (first | ((conv => whnf); refine And.intro ?_ ?_) | ((conv => whnf); with_reducible exact VC.mk rfl) | ((conv => whnf); exact Ok.mk) | ((conv => whnf); exact True.intro) | ((conv => whnf); refine Nx.mk ?_) | ((conv => whnf); refine Fin.mk ?_) | ((conv => whnf); intro hq; (try simp only [decide_eq_true_eq, decide_eq_false_iff_not, Bool.not_eq_true, Bool.not_eq_false, Bool.not_eq_true', Bool.not_eq_false', Bool.not_true, Bool.not_false, ite_true, ite_false] at hq); (try (exfalso; first | exact absurd hq (by decide) | omega))))
        all_goals ((try refine VC.mk ?_); (try simp only [CL.ncell, CL.cnt, Int.toNat_natCast, decide_eq_true_eq, decide_eq_false_iff_not, Bool.not_eq_true, Bool.not_false, Bool.not_true, and_self, and_true, true_and, te3b, te4b, te3s, te4s, Nat.mul_one, Nat.zero_add, List.length_cons, List.length_nil, Bool.false_eq_true, Bool.true_eq_false] at *); (try omega))
        all_goals (try exact Bool.noConfusion (hux.symm.trans (by assumption : (usI n us).getD x false = false)))
        refine ⟨x + 1, [], ⟨⟨by omega, by omega, hot⟩, by omega⟩, ?_⟩
        repeat' (first | ((conv => whnf); refine And.intro ?_ ?_) | ((conv => whnf); with_reducible exact VC.mk rfl) | ((conv => whnf); exact Ok.mk) | ((conv => whnf); exact True.intro) | ((conv => whnf); refine Nx.mk ?_) | ((conv => whnf); refine Fin.mk ?_) | ((conv => whnf); intro _))
        all_goals ((try refine VC.mk ?_); (try simp only [CL.ncell, CL.cnt, Int.toNat_natCast, decide_eq_true_eq, decide_eq_false_iff_not, Bool.not_eq_true, Bool.not_false, Bool.not_true, and_self, and_true, true_and, te3b, te4b, te3s, te4s, Nat.mul_one, Nat.zero_add, List.length_cons, List.length_nil, Bool.false_eq_true, Bool.true_eq_false] at *); (try omega))
        all_goals (try rfl)
      | true =>
        rw [hlb] at hux
        have hux : (usI n us).getD x false = false := hux
        have hmem := mem_left x1 hlt hlb
        obtain ⟨hF1, hxb, hu1, hu2⟩ := hF.step (by omega) hmem
        obtain ⟨hfe, hfi⟩ := fits_eq hn hg.toGZ hF hI (show cs.length < 2 * n - 2 by omega) hmem
        rw [if_pos hlb, tryL_cons] at hot
        have hbB : bordB n x = true := by unfold leftB at hlb; cases h : bordB n x; · rw [h] at hlb; cases hlb
                                          · rfl
        have hcell : ((fillC n g cs cs.length).set P (x : Int)).set Q ((n * n + 1 - x : Nat) : Int) = fillC n g (cs ++ [(x : Int)]) (cs.length + 1) := by
          rw [fillC_succ, hP, hQ, hsub]
        have husd : ((usI n us).set x true).set (n * n + 1 - x) true = usI n (markF n us (x : Int) true) := by
          rw [← usI_mark (by omega) hul hxb (by rw [Int.toNat_natCast]; exact hbB)]; unfold markF; rw [Int.toNat_natCast]
        have hml : (markF n us (x : Int) true).length = n * n + 1 := by simp [markF, hul]
        have husb : ((usI n (markF n us (x : Int) true)).set x false).set (n * n + 1 - x) false = usI n us := by
          have h := usI_mark (n := n) (by omega) hml hxb (by rw [Int.toNat_natCast]; exact hbB) false
          rw [markF_back hul hxb hu1 hu2] at h
          rw [← h]; unfold markF; rw [Int.toNat_natCast]
        obtain ⟨z1, z2⟩ := fillC_at (cs := cs) hn hg.len (show cs.length < 2 * n - 2 by omega) (hg.zz _ (by omega))
        try rw [hP] at z1
        rw [hQ] at z2
        have hcb : ((fillC n g (cs ++ [(x : Int)]) (cs.length + 1)).set P 0).set Q 0 = fillC n g cs cs.length := by
          rw [← hcell, set_undo z1 z2]
        have hcl2 : (fillC n g (cs ++ [(x : Int)]) (cs.length + 1)).length = n * n := by rw [fillC_len, hg.len]
        have hbd2 := fillC_bd hn hgb (cs := cs ++ [(x : Int)]) hF1.cb (cs.length + 1) (by simp)
        have hul2 := usI_len n (markF n us (x : Int) true)
        generalize hL : left1 n left cs - (x : Int) = L at *
        generalize hR : restN n cs.length = R at *
        repeat' (first | ((conv => whnf); refine And.intro ?_ ?_) | ((conv => whnf); with_reducible exact VC.mk rfl) | ((conv => whnf); exact Ok.mk) | ((conv => whnf); exact True.intro) | ((conv => whnf); refine Nx.mk ?_) | ((conv => whnf); refine Fin.mk ?_) | ((conv => whnf); intro hq; (try simp only [decide_eq_true_eq, decide_eq_false_iff_not, Bool.not_eq_true, Bool.not_eq_false, Bool.not_eq_true', Bool.not_eq_false', Bool.not_true, Bool.not_false, ite_true, ite_false] at hq); (try (exfalso; first | exact absurd hq (by decide) | omega))))
        all_goals ((try refine VC.mk ?_); (try simp only [CL.ncell, CL.cnt, Int.toNat_natCast, decide_eq_true_eq, decide_eq_false_iff_not, Bool.not_eq_true, Bool.not_false, Bool.not_true, and_self, and_true, true_and, te3b, te4b, te3s, te4s, Nat.mul_one, Nat.zero_add, List.length_cons, List.length_nil, Bool.false_eq_true, Bool.true_eq_false] at *); (try omega))
        all_goals (try exact Bool.noConfusion (hux.symm.trans (by assumption : (usI n us).getD x false = true)))
        all_goals (try simp only [hsub, Int.toNat_natCast, List.length_set])
        all_goals (try simp only [hcell, husd])
        all_goals (try omega)
        · exact ⟨by omega, ⟨by omega, by omega⟩, hbd2, by omega⟩
        · simp only [hsub, Int.toNat_natCast] at hq
          simp only [hcell, husd] at hq
          rw [hfe, Bool.and_eq_true, decide_eq_true_eq, decide_eq_true_eq] at hq
          rw [if_pos hq] at hot
          have hIL := hfi hq.1 hq.2
          refine ⟨g, cs ++ [(x : Int)], markF n us (x : Int) true, L, ⟨by omega, rfl, ⟨by rw [Int.toNat_natCast], by rw [Int.toNat_natCast]⟩, ?_, by simp, ?_, hgb, ?_, ?_, ?_⟩, ?_⟩
          · rw [Int.toNat_natCast, List.length_append]; exact ⟨rfl, rfl⟩
          · rw [Int.toNat_natCast]; exact hg
          · rw [Int.toNat_natCast]; exact hF1
          · rw [Int.toNat_natCast]; exact hIL
          · rw [Int.toNat_natCast, List.length_append]; simp only [List.length_cons, List.length_nil]; omega
          rw [Int.toNat_natCast]
          cases hs : srch n f L (cs ++ [(x : Int)]) (markF n us (x : Int) true) with
          | some v =>
            rw [hs] at hot
            have hot : o = some v := hot
            subst hot
            repeat' (first | ((conv => whnf); refine And.intro ?_ ?_) | ((conv => whnf); with_reducible exact VC.mk rfl) | ((conv => whnf); exact Ok.mk) | ((conv => whnf); exact True.intro) | ((conv => whnf); refine Nx.mk ?_) | ((conv => whnf); refine Fin.mk ?_) | ((conv => whnf); intro hq; (try simp only [decide_eq_true_eq, decide_eq_false_iff_not, Bool.not_eq_true, Bool.not_eq_false, Bool.not_eq_true', Bool.not_eq_false', Bool.not_true, Bool.not_false, ite_true, ite_false] at hq); (try (exfalso; first | exact absurd hq (by decide) | omega))))
            all_goals ((try refine VC.mk ?_); (try simp only [CL.ncell, CL.cnt, Int.toNat_natCast, decide_eq_true_eq, decide_eq_false_iff_not, Bool.not_eq_true, Bool.not_false, Bool.not_true, and_self, and_true, true_and, te3b, te4b, te3s, te4s, Nat.mul_one, Nat.zero_add, List.length_cons, List.length_nil, Bool.false_eq_true, Bool.true_eq_false] at *); (try omega))
            all_goals (try (cases hq; done))
            all_goals (try rfl)
          | none =>
            rw [hs] at hot
            have hot : o = tryL n R (left1 n left cs) us (fun x us' => srch n f (left1 n left cs - x) (cs ++ [x]) us') (numsG n us (x + 1)) := hot
            repeat' (first | ((conv => whnf); refine And.intro ?_ ?_) | ((conv => whnf); with_reducible exact VC.mk rfl) | ((conv => whnf); exact Ok.mk) | ((conv => whnf); exact True.intro) | ((conv => whnf); refine Nx.mk ?_) | ((conv => whnf); refine Fin.mk ?_) | ((conv => whnf); intro hq; (try simp only [decide_eq_true_eq, decide_eq_false_iff_not, Bool.not_eq_true, Bool.not_eq_false, Bool.not_eq_true', Bool.not_eq_false', Bool.not_true, Bool.not_false, ite_true, ite_false] at hq); (try (exfalso; first | exact absurd hq (by decide) | omega))))
            all_goals ((try refine VC.mk ?_); (try simp only [CL.ncell, CL.cnt, Int.toNat_natCast, decide_eq_true_eq, decide_eq_false_iff_not, Bool.not_eq_true, Bool.not_false, Bool.not_true, and_self, and_true, true_and, te3b, te4b, te3s, te4s, Nat.mul_one, Nat.zero_add, List.length_cons, List.length_nil, Bool.false_eq_true, Bool.true_eq_false] at *); (try omega))
            all_goals (try (cases hq; done))
            all_goals (try simp only [Option.getD_none, List.length_append, List.length_cons, List.length_nil, Nat.zero_add, List.length_set, hsub, Int.toNat_natCast, hcb, husb])
            all_goals (try omega)
            refine ⟨x + 1, [], ⟨⟨by omega, by omega, hot⟩, by omega⟩, ?_⟩
            repeat' (first | ((conv => whnf); refine And.intro ?_ ?_) | ((conv => whnf); with_reducible exact VC.mk rfl) | ((conv => whnf); exact Ok.mk) | ((conv => whnf); exact True.intro) | ((conv => whnf); refine Nx.mk ?_) | ((conv => whnf); refine Fin.mk ?_) | ((conv => whnf); intro _))
            all_goals ((try refine VC.mk ?_); (try simp only [CL.ncell, CL.cnt, Int.toNat_natCast, decide_eq_true_eq, decide_eq_false_iff_not, Bool.not_eq_true, Bool.not_false, Bool.not_true, and_self, and_true, true_and, te3b, te4b, te3s, te4s, Nat.mul_one, Nat.zero_add, List.length_cons, List.length_nil, Bool.false_eq_true, Bool.true_eq_false] at *); (try omega))
            all_goals (try rfl)
        all_goals
          have hqq : fitsB n (fillC n g (cs ++ [(x : Int)]) (cs.length + 1)) (usI n (markF n us (x : Int) true)) cs.length = false := by
            simp only [hsub, Int.toNat_natCast] at hq
            simp only [hcell, husd] at hq
            exact hq
          rw [hfe] at hqq
          rw [if_neg (fun hc => by rw [decide_eq_true hc.1, decide_eq_true hc.2] at hqq; cases hqq)] at hot
          (try simp only [hcb, husb, List.length_set])
          (try omega)
          refine ⟨x + 1, [], ⟨⟨by omega, by omega, hot⟩, by omega⟩, ?_⟩
          repeat' (first | ((conv => whnf); refine And.intro ?_ ?_) | ((conv => whnf); with_reducible exact VC.mk rfl) | ((conv => whnf); exact Ok.mk) | ((conv => whnf); exact True.intro) | ((conv => whnf); refine Nx.mk ?_) | ((conv => whnf); refine Fin.mk ?_) | ((conv => whnf); intro _))
          all_goals ((try refine VC.mk ?_); (try simp only [CL.ncell, CL.cnt, Int.toNat_natCast, decide_eq_true_eq, decide_eq_false_iff_not, Bool.not_eq_true, Bool.not_false, Bool.not_true, and_self, and_true, true_and, te3b, te4b, te3s, te4s, Nat.mul_one, Nat.zero_add, List.length_cons, List.length_nil, Bool.false_eq_true, Bool.true_eq_false] at *); (try omega))
          all_goals (try rfl)
    · have : x = n * n + 1 := by omega
      subst this
      rw [numsG_end] at hot
      have hot : o = none := hot
      subst hot
      repeat' (first | ((conv => whnf); refine And.intro ?_ ?_) | ((conv => whnf); with_reducible exact VC.mk rfl) | ((conv => whnf); exact Ok.mk) | ((conv => whnf); exact True.intro) | ((conv => whnf); refine Nx.mk ?_) | ((conv => whnf); refine Fin.mk ?_) | ((conv => whnf); intro hq; (try simp only [decide_eq_true_eq, decide_eq_false_iff_not, Bool.not_eq_true, Bool.not_eq_false, Bool.not_eq_true', Bool.not_eq_false', Bool.not_true, Bool.not_false, ite_true, ite_false] at hq); (try (exfalso; first | exact absurd hq (by decide) | omega))))
      all_goals ((try refine VC.mk ?_); (try simp only [CL.ncell, CL.cnt, Int.toNat_natCast, decide_eq_true_eq, decide_eq_false_iff_not, Bool.not_eq_true, Bool.not_false, Bool.not_true, and_self, and_true, true_and, te3b, te4b, te3s, te4s, Nat.mul_one, Nat.zero_add, List.length_cons, List.length_nil, Bool.false_eq_true, Bool.true_eq_false] at *); (try omega))
      all_goals (try rfl)
  · have hP : posN n cs.length = cs.length := by unfold posN; rw [if_neg c3]
    have e2 : (cs.length : Int) / n = 0 := Int.ediv_eq_zero_of_lt (by omega) (by omega)
    have e3 : (cs.length : Int) % n = cs.length := Int.emod_eq_of_lt (by omega) (by omega)
    have e6 : ((n : Int) - 1) * n = n * n - n := by rw [Int.sub_mul, Int.one_mul]
    have hQ1 : oppN n cs.length < n * n := p2
    rw [hP] at p1
    clear ih
    by_cases c4 : cs.length = 0 ∨ cs.length = n - 1
    · have e4 : (n : Int) * n - 1 - cs.length = ((oppN n cs.length : Nat) : Int) := by
        unfold oppN; rw [if_neg c3, if_pos c4]; omega
      generalize hQ : oppN n cs.length = Q at *
      repeat' (first | ((conv => whnf); refine And.intro ?_ ?_) | ((conv => whnf); with_reducible exact VC.mk rfl) | ((conv => whnf); exact Ok.mk) | ((conv => whnf); exact True.intro) | ((conv => whnf); refine Nx.mk ?_) | ((conv => whnf); refine Fin.mk ?_) | ((conv => whnf); intro hq; (try simp only [decide_eq_true_eq, decide_eq_false_iff_not, Bool.not_eq_true, Bool.not_eq_false, Bool.not_eq_true', Bool.not_eq_false', Bool.not_true, Bool.not_false, ite_true, ite_false] at hq); (try (exfalso; first | exact absurd hq (by decide) | omega))))
      all_goals ((try refine VC.mk ?_); (try simp only [CL.ncell, CL.cnt, Int.toNat_natCast, decide_eq_true_eq, decide_eq_false_iff_not, Bool.not_eq_true, Bool.not_false, Bool.not_true, and_self, and_true, true_and, te3b, te4b, te3s, te4s, Nat.mul_one, Nat.zero_add, List.length_cons, List.length_nil, Bool.false_eq_true, Bool.true_eq_false] at *); (try omega))
      all_goals (try simp only [e2, e3, e6, e4] at *)
      all_goals (try omega)
      all_goals
        conv => whnf
        refine loop_of (X := Nat) (fun x => 1 ≤ x ∧ x ≤ n * n + 1 ∧ o = tryL n (restN n cs.length) (left1 n left cs) us (fun x us' => srch n f (left1 n left cs - x) (cs ++ [x]) us') (numsG n us x)) (fun x => [(12, .int .i64 x)]) (fun x => []) (fun x => n * n + 1 - x) 1 ⟨anyB_ok, mixed, tabOK, hC, noY_ok⟩ (by rfl) ⟨by omega, by omega, by rw [ho, numsG_one]⟩ ?_ ?_
        · repeat' (first | ((conv => whnf); refine And.intro ?_ ?_) | ((conv => whnf); with_reducible exact VC.mk rfl) | ((conv => whnf); exact Ok.mk) | ((conv => whnf); exact True.intro) | ((conv => whnf); refine Nx.mk ?_) | ((conv => whnf); refine Fin.mk ?_) | ((conv => whnf); intro _))
          all_goals ((try refine VC.mk ?_); (try simp only [CL.ncell, CL.cnt, Int.toNat_natCast, decide_eq_true_eq, decide_eq_false_iff_not, Bool.not_eq_true, Bool.not_false, Bool.not_true, and_self, and_true, true_and, te3b, te4b, te3s, te4s, Nat.mul_one, Nat.zero_add, List.length_cons, List.length_nil, Bool.false_eq_true, Bool.true_eq_false] at *); (try omega))
          all_goals (try rfl)
        intro x hx
        obtain ⟨x1, x2, hot⟩ := hx
        by_cases hlt : x ≤ n * n
        · rw [numsG_step us hlt] at hot
          have hux := usI_get us x1 hlt
          have hsub : (n : Int) * n + 1 - x = ((n * n + 1 - x : Nat) : Int) := by omega
          cases hlb : leftB n us x with
          | false =>
            rw [hlb] at hux
            rw [if_neg (by rw [hlb]; exact Bool.false_ne_true)] at hot
            have hux : (usI n us).getD x false = true := hux
            clear hF hI ho hgb hg
            repeat' (first | ((conv => whnf); refine And.intro ?_ ?_) | ((conv => whnf); with_reducible exact VC.mk rfl) | ((conv => whnf); exact Ok.mk) | ((conv => whnf); exact True.intro) | ((conv => whnf); refine Nx.mk ?_) | ((conv => whnf); refine Fin.mk ?_) | ((conv => whnf); intro hq; (try simp only [decide_eq_true_eq, decide_eq_false_iff_not, Bool.not_eq_true, Bool.not_eq_false, Bool.not_eq_true', Bool.not_eq_false', Bool.not_true, Bool.not_false, ite_true, ite_false] at hq); (try (exfalso; first | exact absurd hq (by decide) | omega))))
            all_goals ((try refine VC.mk ?_); (try simp only [CL.ncell, CL.cnt, Int.toNat_natCast, decide_eq_true_eq, decide_eq_false_iff_not, Bool.not_eq_true, Bool.not_false, Bool.not_true, and_self, and_true, true_and, te3b, te4b, te3s, te4s, Nat.mul_one, Nat.zero_add, List.length_cons, List.length_nil, Bool.false_eq_true, Bool.true_eq_false] at *); (try omega))
            all_goals (try exact Bool.noConfusion (hux.symm.trans (by assumption : (usI n us).getD x false = false)))
            refine ⟨x + 1, [], ⟨⟨by omega, by omega, hot⟩, by omega⟩, ?_⟩
            repeat' (first | ((conv => whnf); refine And.intro ?_ ?_) | ((conv => whnf); with_reducible exact VC.mk rfl) | ((conv => whnf); exact Ok.mk) | ((conv => whnf); exact True.intro) | ((conv => whnf); refine Nx.mk ?_) | ((conv => whnf); refine Fin.mk ?_) | ((conv => whnf); intro _))
            all_goals ((try refine VC.mk ?_); (try simp only [CL.ncell, CL.cnt, Int.toNat_natCast, decide_eq_true_eq, decide_eq_false_iff_not, Bool.not_eq_true, Bool.not_false, Bool.not_true, and_self, and_true, true_and, te3b, te4b, te3s, te4s, Nat.mul_one, Nat.zero_add, List.length_cons, List.length_nil, Bool.false_eq_true, Bool.true_eq_false] at *); (try omega))
            all_goals (try rfl)
          | true =>
            rw [hlb] at hux
            have hux : (usI n us).getD x false = false := hux
            have hmem := mem_left x1 hlt hlb
            obtain ⟨hF1, hxb, hu1, hu2⟩ := hF.step (by omega) hmem
            obtain ⟨hfe, hfi⟩ := fits_eq hn hg.toGZ hF hI (show cs.length < 2 * n - 2 by omega) hmem
            rw [if_pos hlb, tryL_cons] at hot
            have hbB : bordB n x = true := by unfold leftB at hlb; cases h : bordB n x; · rw [h] at hlb; cases hlb
                                              · rfl
            have hcell : ((fillC n g cs cs.length).set cs.length (x : Int)).set Q ((n * n + 1 - x : Nat) : Int) = fillC n g (cs ++ [(x : Int)]) (cs.length + 1) := by
              rw [fillC_succ, hP, hQ, hsub]
            have husd : ((usI n us).set x true).set (n * n + 1 - x) true = usI n (markF n us (x : Int) true) := by
              rw [← usI_mark (by omega) hul hxb (by rw [Int.toNat_natCast]; exact hbB)]; unfold markF; rw [Int.toNat_natCast]
            have hml : (markF n us (x : Int) true).length = n * n + 1 := by simp [markF, hul]
            have husb : ((usI n (markF n us (x : Int) true)).set x false).set (n * n + 1 - x) false = usI n us := by
              have h := usI_mark (n := n) (by omega) hml hxb (by rw [Int.toNat_natCast]; exact hbB) false
              rw [markF_back hul hxb hu1 hu2] at h
              rw [← h]; unfold markF; rw [Int.toNat_natCast]
            obtain ⟨z1, z2⟩ := fillC_at (cs := cs) hn hg.len (show cs.length < 2 * n - 2 by omega) (hg.zz _ (by omega))
            try rw [hP] at z1
            rw [hQ] at z2
            have hcb : ((fillC n g (cs ++ [(x : Int)]) (cs.length + 1)).set cs.length 0).set Q 0 = fillC n g cs cs.length := by
              rw [← hcell, set_undo z1 z2]
            have hcl2 : (fillC n g (cs ++ [(x : Int)]) (cs.length + 1)).length = n * n := by rw [fillC_len, hg.len]
            have hbd2 := fillC_bd hn hgb (cs := cs ++ [(x : Int)]) hF1.cb (cs.length + 1) (by simp)
            have hul2 := usI_len n (markF n us (x : Int) true)
            generalize hL : left1 n left cs - (x : Int) = L at *
            generalize hR : restN n cs.length = R at *
            repeat' (first | ((conv => whnf); refine And.intro ?_ ?_) | ((conv => whnf); with_reducible exact VC.mk rfl) | ((conv => whnf); exact Ok.mk) | ((conv => whnf); exact True.intro) | ((conv => whnf); refine Nx.mk ?_) | ((conv => whnf); refine Fin.mk ?_) | ((conv => whnf); intro hq; (try simp only [decide_eq_true_eq, decide_eq_false_iff_not, Bool.not_eq_true, Bool.not_eq_false, Bool.not_eq_true', Bool.not_eq_false', Bool.not_true, Bool.not_false, ite_true, ite_false] at hq); (try (exfalso; first | exact absurd hq (by decide) | omega))))
            all_goals ((try refine VC.mk ?_); (try simp only [CL.ncell, CL.cnt, Int.toNat_natCast, decide_eq_true_eq, decide_eq_false_iff_not, Bool.not_eq_true, Bool.not_false, Bool.not_true, and_self, and_true, true_and, te3b, te4b, te3s, te4s, Nat.mul_one, Nat.zero_add, List.length_cons, List.length_nil, Bool.false_eq_true, Bool.true_eq_false] at *); (try omega))
            all_goals (try exact Bool.noConfusion (hux.symm.trans (by assumption : (usI n us).getD x false = true)))
            all_goals (try simp only [hsub, Int.toNat_natCast, List.length_set])
            all_goals (try simp only [hcell, husd])
            all_goals (try omega)
            · exact ⟨by omega, ⟨by omega, by omega⟩, hbd2, by omega⟩
            · simp only [hsub, Int.toNat_natCast] at hq
              simp only [hcell, husd] at hq
              rw [hfe, Bool.and_eq_true, decide_eq_true_eq, decide_eq_true_eq] at hq
              rw [if_pos hq] at hot
              have hIL := hfi hq.1 hq.2
              refine ⟨g, cs ++ [(x : Int)], markF n us (x : Int) true, L, ⟨by omega, rfl, ⟨by rw [Int.toNat_natCast], by rw [Int.toNat_natCast]⟩, ?_, by simp, ?_, hgb, ?_, ?_, ?_⟩, ?_⟩
              · rw [Int.toNat_natCast, List.length_append]; exact ⟨rfl, rfl⟩
              · rw [Int.toNat_natCast]; exact hg
              · rw [Int.toNat_natCast]; exact hF1
              · rw [Int.toNat_natCast]; exact hIL
              · rw [Int.toNat_natCast, List.length_append]; simp only [List.length_cons, List.length_nil]; omega
              rw [Int.toNat_natCast]
              cases hs : srch n f L (cs ++ [(x : Int)]) (markF n us (x : Int) true) with
              | some v =>
                rw [hs] at hot
                have hot : o = some v := hot
                subst hot
                repeat' (first | ((conv => whnf); refine And.intro ?_ ?_) | ((conv => whnf); with_reducible exact VC.mk rfl) | ((conv => whnf); exact Ok.mk) | ((conv => whnf); exact True.intro) | ((conv => whnf); refine Nx.mk ?_) | ((conv => whnf); refine Fin.mk ?_) | ((conv => whnf); intro hq; (try simp only [decide_eq_true_eq, decide_eq_false_iff_not, Bool.not_eq_true, Bool.not_eq_false, Bool.not_eq_true', Bool.not_eq_false', Bool.not_true, Bool.not_false, ite_true, ite_false] at hq); (try (exfalso; first | exact absurd hq (by decide) | omega))))
                all_goals ((try refine VC.mk ?_); (try simp only [CL.ncell, CL.cnt, Int.toNat_natCast, decide_eq_true_eq, decide_eq_false_iff_not, Bool.not_eq_true, Bool.not_false, Bool.not_true, and_self, and_true, true_and, te3b, te4b, te3s, te4s, Nat.mul_one, Nat.zero_add, List.length_cons, List.length_nil, Bool.false_eq_true, Bool.true_eq_false] at *); (try omega))
                all_goals (try (cases hq; done))
                all_goals (try rfl)
              | none =>
                rw [hs] at hot
                have hot : o = tryL n R (left1 n left cs) us (fun x us' => srch n f (left1 n left cs - x) (cs ++ [x]) us') (numsG n us (x + 1)) := hot
                repeat' (first | ((conv => whnf); refine And.intro ?_ ?_) | ((conv => whnf); with_reducible exact VC.mk rfl) | ((conv => whnf); exact Ok.mk) | ((conv => whnf); exact True.intro) | ((conv => whnf); refine Nx.mk ?_) | ((conv => whnf); refine Fin.mk ?_) | ((conv => whnf); intro hq; (try simp only [decide_eq_true_eq, decide_eq_false_iff_not, Bool.not_eq_true, Bool.not_eq_false, Bool.not_eq_true', Bool.not_eq_false', Bool.not_true, Bool.not_false, ite_true, ite_false] at hq); (try (exfalso; first | exact absurd hq (by decide) | omega))))
                all_goals ((try refine VC.mk ?_); (try simp only [CL.ncell, CL.cnt, Int.toNat_natCast, decide_eq_true_eq, decide_eq_false_iff_not, Bool.not_eq_true, Bool.not_false, Bool.not_true, and_self, and_true, true_and, te3b, te4b, te3s, te4s, Nat.mul_one, Nat.zero_add, List.length_cons, List.length_nil, Bool.false_eq_true, Bool.true_eq_false] at *); (try omega))
                all_goals (try (cases hq; done))
                all_goals (try simp only [Option.getD_none, List.length_append, List.length_cons, List.length_nil, Nat.zero_add, List.length_set, hsub, Int.toNat_natCast, hcb, husb])
                all_goals (try omega)
                refine ⟨x + 1, [], ⟨⟨by omega, by omega, hot⟩, by omega⟩, ?_⟩
                repeat' (first | ((conv => whnf); refine And.intro ?_ ?_) | ((conv => whnf); with_reducible exact VC.mk rfl) | ((conv => whnf); exact Ok.mk) | ((conv => whnf); exact True.intro) | ((conv => whnf); refine Nx.mk ?_) | ((conv => whnf); refine Fin.mk ?_) | ((conv => whnf); intro _))
                all_goals ((try refine VC.mk ?_); (try simp only [CL.ncell, CL.cnt, Int.toNat_natCast, decide_eq_true_eq, decide_eq_false_iff_not, Bool.not_eq_true, Bool.not_false, Bool.not_true, and_self, and_true, true_and, te3b, te4b, te3s, te4s, Nat.mul_one, Nat.zero_add, List.length_cons, List.length_nil, Bool.false_eq_true, Bool.true_eq_false] at *); (try omega))
                all_goals (try rfl)
            all_goals
              have hqq : fitsB n (fillC n g (cs ++ [(x : Int)]) (cs.length + 1)) (usI n (markF n us (x : Int) true)) cs.length = false := by
                simp only [hsub, Int.toNat_natCast] at hq
                simp only [hcell, husd] at hq
                exact hq
              rw [hfe] at hqq
              rw [if_neg (fun hc => by rw [decide_eq_true hc.1, decide_eq_true hc.2] at hqq; cases hqq)] at hot
              (try simp only [hcb, husb, List.length_set])
              (try omega)
              refine ⟨x + 1, [], ⟨⟨by omega, by omega, hot⟩, by omega⟩, ?_⟩
              repeat' (first | ((conv => whnf); refine And.intro ?_ ?_) | ((conv => whnf); with_reducible exact VC.mk rfl) | ((conv => whnf); exact Ok.mk) | ((conv => whnf); exact True.intro) | ((conv => whnf); refine Nx.mk ?_) | ((conv => whnf); refine Fin.mk ?_) | ((conv => whnf); intro _))
              all_goals ((try refine VC.mk ?_); (try simp only [CL.ncell, CL.cnt, Int.toNat_natCast, decide_eq_true_eq, decide_eq_false_iff_not, Bool.not_eq_true, Bool.not_false, Bool.not_true, and_self, and_true, true_and, te3b, te4b, te3s, te4s, Nat.mul_one, Nat.zero_add, List.length_cons, List.length_nil, Bool.false_eq_true, Bool.true_eq_false] at *); (try omega))
              all_goals (try rfl)
        · have : x = n * n + 1 := by omega
          subst this
          rw [numsG_end] at hot
          have hot : o = none := hot
          subst hot
          repeat' (first | ((conv => whnf); refine And.intro ?_ ?_) | ((conv => whnf); with_reducible exact VC.mk rfl) | ((conv => whnf); exact Ok.mk) | ((conv => whnf); exact True.intro) | ((conv => whnf); refine Nx.mk ?_) | ((conv => whnf); refine Fin.mk ?_) | ((conv => whnf); intro hq; (try simp only [decide_eq_true_eq, decide_eq_false_iff_not, Bool.not_eq_true, Bool.not_eq_false, Bool.not_eq_true', Bool.not_eq_false', Bool.not_true, Bool.not_false, ite_true, ite_false] at hq); (try (exfalso; first | exact absurd hq (by decide) | omega))))
          all_goals ((try refine VC.mk ?_); (try simp only [CL.ncell, CL.cnt, Int.toNat_natCast, decide_eq_true_eq, decide_eq_false_iff_not, Bool.not_eq_true, Bool.not_false, Bool.not_true, and_self, and_true, true_and, te3b, te4b, te3s, te4s, Nat.mul_one, Nat.zero_add, List.length_cons, List.length_nil, Bool.false_eq_true, Bool.true_eq_false] at *); (try omega))
          all_goals (try rfl)
    · have e4 : (n : Int) * n - n + cs.length = ((oppN n cs.length : Nat) : Int) := by
        unfold oppN; rw [if_neg c3, if_neg c4]; push_cast
        rw [show ((n - 1 : Nat) : Int) = (n : Int) - 1 by omega, Int.sub_mul, Int.one_mul]
      generalize hQ : oppN n cs.length = Q at *
      repeat' (first | ((conv => whnf); refine And.intro ?_ ?_) | ((conv => whnf); with_reducible exact VC.mk rfl) | ((conv => whnf); exact Ok.mk) | ((conv => whnf); exact True.intro) | ((conv => whnf); refine Nx.mk ?_) | ((conv => whnf); refine Fin.mk ?_) | ((conv => whnf); intro hq; (try simp only [decide_eq_true_eq, decide_eq_false_iff_not, Bool.not_eq_true, Bool.not_eq_false, Bool.not_eq_true', Bool.not_eq_false', Bool.not_true, Bool.not_false, ite_true, ite_false] at hq); (try (exfalso; first | exact absurd hq (by decide) | omega))))
      all_goals ((try refine VC.mk ?_); (try simp only [CL.ncell, CL.cnt, Int.toNat_natCast, decide_eq_true_eq, decide_eq_false_iff_not, Bool.not_eq_true, Bool.not_false, Bool.not_true, and_self, and_true, true_and, te3b, te4b, te3s, te4s, Nat.mul_one, Nat.zero_add, List.length_cons, List.length_nil, Bool.false_eq_true, Bool.true_eq_false] at *); (try omega))
      all_goals (try simp only [e2, e3, e6, e4] at *)
      all_goals (try omega)
      conv => whnf
      refine loop_of (X := Nat) (fun x => 1 ≤ x ∧ x ≤ n * n + 1 ∧ o = tryL n (restN n cs.length) (left1 n left cs) us (fun x us' => srch n f (left1 n left cs - x) (cs ++ [x]) us') (numsG n us x)) (fun x => [(12, .int .i64 x)]) (fun x => []) (fun x => n * n + 1 - x) 1 ⟨anyB_ok, mixed, tabOK, hC, noY_ok⟩ (by rfl) ⟨by omega, by omega, by rw [ho, numsG_one]⟩ ?_ ?_
      · repeat' (first | ((conv => whnf); refine And.intro ?_ ?_) | ((conv => whnf); with_reducible exact VC.mk rfl) | ((conv => whnf); exact Ok.mk) | ((conv => whnf); exact True.intro) | ((conv => whnf); refine Nx.mk ?_) | ((conv => whnf); refine Fin.mk ?_) | ((conv => whnf); intro _))
        all_goals ((try refine VC.mk ?_); (try simp only [CL.ncell, CL.cnt, Int.toNat_natCast, decide_eq_true_eq, decide_eq_false_iff_not, Bool.not_eq_true, Bool.not_false, Bool.not_true, and_self, and_true, true_and, te3b, te4b, te3s, te4s, Nat.mul_one, Nat.zero_add, List.length_cons, List.length_nil, Bool.false_eq_true, Bool.true_eq_false] at *); (try omega))
        all_goals (try rfl)
      intro x hx
      obtain ⟨x1, x2, hot⟩ := hx
      by_cases hlt : x ≤ n * n
      · rw [numsG_step us hlt] at hot
        have hux := usI_get us x1 hlt
        have hsub : (n : Int) * n + 1 - x = ((n * n + 1 - x : Nat) : Int) := by omega
        cases hlb : leftB n us x with
        | false =>
          rw [hlb] at hux
          rw [if_neg (by rw [hlb]; exact Bool.false_ne_true)] at hot
          have hux : (usI n us).getD x false = true := hux
          clear hF hI ho hgb hg
          repeat' (first | ((conv => whnf); refine And.intro ?_ ?_) | ((conv => whnf); with_reducible exact VC.mk rfl) | ((conv => whnf); exact Ok.mk) | ((conv => whnf); exact True.intro) | ((conv => whnf); refine Nx.mk ?_) | ((conv => whnf); refine Fin.mk ?_) | ((conv => whnf); intro hq; (try simp only [decide_eq_true_eq, decide_eq_false_iff_not, Bool.not_eq_true, Bool.not_eq_false, Bool.not_eq_true', Bool.not_eq_false', Bool.not_true, Bool.not_false, ite_true, ite_false] at hq); (try (exfalso; first | exact absurd hq (by decide) | omega))))
          all_goals ((try refine VC.mk ?_); (try simp only [CL.ncell, CL.cnt, Int.toNat_natCast, decide_eq_true_eq, decide_eq_false_iff_not, Bool.not_eq_true, Bool.not_false, Bool.not_true, and_self, and_true, true_and, te3b, te4b, te3s, te4s, Nat.mul_one, Nat.zero_add, List.length_cons, List.length_nil, Bool.false_eq_true, Bool.true_eq_false] at *); (try omega))
          all_goals (try exact Bool.noConfusion (hux.symm.trans (by assumption : (usI n us).getD x false = false)))
          refine ⟨x + 1, [], ⟨⟨by omega, by omega, hot⟩, by omega⟩, ?_⟩
          repeat' (first | ((conv => whnf); refine And.intro ?_ ?_) | ((conv => whnf); with_reducible exact VC.mk rfl) | ((conv => whnf); exact Ok.mk) | ((conv => whnf); exact True.intro) | ((conv => whnf); refine Nx.mk ?_) | ((conv => whnf); refine Fin.mk ?_) | ((conv => whnf); intro _))
          all_goals ((try refine VC.mk ?_); (try simp only [CL.ncell, CL.cnt, Int.toNat_natCast, decide_eq_true_eq, decide_eq_false_iff_not, Bool.not_eq_true, Bool.not_false, Bool.not_true, and_self, and_true, true_and, te3b, te4b, te3s, te4s, Nat.mul_one, Nat.zero_add, List.length_cons, List.length_nil, Bool.false_eq_true, Bool.true_eq_false] at *); (try omega))
          all_goals (try rfl)
        | true =>
          rw [hlb] at hux
          have hux : (usI n us).getD x false = false := hux
          have hmem := mem_left x1 hlt hlb
          obtain ⟨hF1, hxb, hu1, hu2⟩ := hF.step (by omega) hmem
          obtain ⟨hfe, hfi⟩ := fits_eq hn hg.toGZ hF hI (show cs.length < 2 * n - 2 by omega) hmem
          rw [if_pos hlb, tryL_cons] at hot
          have hbB : bordB n x = true := by unfold leftB at hlb; cases h : bordB n x; · rw [h] at hlb; cases hlb
                                            · rfl
          have hcell : ((fillC n g cs cs.length).set cs.length (x : Int)).set Q ((n * n + 1 - x : Nat) : Int) = fillC n g (cs ++ [(x : Int)]) (cs.length + 1) := by
            rw [fillC_succ, hP, hQ, hsub]
          have husd : ((usI n us).set x true).set (n * n + 1 - x) true = usI n (markF n us (x : Int) true) := by
            rw [← usI_mark (by omega) hul hxb (by rw [Int.toNat_natCast]; exact hbB)]; unfold markF; rw [Int.toNat_natCast]
          have hml : (markF n us (x : Int) true).length = n * n + 1 := by simp [markF, hul]
          have husb : ((usI n (markF n us (x : Int) true)).set x false).set (n * n + 1 - x) false = usI n us := by
            have h := usI_mark (n := n) (by omega) hml hxb (by rw [Int.toNat_natCast]; exact hbB) false
            rw [markF_back hul hxb hu1 hu2] at h
            rw [← h]; unfold markF; rw [Int.toNat_natCast]
          obtain ⟨z1, z2⟩ := fillC_at (cs := cs) hn hg.len (show cs.length < 2 * n - 2 by omega) (hg.zz _ (by omega))
          try rw [hP] at z1
          rw [hQ] at z2
          have hcb : ((fillC n g (cs ++ [(x : Int)]) (cs.length + 1)).set cs.length 0).set Q 0 = fillC n g cs cs.length := by
            rw [← hcell, set_undo z1 z2]
          have hcl2 : (fillC n g (cs ++ [(x : Int)]) (cs.length + 1)).length = n * n := by rw [fillC_len, hg.len]
          have hbd2 := fillC_bd hn hgb (cs := cs ++ [(x : Int)]) hF1.cb (cs.length + 1) (by simp)
          have hul2 := usI_len n (markF n us (x : Int) true)
          generalize hL : left1 n left cs - (x : Int) = L at *
          generalize hR : restN n cs.length = R at *
          repeat' (first | ((conv => whnf); refine And.intro ?_ ?_) | ((conv => whnf); with_reducible exact VC.mk rfl) | ((conv => whnf); exact Ok.mk) | ((conv => whnf); exact True.intro) | ((conv => whnf); refine Nx.mk ?_) | ((conv => whnf); refine Fin.mk ?_) | ((conv => whnf); intro hq; (try simp only [decide_eq_true_eq, decide_eq_false_iff_not, Bool.not_eq_true, Bool.not_eq_false, Bool.not_eq_true', Bool.not_eq_false', Bool.not_true, Bool.not_false, ite_true, ite_false] at hq); (try (exfalso; first | exact absurd hq (by decide) | omega))))
          all_goals ((try refine VC.mk ?_); (try simp only [CL.ncell, CL.cnt, Int.toNat_natCast, decide_eq_true_eq, decide_eq_false_iff_not, Bool.not_eq_true, Bool.not_false, Bool.not_true, and_self, and_true, true_and, te3b, te4b, te3s, te4s, Nat.mul_one, Nat.zero_add, List.length_cons, List.length_nil, Bool.false_eq_true, Bool.true_eq_false] at *); (try omega))
          all_goals (try exact Bool.noConfusion (hux.symm.trans (by assumption : (usI n us).getD x false = true)))
          all_goals (try simp only [hsub, Int.toNat_natCast, List.length_set])
          all_goals (try simp only [hcell, husd])
          all_goals (try omega)
          · exact ⟨by omega, ⟨by omega, by omega⟩, hbd2, by omega⟩
          · simp only [hsub, Int.toNat_natCast] at hq
            simp only [hcell, husd] at hq
            rw [hfe, Bool.and_eq_true, decide_eq_true_eq, decide_eq_true_eq] at hq
            rw [if_pos hq] at hot
            have hIL := hfi hq.1 hq.2
            refine ⟨g, cs ++ [(x : Int)], markF n us (x : Int) true, L, ⟨by omega, rfl, ⟨by rw [Int.toNat_natCast], by rw [Int.toNat_natCast]⟩, ?_, by simp, ?_, hgb, ?_, ?_, ?_⟩, ?_⟩
            · rw [Int.toNat_natCast, List.length_append]; exact ⟨rfl, rfl⟩
            · rw [Int.toNat_natCast]; exact hg
            · rw [Int.toNat_natCast]; exact hF1
            · rw [Int.toNat_natCast]; exact hIL
            · rw [Int.toNat_natCast, List.length_append]; simp only [List.length_cons, List.length_nil]; omega
            rw [Int.toNat_natCast]
            cases hs : srch n f L (cs ++ [(x : Int)]) (markF n us (x : Int) true) with
            | some v =>
              rw [hs] at hot
              have hot : o = some v := hot
              subst hot
              repeat' (first | ((conv => whnf); refine And.intro ?_ ?_) | ((conv => whnf); with_reducible exact VC.mk rfl) | ((conv => whnf); exact Ok.mk) | ((conv => whnf); exact True.intro) | ((conv => whnf); refine Nx.mk ?_) | ((conv => whnf); refine Fin.mk ?_) | ((conv => whnf); intro hq; (try simp only [decide_eq_true_eq, decide_eq_false_iff_not, Bool.not_eq_true, Bool.not_eq_false, Bool.not_eq_true', Bool.not_eq_false', Bool.not_true, Bool.not_false, ite_true, ite_false] at hq); (try (exfalso; first | exact absurd hq (by decide) | omega))))
              all_goals ((try refine VC.mk ?_); (try simp only [CL.ncell, CL.cnt, Int.toNat_natCast, decide_eq_true_eq, decide_eq_false_iff_not, Bool.not_eq_true, Bool.not_false, Bool.not_true, and_self, and_true, true_and, te3b, te4b, te3s, te4s, Nat.mul_one, Nat.zero_add, List.length_cons, List.length_nil, Bool.false_eq_true, Bool.true_eq_false] at *); (try omega))
              all_goals (try (cases hq; done))
              all_goals (try rfl)
            | none =>
              rw [hs] at hot
              have hot : o = tryL n R (left1 n left cs) us (fun x us' => srch n f (left1 n left cs - x) (cs ++ [x]) us') (numsG n us (x + 1)) := hot
              repeat' (first | ((conv => whnf); refine And.intro ?_ ?_) | ((conv => whnf); with_reducible exact VC.mk rfl) | ((conv => whnf); exact Ok.mk) | ((conv => whnf); exact True.intro) | ((conv => whnf); refine Nx.mk ?_) | ((conv => whnf); refine Fin.mk ?_) | ((conv => whnf); intro hq; (try simp only [decide_eq_true_eq, decide_eq_false_iff_not, Bool.not_eq_true, Bool.not_eq_false, Bool.not_eq_true', Bool.not_eq_false', Bool.not_true, Bool.not_false, ite_true, ite_false] at hq); (try (exfalso; first | exact absurd hq (by decide) | omega))))
              all_goals ((try refine VC.mk ?_); (try simp only [CL.ncell, CL.cnt, Int.toNat_natCast, decide_eq_true_eq, decide_eq_false_iff_not, Bool.not_eq_true, Bool.not_false, Bool.not_true, and_self, and_true, true_and, te3b, te4b, te3s, te4s, Nat.mul_one, Nat.zero_add, List.length_cons, List.length_nil, Bool.false_eq_true, Bool.true_eq_false] at *); (try omega))
              all_goals (try (cases hq; done))
              all_goals (try simp only [Option.getD_none, List.length_append, List.length_cons, List.length_nil, Nat.zero_add, List.length_set, hsub, Int.toNat_natCast, hcb, husb])
              all_goals (try omega)
              refine ⟨x + 1, [], ⟨⟨by omega, by omega, hot⟩, by omega⟩, ?_⟩
              repeat' (first | ((conv => whnf); refine And.intro ?_ ?_) | ((conv => whnf); with_reducible exact VC.mk rfl) | ((conv => whnf); exact Ok.mk) | ((conv => whnf); exact True.intro) | ((conv => whnf); refine Nx.mk ?_) | ((conv => whnf); refine Fin.mk ?_) | ((conv => whnf); intro _))
              all_goals ((try refine VC.mk ?_); (try simp only [CL.ncell, CL.cnt, Int.toNat_natCast, decide_eq_true_eq, decide_eq_false_iff_not, Bool.not_eq_true, Bool.not_false, Bool.not_true, and_self, and_true, true_and, te3b, te4b, te3s, te4s, Nat.mul_one, Nat.zero_add, List.length_cons, List.length_nil, Bool.false_eq_true, Bool.true_eq_false] at *); (try omega))
              all_goals (try rfl)
          all_goals
            have hqq : fitsB n (fillC n g (cs ++ [(x : Int)]) (cs.length + 1)) (usI n (markF n us (x : Int) true)) cs.length = false := by
              simp only [hsub, Int.toNat_natCast] at hq
              simp only [hcell, husd] at hq
              exact hq
            rw [hfe] at hqq
            rw [if_neg (fun hc => by rw [decide_eq_true hc.1, decide_eq_true hc.2] at hqq; cases hqq)] at hot
            (try simp only [hcb, husb, List.length_set])
            (try omega)
            refine ⟨x + 1, [], ⟨⟨by omega, by omega, hot⟩, by omega⟩, ?_⟩
            repeat' (first | ((conv => whnf); refine And.intro ?_ ?_) | ((conv => whnf); with_reducible exact VC.mk rfl) | ((conv => whnf); exact Ok.mk) | ((conv => whnf); exact True.intro) | ((conv => whnf); refine Nx.mk ?_) | ((conv => whnf); refine Fin.mk ?_) | ((conv => whnf); intro _))
            all_goals ((try refine VC.mk ?_); (try simp only [CL.ncell, CL.cnt, Int.toNat_natCast, decide_eq_true_eq, decide_eq_false_iff_not, Bool.not_eq_true, Bool.not_false, Bool.not_true, and_self, and_true, true_and, te3b, te4b, te3s, te4s, Nat.mul_one, Nat.zero_add, List.length_cons, List.length_nil, Bool.false_eq_true, Bool.true_eq_false] at *); (try omega))
            all_goals (try rfl)
      · have : x = n * n + 1 := by omega
        subst this
        rw [numsG_end] at hot
        have hot : o = none := hot
        subst hot
        repeat' (first | ((conv => whnf); refine And.intro ?_ ?_) | ((conv => whnf); with_reducible exact VC.mk rfl) | ((conv => whnf); exact Ok.mk) | ((conv => whnf); exact True.intro) | ((conv => whnf); refine Nx.mk ?_) | ((conv => whnf); refine Fin.mk ?_) | ((conv => whnf); intro hq; (try simp only [decide_eq_true_eq, decide_eq_false_iff_not, Bool.not_eq_true, Bool.not_eq_false, Bool.not_eq_true', Bool.not_eq_false', Bool.not_true, Bool.not_false, ite_true, ite_false] at hq); (try (exfalso; first | exact absurd hq (by decide) | omega))))
        all_goals ((try refine VC.mk ?_); (try simp only [CL.ncell, CL.cnt, Int.toNat_natCast, decide_eq_true_eq, decide_eq_false_iff_not, Bool.not_eq_true, Bool.not_false, Bool.not_true, and_self, and_true, true_and, te3b, te4b, te3s, te4s, Nat.mul_one, Nat.zero_add, List.length_cons, List.length_nil, Bool.false_eq_true, Bool.true_eq_false] at *); (try omega))
        all_goals (try rfl)
theorem put_all : ∀ f, PutOK f := by
  intro f
  induction f with
  | zero => exact put_zero
  | succ f ih => exact put_step ih
end Go.Eng.Ytppflbccfdbogaa
namespace Go.Eng.Ytppflbccfdbogaa
open Go.Proofs
set_option maxRecDepth 100000
set_option maxHeartbeats 0
set_option linter.unusedVariables false
set_option linter.unusedSimpArgs false
theorem norm_surj {l : List Int} {N : Nat} (hl : l.length = N) (h : isNorm l = true) {v : Nat} (h1 : 1 ≤ v) (h2 : v ≤ N) : ∃ s, s < N ∧ l.getD s 0 = v := by
  obtain ⟨b, d⟩ := (isNorm_iff l).1 h
  obtain ⟨s, s1, s2⟩ := inj_surj (c := fun i => (l.getD i 0).toNat - 1) (N := N) (fun i hi => by have := b i (by omega); show _ - 1 < N; omega) (fun i j hij hj => by
    have := b i (by omega); have := b j (by omega); have := d i j hij (by omega)
    show _ - 1 ≠ _ - 1; omega) (v - 1) (by omega)
  have := b s (by omega)
  have s2 : (l.getD s 0).toNat - 1 = v - 1 := s2
  exact ⟨s, s1, by omega⟩
/-! the inner cells, after t of them -/
def gI (m p : Nat) : Nat := (p / (m + 2) - 1) * m + (p % (m + 2) - 1)
def gIn (m p : Nat) : Bool := decide (1 ≤ p / (m + 2)) && decide (p / (m + 2) ≤ m) && decide (1 ≤ p % (m + 2)) && decide (p % (m + 2) ≤ m)
def gM (m : Nat) (a : List Int) (t : Nat) : List Int := (List.range ((m + 2) * (m + 2))).map (fun p => if gIn m p = true ∧ gI m p < t then a.getD (gI m p) 0 + 2 * m + 2 else 0)
theorem gM_len (m : Nat) (a : List Int) (t : Nat) : (gM m a t).length = (m + 2) * (m + 2) := by simp [gM]
def gIB (m i j p : Nat) : Bool := (decide (p = (i + 1) * (m + 2) + j + 1)) == (gIn m p && decide (gI m p = i * m + j))
theorem gI_all : ∀ m, m < 5 → ∀ i, i < m → ∀ j, j < m → ∀ p, p < (m + 2) * (m + 2) → gIB m i j p = true := by decide +kernel
theorem gM_set {m : Nat} (hm : m < 5) (a : List Int) {i j : Nat} (hi : i < m) (hj : j < m) : (gM m a (i * m + j)).set ((i + 1) * (m + 2) + j + 1) (a.getD (i * m + j) 0 + 2 * m + 2) = gM m a (i * m + j + 1) := by
  refine List.ext_getElem (by simp [gM_len]) fun p h1 h2 => ?_
  have hp : p < (m + 2) * (m + 2) := by simpa [gM_len] using h2
  have hb := gI_all m hm i hi j hj p hp
  unfold gIB at hb
  rw [List.getElem_set]
  simp only [gM, List.getElem_map, List.getElem_range]
  by_cases e : p = (i + 1) * (m + 2) + j + 1
  · rw [if_pos e.symm]
    rw [decide_eq_true e] at hb
    have hb : (gIn m p && decide (gI m p = i * m + j)) = true := (eq_of_beq hb).symm
    rw [Bool.and_eq_true, decide_eq_true_eq] at hb
    rw [if_pos ⟨hb.1, by omega⟩, hb.2]
  · rw [if_neg (fun h => e h.symm)]
    rw [decide_eq_false e] at hb
    have hb : (gIn m p && decide (gI m p = i * m + j)) = false := (eq_of_beq hb).symm
    by_cases c : gIn m p = true
    · rw [c, Bool.true_and, decide_eq_false_iff_not] at hb
      by_cases c2 : gI m p < i * m + j
      · rw [if_pos ⟨c, c2⟩, if_pos ⟨c, by omega⟩]
      · rw [if_neg (fun h => c2 h.2), if_neg (fun h => by have := h.2; omega)]
    · rw [if_neg (fun h => c h.1), if_neg (fun h => c h.1)]
theorem gM_zero (m : Nat) (a : List Int) : gM m a 0 = List.replicate ((m + 2) * (m + 2)) 0 := by
  refine List.ext_getElem (by simp [gM]) fun p h1 h2 => ?_
  simp [gM]
theorem gM_get {m : Nat} (a : List Int) (t : Nat) {p : Nat} (hp : p < (m + 2) * (m + 2)) : (gM m a t).getD p 0 = if gIn m p = true ∧ gI m p < t then a.getD (gI m p) 0 + 2 * m + 2 else 0 := by
  simp [gM, List.getD_eq_getElem?_getD, List.getElem?_map, List.getElem?_range hp]
def gZB (m : Nat) : Bool := (List.range (m + 2)).all (fun c => !gIn m c && !gIn m (c * (m + 2))) && (List.range (2 * (m + 2) - 2)).all (fun t => !gIn m (posN (m + 2) t) && !gIn m (oppN (m + 2) t))
theorem gZ_all : ∀ m, m < 5 → gZB m = true := by decide +kernel
theorem gM_GZ {m : Nat} (hm : 1 ≤ m ∧ m < 5) (a : List Int) (t : Nat) : GZ2 (m + 2) (gM m a t) := by
  have h := gZ_all m hm.2
  unfold gZB at h
  rw [Bool.and_eq_true, List.all_eq_true, List.all_eq_true] at h
  obtain ⟨h1, h2⟩ := h
  refine ⟨⟨gM_len m a t, fun c hc => ?_, fun r hr => ?_⟩, fun s hs => ?_⟩
  · have := h1 c (List.mem_range.2 hc)
    rw [Bool.and_eq_true, Bool.not_eq_true', Bool.not_eq_true'] at this
    rw [gM_get a t (Nat.lt_of_lt_of_le hc (Nat.le_mul_of_pos_left _ (by omega))), this.1, if_neg (fun h => by cases h.1)]
  · have := h1 r (List.mem_range.2 hr)
    rw [Bool.and_eq_true, Bool.not_eq_true', Bool.not_eq_true'] at this
    rw [gM_get a t (Nat.mul_lt_mul_of_pos_right hr (by omega)), this.2, if_neg (fun h => by cases h.1)]
  · have := h2 s (List.mem_range.2 hs)
    rw [Bool.and_eq_true, Bool.not_eq_true', Bool.not_eq_true'] at this
    obtain ⟨p1, p2⟩ := posN_ne (n := m + 2) (by omega) hs
    rw [gM_get a t p1, gM_get a t p2, this.1, this.2, if_neg (fun h => by cases h.1), if_neg (fun h => by cases h.1)]
    exact ⟨rfl, rfl⟩
/-! the marks, after t cells -/
def uM (m : Nat) (a : List Int) (t : Nat) : List Bool := (List.range ((m + 2) * (m + 2) + 1)).map (fun (x : Nat) => (List.range t).any (fun s => a.getD s 0 + 2 * m + 2 == (x : Int)))
theorem uM_len (m : Nat) (a : List Int) (t : Nat) : (uM m a t).length = (m + 2) * (m + 2) + 1 := by simp [uM]
theorem uM_zero (m : Nat) (a : List Int) : uM m a 0 = List.replicate ((m + 2) * (m + 2) + 1) false := by
  refine List.ext_getElem (by simp [uM]) fun p h1 h2 => ?_
  simp [uM]
theorem uM_set {m : Nat} {a : List Int} {t : Nat} {v : Int} (hv : v = a.getD t 0 + 2 * m + 2) (h0 : 0 ≤ v) : (uM m a t).set v.toNat true = uM m a (t + 1) := by
  refine List.ext_getElem (by simp [uM_len]) fun p h1 h2 => ?_
  have e0 : ∀ x : Nat, (List.range (t + 1)).any (fun s => a.getD s 0 + 2 * m + 2 == (x : Int)) = ((List.range t).any (fun s => a.getD s 0 + 2 * m + 2 == (x : Int)) || (v == (x : Int))) := fun x => by
    rw [List.range_succ, List.any_append, hv]; simp
  rw [List.getElem_set]
  simp only [uM, List.getElem_map, List.getElem_range, e0]
  by_cases e : v.toNat = p
  · rw [if_pos e]
    have : (v == (p : Int)) = true := by simp; omega
    rw [this, Bool.or_true]
  · rw [if_neg e]
    have : (v == (p : Int)) = false := by simp; omega
    rw [this, Bool.or_false]
theorem uM_all {m : Nat} (hm : 1 ≤ m ∧ m < 5) {a : List Int} (hl : a.length = m * m) (hn : isNorm a = true) : uM m a (m * m) = usI (m + 2) (List.replicate ((m + 2) * (m + 2) + 1) false) := by
  obtain ⟨b, _⟩ := (isNorm_iff a).1 hn
  refine List.ext_getElem (by simp [uM_len, usI_len]) fun x h1 h2 => ?_
  have hx : x < (m + 2) * (m + 2) + 1 := by simpa [uM_len] using h1
  simp only [uM, usI, List.getElem_map, List.getElem_range]
  have hsq : (m + 2) * (m + 2) = m * m + 4 * m + 4 := by grind
  have hB : leftB (m + 2) (List.replicate ((m + 2) * (m + 2) + 1) false) x = bordB (m + 2) x := by
    unfold leftB
    rw [List.getD_eq_getElem?_getD, List.getElem?_replicate, if_pos hx]; simp
  rw [hB]
  have hb : bordB (m + 2) x = (decide (x ≤ 2 * m + 2) || decide (m * m + 2 * m + 3 ≤ x)) := by
    unfold bordB
    rw [hsq]
    congr 1 <;> exact decide_eq_decide.2 (by omega)
  rw [hb]
  by_cases c : 2 * m + 3 ≤ x ∧ x ≤ m * m + 2 * m + 2
  · obtain ⟨s, s1, s2⟩ := norm_surj hl hn (show 1 ≤ x - (2 * m + 2) by omega) (by omega)
    rw [decide_eq_false (show ¬ x ≤ 2 * m + 2 by omega), decide_eq_false (show ¬ m * m + 2 * m + 3 ≤ x by omega), decide_eq_true (show 1 ≤ x by omega)]
    have : (List.range (m * m)).any (fun s => a.getD s 0 + 2 * m + 2 == (x : Int)) = true := List.any_eq_true.2 ⟨s, List.mem_range.2 s1, by rw [s2]; simp; omega⟩
    rw [this]; rfl
  · have : (List.range (m * m)).any (fun s => a.getD s 0 + 2 * m + 2 == (x : Int)) = false := by
      rw [Bool.eq_false_iff]; intro h
      obtain ⟨s, s1, s2⟩ := List.any_eq_true.1 h
      have := b s (by rw [hl]; exact List.mem_range.1 s1)
      rw [hl] at this
      have s2 : a.getD s 0 + 2 * m + 2 = (x : Int) := by simpa using s2
      have e : ((m * m : Nat) : Int) = (m : Int) * m := by push_cast; rfl
      omega
    rw [this]
    by_cases c1 : 1 ≤ x
    · have : (decide (x ≤ 2 * m + 2) || decide (m * m + 2 * m + 3 ≤ x)) = true := by
        rw [Bool.or_eq_true, decide_eq_true_eq, decide_eq_true_eq]; omega
      rw [this]; simp
    · rw [decide_eq_false c1]; rfl
/-- the whole square -/
def rowOK (n : Nat) : Bool := (List.range n).all fun r => (List.range n).all fun c =>
  (if 1 ≤ r ∧ r + 2 ≤ n ∧ 1 ≤ c ∧ c + 2 ≤ n then idxC n r c == (1000, false) else decide ((idxC n r c).1 < 2 * n - 2))
theorem rowOK_all : ∀ m, m < 5 → rowOK (m + 2) = true := by decide +kernel
theorem fillC_bord {m : Nat} (hm : 1 ≤ m ∧ m < 5) {a cs : List Int} (hl : a.length = m * m) (hc : cs.length = 2 * (m + 2) - 2) : fillC (m + 2) (gM m a (m * m)) cs cs.length = madeL (m + 2) (sqF (m + 2) a cs) := by
  have hg := gM_GZ hm a (m * m)
  refine List.ext_getElem (by rw [fillC_len, gM_len]; simp [madeL]) fun p h1 h2 => ?_
  have hp : p < (m + 2) * (m + 2) := by rw [fillC_len, gM_len] at h1; exact h1
  have hr : p / (m + 2) < m + 2 := Nat.div_lt_of_lt_mul hp
  have hcc : p % (m + 2) < m + 2 := Nat.mod_lt _ (by omega)
  have hpe : p / (m + 2) * (m + 2) + p % (m + 2) = p := by rw [Nat.mul_comm, Nat.div_add_mod]
  have e := fillC_get (n := m + 2) (by omega) (gM m a (m * m)) cs hg.len _ _ hr hcc cs.length (by omega)
  rw [hpe, List.getD_eq_getElem?_getD, List.getElem?_eq_getElem h1, Option.getD_some, gM_get a _ hp] at e
  rw [e]
  simp only [madeL, List.getElem_map, List.getElem_range]
  have ho := rowOK_all m hm.2
  unfold rowOK at ho
  rw [List.all_eq_true] at ho
  have ho := ho _ (List.mem_range.2 hr)
  rw [List.all_eq_true] at ho
  have ho := ho _ (List.mem_range.2 hcc)
  unfold gIn gI
  generalize p / (m + 2) = r at *
  generalize p % (m + 2) = c at *
  have hgi : 1 ≤ r ∧ r + 2 ≤ m + 2 ∧ 1 ≤ c ∧ c + 2 ≤ m + 2 → (r - 1) * m + (c - 1) < m * m := fun h => by
    have := Nat.mul_le_mul_right m (show r - 1 + 1 ≤ m by omega)
    rw [Nat.add_mul] at this; omega
  unfold valC
  unfold sqF
  by_cases hin : 1 ≤ r ∧ r + 2 ≤ m + 2 ∧ 1 ≤ c ∧ c + 2 ≤ m + 2
  · rw [if_pos hin] at ho
    have ho : idxC (m + 2) r c = (1000, false) := eq_of_beq ho
    rw [ho, if_neg (by simp only; omega), if_pos ⟨by simp only [Bool.and_eq_true, decide_eq_true_eq]; omega, hgi hin⟩, if_neg (by omega), if_neg (by omega), if_neg (by omega), if_neg (by omega)]
    rw [show m + 2 - 2 = m by omega, show (r - 1) * m + (c - 1) = (r - 1) * m + c - 1 by omega]
    push_cast; omega
  · rw [if_neg hin] at ho
    have ho := of_decide_eq_true ho
    rw [if_pos (by omega)]
    unfold idxC
    by_cases r0 : r = 0
    · rw [if_pos r0, if_pos r0]; rfl
    · rw [if_neg r0, if_neg r0]
      by_cases r1 : r = m + 2 - 1
      · rw [if_pos r1, if_pos r1]
        by_cases c0 : c = 0
        · rw [if_pos c0, if_pos (Or.inl c0), c0]; rfl
        · rw [if_neg c0]
          by_cases c1 : c = m + 2 - 1
          · rw [if_pos c1, if_pos (Or.inr c1), c1, Nat.sub_self]; rfl
          · rw [if_neg c1, if_neg (show ¬ (c = 0 ∨ c = m + 2 - 1) by omega)]; rfl
      · rw [if_neg r1, if_neg r1]
        by_cases c0 : c = 0
        · rw [if_pos c0, if_pos c0, show m + 2 + r - 1 = m + 2 + r - 1 from rfl]; rfl
        · rw [if_neg c0, if_neg c0]
          by_cases c1 : c = m + 2 - 1
          · rw [if_pos c1, if_pos c1]; rfl
          · exact absurd ⟨by omega, by omega, by omega, by omega⟩ hin
end Go.Eng.Ytppflbccfdbogaa
namespace Go.Eng.Ytppflbccfdbogaa
open Go.Proofs
set_option maxRecDepth 100000
set_option maxHeartbeats 0
set_option linter.unusedVariables false
set_option linter.unusedSimpArgs false
noncomputable def cpSq : CPT := cpAdd 100 (lendCC [] emptyL) noC
theorem cpSq_ok : CPOK Try.prog cpSq := cpAdd_ok (lendCC_ok [] SquareL_ok) noC_ok
end Go.Eng.Ytppflbccfdbogaa
namespace Go.Eng.Ytppflbccfdbogaa
open Go.Proofs
set_option maxRecDepth 100000
set_option maxHeartbeats 0
set_option linter.unusedVariables false
set_option linter.unusedSimpArgs false
theorem rProduct_great (m n : Nat) (ca cb : Int) (a b : List Int) (hm : 1 ≤ m ∧ m ≤ 16) (hn : 1 ≤ n ∧ n ≤ 16) (h : 16 < m * n) : PSpec Try.prog 53 [gridV m ca a, gridV n cb b] (noGrid 20) := by
  have e : (m : Int) * n = ((m * n : Nat) : Int) := by push_cast; rfl
  have := mul_bd (show 0 ≤ (m : Int) ∧ (m : Int) ≤ 16 by omega) (show 0 ≤ (n : Int) ∧ (n : Int) ≤ 16 by omega)
  refine pspec_of (md := 0) (rf := []) mixed tabOK noC_ok Try.func53 (by rfl) (by rfl) (by rfl) ?_
  repeat' (first | ((conv => whnf); refine And.intro ?_ ?_) | ((conv => whnf); with_reducible exact VC.mk rfl) | ((conv => whnf); exact Ok.mk) | ((conv => whnf); exact True.intro) | ((conv => whnf); refine Nx.mk ?_) | ((conv => whnf); refine Fin.mk ?_) | ((conv => whnf); intro hq; (try simp only [decide_eq_true_eq, decide_eq_false_iff_not, Bool.not_eq_true, Bool.not_eq_false, Bool.not_eq_true', Bool.not_eq_false', Bool.not_true, Bool.not_false, ite_true, ite_false] at hq); (try (exfalso; first | exact absurd hq (by decide) | omega))))
  all_goals ((try refine VC.mk ?_); (try simp only [CL.ncell, CL.cnt, Int.toNat_natCast, decide_eq_true_eq, decide_eq_false_iff_not, Bool.not_eq_true, Bool.not_false, Bool.not_true, and_self, and_true, true_and, te3b, te4b, te3s, te4s, Nat.mul_one, Nat.zero_add, List.length_cons, List.length_nil, Bool.false_eq_true, Bool.true_eq_false] at *); (try omega))
  all_goals (try (exfalso; omega))
  all_goals (refine Sup.via ?_; repeat' (first | ((conv => whnf); refine And.intro ?_ ?_) | ((conv => whnf); with_reducible exact VC.mk rfl) | ((conv => whnf); exact Ok.mk) | ((conv => whnf); exact True.intro) | ((conv => whnf); refine Nx.mk ?_) | ((conv => whnf); refine Fin.mk ?_) | ((conv => whnf); intro _)); all_goals ((try refine VC.mk ?_); (try simp only [CL.ncell, CL.cnt, Int.toNat_natCast, decide_eq_true_eq, decide_eq_false_iff_not, Bool.not_eq_true, Bool.not_false, Bool.not_true, and_self, and_true, true_and, te3b, te4b, te3s, te4s, Nat.mul_one, Nat.zero_add, List.length_cons, List.length_nil, Bool.false_eq_true, Bool.true_eq_false] at *); (try omega)); all_goals (try (simp [CL.sub]; done)))
theorem rProduct_good (m n : Nat) (ca cb : Int) (a b : List Int) (hm : 1 ≤ m ∧ m ≤ 16) (hn : 1 ≤ n ∧ n ≤ 16) (la : a.length = m * m) (lb : b.length = n * n) (ha : ∀ x ∈ a, 1 ≤ x ∧ x ≤ 256) (hb : ∀ x ∈ b, 1 ≤ x ∧ x ≤ 256) (hmn : m * n ≤ 16) :
    PSpec Try.prog 53 [gridV m ca a, gridV n cb b] (okGrid (m * n : Nat) (m * n : Nat) (prodL m n a b)) := by
  have e : (m : Int) * n = ((m * n : Nat) : Int) := by push_cast; rfl
  obtain ⟨q, hq⟩ : ∃ q, q = m * n := ⟨_, rfl⟩
  have hq1 : 1 ≤ q := by rw [hq]; exact Nat.mul_pos hm.1 hn.1
  have eQ : ((q : Int) * q).toNat = q * q := by rw [← Int.natCast_mul, Int.toNat_natCast]
  have hqq := mul_bd (show 0 ≤ (q : Int) ∧ (q : Int) ≤ 16 by omega) (show 0 ≤ (q : Int) ∧ (q : Int) ≤ 16 by omega)
  have hqn : ((q * q : Nat) : Int) = (q : Int) * q := by push_cast; rfl
  rw [← hq] at hmn
  have eq' : (m : Int) * n = q := by rw [e, ← hq]
  obtain ⟨g, hgd⟩ : ∃ g : Nat → Int, g = fun k => prodF m n a b (k / q) (k % q) := ⟨_, rfl⟩
  have hg : ∀ i j : Nat, j < q → prodF m n a b i j = g (q * i + j) := fun i j hj => by
    have h1 : (q * i + j) / q = i := by rw [Nat.mul_add_div (by omega), Nat.div_eq_of_lt hj]; simp
    have h2 : (q * i + j) % q = j := by rw [Nat.mul_add_mod, Nat.mod_eq_of_lt hj]
    simp only [hgd, h1, h2]
  have hix : ∀ i j : Nat, ((i : Int) * m * n + j) = ((q * i + j : Nat) : Int) := fun i j => by push_cast; rw [Int.mul_assoc, eq', Int.mul_comm]
  have eL : prodL m n a b = (List.range (q * q)).map g := by unfold prodL madeL; rw [← hq, hgd]
  rw [eL, ← hq]
  have la' : (a.length : Int) = (m * m : Nat) := by rw [la]
  have lb' : (b.length : Int) = (n * n : Nat) := by rw [lb]
  refine pspec_of (md := 0) (rf := []) mixed tabOK cpSq_ok Try.func53 (by rfl) (by rfl) (by rfl) ?_
  repeat' (first | ((conv => whnf); refine And.intro ?_ ?_) | ((conv => whnf); with_reducible exact VC.mk rfl) | ((conv => whnf); exact Ok.mk) | ((conv => whnf); exact True.intro) | ((conv => whnf); refine Nx.mk ?_) | ((conv => whnf); refine Fin.mk ?_) | ((conv => whnf); intro hq; (try simp only [decide_eq_true_eq, decide_eq_false_iff_not, Bool.not_eq_true, Bool.not_eq_false, Bool.not_eq_true', Bool.not_eq_false', Bool.not_true, Bool.not_false, ite_true, ite_false] at hq); (try (exfalso; first | exact absurd hq (by decide) | omega))))
  all_goals ((try refine VC.mk ?_); (try simp only [CL.ncell, CL.cnt, Int.toNat_natCast, decide_eq_true_eq, decide_eq_false_iff_not, Bool.not_eq_true, Bool.not_false, Bool.not_true, and_self, and_true, true_and, te3b, te4b, te3s, te4s, Nat.mul_one, Nat.zero_add, List.length_cons, List.length_nil, Bool.false_eq_true, Bool.true_eq_false] at *); (try omega))
  all_goals (try (exfalso; omega))
  all_goals (try omega)
  conv => whnf
  simp only [eq', eQ]
  refine loop_of (X := Nat) (fun i => i ≤ q) (fun i => [(9, .int .i64 i)]) (fun i => [(3, .cells (.ints .i64 (fillG g (q * q) (q * i))) false)]) (fun i => q - i) 0 ⟨anyB_ok, mixed, tabOK, cpSq_ok, noY_ok⟩ (by rfl) (by omega) ?_ ?_
  · repeat' (first | ((conv => whnf); refine And.intro ?_ ?_) | ((conv => whnf); with_reducible exact VC.mk rfl) | ((conv => whnf); exact Ok.mk) | ((conv => whnf); exact True.intro) | ((conv => whnf); refine Nx.mk ?_) | ((conv => whnf); refine Fin.mk ?_) | ((conv => whnf); intro _))
    all_goals ((try refine VC.mk ?_); (try simp only [CL.ncell, CL.cnt, Int.toNat_natCast, decide_eq_true_eq, decide_eq_false_iff_not, Bool.not_eq_true, Bool.not_false, Bool.not_true, and_self, and_true, true_and, te3b, te4b, te3s, te4s, Nat.mul_one, Nat.zero_add, List.length_cons, List.length_nil, Bool.false_eq_true, Bool.true_eq_false] at *); (try omega))
    all_goals simp [fillG_zero]
  intro i hi
  by_cases hlt : i < q
  · repeat' (first | ((conv => whnf); refine And.intro ?_ ?_) | ((conv => whnf); with_reducible exact VC.mk rfl) | ((conv => whnf); exact Ok.mk) | ((conv => whnf); exact True.intro) | ((conv => whnf); refine Nx.mk ?_) | ((conv => whnf); refine Fin.mk ?_) | ((conv => whnf); intro hq; (try simp only [decide_eq_true_eq, decide_eq_false_iff_not, Bool.not_eq_true, Bool.not_eq_false, Bool.not_eq_true', Bool.not_eq_false', Bool.not_true, Bool.not_false, ite_true, ite_false] at hq); (try (exfalso; first | exact absurd hq (by decide) | omega))))
    all_goals ((try refine VC.mk ?_); (try simp only [CL.ncell, CL.cnt, Int.toNat_natCast, decide_eq_true_eq, decide_eq_false_iff_not, Bool.not_eq_true, Bool.not_false, Bool.not_true, and_self, and_true, true_and, te3b, te4b, te3s, te4s, Nat.mul_one, Nat.zero_add, List.length_cons, List.length_nil, Bool.false_eq_true, Bool.true_eq_false] at *); (try omega))
    all_goals (try omega)
    conv => whnf
    refine loop_of (X := Nat) (fun j => j ≤ q) (fun j => [(10, .int .i64 j)]) (fun j => [(3, .cells (.ints .i64 (fillG g (q * q) (q * i + j))) false)]) (fun j => q - j) 0 ⟨anyB_ok, mixed, tabOK, cpSq_ok, noY_ok⟩ (by rfl) (by omega) ?_ ?_
    · repeat' (first | ((conv => whnf); refine And.intro ?_ ?_) | ((conv => whnf); with_reducible exact VC.mk rfl) | ((conv => whnf); exact Ok.mk) | ((conv => whnf); exact True.intro) | ((conv => whnf); refine Nx.mk ?_) | ((conv => whnf); refine Fin.mk ?_) | ((conv => whnf); intro _))
      all_goals ((try refine VC.mk ?_); (try simp only [CL.ncell, CL.cnt, Int.toNat_natCast, decide_eq_true_eq, decide_eq_false_iff_not, Bool.not_eq_true, Bool.not_false, Bool.not_true, and_self, and_true, true_and, te3b, te4b, te3s, te4s, Nat.mul_one, Nat.zero_add, List.length_cons, List.length_nil, Bool.false_eq_true, Bool.true_eq_false] at *); (try omega))
      all_goals simp
    intro j hj
    by_cases hlj : j < q
    · have hb0 := flat_idx (n := q) hlt hlj
      have P := prodI hn.1 la lb ha hb (show i < m * n by omega) (show j < m * n by omega)
      obtain ⟨e1, e2, c1, c2, c3, c4, c5, c6, c7, c8⟩ := prodR hm hn P (show i < m * n by omega) (show j < m * n by omega)
      obtain ⟨i1, i2, v1, v2⟩ := P
      have e3 := fillG_len g (q * q) (q * i + j) (by omega)
      have e4 := hg i j hlj
      have e5 := hix i j
      have e6 : (i : Int) * m * n = ((q * i : Nat) : Int) := by rw [Int.mul_assoc, eq', Int.mul_comm]; push_cast; rfl
      have e7 : 0 ≤ (i : Int) * m ∧ (i : Int) * m ≤ 256 := mul_bd (A := 16) (B := 16) (by omega) (by omega)
      unfold prodF sqAt at e4
      clear hg hix ha hb la lb
      repeat' (first | ((conv => whnf); refine And.intro ?_ ?_) | ((conv => whnf); with_reducible exact VC.mk rfl) | ((conv => whnf); exact Ok.mk) | ((conv => whnf); exact True.intro) | ((conv => whnf); refine Nx.mk ?_) | ((conv => whnf); refine Fin.mk ?_) | ((conv => whnf); intro hq; (try simp only [decide_eq_true_eq, decide_eq_false_iff_not, Bool.not_eq_true, Bool.not_eq_false, Bool.not_eq_true', Bool.not_eq_false', Bool.not_true, Bool.not_false, ite_true, ite_false] at hq); (try (exfalso; first | exact absurd hq (by decide) | omega))))
      all_goals ((try refine VC.mk ?_); (try simp only [CL.ncell, CL.cnt, Int.toNat_natCast, decide_eq_true_eq, decide_eq_false_iff_not, Bool.not_eq_true, Bool.not_false, Bool.not_true, and_self, and_true, true_and, te3b, te4b, te3s, te4s, Nat.mul_one, Nat.zero_add, List.length_cons, List.length_nil, Bool.false_eq_true, Bool.true_eq_false] at *); (try omega))
      all_goals (try simp only [e1, e2, e5, Int.toNat_natCast] at *)
      all_goals (try omega)
      refine ⟨j + 1, [], ⟨by omega, by omega⟩, ?_⟩
      repeat' (first | ((conv => whnf); refine And.intro ?_ ?_) | ((conv => whnf); with_reducible exact VC.mk rfl) | ((conv => whnf); exact Ok.mk) | ((conv => whnf); exact True.intro) | ((conv => whnf); refine Nx.mk ?_) | ((conv => whnf); refine Fin.mk ?_) | ((conv => whnf); intro _))
      all_goals ((try refine VC.mk ?_); (try simp only [CL.ncell, CL.cnt, Int.toNat_natCast, decide_eq_true_eq, decide_eq_false_iff_not, Bool.not_eq_true, Bool.not_false, Bool.not_true, and_self, and_true, true_and, te3b, te4b, te3s, te4s, Nat.mul_one, Nat.zero_add, List.length_cons, List.length_nil, Bool.false_eq_true, Bool.true_eq_false] at *); (try omega))
      all_goals (rw [show q * i + (j + 1) = q * i + j + 1 from rfl, ← fillG_set g (q * q) (q * i + j) (by omega), ← e4])
    · have : q = j := by omega
      subst this
      repeat' (first | ((conv => whnf); refine And.intro ?_ ?_) | ((conv => whnf); with_reducible exact VC.mk rfl) | ((conv => whnf); exact Ok.mk) | ((conv => whnf); exact True.intro) | ((conv => whnf); refine Nx.mk ?_) | ((conv => whnf); refine Fin.mk ?_) | ((conv => whnf); intro hq; (try simp only [decide_eq_true_eq, decide_eq_false_iff_not, Bool.not_eq_true, Bool.not_eq_false, Bool.not_eq_true', Bool.not_eq_false', Bool.not_true, Bool.not_false, ite_true, ite_false] at hq); (try (exfalso; first | exact absurd hq (by decide) | omega))))
      all_goals ((try refine VC.mk ?_); (try simp only [CL.ncell, CL.cnt, Int.toNat_natCast, decide_eq_true_eq, decide_eq_false_iff_not, Bool.not_eq_true, Bool.not_false, Bool.not_true, and_self, and_true, true_and, te3b, te4b, te3s, te4s, Nat.mul_one, Nat.zero_add, List.length_cons, List.length_nil, Bool.false_eq_true, Bool.true_eq_false] at *); (try omega))
      all_goals (try (exfalso; omega))
      refine ⟨i + 1, [], ⟨by omega, by omega⟩, ?_⟩
      repeat' (first | ((conv => whnf); refine And.intro ?_ ?_) | ((conv => whnf); with_reducible exact VC.mk rfl) | ((conv => whnf); exact Ok.mk) | ((conv => whnf); exact True.intro) | ((conv => whnf); refine Nx.mk ?_) | ((conv => whnf); refine Fin.mk ?_) | ((conv => whnf); intro _))
      all_goals ((try refine VC.mk ?_); (try simp only [CL.ncell, CL.cnt, Int.toNat_natCast, decide_eq_true_eq, decide_eq_false_iff_not, Bool.not_eq_true, Bool.not_false, Bool.not_true, and_self, and_true, true_and, te3b, te4b, te3s, te4s, Nat.mul_one, Nat.zero_add, List.length_cons, List.length_nil, Bool.false_eq_true, Bool.true_eq_false] at *); (try omega))
  · have : q = i := by omega
    subst this
    repeat' (first | ((conv => whnf); refine And.intro ?_ ?_) | ((conv => whnf); with_reducible exact VC.mk rfl) | ((conv => whnf); exact Ok.mk) | ((conv => whnf); exact True.intro) | ((conv => whnf); refine Nx.mk ?_) | ((conv => whnf); refine Fin.mk ?_) | ((conv => whnf); intro hq; (try simp only [decide_eq_true_eq, decide_eq_false_iff_not, Bool.not_eq_true, Bool.not_eq_false, Bool.not_eq_true', Bool.not_eq_false', Bool.not_true, Bool.not_false, ite_true, ite_false] at hq); (try (exfalso; first | exact absurd hq (by decide) | omega))))
    all_goals ((try refine VC.mk ?_); (try simp only [CL.ncell, CL.cnt, Int.toNat_natCast, decide_eq_true_eq, decide_eq_false_iff_not, Bool.not_eq_true, Bool.not_false, Bool.not_true, and_self, and_true, true_and, te3b, te4b, te3s, te4s, Nat.mul_one, Nat.zero_add, List.length_cons, List.length_nil, Bool.false_eq_true, Bool.true_eq_false] at *); (try omega))
    all_goals (try (exfalso; omega))
    · rw [fillG_len _ _ _ (Nat.le_refl _)]; exact Nat.le_refl _
    rw [fillG_all]
    refine Sup.via ?_
    repeat' (first | ((conv => whnf); refine And.intro ?_ ?_) | ((conv => whnf); with_reducible exact VC.mk rfl) | ((conv => whnf); exact Ok.mk) | ((conv => whnf); exact True.intro) | ((conv => whnf); refine Nx.mk ?_) | ((conv => whnf); refine Fin.mk ?_) | ((conv => whnf); intro _))
    all_goals ((try refine VC.mk ?_); (try simp only [CL.ncell, CL.cnt, Int.toNat_natCast, decide_eq_true_eq, decide_eq_false_iff_not, Bool.not_eq_true, Bool.not_false, Bool.not_true, and_self, and_true, true_and, te3b, te4b, te3s, te4s, Nat.mul_one, Nat.zero_add, List.length_cons, List.length_nil, Bool.false_eq_true, Bool.true_eq_false] at *); (try omega))
    simp [CL.sub, List.take_of_length_le]
end Go.Eng.Ytppflbccfdbogaa
namespace Go.Eng.Ytppflbccfdbogaa
open Go.Proofs
set_option maxRecDepth 100000
set_option maxHeartbeats 0
set_option linter.unusedVariables false
set_option linter.unusedSimpArgs false
def putF : LSp := fun xs objs K => match xs, objs with
  | [.agg [.int .i64 n, .int .i64 n', .rsl 0 0 N], .rsl 1 0 M, .int .i64 0], [.cells (.ints .i64 gs) false, .cells (.bools bs) false] =>
    ∃ (m : Nat) (a : List Int), VC ((1 ≤ m ∧ m < 5) ∧ (n = (m + 2 : Nat) ∧ n' = (m + 2 : Nat)) ∧ (N = (m + 2) * (m + 2) ∧ M = (m + 2) * (m + 2) + 1) ∧ (gs = gM m a (m * m) ∧ bs = uM m a (m * m)) ∧ a.length = m * m ∧ isNorm a = true) ∧ K [.bp true] [.cells (.ints .i64 (bordL (m + 2) a)) false, .cells (.bools (usI (m + 2) (usB (m + 2)))) false]
  | _, _ => False
theorem putF_ok : LOK Try.prog 106 putF := by
  intro xs objs K hk
  unfold putF at hk
  split at hk
  · rename_i n n' N M gs bs
    obtain ⟨m, a, ⟨h1, ⟨rfl, rfl⟩, ⟨rfl, rfl⟩, ⟨rfl, rfl⟩, h6, h7⟩, hK⟩ := hk
    have hn : 3 ≤ m + 2 ∧ m + 2 ≤ 6 := by omega
    have hF := finv0 hn
    have hsq := (srch0_eq hn).1
    have hmm : (m : Int) * m ≤ 16 := (mul_bd (A := 4) (B := 4) (show 0 ≤ (m : Int) ∧ (m : Int) ≤ 4 by omega) (show 0 ≤ (m : Int) ∧ (m : Int) ≤ 4 by omega)).2
    have hbd : ∀ x ∈ gM m a (m * m), 0 ≤ x ∧ x ≤ 100 := fun x hx => by
      obtain ⟨p, _, rfl⟩ := List.mem_map.1 hx
      split
      · rename_i h
        have := ((isNorm_iff a).1 h7).1 (gI m p) (by omega)
        rw [h6] at this; push_cast at this; omega
      · omega
    have h := put_all (2 * (m + 2)) (m + 2) (gM m a (m * m)) [] (List.replicate ((m + 2) * (m + 2) + 1) false) (constOf (m + 2 : Nat)) hn (gM_GZ h1 a _) hbd hF
      ⟨by simp [accS, psum, sumF], fun e => by rw [List.length_nil] at e; omega, fun e => by rw [List.length_nil] at e; omega⟩ (by simp)
    have hs : srch (m + 2) (2 * (m + 2)) (constOf (m + 2 : Nat)) [] (List.replicate ((m + 2) * (m + 2) + 1) false) = some (castL (borderC (m + 2)), usB (m + 2)) := hsq
    rw [hs] at h
    simp only [putR, Option.isSome_some, Option.getD_some, List.length_nil, fillC, Int.natCast_zero, Int.ofNat_zero] at h
    have hbc : (castL (borderC (m + 2))).length = 2 * (m + 2) - 2 := by rw [castL, List.length_map]; exact borderC_len hn
    rw [fillC_bord h1 h6 hbc, ← uM_all h1 h6 h7] at h
    exact ⟨_, _, hK, h⟩
  · exact hk.elim
noncomputable def cpBo : CPT := cpAdd 106 (lendCC [] putF) (cpAdd 100 (lendCC [] emptyL) noC)
theorem cpBo_ok : CPOK Try.prog cpBo := cpAdd_ok (lendCC_ok [] putF_ok) (cpAdd_ok (lendCC_ok [] SquareL_ok) noC_ok)
theorem rBorder_spec (m : Nat) (ca : Int) (a : List Int) (hm : 1 ≤ m ∧ m < 5) (la : a.length = m * m) (hn : isNorm a = true) : PSpec Try.prog 55 [gridV m ca a] (gridV ((m : Int) + 2) ((m : Int) + 2) (bordL (m + 2) a)) := by
  have hM := mul_bd (A := 6) (B := 6) (show 0 ≤ (m : Int) + 2 ∧ (m : Int) + 2 ≤ 6 by omega) (show 0 ≤ (m : Int) + 2 ∧ (m : Int) + 2 ≤ 6 by omega)
  have eM : ((m : Int) + 2) * ((m : Int) + 2) = (((m + 2) * (m + 2) : Nat) : Int) := by push_cast; rfl
  have eQ : (((m : Int) + 2) * ((m : Int) + 2)).toNat = (m + 2) * (m + 2) := by rw [eM, Int.toNat_natCast]
  have eQ1 : (((m : Int) + 2) * ((m : Int) + 2) + 1).toNat = (m + 2) * (m + 2) + 1 := by rw [eM]; omega
  have hab : ∀ i, i < m * m → 1 ≤ a.getD i 0 ∧ a.getD i 0 ≤ m * m := fun i hi => by
    have := ((isNorm_iff a).1 hn).1 i (by omega)
    rw [la] at this; push_cast at this; exact this
  refine pspec_of (md := 0) (rf := []) mixed tabOK cpBo_ok Try.func55 (by rfl) (by rfl) (by rfl) ?_
  repeat' (first | ((conv => whnf); refine And.intro ?_ ?_) | ((conv => whnf); with_reducible exact VC.mk rfl) | ((conv => whnf); exact Ok.mk) | ((conv => whnf); exact True.intro) | ((conv => whnf); refine Nx.mk ?_) | ((conv => whnf); refine Fin.mk ?_) | ((conv => whnf); intro hq; (try simp only [decide_eq_true_eq, decide_eq_false_iff_not, Bool.not_eq_true, Bool.not_eq_false, Bool.not_eq_true', Bool.not_eq_false', Bool.not_true, Bool.not_false, ite_true, ite_false] at hq); (try (exfalso; first | exact absurd hq (by decide) | omega))))
  all_goals ((try refine VC.mk ?_); (try simp only [CL.ncell, CL.cnt, Int.toNat_natCast, decide_eq_true_eq, decide_eq_false_iff_not, Bool.not_eq_true, Bool.not_false, Bool.not_true, and_self, and_true, true_and, te3b, te4b, te3s, te4s, Nat.mul_one, Nat.zero_add, List.length_cons, List.length_nil, Bool.false_eq_true, Bool.true_eq_false] at *); (try omega))
  all_goals (try (exfalso; omega))
  all_goals (try omega)
  conv => whnf
  simp only [eQ, eQ1]
  refine loop_of (X := Nat) (fun i => i ≤ m) (fun i => [(7, .int .i64 i)]) (fun i => [(2, .cells (.ints .i64 (gM m a (i * m))) false), (7, .cells (.bools (uM m a (i * m))) false)]) (fun i => m - i) 0 ⟨anyB_ok, mixed, tabOK, cpBo_ok, noY_ok⟩ (by rfl) (by omega) ?_ ?_
  · repeat' (first | ((conv => whnf); refine And.intro ?_ ?_) | ((conv => whnf); with_reducible exact VC.mk rfl) | ((conv => whnf); exact Ok.mk) | ((conv => whnf); exact True.intro) | ((conv => whnf); refine Nx.mk ?_) | ((conv => whnf); refine Fin.mk ?_) | ((conv => whnf); intro _))
    all_goals ((try refine VC.mk ?_); (try simp only [CL.ncell, CL.cnt, Int.toNat_natCast, decide_eq_true_eq, decide_eq_false_iff_not, Bool.not_eq_true, Bool.not_false, Bool.not_true, and_self, and_true, true_and, te3b, te4b, te3s, te4s, Nat.mul_one, Nat.zero_add, List.length_cons, List.length_nil, Bool.false_eq_true, Bool.true_eq_false] at *); (try omega))
    all_goals (first | (rw [Nat.zero_mul, gM_zero]) | (rw [Nat.zero_mul, uM_zero]) | (simp only [gM_zero, uM_zero, Nat.zero_mul]) | skip)
    all_goals (try rfl)
  intro i hi
  by_cases hlt : i < m
  · repeat' (first | ((conv => whnf); refine And.intro ?_ ?_) | ((conv => whnf); with_reducible exact VC.mk rfl) | ((conv => whnf); exact Ok.mk) | ((conv => whnf); exact True.intro) | ((conv => whnf); refine Nx.mk ?_) | ((conv => whnf); refine Fin.mk ?_) | ((conv => whnf); intro hq; (try simp only [decide_eq_true_eq, decide_eq_false_iff_not, Bool.not_eq_true, Bool.not_eq_false, Bool.not_eq_true', Bool.not_eq_false', Bool.not_true, Bool.not_false, ite_true, ite_false] at hq); (try (exfalso; first | exact absurd hq (by decide) | omega))))
    all_goals ((try refine VC.mk ?_); (try simp only [CL.ncell, CL.cnt, Int.toNat_natCast, decide_eq_true_eq, decide_eq_false_iff_not, Bool.not_eq_true, Bool.not_false, Bool.not_true, and_self, and_true, true_and, te3b, te4b, te3s, te4s, Nat.mul_one, Nat.zero_add, List.length_cons, List.length_nil, Bool.false_eq_true, Bool.true_eq_false] at *); (try omega))
    all_goals (try omega)
    conv => whnf
    refine loop_of (X := Nat) (fun j => j ≤ m) (fun j => [(8, .int .i64 j)]) (fun j => [(2, .cells (.ints .i64 (gM m a (i * m + j))) false), (7, .cells (.bools (uM m a (i * m + j))) false)]) (fun j => m - j) 0 ⟨anyB_ok, mixed, tabOK, cpBo_ok, noY_ok⟩ (by rfl) (by omega) ?_ ?_
    · repeat' (first | ((conv => whnf); refine And.intro ?_ ?_) | ((conv => whnf); with_reducible exact VC.mk rfl) | ((conv => whnf); exact Ok.mk) | ((conv => whnf); exact True.intro) | ((conv => whnf); refine Nx.mk ?_) | ((conv => whnf); refine Fin.mk ?_) | ((conv => whnf); intro _))
      all_goals ((try refine VC.mk ?_); (try simp only [CL.ncell, CL.cnt, Int.toNat_natCast, decide_eq_true_eq, decide_eq_false_iff_not, Bool.not_eq_true, Bool.not_false, Bool.not_true, and_self, and_true, true_and, te3b, te4b, te3s, te4s, Nat.mul_one, Nat.zero_add, List.length_cons, List.length_nil, Bool.false_eq_true, Bool.true_eq_false] at *); (try omega))
      all_goals (try rfl)
    intro j hj
    by_cases hlj : j < m
    · have hb0 : i * m + j < m * m := by
        have := Nat.mul_le_mul_right m (show i + 1 ≤ m by omega)
        rw [Nat.add_mul] at this; omega
      have hv := hab (i * m + j) hb0
      have hmm := mul_bd (A := 4) (B := 4) (show 0 ≤ (m : Int) ∧ (m : Int) ≤ 4 by omega) (show 0 ≤ (m : Int) ∧ (m : Int) ≤ 4 by omega)
      have him := mul_bd (A := 4) (B := 4) (show 0 ≤ (i : Int) ∧ (i : Int) ≤ 4 by omega) (show 0 ≤ (m : Int) ∧ (m : Int) ≤ 4 by omega)
      have him2 := mul_bd (A := 4) (B := 6) (show 0 ≤ (i : Int) + 1 ∧ (i : Int) + 1 ≤ 4 by omega) (show 0 ≤ (m : Int) + 2 ∧ (m : Int) + 2 ≤ 6 by omega)
      have e1 : (i : Int) * m + j = ((i * m + j : Nat) : Int) := by push_cast; rfl
      have e2 : ((i : Int) + 1) * ((m : Int) + 2) + j + 1 = (((i + 1) * (m + 2) + j + 1 : Nat) : Int) := by push_cast; rfl
      have hp : (i + 1) * (m + 2) + j + 1 < (m + 2) * (m + 2) := by
        have := Nat.mul_le_mul_right (m + 2) (show i + 1 + 1 ≤ m + 2 by omega)
        rw [Nat.add_mul (i + 1)] at this; omega
      have hg := gM_set hm.2 a hlt hlj
      have hu := uM_set (m := m) (a := a) (t := i * m + j) (v := a.getD (i * m + j) 0 + 2 * m + 2) rfl (by omega)
      have l1 := gM_len m a (i * m + j)
      have l2 := uM_len m a (i * m + j)
      have hms : ((m : Int) + 2) * ((m : Int) + 2) = (m : Int) * m + 4 * m + 4 := by grind
      clear hab hn
      repeat' (first | ((conv => whnf); refine And.intro ?_ ?_) | ((conv => whnf); with_reducible exact VC.mk rfl) | ((conv => whnf); exact Ok.mk) | ((conv => whnf); exact True.intro) | ((conv => whnf); refine Nx.mk ?_) | ((conv => whnf); refine Fin.mk ?_) | ((conv => whnf); intro hq; (try simp only [decide_eq_true_eq, decide_eq_false_iff_not, Bool.not_eq_true, Bool.not_eq_false, Bool.not_eq_true', Bool.not_eq_false', Bool.not_true, Bool.not_false, ite_true, ite_false] at hq); (try (exfalso; first | exact absurd hq (by decide) | omega))))
      all_goals ((try refine VC.mk ?_); (try simp only [CL.ncell, CL.cnt, Int.toNat_natCast, decide_eq_true_eq, decide_eq_false_iff_not, Bool.not_eq_true, Bool.not_false, Bool.not_true, and_self, and_true, true_and, te3b, te4b, te3s, te4s, Nat.mul_one, Nat.zero_add, List.length_cons, List.length_nil, Bool.false_eq_true, Bool.true_eq_false] at *); (try omega))
      all_goals (try simp only [e1, e2, Int.toNat_natCast] at *)
      all_goals (try omega)
      refine ⟨j + 1, [], ⟨by omega, by omega⟩, ?_⟩
      repeat' (first | ((conv => whnf); refine And.intro ?_ ?_) | ((conv => whnf); with_reducible exact VC.mk rfl) | ((conv => whnf); exact Ok.mk) | ((conv => whnf); exact True.intro) | ((conv => whnf); refine Nx.mk ?_) | ((conv => whnf); refine Fin.mk ?_) | ((conv => whnf); intro _))
      all_goals ((try refine VC.mk ?_); (try simp only [CL.ncell, CL.cnt, Int.toNat_natCast, decide_eq_true_eq, decide_eq_false_iff_not, Bool.not_eq_true, Bool.not_false, Bool.not_true, and_self, and_true, true_and, te3b, te4b, te3s, te4s, Nat.mul_one, Nat.zero_add, List.length_cons, List.length_nil, Bool.false_eq_true, Bool.true_eq_false] at *); (try omega))
      all_goals (first | rw [hg] | rw [hu] | skip)
      all_goals (try rfl)
    · have : m = j := by omega
      subst this
      repeat' (first | ((conv => whnf); refine And.intro ?_ ?_) | ((conv => whnf); with_reducible exact VC.mk rfl) | ((conv => whnf); exact Ok.mk) | ((conv => whnf); exact True.intro) | ((conv => whnf); refine Nx.mk ?_) | ((conv => whnf); refine Fin.mk ?_) | ((conv => whnf); intro hq; (try simp only [decide_eq_true_eq, decide_eq_false_iff_not, Bool.not_eq_true, Bool.not_eq_false, Bool.not_eq_true', Bool.not_eq_false', Bool.not_true, Bool.not_false, ite_true, ite_false] at hq); (try (exfalso; first | exact absurd hq (by decide) | omega))))
      all_goals ((try refine VC.mk ?_); (try simp only [CL.ncell, CL.cnt, Int.toNat_natCast, decide_eq_true_eq, decide_eq_false_iff_not, Bool.not_eq_true, Bool.not_false, Bool.not_true, and_self, and_true, true_and, te3b, te4b, te3s, te4s, Nat.mul_one, Nat.zero_add, List.length_cons, List.length_nil, Bool.false_eq_true, Bool.true_eq_false] at *); (try omega))
      all_goals (try (exfalso; omega))
      refine ⟨i + 1, [], ⟨by omega, by omega⟩, ?_⟩
      repeat' (first | ((conv => whnf); refine And.intro ?_ ?_) | ((conv => whnf); with_reducible exact VC.mk rfl) | ((conv => whnf); exact Ok.mk) | ((conv => whnf); exact True.intro) | ((conv => whnf); refine Nx.mk ?_) | ((conv => whnf); refine Fin.mk ?_) | ((conv => whnf); intro _))
      all_goals ((try refine VC.mk ?_); (try simp only [CL.ncell, CL.cnt, Int.toNat_natCast, decide_eq_true_eq, decide_eq_false_iff_not, Bool.not_eq_true, Bool.not_false, Bool.not_true, and_self, and_true, true_and, te3b, te4b, te3s, te4s, Nat.mul_one, Nat.zero_add, List.length_cons, List.length_nil, Bool.false_eq_true, Bool.true_eq_false] at *); (try omega))
      all_goals (first | rw [Nat.succ_mul] | skip)
      all_goals (try rfl)
  · have : m = i := by omega
    subst this
    repeat' (first | ((conv => whnf); refine And.intro ?_ ?_) | ((conv => whnf); with_reducible exact VC.mk rfl) | ((conv => whnf); exact Ok.mk) | ((conv => whnf); exact True.intro) | ((conv => whnf); refine Nx.mk ?_) | ((conv => whnf); refine Fin.mk ?_) | ((conv => whnf); intro hq; (try simp only [decide_eq_true_eq, decide_eq_false_iff_not, Bool.not_eq_true, Bool.not_eq_false, Bool.not_eq_true', Bool.not_eq_false', Bool.not_true, Bool.not_false, ite_true, ite_false] at hq); (try (exfalso; first | exact absurd hq (by decide) | omega))))
    all_goals ((try refine VC.mk ?_); (try simp only [CL.ncell, CL.cnt, Int.toNat_natCast, decide_eq_true_eq, decide_eq_false_iff_not, Bool.not_eq_true, Bool.not_false, Bool.not_true, and_self, and_true, true_and, te3b, te4b, te3s, te4s, Nat.mul_one, Nat.zero_add, List.length_cons, List.length_nil, Bool.false_eq_true, Bool.true_eq_false] at *); (try omega))
    all_goals (try (exfalso; omega))
    conv => whnf
    refine ⟨m, a, ⟨hm, ⟨by push_cast; rfl, by push_cast; rfl⟩, ⟨by rfl, by rfl⟩, ⟨by rfl, by rfl⟩, la, hn⟩, ?_⟩
    have hbl : (bordL (m + 2) a).length = (m + 2) * (m + 2) := by simp [bordL, madeL]
    repeat' (first | ((conv => whnf); refine And.intro ?_ ?_) | ((conv => whnf); with_reducible exact VC.mk rfl) | ((conv => whnf); exact Ok.mk) | ((conv => whnf); exact True.intro) | ((conv => whnf); refine Nx.mk ?_) | ((conv => whnf); refine Fin.mk ?_) | ((conv => whnf); intro hq; (try simp only [decide_eq_true_eq, decide_eq_false_iff_not, Bool.not_eq_true, Bool.not_eq_false, Bool.not_eq_true', Bool.not_eq_false', Bool.not_true, Bool.not_false, ite_true, ite_false] at hq); (try (exfalso; first | exact absurd hq (by decide) | omega))))
    all_goals ((try refine VC.mk ?_); (try simp only [CL.ncell, CL.cnt, Int.toNat_natCast, decide_eq_true_eq, decide_eq_false_iff_not, Bool.not_eq_true, Bool.not_false, Bool.not_true, and_self, and_true, true_and, te3b, te4b, te3s, te4s, Nat.mul_one, Nat.zero_add, List.length_cons, List.length_nil, Bool.false_eq_true, Bool.true_eq_false] at *); (try omega))
    all_goals (try omega)
    refine Sup.via ?_
    repeat' (first | ((conv => whnf); refine And.intro ?_ ?_) | ((conv => whnf); with_reducible exact VC.mk rfl) | ((conv => whnf); exact Ok.mk) | ((conv => whnf); exact True.intro) | ((conv => whnf); refine Nx.mk ?_) | ((conv => whnf); refine Fin.mk ?_) | ((conv => whnf); intro _))
    all_goals ((try refine VC.mk ?_); (try simp only [CL.ncell, CL.cnt, Int.toNat_natCast, decide_eq_true_eq, decide_eq_false_iff_not, Bool.not_eq_true, Bool.not_false, Bool.not_true, and_self, and_true, true_and, te3b, te4b, te3s, te4s, Nat.mul_one, Nat.zero_add, List.length_cons, List.length_nil, Bool.false_eq_true, Bool.true_eq_false] at *); (try omega))
    simp [CL.sub, List.take_of_length_le, hbl]
end Go.Eng.Ytppflbccfdbogaa
namespace Go.Eng.Ytppflbccfdbogaa
open Go.Proofs
set_option maxRecDepth 100000
set_option maxHeartbeats 0
set_option linter.unusedVariables false
set_option linter.unusedSimpArgs false
def rcX (r c : Nat) (k j : Nat) : Int := (k : Int) * c + j + 1
def rcY (r c : Nat) (k j : Nat) : Int := (r : Int) * c + 1 - ((k : Int) * c + j + 1)
def rcT (j : Nat) : Prop := (j : Int) % 4 = 1 ∨ (j : Int) % 4 = 2
instance (j : Nat) : Decidable (rcT j) := by unfold rcT; infer_instance
def rcStep (r c : Nat) (l : List Int) (t : Nat) : List Int :=
  if rcT (t % c) then (l.set (2 * (t / c) * c + t % c) (rcY r c (t / c) (t % c))).set ((2 * (t / c) + 1) * c + t % c) (rcX r c (t / c) (t % c))
  else (l.set (2 * (t / c) * c + t % c) (rcX r c (t / c) (t % c))).set ((2 * (t / c) + 1) * c + t % c) (rcY r c (t / c) (t % c))
def rcAt (r c t : Nat) : List Int := (List.range t).foldl (rcStep r c) (List.replicate (r * c) 0)
theorem rcAt_succ (r c t : Nat) : rcAt r c (t + 1) = rcStep r c (rcAt r c t) t := by simp [rcAt, List.range_succ]
theorem rcAt_len (r c : Nat) : ∀ t, (rcAt r c t).length = r * c := by
  intro t
  induction t with
  | zero => simp [rcAt]
  | succ t ih => rw [rcAt_succ]; unfold rcStep; split <;> simp [ih]
theorem rc_all : ∀ p, p < 8 → ∀ q, q < 4 → rcAt (2 + 2 * p) (4 + 4 * q) ((2 + 2 * p) / 2 * (4 + 4 * q)) = rectL (2 + 2 * p) (4 + 4 * q) ((2 + 2 * p) * (4 + 4 * q)) := by decide +kernel
theorem rRect_spec (r c : Nat) (hr : 2 ≤ r ∧ r ≤ 16) (hc : 4 ≤ c ∧ c ≤ 16) (h2 : r % 2 = 0) (h4 : c % 4 = 0) : PSpec Try.prog 56 [.int .i64 (r : Int), .int .i64 (c : Int)] (gridV r c (rectL r c (r * c))) := by
  have hL : rcAt r c (r / 2 * c) = rectL r c (r * c) := by
    obtain ⟨p, hp⟩ : ∃ p, r = 2 + 2 * p := ⟨(r - 2) / 2, by omega⟩
    obtain ⟨q, hq⟩ : ∃ q, c = 4 + 4 * q := ⟨(c - 4) / 4, by omega⟩
    subst hp hq
    exact rc_all p (by omega) q (by omega)
  rw [← hL]
  clear hL
  have hrc := mul_bd (A := 16) (B := 16) (show 0 ≤ (r : Int) ∧ (r : Int) ≤ 16 by omega) (show 0 ≤ (c : Int) ∧ (c : Int) ≤ 16 by omega)
  have hrcn : ((r * c : Nat) : Int) = (r : Int) * c := by push_cast; rfl
  have eN : ((r : Int) * c).toNat = r * c := by rw [← hrcn, Int.toNat_natCast]
  obtain ⟨h, hh⟩ : ∃ h, h = r / 2 := ⟨_, rfl⟩
  have hI : (r : Int) / 2 = h := by omega
  rw [← hh]
  refine pspec_of (md := 0) (rf := []) mixed tabOK noC_ok Try.func56 (by rfl) (by rfl) (by rfl) ?_
  repeat' (first | ((conv => whnf); refine And.intro ?_ ?_) | ((conv => whnf); with_reducible exact VC.mk rfl) | ((conv => whnf); exact Ok.mk) | ((conv => whnf); exact True.intro) | ((conv => whnf); refine Nx.mk ?_) | ((conv => whnf); refine Fin.mk ?_) | ((conv => whnf); intro hq; (try simp only [decide_eq_true_eq, decide_eq_false_iff_not, Bool.not_eq_true, Bool.not_eq_false, Bool.not_eq_true', Bool.not_eq_false', Bool.not_true, Bool.not_false, ite_true, ite_false] at hq); (try (exfalso; first | exact absurd hq (by decide) | omega))))
  all_goals ((try refine VC.mk ?_); (try simp only [CL.ncell, CL.cnt, Int.toNat_natCast, decide_eq_true_eq, decide_eq_false_iff_not, Bool.not_eq_true, Bool.not_false, Bool.not_true, and_self, and_true, true_and, te3b, te4b, te3s, te4s, Nat.mul_one, Nat.zero_add, List.length_cons, List.length_nil, Bool.false_eq_true, Bool.true_eq_false] at *); (try omega))
  all_goals (try (exfalso; omega))
  all_goals (try omega)
  conv => whnf
  simp only [eN]
  refine loop_of (X := Nat) (fun i => i ≤ h) (fun i => [(6, .int .i64 i)]) (fun i => [(1, .cells (.ints .i64 (rcAt r c (c * i))) false)]) (fun i => h - i) 0 ⟨anyB_ok, mixed, tabOK, noC_ok, noY_ok⟩ (by rfl) (by omega) ?_ ?_
  · repeat' (first | ((conv => whnf); refine And.intro ?_ ?_) | ((conv => whnf); with_reducible exact VC.mk rfl) | ((conv => whnf); exact Ok.mk) | ((conv => whnf); exact True.intro) | ((conv => whnf); refine Nx.mk ?_) | ((conv => whnf); refine Fin.mk ?_) | ((conv => whnf); intro _))
    all_goals ((try refine VC.mk ?_); (try simp only [CL.ncell, CL.cnt, Int.toNat_natCast, decide_eq_true_eq, decide_eq_false_iff_not, Bool.not_eq_true, Bool.not_false, Bool.not_true, and_self, and_true, true_and, te3b, te4b, te3s, te4s, Nat.mul_one, Nat.zero_add, List.length_cons, List.length_nil, Bool.false_eq_true, Bool.true_eq_false] at *); (try omega))
    all_goals (try rfl)
  intro i hi
  by_cases hlt : i < h
  · repeat' (first | ((conv => whnf); refine And.intro ?_ ?_) | ((conv => whnf); with_reducible exact VC.mk rfl) | ((conv => whnf); exact Ok.mk) | ((conv => whnf); exact True.intro) | ((conv => whnf); refine Nx.mk ?_) | ((conv => whnf); refine Fin.mk ?_) | ((conv => whnf); intro hq; (try simp only [decide_eq_true_eq, decide_eq_false_iff_not, Bool.not_eq_true, Bool.not_eq_false, Bool.not_eq_true', Bool.not_eq_false', Bool.not_true, Bool.not_false, ite_true, ite_false] at hq); (try (exfalso; first | exact absurd hq (by decide) | omega))))
    all_goals ((try refine VC.mk ?_); (try simp only [CL.ncell, CL.cnt, Int.toNat_natCast, decide_eq_true_eq, decide_eq_false_iff_not, Bool.not_eq_true, Bool.not_false, Bool.not_true, and_self, and_true, true_and, te3b, te4b, te3s, te4s, Nat.mul_one, Nat.zero_add, List.length_cons, List.length_nil, Bool.false_eq_true, Bool.true_eq_false] at *); (try omega))
    all_goals (try omega)
    conv => whnf
    refine loop_of (X := Nat) (fun j => j ≤ c) (fun j => [(7, .int .i64 j)]) (fun j => [(1, .cells (.ints .i64 (rcAt r c (c * i + j))) false)]) (fun j => c - j) 0 ⟨anyB_ok, mixed, tabOK, noC_ok, noY_ok⟩ (by rfl) (by omega) ?_ ?_
    · repeat' (first | ((conv => whnf); refine And.intro ?_ ?_) | ((conv => whnf); with_reducible exact VC.mk rfl) | ((conv => whnf); exact Ok.mk) | ((conv => whnf); exact True.intro) | ((conv => whnf); refine Nx.mk ?_) | ((conv => whnf); refine Fin.mk ?_) | ((conv => whnf); intro _))
      all_goals ((try refine VC.mk ?_); (try simp only [CL.ncell, CL.cnt, Int.toNat_natCast, decide_eq_true_eq, decide_eq_false_iff_not, Bool.not_eq_true, Bool.not_false, Bool.not_true, and_self, and_true, true_and, te3b, te4b, te3s, te4s, Nat.mul_one, Nat.zero_add, List.length_cons, List.length_nil, Bool.false_eq_true, Bool.true_eq_false] at *); (try omega))
      all_goals (try simp)
    intro j hj
    by_cases hlj : j < c
    · have k1 : (c * i + j) / c = i := by rw [Nat.mul_add_div (by omega), Nat.div_eq_of_lt hlj]; omega
      have k2 : (c * i + j) % c = j := by rw [Nat.mul_add_mod, Nat.mod_eq_of_lt hlj]
      have e1 := rcAt_succ r c (c * i + j)
      unfold rcStep at e1
      rw [k1, k2] at e1
      have e2 := rcAt_len r c (c * i + j)
      have b1 : (2 * i + 1) * c + j < r * c := by
        have := Nat.mul_le_mul_right c (show 2 * i + 2 ≤ r by omega)
        rw [Nat.add_mul] at this ⊢; omega
      have b2 : 2 * i * c + j < r * c := by rw [Nat.add_mul] at b1; omega
      have i1 : 2 * (i : Int) * c + j = ((2 * i * c + j : Nat) : Int) := by push_cast; rfl
      have i2 : (2 * (i : Int) + 1) * c + j = (((2 * i + 1) * c + j : Nat) : Int) := by push_cast; rfl
      have m1 := mul_bd (A := 16) (B := 16) (show 0 ≤ (i : Int) ∧ (i : Int) ≤ 16 by omega) (show 0 ≤ (c : Int) ∧ (c : Int) ≤ 16 by omega)
      have m2 := mul_bd (A := 16) (B := 16) (show 0 ≤ 2 * (i : Int) ∧ 2 * (i : Int) ≤ 16 by omega) (show 0 ≤ (c : Int) ∧ (c : Int) ≤ 16 by omega)
      have m3 := mul_bd (A := 16) (B := 16) (show 0 ≤ 2 * (i : Int) + 1 ∧ 2 * (i : Int) + 1 ≤ 16 by omega) (show 0 ≤ (c : Int) ∧ (c : Int) ≤ 16 by omega)
      unfold rcX rcY at e1
      repeat' (first | ((conv => whnf); refine And.intro ?_ ?_) | ((conv => whnf); with_reducible exact VC.mk rfl) | ((conv => whnf); exact Ok.mk) | ((conv => whnf); exact True.intro) | ((conv => whnf); refine Nx.mk ?_) | ((conv => whnf); refine Fin.mk ?_) | ((conv => whnf); intro hq; (try simp only [decide_eq_true_eq, decide_eq_false_iff_not, Bool.not_eq_true, Bool.not_eq_false, Bool.not_eq_true', Bool.not_eq_false', Bool.not_true, Bool.not_false, ite_true, ite_false] at hq); (try (exfalso; first | exact absurd hq (by decide) | omega))))
      all_goals ((try refine VC.mk ?_); (try simp only [CL.ncell, CL.cnt, Int.toNat_natCast, decide_eq_true_eq, decide_eq_false_iff_not, Bool.not_eq_true, Bool.not_false, Bool.not_true, and_self, and_true, true_and, te3b, te4b, te3s, te4s, Nat.mul_one, Nat.zero_add, List.length_cons, List.length_nil, Bool.false_eq_true, Bool.true_eq_false] at *); (try omega))
      all_goals (try simp only [i1, i2, Int.toNat_natCast, List.length_set] at *)
      all_goals (try omega)
      all_goals (refine ⟨j + 1, [], ⟨by omega, by omega⟩, ?_⟩)
      all_goals repeat' (first | ((conv => whnf); refine And.intro ?_ ?_) | ((conv => whnf); with_reducible exact VC.mk rfl) | ((conv => whnf); exact Ok.mk) | ((conv => whnf); exact True.intro) | ((conv => whnf); refine Nx.mk ?_) | ((conv => whnf); refine Fin.mk ?_) | ((conv => whnf); intro _))
      all_goals ((try refine VC.mk ?_); (try simp only [CL.ncell, CL.cnt, Int.toNat_natCast, decide_eq_true_eq, decide_eq_false_iff_not, Bool.not_eq_true, Bool.not_false, Bool.not_true, and_self, and_true, true_and, te3b, te4b, te3s, te4s, Nat.mul_one, Nat.zero_add, List.length_cons, List.length_nil, Bool.false_eq_true, Bool.true_eq_false] at *); (try omega))
      all_goals (rw [show c * i + (j + 1) = c * i + j + 1 from rfl, e1])
      all_goals first | rw [if_pos (show rcT j from by unfold rcT; omega)] | rw [if_neg (show ¬ rcT j from by unfold rcT; omega)]
    · have : c = j := by omega
      subst this
      repeat' (first | ((conv => whnf); refine And.intro ?_ ?_) | ((conv => whnf); with_reducible exact VC.mk rfl) | ((conv => whnf); exact Ok.mk) | ((conv => whnf); exact True.intro) | ((conv => whnf); refine Nx.mk ?_) | ((conv => whnf); refine Fin.mk ?_) | ((conv => whnf); intro hq; (try simp only [decide_eq_true_eq, decide_eq_false_iff_not, Bool.not_eq_true, Bool.not_eq_false, Bool.not_eq_true', Bool.not_eq_false', Bool.not_true, Bool.not_false, ite_true, ite_false] at hq); (try (exfalso; first | exact absurd hq (by decide) | omega))))
      all_goals ((try refine VC.mk ?_); (try simp only [CL.ncell, CL.cnt, Int.toNat_natCast, decide_eq_true_eq, decide_eq_false_iff_not, Bool.not_eq_true, Bool.not_false, Bool.not_true, and_self, and_true, true_and, te3b, te4b, te3s, te4s, Nat.mul_one, Nat.zero_add, List.length_cons, List.length_nil, Bool.false_eq_true, Bool.true_eq_false] at *); (try omega))
      all_goals (try (exfalso; omega))
      refine ⟨i + 1, [], ⟨by omega, by omega⟩, ?_⟩
      repeat' (first | ((conv => whnf); refine And.intro ?_ ?_) | ((conv => whnf); with_reducible exact VC.mk rfl) | ((conv => whnf); exact Ok.mk) | ((conv => whnf); exact True.intro) | ((conv => whnf); refine Nx.mk ?_) | ((conv => whnf); refine Fin.mk ?_) | ((conv => whnf); intro _))
      all_goals ((try refine VC.mk ?_); (try simp only [CL.ncell, CL.cnt, Int.toNat_natCast, decide_eq_true_eq, decide_eq_false_iff_not, Bool.not_eq_true, Bool.not_false, Bool.not_true, and_self, and_true, true_and, te3b, te4b, te3s, te4s, Nat.mul_one, Nat.zero_add, List.length_cons, List.length_nil, Bool.false_eq_true, Bool.true_eq_false] at *); (try omega))
      all_goals (try (rw [Nat.mul_add, Nat.mul_one]))
  · have : h = i := by omega
    subst this
    have e2 := rcAt_len r c (c * h)
    repeat' (first | ((conv => whnf); refine And.intro ?_ ?_) | ((conv => whnf); with_reducible exact VC.mk rfl) | ((conv => whnf); exact Ok.mk) | ((conv => whnf); exact True.intro) | ((conv => whnf); refine Nx.mk ?_) | ((conv => whnf); refine Fin.mk ?_) | ((conv => whnf); intro hq; (try simp only [decide_eq_true_eq, decide_eq_false_iff_not, Bool.not_eq_true, Bool.not_eq_false, Bool.not_eq_true', Bool.not_eq_false', Bool.not_true, Bool.not_false, ite_true, ite_false] at hq); (try (exfalso; first | exact absurd hq (by decide) | omega))))
    all_goals ((try refine VC.mk ?_); (try simp only [CL.ncell, CL.cnt, Int.toNat_natCast, decide_eq_true_eq, decide_eq_false_iff_not, Bool.not_eq_true, Bool.not_false, Bool.not_true, and_self, and_true, true_and, te3b, te4b, te3s, te4s, Nat.mul_one, Nat.zero_add, List.length_cons, List.length_nil, Bool.false_eq_true, Bool.true_eq_false] at *); (try omega))
    all_goals (try (exfalso; omega))
    all_goals (try omega)
    rw [Nat.mul_comm h c]
    refine Sup.via ?_
    repeat' (first | ((conv => whnf); refine And.intro ?_ ?_) | ((conv => whnf); with_reducible exact VC.mk rfl) | ((conv => whnf); exact Ok.mk) | ((conv => whnf); exact True.intro) | ((conv => whnf); refine Nx.mk ?_) | ((conv => whnf); refine Fin.mk ?_) | ((conv => whnf); intro _))
    all_goals ((try refine VC.mk ?_); (try simp only [CL.ncell, CL.cnt, Int.toNat_natCast, decide_eq_true_eq, decide_eq_false_iff_not, Bool.not_eq_true, Bool.not_false, Bool.not_true, and_self, and_true, true_and, te3b, te4b, te3s, te4s, Nat.mul_one, Nat.zero_add, List.length_cons, List.length_nil, Bool.false_eq_true, Bool.true_eq_false] at *); (try omega))
    simp [CL.sub, List.take_of_length_le, e2]
end Go.Eng.Ytppflbccfdbogaa
namespace Go.Eng.Ytppflbccfdbogaa
open Go.Proofs
set_option maxRecDepth 100000
set_option maxHeartbeats 0
set_option linter.unusedVariables false
set_option linter.unusedSimpArgs false
theorem linesOk_iff (n : Nat) (g : Int) (l : List Int) : linesOk n g l = (badLine n g l).isNone := by
  unfold linesOk badLine
  rw [Bool.eq_iff_iff, List.all_eq_true, Option.isNone_iff_eq_none, List.find?_eq_none]
  constructor
  · intro h i hi; simp [h i hi]
  · intro h i hi; simpa using h i hi
end Go.Eng.Ytppflbccfdbogaa
namespace Go.Eng.Ytppflbccfdbogaa
open Go.Proofs
set_option maxRecDepth 100000
set_option maxHeartbeats 0
set_option linter.unusedVariables false
set_option linter.unusedSimpArgs false
theorem prod_facts (ra ca : Int) (a : List Int) (rb cb : Int) (b : List Int) : ∃ r c l e r' c' l' bad, PSpec Try.prog 52 [gridV ra ca a, gridV rb cb b] (.tup [gridV r c l, .int .i64 e]) ∧ l.length ≤ 2000000 ∧ (normErr ra ca a = 0 ∧ normErr rb cb b = 0 → PSpec Try.prog 53 [gridV ra ca a, gridV rb cb b] (.tup [gridV r' c' l', .int .i64 bad])) ∧ (normErr ra ca a = 0 ∧ normErr rb cb b = 0 → MadeOK r c l e r' c' l' bad) ∧ (¬ (normErr ra ca a = 0 ∧ normErr rb cb b = 0) → ∀ x y z, MadeOK r c l e x y z (if normErr ra ca a = 0 then normErr rb cb b else normErr ra ca a)) := by
  by_cases h : normErr ra ca a = 0 ∧ normErr rb cb b = 0
  · obtain ⟨ha, hb⟩ := h
    have gA := normG ha
    have gB := normG hb
    obtain ⟨m, hm⟩ : ∃ m, ra.toNat = m := ⟨_, rfl⟩
    obtain ⟨n, hn⟩ : ∃ n, rb.toNat = n := ⟨_, rfl⟩
    rw [hm] at gA
    rw [hn] at gB
    obtain ⟨rfl, rfl, a3, a4, a5⟩ := gA
    obtain ⟨rfl, rfl, b3, b4, b5⟩ := gB
    by_cases hmn : m * n ≤ 16
    · have lL : (prodL m n a b).length = (m * n) * (m * n) := by unfold prodL; simp [madeL]
      have := Nat.mul_le_mul hmn hmn
      exact ⟨_, _, _, _, _, _, _, _, product_good m n a b ha hb hmn, by omega, fun _ => rProduct_good m n m n a b a3 b3 a4 b4 a5 b5 hmn, fun _ => .inr ⟨rfl, rfl, rfl, rfl, rfl⟩, fun h => absurd ⟨ha, hb⟩ h⟩
    · exact ⟨_, _, _, _, _, _, _, _, product_great m n a b ha hb (by omega), by simp, fun _ => rProduct_great m n m n a b a3 b3 (by omega), fun _ => .inl ⟨by decide, rfl, rfl, rfl, rfl⟩, fun h => absurd ⟨ha, hb⟩ h⟩
  · refine ⟨_, _, _, _, 0, 0, [], 0, product_bad ra ca a rb cb b (by omega), by simp, fun h' => absurd h' h, fun h' => absurd h' h, fun _ x y z => .inl ⟨?_, rfl, rfl, rfl, rfl⟩⟩
    split <;> omega
theorem bord_facts (ra ca : Int) (a : List Int) : ∃ r c l e L, ∃ nm : Bool, ∃ r' c' l', PSpec Try.prog 28 [gridV ra ca a] (.tup [gridV r c l, .int .i64 e]) ∧ l.length ≤ 2000000 ∧ (normErr ra ca a ≠ 0 → ∀ x y z, MadeOK r c l e x y z (normErr ra ca a)) ∧
    (normErr ra ca a = 0 → PSpec Try.prog 54 [gridV ra ca a, .str "magic".toByteArray] (.tup [.isl (.ints .i64 L) .none, .bp nm])) ∧ (normErr ra ca a = 0 → nm = true → ∀ x y z, MadeOK r c l e x y z 16) ∧ (normErr ra ca a = 0 → nm = false → 4 < ra → ∀ x y z, MadeOK r c l e x y z 20) ∧
    (normErr ra ca a = 0 ∧ ra ≤ 4 → PSpec Try.prog 55 [gridV ra ca a] (gridV r' c' l')) ∧ (normErr ra ca a = 0 → nm = false → ra ≤ 4 → MadeOK r c l e r' c' l' 0) := by
  have hb := border_spec ra ca a
  unfold borderV at hb
  by_cases h : normErr ra ca a = 0
  · rw [if_neg (fun h' => h' h)] at hb
    have gA := normG h
    have hN := (normErr_zero h).2
    obtain ⟨m, hm⟩ : ∃ m, ra.toNat = m := ⟨_, rfl⟩
    rw [hm] at gA hb
    obtain ⟨rfl, rfl, a3, a4, a5⟩ := gA
    have hF := Fails_spec m m a "magic".toByteArray a3 a4 (fun x hx => by have := a5 x hx; omega)
    rw [failsV_eq] at hF
    have hg : gOf "magic".toByteArray = 2 := by decide
    rw [hg] at hF
    have hnm : (badLine m 2 a).isSome = !linesOk m 2 a := by
      rw [linesOk_iff]; cases badLine m 2 a <;> rfl
    by_cases h2 : linesOk m 2 a = false
    · rw [if_pos h2] at hb
      rw [hnm, h2] at hF
      exact ⟨_, _, _, _, _, true, _, _, _, hb, by simp, fun h' => absurd h h', fun _ => hF, fun _ _ x y z => .inl ⟨by decide, rfl, rfl, rfl, rfl⟩, fun _ h' => (by cases h'), fun h' => rBorder_spec m m a (by omega) a4 hN, fun _ h' => (by cases h')⟩
    · rw [if_neg h2] at hb
      rw [hnm, (by simpa using h2 : linesOk m 2 a = true)] at hF
      by_cases h3 : 4 < (m : Int)
      · rw [if_pos h3] at hb
        exact ⟨_, _, _, _, _, false, _, _, _, hb, by simp, fun h' => absurd h h', fun _ => hF, fun _ h' => (by cases h'), fun _ _ _ x y z => .inl ⟨by decide, rfl, rfl, rfl, rfl⟩, fun h' => rBorder_spec m m a (by omega) a4 hN, fun _ _ h' => by omega⟩
      · rw [if_neg h3] at hb
        refine ⟨_, _, _, _, _, false, _, _, _, hb, ?_, fun h' => absurd h h', fun _ => hF, fun _ h' => (by cases h'), fun _ _ h' => absurd h' h3, fun h' => rBorder_spec m m a (by omega) a4 hN, fun _ _ _ => .inr ⟨rfl, rfl, rfl, rfl, rfl⟩⟩
        have := Nat.mul_le_mul (show m + 2 ≤ 6 by omega) (show m + 2 ≤ 6 by omega)
        simp [bordL, madeL]; omega
  · rw [if_pos h] at hb
    exact ⟨_, _, _, _, [], false, 0, 0, [], hb, by simp, fun _ x y z => .inl ⟨h, rfl, rfl, rfl, rfl⟩, fun h' => absurd h' h, fun h' => absurd h' h, fun h' => absurd h' h, fun h' => absurd h'.1 h, fun h' => absurd h' h⟩
theorem rect_facts (p q : Int) : ∃ r c l e, PSpec Try.prog 24 [.int .i64 p, .int .i64 q] (.tup [gridV r c l, .int .i64 e]) ∧ l.length ≤ 2000000 ∧ (rectErr p q ≠ 0 → ∀ x y z, MadeOK r c l e x y z (rectErr p q)) ∧
    (rectErr p q = 0 → PSpec Try.prog 56 [.int .i64 p, .int .i64 q] (gridV r c l)) ∧ (rectErr p q = 0 → MadeOK r c l e r c l 0) := by
  have h := rectangle_spec p q
  unfold rectV at h
  by_cases hz : rectErr p q = 0
  · rw [if_pos hz] at h
    have hz' := hz
    unfold rectErr at hz'
    have hr : (1 ≤ p ∧ p ≤ 16) ∧ (1 ≤ q ∧ q ≤ 16) ∧ p % 2 = 0 ∧ q % 4 = 0 := by
      split at hz' <;> (try split at hz') <;> (first | omega | (exfalso; revert hz'; decide))
    obtain ⟨a, rfl⟩ : ∃ a : Nat, p = a := ⟨p.toNat, by omega⟩
    obtain ⟨b, rfl⟩ : ∃ b : Nat, q = b := ⟨q.toNat, by omega⟩
    simp only [Int.toNat_natCast] at h
    have hL : (rectL a b (a * b)).length ≤ 2000000 := by
      rw [rectL_len]
      have := Nat.mul_le_mul (show a ≤ 16 by omega) (show b ≤ 16 by omega)
      omega
    exact ⟨_, _, _, _, h, hL, fun h' => absurd hz h', fun _ => rRect_spec a b (by omega) (by omega) (by omega) (by omega), fun _ => .inr ⟨rfl, rfl, rfl, rfl, rfl⟩⟩
  · rw [if_neg hz] at h
    exact ⟨_, _, _, _, h, by simp, fun _ x y z => .inl ⟨hz, rfl, rfl, rfl, rfl⟩, fun h' => absurd h' hz, fun h' => absurd h' hz⟩
theorem composes_law (ra ca : Int) (a : List Int) (rb cb : Int) (b : List Int) (p q : Int) : PSpec Try.prog 8 [gridV ra ca a, gridV rb cb b, .agg [.int .i64 p, .int .i64 q]] (.bp true) := by
  obtain ⟨r1, c1, l1, e1, r2, c2, l2, e2, h52, k1, h53, a1, b1⟩ := prod_facts ra ca a rb cb b
  obtain ⟨r3, c3, l3, e3, L, nm, r4, c4, l4, h28, k3, a3, h54, b3, d3, h55, f3⟩ := bord_facts ra ca a
  obtain ⟨r5, c5, l5, e5, h24, k5, a5, h56, b5⟩ := rect_facts p q
  have t2 : ∀ n : Int, 1 ≤ n → n.tmod 2 = n % 2 := fun n h => Int.tmod_eq_emod_of_nonneg (by omega)
  have t4 : ∀ n : Int, 1 ≤ n → n.tmod 4 = n % 4 := fun n h => Int.tmod_eq_emod_of_nonneg (by omega)
  have hC := cpAdd_ok (pureCC_ok (atC_ok (C := True) fun _ => h52)) (cpAdd_ok (pureCC_ok (atC_ok h53)) (cpAdd_ok (pureCC_ok (atC_ok (C := True) fun _ => h28)) (cpAdd_ok (pureCC_ok (atC_ok h54)) (cpAdd_ok (pureCC_ok (atC_ok h55)) (cpAdd_ok (pureCC_ok (atC_ok (C := True) fun _ => h24)) (cpAdd_ok (pureCC_ok (atC_ok h56)) (cpAdd_ok (pureCC_ok great_ok) (cpAdd_ok (pureCC_ok CheckNormal_ok) (cpAdd_ok (pureCC_ok order_ok) (cpAdd_ok (pureCC_ok none_ok) (cpAdd_ok (pureCC_ok madeT_ok) (cpAdd_ok (pureCC_ok awakeT_ok) noC_ok))))))))))))
  clear h52 h53 h28 h54 h55 h24 h56
  have b1a : normErr ra ca a ≠ 0 → ∀ x y z, MadeOK r1 c1 l1 e1 x y z (normErr ra ca a) := fun h x y z => by
    have := b1 (fun h' => h h'.1) x y z; rw [if_neg h] at this; exact this
  have b1b : normErr ra ca a = 0 → normErr rb cb b ≠ 0 → ∀ x y z, MadeOK r1 c1 l1 e1 x y z (normErr rb cb b) := fun h0 h x y z => by
    have := b1 (fun h' => h h'.2) x y z; rw [if_pos h0] at this; exact this
  have a53 : (p < 1 ∨ 16 < p) ∨ (q < 1 ∨ 16 < q) → ∀ x y z, MadeOK r5 c5 l5 e5 x y z 3 := fun h x y z => by
    have hr : rectErr p q = 3 := by unfold rectErr; rw [if_pos h]
    have := a5 (by rw [hr]; decide) x y z; rw [hr] at this; exact this
  have a57 : ¬ ((p < 1 ∨ 16 < p) ∨ (q < 1 ∨ 16 < q)) → ¬ (p.tmod 2 = 0 ∧ q.tmod 4 = 0) → ∀ x y z, MadeOK r5 c5 l5 e5 x y z 7 := fun h h' x y z => by
    rw [t2 p (by omega), t4 q (by omega)] at h'
    have hr : rectErr p q = 7 := by unfold rectErr; rw [if_neg h, if_neg h']
    have := a5 (by rw [hr]; decide) x y z; rw [hr] at this; exact this
  have r50 : ¬ ((p < 1 ∨ 16 < p) ∨ (q < 1 ∨ 16 < q)) → p.tmod 2 = 0 ∧ q.tmod 4 = 0 → rectErr p q = 0 := fun h h' => by
    rw [t2 p (by omega), t4 q (by omega)] at h'
    unfold rectErr; rw [if_neg h, if_pos h']
  have hop : ((if p < 1 ∨ 16 < p then (3 : Int) else 0) = 0 ∧ ¬ (p < 1 ∨ 16 < p)) ∨ ((if p < 1 ∨ 16 < p then (3 : Int) else 0) = 3 ∧ (p < 1 ∨ 16 < p)) := by
    by_cases h : p < 1 ∨ 16 < p
    · rw [if_pos h]; exact .inr ⟨rfl, h⟩
    · rw [if_neg h]; exact .inl ⟨rfl, h⟩
  have hoq : ((if q < 1 ∨ 16 < q then (3 : Int) else 0) = 0 ∧ ¬ (q < 1 ∨ 16 < q)) ∨ ((if q < 1 ∨ 16 < q then (3 : Int) else 0) = 3 ∧ (q < 1 ∨ 16 < q)) := by
    by_cases h : q < 1 ∨ 16 < q
    · rw [if_pos h]; exact .inr ⟨rfl, h⟩
    · rw [if_neg h]; exact .inl ⟨rfl, h⟩
  clear b1 a5
  refine pspec_of (md := 1) (rf := []) mixed tabOK hC Try.func8 (by rfl) (by rfl) (by rfl) ?_
  repeat' (first | ((conv => whnf); refine And.intro ?_ ?_) | ((conv => whnf); with_reducible exact VC.mk rfl) | ((conv => whnf); exact Ok.mk) | ((conv => whnf); exact True.intro) | ((conv => whnf); refine Nx.mk ?_) | ((conv => whnf); refine Fin.mk ?_) | ((conv => whnf); intro hq; (try simp only [decide_eq_true_eq, decide_eq_false_iff_not, Bool.not_eq_true, Bool.not_eq_false, Bool.not_eq_true', Bool.not_eq_false', Bool.not_true, Bool.not_false, ite_true, ite_false] at hq); (try (exfalso; first | exact absurd hq (by decide) | omega))))
  all_goals ((try refine VC.mk ?_); (try simp only [CL.ncell, CL.cnt, Int.toNat_natCast, decide_eq_true_eq, decide_eq_false_iff_not, Bool.not_eq_true, Bool.not_false, Bool.not_true, and_self, and_true, true_and, te3b, te4b, te3s, te4s, Nat.mul_one, Nat.zero_add, List.length_cons, List.length_nil, Bool.false_eq_true, Bool.true_eq_false] at *); (try omega))
  all_goals clear hC
  all_goals (try first | exact sup_true | exact a1 ⟨by assumption, by assumption⟩ | exact b1a (by assumption) _ _ _ | exact b1b (by assumption) (by assumption) _ _ _ | exact a3 (by assumption) _ _ _ | exact b3 (by assumption) (by assumption) _ _ _ | exact d3 (by assumption) (by assumption) (by omega) _ _ _ | exact f3 (by assumption) (by assumption) (by omega) | (rw [(by assumption : normErr ra ca a = 0)]; exact f3 (by assumption) (by assumption) (by omega)))
  all_goals generalize (if p < 1 ∨ 16 < p then (3 : Int) else 0) = op at *
  all_goals generalize (if q < 1 ∨ 16 < q then (3 : Int) else 0) = oq at *
  all_goals (try (split at hq))
  all_goals (try split)
  all_goals (try (exfalso; omega))
  all_goals first | exact r50 (by omega) (by omega) | exact a57 (by omega) (by omega) _ _ _ | exact b5 (r50 (by omega) (by omega)) | (rw [show oq = 3 by omega]; exact a53 (by omega) _ _ _) | (rw [show op = 3 by omega]; exact a53 (by omega) _ _ _) | (rw [show oq = 0 by omega]; exact b5 (r50 (by omega) (by omega))) | (rw [show op = 0 by omega]; exact b5 (r50 (by omega) (by omega))) | trace_state
end Go.Eng.Ytppflbccfdbogaa
