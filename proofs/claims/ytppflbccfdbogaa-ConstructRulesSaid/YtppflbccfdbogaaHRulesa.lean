/-
  Contracts of functions of the program: what each returns. Their conditions stand in them.
-/
import Derived.Test.YtppflbccfdbogaaCd
namespace Go.Eng.Ytppflbccfdbogaa
open Go.Proofs Go.RowKit Go.ChangeShapes Go.WideShapes
set_option linter.unusedVariables false
section
variable {H : Type} {enc : TypeId × Value → H} {W : World}
theorem o9 : OpenC enc Try.prog W 9 [.str] := openC_str Try.underlying9
end
end Go.Eng.Ytppflbccfdbogaa
namespace Go.Eng.Ytppflbccfdbogaa
open Go.Proofs
set_option maxRecDepth 100000
set_option maxHeartbeats 0
set_option linter.unusedVariables false
set_option linter.unusedSimpArgs false
theorem colL_succ' (n : Nat) (h : Nat → Int) (m : Nat) : colL n h (m + 1) = colL n h m ++ [(m : Int) * n + h m % n] := by
  simp [colL, List.range_succ, Int.mul_comm]
theorem diag_spec (n k s : Nat) (hn : 1 ≤ n ∧ n ≤ 16) (hk : k ≤ 1000) (hs : s ≤ 1000) : PSpec Try.prog 83 [.int .i64 (n : Int), .int .i64 (k : Int), .int .i64 (s : Int)] (.isl (.ints .i64 (colL n (fun i => (k : Int) + i * s) n)) .none) := by
  refine pspec_of (md := 0) (rf := []) mixed tabOK noC_ok Try.func83 (by rfl) (by rfl) (by rfl) ?_
  repeat' (first | ((conv => whnf); refine And.intro ?_ ?_) | ((conv => whnf); with_reducible exact VC.mk rfl) | ((conv => whnf); exact Ok.mk) | ((conv => whnf); exact True.intro) | ((conv => whnf); refine Nx.mk ?_) | ((conv => whnf); refine Fin.mk ?_) | ((conv => whnf); intro _))
  all_goals ((try refine VC.mk ?_); (try simp only [CL.ncell, CL.cnt, Int.toNat_natCast, decide_eq_true_eq, decide_eq_false_iff_not, Bool.not_eq_true, Bool.not_false, Bool.not_true, and_self, and_true, true_and, te3b, te4b, te3s, te4s, Nat.mul_one, Nat.zero_add, List.length_cons, List.length_nil, Bool.false_eq_true, Bool.true_eq_false] at *); (try omega))
  conv => whnf
  refine loop_of (X := Nat) (fun i => i ≤ n) (fun i => [(8, .int .i64 i), (7, .isl (.ints .i64 (colL n (fun i => (k : Int) + i * s) i)) (.own 0))]) (fun i => [(0, .tok 1 i)]) (fun i => n - i) 0 ⟨anyB_ok, mixed, tabOK, noC_ok, noY_ok⟩ (by rfl) (by omega) ?_ ?_
  · repeat' (first | ((conv => whnf); refine And.intro ?_ ?_) | ((conv => whnf); with_reducible exact VC.mk rfl) | ((conv => whnf); exact Ok.mk) | ((conv => whnf); exact True.intro) | ((conv => whnf); refine Nx.mk ?_) | ((conv => whnf); refine Fin.mk ?_) | ((conv => whnf); intro _))
    all_goals ((try refine VC.mk ?_); (try simp only [CL.ncell, CL.cnt, Int.toNat_natCast, decide_eq_true_eq, decide_eq_false_iff_not, Bool.not_eq_true, Bool.not_false, Bool.not_true, and_self, and_true, true_and, te3b, te4b, te3s, te4s, Nat.mul_one, Nat.zero_add, List.length_cons, List.length_nil, Bool.false_eq_true, Bool.true_eq_false] at *); (try omega))
  · intro i hi
    have e1 := colL_succ' n (fun i => (k : Int) + i * s) i
    have e2 := colL_len n (fun i => (k : Int) + i * s) i
    by_cases hlt : i < n
    · have h1 := mul_bd (A := 16) (B := 16) (show 0 ≤ (i : Int) ∧ (i : Int) ≤ 16 by omega) (show 0 ≤ (n : Int) ∧ (n : Int) ≤ 16 by omega)
      have h2 := mul_bd (A := 16) (B := 1000) (show 0 ≤ (i : Int) ∧ (i : Int) ≤ 16 by omega) (show 0 ≤ (s : Int) ∧ (s : Int) ≤ 1000 by omega)
      have h3 : 0 ≤ ((k : Int) + i * s) % n := Int.emod_nonneg _ (by omega)
      have h4 : ((k : Int) + i * s) % n < n := Int.emod_lt_of_pos _ (by omega)
      repeat' (first | ((conv => whnf); refine And.intro ?_ ?_) | ((conv => whnf); with_reducible exact VC.mk rfl) | ((conv => whnf); exact Ok.mk) | ((conv => whnf); exact True.intro) | ((conv => whnf); refine Nx.mk ?_) | ((conv => whnf); refine Fin.mk ?_) | ((conv => whnf); intro _))
      all_goals ((try refine VC.mk ?_); (try simp only [CL.ncell, CL.cnt, Int.toNat_natCast, decide_eq_true_eq, decide_eq_false_iff_not, Bool.not_eq_true, Bool.not_false, Bool.not_true, and_self, and_true, true_and, te3b, te4b, te3s, te4s, Nat.mul_one, Nat.zero_add, List.length_cons, List.length_nil, Bool.false_eq_true, Bool.true_eq_false] at *); (try omega))
      all_goals (try (simp only [List.length_append, List.length_cons, List.length_nil]; omega))
      refine ⟨i + 1, [], ⟨by omega, by omega⟩, ?_⟩
      repeat' (first | ((conv => whnf); refine And.intro ?_ ?_) | ((conv => whnf); with_reducible exact VC.mk rfl) | ((conv => whnf); exact Ok.mk) | ((conv => whnf); exact True.intro) | ((conv => whnf); refine Nx.mk ?_) | ((conv => whnf); refine Fin.mk ?_) | ((conv => whnf); intro _))
      all_goals ((try refine VC.mk ?_); (try simp only [CL.ncell, CL.cnt, Int.toNat_natCast, decide_eq_true_eq, decide_eq_false_iff_not, Bool.not_eq_true, Bool.not_false, Bool.not_true, and_self, and_true, true_and, te3b, te4b, te3s, te4s, Nat.mul_one, Nat.zero_add, List.length_cons, List.length_nil, Bool.false_eq_true, Bool.true_eq_false] at *); (try omega))
      all_goals (try (rw [e1]))
    · have : n = i := by omega
      subst this
      repeat' (first | ((conv => whnf); refine And.intro ?_ ?_) | ((conv => whnf); with_reducible exact VC.mk rfl) | ((conv => whnf); exact Ok.mk) | ((conv => whnf); exact True.intro) | ((conv => whnf); refine Nx.mk ?_) | ((conv => whnf); refine Fin.mk ?_) | ((conv => whnf); intro _))
      all_goals ((try refine VC.mk ?_); (try simp only [CL.ncell, CL.cnt, Int.toNat_natCast, decide_eq_true_eq, decide_eq_false_iff_not, Bool.not_eq_true, Bool.not_false, Bool.not_true, and_self, and_true, true_and, te3b, te4b, te3s, te4s, Nat.mul_one, Nat.zero_add, List.length_cons, List.length_nil, Bool.false_eq_true, Bool.true_eq_false] at *); (try omega))
      all_goals (first | (refine Sup.of ?_; first | rfl | (simp [*, resOf]; done)) | (refine Sup.via ?_; repeat' (first | ((conv => whnf); refine And.intro ?_ ?_) | ((conv => whnf); with_reducible exact VC.mk rfl) | ((conv => whnf); exact Ok.mk) | ((conv => whnf); exact True.intro) | ((conv => whnf); refine Nx.mk ?_) | ((conv => whnf); refine Fin.mk ?_) | ((conv => whnf); intro _)); all_goals ((try refine VC.mk ?_); (try simp only [CL.ncell, CL.cnt, Int.toNat_natCast, decide_eq_true_eq, decide_eq_false_iff_not, Bool.not_eq_true, Bool.not_false, Bool.not_true, and_self, and_true, true_and, te3b, te4b, te3s, te4s, Nat.mul_one, Nat.zero_add, List.length_cons, List.length_nil, Bool.false_eq_true, Bool.true_eq_false] at *); (try omega)); all_goals (try (simp [CL.sub]; done))))
theorem diag_spec' {n k s : Int} (hn : 1 ≤ n ∧ n ≤ 16) (hk : 0 ≤ k ∧ k ≤ 1000) (hs : 0 ≤ s ∧ s ≤ 1000) : PSpec Try.prog 83 [.int .i64 n, .int .i64 k, .int .i64 s] (.isl (.ints .i64 (colL n.toNat (fun i => k + i * s) n.toNat)) .none) := by
  have := diag_spec n.toNat k.toNat s.toNat (by omega) (by omega) (by omega)
  rwa [Int.toNat_of_nonneg (by omega), Int.toNat_of_nonneg (by omega), Int.toNat_of_nonneg (by omega)] at this
def diagP : PSp := fun xs K => match xs with
  | [.int .i64 n, .int .i64 k, .int .i64 s] => VC ((1 ≤ n ∧ n ≤ 16) ∧ (0 ≤ k ∧ k ≤ 1000) ∧ 0 ≤ s ∧ s ≤ 1000) ∧ K (.isl (.ints .i64 (colL n.toNat (fun i => k + i * s) n.toNat)) .none)
  | _ => False
theorem diag_ok : POK Try.prog 83 diagP := by
  intro xs K h
  unfold diagP at h
  split at h
  · exact ⟨_, h.2, diag_spec' h.1.get.1 h.1.get.2.1 h.1.get.2.2⟩
  · exact h.elim
/-! the sum of some cells -/
theorem rSum_spec (r c : Int) (cs l : List Int) (hc : ∀ x ∈ l, 0 ≤ x ∧ x < cs.length) (hl : l.length ≤ 1000000) (hb : ∀ i, i ≤ l.length → -1000000000000 ≤ sumAt cs l i ∧ sumAt cs l i ≤ 1000000000000) : PSpec Try.prog 71 [gridV r c cs, .isl (.ints .i64 l) .none] (.int .i64 (sumAt cs l l.length)) := by
  refine pspec_of (md := 0) (rf := []) mixed tabOK noC_ok Try.func71 (by rfl) (by rfl) (by rfl) ?_
  repeat' (first | ((conv => whnf); refine And.intro ?_ ?_) | ((conv => whnf); with_reducible exact VC.mk rfl) | ((conv => whnf); exact Ok.mk) | ((conv => whnf); exact True.intro) | ((conv => whnf); refine Nx.mk ?_) | ((conv => whnf); refine Fin.mk ?_) | ((conv => whnf); intro _))
  all_goals ((try refine VC.mk ?_); (try simp only [CL.ncell, CL.cnt, Int.toNat_natCast, decide_eq_true_eq, decide_eq_false_iff_not, Bool.not_eq_true, Bool.not_false, Bool.not_true, and_self, and_true, true_and, te3b, te4b, te3s, te4s, Nat.mul_one, Nat.zero_add, List.length_cons, List.length_nil, Bool.false_eq_true, Bool.true_eq_false] at *); (try omega))
  conv => whnf
  refine loop_of (X := Nat) (fun i => i ≤ l.length) (fun i => [(6, .int .i64 i), (5, .int .i64 (sumAt cs l i))]) (fun i => []) (fun i => l.length - i) 0 ⟨anyB_ok, mixed, tabOK, noC_ok, noY_ok⟩ (by rfl) (by omega) ?_ ?_
  · repeat' (first | ((conv => whnf); refine And.intro ?_ ?_) | ((conv => whnf); with_reducible exact VC.mk rfl) | ((conv => whnf); exact Ok.mk) | ((conv => whnf); exact True.intro) | ((conv => whnf); refine Nx.mk ?_) | ((conv => whnf); refine Fin.mk ?_) | ((conv => whnf); intro _))
    all_goals ((try refine VC.mk ?_); (try simp only [CL.ncell, CL.cnt, Int.toNat_natCast, decide_eq_true_eq, decide_eq_false_iff_not, Bool.not_eq_true, Bool.not_false, Bool.not_true, and_self, and_true, true_and, te3b, te4b, te3s, te4s, Nat.mul_one, Nat.zero_add, List.length_cons, List.length_nil, Bool.false_eq_true, Bool.true_eq_false] at *); (try omega))
    all_goals (try rfl)
  · intro i hi
    have e1 := hb i hi
    by_cases hlt : i < l.length
    · have e2 := sumAt_succ cs l i hlt
      have e3 := hb (i + 1) (by omega)
      have e4 := hc (l.getD i 0) (by rw [List.getD_eq_getElem?_getD, List.getElem?_eq_getElem hlt]; exact List.getElem_mem _)
      repeat' (first | ((conv => whnf); refine And.intro ?_ ?_) | ((conv => whnf); with_reducible exact VC.mk rfl) | ((conv => whnf); exact Ok.mk) | ((conv => whnf); exact True.intro) | ((conv => whnf); refine Nx.mk ?_) | ((conv => whnf); refine Fin.mk ?_) | ((conv => whnf); intro _))
      all_goals ((try refine VC.mk ?_); (try simp only [CL.ncell, CL.cnt, Int.toNat_natCast, decide_eq_true_eq, decide_eq_false_iff_not, Bool.not_eq_true, Bool.not_false, Bool.not_true, and_self, and_true, true_and, te3b, te4b, te3s, te4s, Nat.mul_one, Nat.zero_add, List.length_cons, List.length_nil, Bool.false_eq_true, Bool.true_eq_false] at *); (try omega))
      refine ⟨i + 1, [], ⟨by omega, by omega⟩, ?_⟩
      repeat' (first | ((conv => whnf); refine And.intro ?_ ?_) | ((conv => whnf); with_reducible exact VC.mk rfl) | ((conv => whnf); exact Ok.mk) | ((conv => whnf); exact True.intro) | ((conv => whnf); refine Nx.mk ?_) | ((conv => whnf); refine Fin.mk ?_) | ((conv => whnf); intro _))
      all_goals ((try refine VC.mk ?_); (try simp only [CL.ncell, CL.cnt, Int.toNat_natCast, decide_eq_true_eq, decide_eq_false_iff_not, Bool.not_eq_true, Bool.not_false, Bool.not_true, and_self, and_true, true_and, te3b, te4b, te3s, te4s, Nat.mul_one, Nat.zero_add, List.length_cons, List.length_nil, Bool.false_eq_true, Bool.true_eq_false] at *); (try omega))
      all_goals (try (rw [e2]))
    · have : l.length = i := by omega
      subst this
      repeat' (first | ((conv => whnf); refine And.intro ?_ ?_) | ((conv => whnf); with_reducible exact VC.mk rfl) | ((conv => whnf); exact Ok.mk) | ((conv => whnf); exact True.intro) | ((conv => whnf); refine Nx.mk ?_) | ((conv => whnf); refine Fin.mk ?_) | ((conv => whnf); intro _))
      all_goals ((try refine VC.mk ?_); (try simp only [CL.ncell, CL.cnt, Int.toNat_natCast, decide_eq_true_eq, decide_eq_false_iff_not, Bool.not_eq_true, Bool.not_false, Bool.not_true, and_self, and_true, true_and, te3b, te4b, te3s, te4s, Nat.mul_one, Nat.zero_add, List.length_cons, List.length_nil, Bool.false_eq_true, Bool.true_eq_false] at *); (try omega))
      all_goals (first | (refine Sup.of ?_; first | rfl | (simp [*, resOf]; done)) | (refine Sup.via ?_; repeat' (first | ((conv => whnf); refine And.intro ?_ ?_) | ((conv => whnf); with_reducible exact VC.mk rfl) | ((conv => whnf); exact Ok.mk) | ((conv => whnf); exact True.intro) | ((conv => whnf); refine Nx.mk ?_) | ((conv => whnf); refine Fin.mk ?_) | ((conv => whnf); intro _)); all_goals ((try refine VC.mk ?_); (try simp only [CL.ncell, CL.cnt, Int.toNat_natCast, decide_eq_true_eq, decide_eq_false_iff_not, Bool.not_eq_true, Bool.not_false, Bool.not_true, and_self, and_true, true_and, te3b, te4b, te3s, te4s, Nat.mul_one, Nat.zero_add, List.length_cons, List.length_nil, Bool.false_eq_true, Bool.true_eq_false] at *); (try omega)); all_goals (try (simp [CL.sub]; done))))
def rSumP : PSp := fun xs K => match xs with
  | [.agg [.int .i64 r, .int .i64 c, .isl (.ints .i64 cs) .none], .isl (.ints .i64 l) .none] => VC ((∀ x ∈ l, 0 ≤ x ∧ x < cs.length) ∧ l.length ≤ 1000000 ∧ ∀ i, i ≤ l.length → -1000000000000 ≤ sumAt cs l i ∧ sumAt cs l i ≤ 1000000000000) ∧ K (.int .i64 (sumAt cs l l.length))
  | _ => False
theorem rSum_ok : POK Try.prog 71 rSumP := by
  intro xs K h
  unfold rSumP at h
  split at h
  · exact ⟨_, h.2, rSum_spec _ _ _ _ h.1.get.1 h.1.get.2.1 h.1.get.2.2⟩
  · exact h.elim
/-! all lines -/
def gOf (s : ByteArray) : Int := if s = kSq then 0 else if s = kSemi then 1 else if s = kMag then 2 else 3
def linesTo (n m : Nat) : List (List Int) := (List.range m).map (lineAt n)
theorem linesTo_succ (n m : Nat) : linesTo n (m + 1) = linesTo n m ++ [lineAt n m] := by simp [linesTo, List.range_succ]
theorem linesTo_get (n m i : Nat) (h : i < m) : (linesTo n m).getD i [] = lineAt n i := by
  simp [linesTo, List.getD_eq_getElem?_getD, h]
theorem linesTo_len (n m : Nat) : (linesTo n m).length = m := by simp [linesTo]
theorem colL_congr {n : Nat} {h h' : Nat → Int} (e : ∀ i, i < n → h i % n = h' i % n) : colL n h n = colL n h' n := by
  unfold colL
  exact List.map_congr_left fun i hi => by rw [e i (List.mem_range.1 hi)]
theorem emod_of_sub {a b n k : Int} (h : a - b = n * k) : a % n = b % n := by
  have : a = b + n * k := by omega
  rw [this, Int.add_mul_emod_self_left]
theorem dg1 (n : Nat) : colL n (fun i => 0 + (i : Int) * 1) n = lineAt n (2 * n) := by
  rw [lineAt_d1]; exact colL_congr fun i _ => by congr 1; omega
theorem dg2 (n : Nat) : colL n (fun i => (n : Int) - 1 + (i : Int) * ((n : Int) - 1)) n = lineAt n (2 * n + 1) := by
  rw [lineAt_d2]; exact colL_congr fun i _ => emod_of_sub (k := (i : Int)) (by rw [Int.mul_sub, Int.mul_comm (n : Int) (i : Int)]; omega)
theorem dg3 (n k : Nat) (hk : 1 ≤ k ∧ k < n) : colL n (fun i => (k : Int) + (i : Int) * 1) n = lineAt n (2 * n + 1 + k) := by
  have : lineAt n (2 * n + 1 + k) = colL n (fun j => (j : Int) + (((2 * n + 1 + k : Nat) : Int) - 2 * n - 1)) n := by
    unfold lineAt; rw [if_neg (by omega), if_neg (by omega), if_neg (by omega), if_neg (by omega), if_pos (by omega)]
  rw [this]; exact colL_congr fun i _ => by congr 1; omega
theorem dg4 (n k : Nat) (hn : 1 ≤ n) (hk : k + 1 < n) : colL n (fun i => (k : Int) + (i : Int) * ((n : Int) - 1)) n = lineAt n (3 * n + 1 + k) := by
  have : lineAt n (3 * n + 1 + k) = colL n (fun j => ((3 * n + 1 + k : Nat) : Int) - 3 * n - 1 - j) n := by
    unfold lineAt; rw [if_neg (by omega), if_neg (by omega), if_neg (by omega), if_neg (by omega), if_neg (by omega)]
  rw [this]; exact colL_congr fun i _ => emod_of_sub (k := (i : Int)) (by rw [Int.mul_sub, Int.mul_comm (n : Int) (i : Int)]; push_cast; omega)
theorem linesTo_two (n : Nat) : linesTo n (n + n) ++ [colL n (fun i => 0 + (i : Int) * 1) n, colL n (fun i => (n : Int) - 1 + (i : Int) * ((n : Int) - 1)) n] = linesTo n (2 * n + 2) := by
  rw [dg1, dg2, show 2 * n + 2 = n + n + 1 + 1 by omega, linesTo_succ, linesTo_succ, show n + n + 1 = 2 * n + 1 by omega, show n + n = 2 * n by omega]
  simp
noncomputable def cpLn : CPT := cpAdd 83 (pureCC diagP) noC
theorem cpLn_ok : CPOK Try.prog cpLn := cpAdd_ok (pureCC_ok diag_ok) noC_ok
theorem Lines_spec (n : Nat) (hn : 1 ≤ n ∧ n ≤ 16) (s : ByteArray) : PSpec Try.prog 105 [.int .i64 (n : Int), .str s] (.isl (.rows .i64 (linesTo n (lineCnt n (gOf s)))) .none) := by
  refine pspec_of (md := 0) (rf := []) mixed tabOK cpLn_ok Try.func105 (by rfl) (by rfl) (by rfl) ?_
  repeat' (first | ((conv => whnf); refine And.intro ?_ ?_) | ((conv => whnf); with_reducible exact VC.mk rfl) | ((conv => whnf); exact Ok.mk) | ((conv => whnf); exact True.intro) | ((conv => whnf); refine Nx.mk ?_) | ((conv => whnf); refine Fin.mk ?_) | ((conv => whnf); intro _))
  all_goals ((try refine VC.mk ?_); (try simp only [CL.ncell, CL.cnt, Int.toNat_natCast, decide_eq_true_eq, decide_eq_false_iff_not, Bool.not_eq_true, Bool.not_false, Bool.not_true, and_self, and_true, true_and, te3b, te4b, te3s, te4s, Nat.mul_one, Nat.zero_add, List.length_cons, List.length_nil, Bool.false_eq_true, Bool.true_eq_false] at *); (try omega))
  · rename_i hs
    have : lineCnt n (gOf s) = 0 := by unfold gOf; rw [if_pos hs]; rfl
    rw [this]
    all_goals (refine Sup.via ?_; repeat' (first | ((conv => whnf); refine And.intro ?_ ?_) | ((conv => whnf); with_reducible exact VC.mk rfl) | ((conv => whnf); exact Ok.mk) | ((conv => whnf); exact True.intro) | ((conv => whnf); refine Nx.mk ?_) | ((conv => whnf); refine Fin.mk ?_) | ((conv => whnf); intro _)); all_goals ((try refine VC.mk ?_); (try simp only [CL.ncell, CL.cnt, Int.toNat_natCast, decide_eq_true_eq, decide_eq_false_iff_not, Bool.not_eq_true, Bool.not_false, Bool.not_true, and_self, and_true, true_and, te3b, te4b, te3s, te4s, Nat.mul_one, Nat.zero_add, List.length_cons, List.length_nil, Bool.false_eq_true, Bool.true_eq_false] at *); (try omega)); all_goals (try (simp [CL.sub]; done)))
    rfl
  rename_i hsq
  conv => whnf
  refine loop_of (X := Nat) (fun i => i ≤ n) (fun i => [(6, .int .i64 i), (5, .isl (.rows .i64 (linesTo n i)) (.own 0))]) (fun i => [(0, .tok 1 i)]) (fun i => n - i) 0 ⟨anyB_ok, mixed, tabOK, cpLn_ok, noY_ok⟩ (by rfl) (by omega) ?_ ?_
  · repeat' (first | ((conv => whnf); refine And.intro ?_ ?_) | ((conv => whnf); with_reducible exact VC.mk rfl) | ((conv => whnf); exact Ok.mk) | ((conv => whnf); exact True.intro) | ((conv => whnf); refine Nx.mk ?_) | ((conv => whnf); refine Fin.mk ?_) | ((conv => whnf); intro _))
    all_goals ((try refine VC.mk ?_); (try simp only [CL.ncell, CL.cnt, Int.toNat_natCast, decide_eq_true_eq, decide_eq_false_iff_not, Bool.not_eq_true, Bool.not_false, Bool.not_true, and_self, and_true, true_and, te3b, te4b, te3s, te4s, Nat.mul_one, Nat.zero_add, List.length_cons, List.length_nil, Bool.false_eq_true, Bool.true_eq_false] at *); (try omega))
  intro i hi
  by_cases hlt : i < n
  · repeat' (first | ((conv => whnf); refine And.intro ?_ ?_) | ((conv => whnf); with_reducible exact VC.mk rfl) | ((conv => whnf); exact Ok.mk) | ((conv => whnf); exact True.intro) | ((conv => whnf); refine Nx.mk ?_) | ((conv => whnf); refine Fin.mk ?_) | ((conv => whnf); intro _))
    all_goals ((try refine VC.mk ?_); (try simp only [CL.ncell, CL.cnt, Int.toNat_natCast, decide_eq_true_eq, decide_eq_false_iff_not, Bool.not_eq_true, Bool.not_false, Bool.not_true, and_self, and_true, true_and, te3b, te4b, te3s, te4s, Nat.mul_one, Nat.zero_add, List.length_cons, List.length_nil, Bool.false_eq_true, Bool.true_eq_false] at *); (try omega))
    conv => whnf
    refine loop_of (X := Nat) (fun j => j ≤ n) (fun j => [(8, .int .i64 j), (7, .isl (.ints .i64 (rowL n i j)) (.own 1))]) (fun j => [(1, .tok 1 j)]) (fun j => n - j) 0 ⟨anyB_ok, mixed, tabOK, cpLn_ok, noY_ok⟩ (by rfl) (by omega) ?_ ?_
    · repeat' (first | ((conv => whnf); refine And.intro ?_ ?_) | ((conv => whnf); with_reducible exact VC.mk rfl) | ((conv => whnf); exact Ok.mk) | ((conv => whnf); exact True.intro) | ((conv => whnf); refine Nx.mk ?_) | ((conv => whnf); refine Fin.mk ?_) | ((conv => whnf); intro _))
      all_goals ((try refine VC.mk ?_); (try simp only [CL.ncell, CL.cnt, Int.toNat_natCast, decide_eq_true_eq, decide_eq_false_iff_not, Bool.not_eq_true, Bool.not_false, Bool.not_true, and_self, and_true, true_and, te3b, te4b, te3s, te4s, Nat.mul_one, Nat.zero_add, List.length_cons, List.length_nil, Bool.false_eq_true, Bool.true_eq_false] at *); (try omega))
    intro j hj
    have e1 := rowL_succ n i j
    have e2 := rowL_len n i j
    have h1 := mul_bd (A := 16) (B := 16) (show 0 ≤ (i : Int) ∧ (i : Int) ≤ 16 by omega) (show 0 ≤ (n : Int) ∧ (n : Int) ≤ 16 by omega)
    by_cases hlj : j < n
    · repeat' (first | ((conv => whnf); refine And.intro ?_ ?_) | ((conv => whnf); with_reducible exact VC.mk rfl) | ((conv => whnf); exact Ok.mk) | ((conv => whnf); exact True.intro) | ((conv => whnf); refine Nx.mk ?_) | ((conv => whnf); refine Fin.mk ?_) | ((conv => whnf); intro _))
      all_goals ((try refine VC.mk ?_); (try simp only [CL.ncell, CL.cnt, Int.toNat_natCast, decide_eq_true_eq, decide_eq_false_iff_not, Bool.not_eq_true, Bool.not_false, Bool.not_true, and_self, and_true, true_and, te3b, te4b, te3s, te4s, Nat.mul_one, Nat.zero_add, List.length_cons, List.length_nil, Bool.false_eq_true, Bool.true_eq_false] at *); (try omega))
      all_goals (try (simp only [List.length_append, List.length_cons, List.length_nil]; omega))
      refine ⟨j + 1, [], ⟨by omega, by omega⟩, ?_⟩
      repeat' (first | ((conv => whnf); refine And.intro ?_ ?_) | ((conv => whnf); with_reducible exact VC.mk rfl) | ((conv => whnf); exact Ok.mk) | ((conv => whnf); exact True.intro) | ((conv => whnf); refine Nx.mk ?_) | ((conv => whnf); refine Fin.mk ?_) | ((conv => whnf); intro _))
      all_goals ((try refine VC.mk ?_); (try simp only [CL.ncell, CL.cnt, Int.toNat_natCast, decide_eq_true_eq, decide_eq_false_iff_not, Bool.not_eq_true, Bool.not_false, Bool.not_true, and_self, and_true, true_and, te3b, te4b, te3s, te4s, Nat.mul_one, Nat.zero_add, List.length_cons, List.length_nil, Bool.false_eq_true, Bool.true_eq_false] at *); (try omega))
      all_goals (try (rw [e1, Int.mul_comm (n : Int)]))
    · have : n = j := by omega
      subst this
      have e3 := linesTo_len n i
      have e4 := linesTo_succ n i
      rw [lineAt_row hlt] at e4
      repeat' (first | ((conv => whnf); refine And.intro ?_ ?_) | ((conv => whnf); with_reducible exact VC.mk rfl) | ((conv => whnf); exact Ok.mk) | ((conv => whnf); exact True.intro) | ((conv => whnf); refine Nx.mk ?_) | ((conv => whnf); refine Fin.mk ?_) | ((conv => whnf); intro _))
      all_goals ((try refine VC.mk ?_); (try simp only [CL.ncell, CL.cnt, Int.toNat_natCast, decide_eq_true_eq, decide_eq_false_iff_not, Bool.not_eq_true, Bool.not_false, Bool.not_true, and_self, and_true, true_and, te3b, te4b, te3s, te4s, Nat.mul_one, Nat.zero_add, List.length_cons, List.length_nil, Bool.false_eq_true, Bool.true_eq_false] at *); (try omega))
      all_goals (try (simp only [List.length_append, List.length_cons, List.length_nil]; omega))
      refine ⟨i + 1, [], ⟨by omega, by omega⟩, ?_⟩
      repeat' (first | ((conv => whnf); refine And.intro ?_ ?_) | ((conv => whnf); with_reducible exact VC.mk rfl) | ((conv => whnf); exact Ok.mk) | ((conv => whnf); exact True.intro) | ((conv => whnf); refine Nx.mk ?_) | ((conv => whnf); refine Fin.mk ?_) | ((conv => whnf); intro _))
      all_goals ((try refine VC.mk ?_); (try simp only [CL.ncell, CL.cnt, Int.toNat_natCast, decide_eq_true_eq, decide_eq_false_iff_not, Bool.not_eq_true, Bool.not_false, Bool.not_true, and_self, and_true, true_and, te3b, te4b, te3s, te4s, Nat.mul_one, Nat.zero_add, List.length_cons, List.length_nil, Bool.false_eq_true, Bool.true_eq_false] at *); (try omega))
      all_goals (try (rw [e4]))
  have : n = i := by omega
  subst this
  repeat' (first | ((conv => whnf); refine And.intro ?_ ?_) | ((conv => whnf); with_reducible exact VC.mk rfl) | ((conv => whnf); exact Ok.mk) | ((conv => whnf); exact True.intro) | ((conv => whnf); refine Nx.mk ?_) | ((conv => whnf); refine Fin.mk ?_) | ((conv => whnf); intro _))
  all_goals ((try refine VC.mk ?_); (try simp only [CL.ncell, CL.cnt, Int.toNat_natCast, decide_eq_true_eq, decide_eq_false_iff_not, Bool.not_eq_true, Bool.not_false, Bool.not_true, and_self, and_true, true_and, te3b, te4b, te3s, te4s, Nat.mul_one, Nat.zero_add, List.length_cons, List.length_nil, Bool.false_eq_true, Bool.true_eq_false] at *); (try omega))
  conv => whnf
  refine loop_of (X := Nat) (fun i => i ≤ n) (fun i => [(9, .int .i64 i), (5, .isl (.rows .i64 (linesTo n (n + i))) (.own 0))]) (fun i => [(0, .tok 1 (n + i))]) (fun i => n - i) 0 ⟨anyB_ok, mixed, tabOK, cpLn_ok, noY_ok⟩ (by rfl) (by omega) ?_ ?_
  · repeat' (first | ((conv => whnf); refine And.intro ?_ ?_) | ((conv => whnf); with_reducible exact VC.mk rfl) | ((conv => whnf); exact Ok.mk) | ((conv => whnf); exact True.intro) | ((conv => whnf); refine Nx.mk ?_) | ((conv => whnf); refine Fin.mk ?_) | ((conv => whnf); intro _))
    all_goals ((try refine VC.mk ?_); (try simp only [CL.ncell, CL.cnt, Int.toNat_natCast, decide_eq_true_eq, decide_eq_false_iff_not, Bool.not_eq_true, Bool.not_false, Bool.not_true, and_self, and_true, true_and, te3b, te4b, te3s, te4s, Nat.mul_one, Nat.zero_add, List.length_cons, List.length_nil, Bool.false_eq_true, Bool.true_eq_false] at *); (try omega))
  intro i hi
  by_cases hlt : i < n
  · repeat' (first | ((conv => whnf); refine And.intro ?_ ?_) | ((conv => whnf); with_reducible exact VC.mk rfl) | ((conv => whnf); exact Ok.mk) | ((conv => whnf); exact True.intro) | ((conv => whnf); refine Nx.mk ?_) | ((conv => whnf); refine Fin.mk ?_) | ((conv => whnf); intro _))
    all_goals ((try refine VC.mk ?_); (try simp only [CL.ncell, CL.cnt, Int.toNat_natCast, decide_eq_true_eq, decide_eq_false_iff_not, Bool.not_eq_true, Bool.not_false, Bool.not_true, and_self, and_true, true_and, te3b, te4b, te3s, te4s, Nat.mul_one, Nat.zero_add, List.length_cons, List.length_nil, Bool.false_eq_true, Bool.true_eq_false] at *); (try omega))
    conv => whnf
    refine loop_of (X := Nat) (fun j => j ≤ n) (fun j => [(11, .int .i64 j), (10, .isl (.ints .i64 (colL n (fun _ => (i : Int)) j)) (.own 1))]) (fun j => [(1, .tok 1 j)]) (fun j => n - j) 0 ⟨anyB_ok, mixed, tabOK, cpLn_ok, noY_ok⟩ (by rfl) (by omega) ?_ ?_
    · repeat' (first | ((conv => whnf); refine And.intro ?_ ?_) | ((conv => whnf); with_reducible exact VC.mk rfl) | ((conv => whnf); exact Ok.mk) | ((conv => whnf); exact True.intro) | ((conv => whnf); refine Nx.mk ?_) | ((conv => whnf); refine Fin.mk ?_) | ((conv => whnf); intro _))
      all_goals ((try refine VC.mk ?_); (try simp only [CL.ncell, CL.cnt, Int.toNat_natCast, decide_eq_true_eq, decide_eq_false_iff_not, Bool.not_eq_true, Bool.not_false, Bool.not_true, and_self, and_true, true_and, te3b, te4b, te3s, te4s, Nat.mul_one, Nat.zero_add, List.length_cons, List.length_nil, Bool.false_eq_true, Bool.true_eq_false] at *); (try omega))
    intro j hj
    have e1 := colL_succ' n (fun _ => (i : Int)) j
    rw [Int.emod_eq_of_lt (by omega) (by omega)] at e1
    have e2 := colL_len n (fun _ => (i : Int)) j
    have h1 := mul_bd (A := 16) (B := 16) (show 0 ≤ (j : Int) ∧ (j : Int) ≤ 16 by omega) (show 0 ≤ (n : Int) ∧ (n : Int) ≤ 16 by omega)
    by_cases hlj : j < n
    · repeat' (first | ((conv => whnf); refine And.intro ?_ ?_) | ((conv => whnf); with_reducible exact VC.mk rfl) | ((conv => whnf); exact Ok.mk) | ((conv => whnf); exact True.intro) | ((conv => whnf); refine Nx.mk ?_) | ((conv => whnf); refine Fin.mk ?_) | ((conv => whnf); intro _))
      all_goals ((try refine VC.mk ?_); (try simp only [CL.ncell, CL.cnt, Int.toNat_natCast, decide_eq_true_eq, decide_eq_false_iff_not, Bool.not_eq_true, Bool.not_false, Bool.not_true, and_self, and_true, true_and, te3b, te4b, te3s, te4s, Nat.mul_one, Nat.zero_add, List.length_cons, List.length_nil, Bool.false_eq_true, Bool.true_eq_false] at *); (try omega))
      all_goals (try (simp only [List.length_append, List.length_cons, List.length_nil]; omega))
      refine ⟨j + 1, [], ⟨by omega, by omega⟩, ?_⟩
      repeat' (first | ((conv => whnf); refine And.intro ?_ ?_) | ((conv => whnf); with_reducible exact VC.mk rfl) | ((conv => whnf); exact Ok.mk) | ((conv => whnf); exact True.intro) | ((conv => whnf); refine Nx.mk ?_) | ((conv => whnf); refine Fin.mk ?_) | ((conv => whnf); intro _))
      all_goals ((try refine VC.mk ?_); (try simp only [CL.ncell, CL.cnt, Int.toNat_natCast, decide_eq_true_eq, decide_eq_false_iff_not, Bool.not_eq_true, Bool.not_false, Bool.not_true, and_self, and_true, true_and, te3b, te4b, te3s, te4s, Nat.mul_one, Nat.zero_add, List.length_cons, List.length_nil, Bool.false_eq_true, Bool.true_eq_false] at *); (try omega))
      all_goals (try (rw [e1]))
    · have : n = j := by omega
      subst this
      have e3 := linesTo_len n (n + i)
      have e4 := linesTo_succ n (n + i)
      rw [lineAt_col hlt] at e4
      repeat' (first | ((conv => whnf); refine And.intro ?_ ?_) | ((conv => whnf); with_reducible exact VC.mk rfl) | ((conv => whnf); exact Ok.mk) | ((conv => whnf); exact True.intro) | ((conv => whnf); refine Nx.mk ?_) | ((conv => whnf); refine Fin.mk ?_) | ((conv => whnf); intro _))
      all_goals ((try refine VC.mk ?_); (try simp only [CL.ncell, CL.cnt, Int.toNat_natCast, decide_eq_true_eq, decide_eq_false_iff_not, Bool.not_eq_true, Bool.not_false, Bool.not_true, and_self, and_true, true_and, te3b, te4b, te3s, te4s, Nat.mul_one, Nat.zero_add, List.length_cons, List.length_nil, Bool.false_eq_true, Bool.true_eq_false] at *); (try omega))
      all_goals (try (simp only [List.length_append, List.length_cons, List.length_nil]; omega))
      refine ⟨i + 1, [], ⟨by omega, by omega⟩, ?_⟩
      repeat' (first | ((conv => whnf); refine And.intro ?_ ?_) | ((conv => whnf); with_reducible exact VC.mk rfl) | ((conv => whnf); exact Ok.mk) | ((conv => whnf); exact True.intro) | ((conv => whnf); refine Nx.mk ?_) | ((conv => whnf); refine Fin.mk ?_) | ((conv => whnf); intro _))
      all_goals ((try refine VC.mk ?_); (try simp only [CL.ncell, CL.cnt, Int.toNat_natCast, decide_eq_true_eq, decide_eq_false_iff_not, Bool.not_eq_true, Bool.not_false, Bool.not_true, and_self, and_true, true_and, te3b, te4b, te3s, te4s, Nat.mul_one, Nat.zero_add, List.length_cons, List.length_nil, Bool.false_eq_true, Bool.true_eq_false] at *); (try omega))
      all_goals (try (rw [← Nat.add_assoc, e4]))
  have : n = i := by omega
  subst this
  have e3 := linesTo_len n (n + n)
  repeat' (first | ((conv => whnf); refine And.intro ?_ ?_) | ((conv => whnf); with_reducible exact VC.mk rfl) | ((conv => whnf); exact Ok.mk) | ((conv => whnf); exact True.intro) | ((conv => whnf); refine Nx.mk ?_) | ((conv => whnf); refine Fin.mk ?_) | ((conv => whnf); intro _))
  all_goals ((try refine VC.mk ?_); (try simp only [CL.ncell, CL.cnt, Int.toNat_natCast, decide_eq_true_eq, decide_eq_false_iff_not, Bool.not_eq_true, Bool.not_false, Bool.not_true, and_self, and_true, true_and, te3b, te4b, te3s, te4s, Nat.mul_one, Nat.zero_add, List.length_cons, List.length_nil, Bool.false_eq_true, Bool.true_eq_false] at *); (try omega))
  · rename_i hs
    have : lineCnt n (gOf s) = n + n := by
      have e : gOf s = 1 := by unfold gOf; rw [if_neg hsq, if_pos hs]
      rw [e]; unfold lineCnt; rw [if_neg (by omega), if_pos (by omega)]; omega
    rw [this]
    all_goals (first | (refine Sup.of ?_; first | rfl | (simp [*, resOf]; done)) | (refine Sup.via ?_; repeat' (first | ((conv => whnf); refine And.intro ?_ ?_) | ((conv => whnf); with_reducible exact VC.mk rfl) | ((conv => whnf); exact Ok.mk) | ((conv => whnf); exact True.intro) | ((conv => whnf); refine Nx.mk ?_) | ((conv => whnf); refine Fin.mk ?_) | ((conv => whnf); intro _)); all_goals ((try refine VC.mk ?_); (try simp only [CL.ncell, CL.cnt, Int.toNat_natCast, decide_eq_true_eq, decide_eq_false_iff_not, Bool.not_eq_true, Bool.not_false, Bool.not_true, and_self, and_true, true_and, te3b, te4b, te3s, te4s, Nat.mul_one, Nat.zero_add, List.length_cons, List.length_nil, Bool.false_eq_true, Bool.true_eq_false] at *); (try omega)); all_goals (try (simp [CL.sub]; done))))
  · rename_i hs
    simp only [List.length_append, List.length_cons, List.length_nil]; omega
  · rename_i hs1 hs
    have : lineCnt n (gOf s) = 2 * n + 2 := by
      have e : gOf s = 2 := by unfold gOf; rw [if_neg hsq, if_neg hs1, if_pos hs]
      rw [e]; unfold lineCnt; rw [if_neg (by omega), if_neg (by omega), if_pos (by omega)]
    rw [this, linesTo_two]
    all_goals (first | (refine Sup.of ?_; first | rfl | (simp [*, resOf]; done)) | (refine Sup.via ?_; repeat' (first | ((conv => whnf); refine And.intro ?_ ?_) | ((conv => whnf); with_reducible exact VC.mk rfl) | ((conv => whnf); exact Ok.mk) | ((conv => whnf); exact True.intro) | ((conv => whnf); refine Nx.mk ?_) | ((conv => whnf); refine Fin.mk ?_) | ((conv => whnf); intro _)); all_goals ((try refine VC.mk ?_); (try simp only [CL.ncell, CL.cnt, Int.toNat_natCast, decide_eq_true_eq, decide_eq_false_iff_not, Bool.not_eq_true, Bool.not_false, Bool.not_true, and_self, and_true, true_and, te3b, te4b, te3s, te4s, Nat.mul_one, Nat.zero_add, List.length_cons, List.length_nil, Bool.false_eq_true, Bool.true_eq_false] at *); (try omega)); all_goals (try (simp [CL.sub]; done))))
  rename_i hs1 hs2
  have hcnt : lineCnt n (gOf s) = 4 * n := by
    have e : gOf s = 3 := by unfold gOf; rw [if_neg hsq, if_neg hs1, if_neg hs2]
    rw [e]; unfold lineCnt; rw [if_neg (by omega), if_neg (by omega), if_neg (by omega)]
  rw [hcnt]
  simp only [linesTo_two]
  have e3 := linesTo_len n (2 * n + 2)
  generalize hL0 : linesTo n (2 * n + 2) = L0 at *
  try simp only [List.length_append, List.length_cons, List.length_nil]
  conv => whnf
  refine loop_of (X := Nat) (fun k => 1 ≤ k ∧ k ≤ n) (fun k => [(12, .int .i64 k), (5, .isl (.rows .i64 (linesTo n (2 * n + 1 + k))) (.own 0))]) (fun k => [(0, .tok 1 (2 * n + 1 + k))]) (fun k => n - k) 1 ⟨anyB_ok, mixed, tabOK, cpLn_ok, noY_ok⟩ (by rfl) (by omega) ?_ ?_
  · repeat' (first | ((conv => whnf); refine And.intro ?_ ?_) | ((conv => whnf); with_reducible exact VC.mk rfl) | ((conv => whnf); exact Ok.mk) | ((conv => whnf); exact True.intro) | ((conv => whnf); refine Nx.mk ?_) | ((conv => whnf); refine Fin.mk ?_) | ((conv => whnf); intro _))
    all_goals ((try refine VC.mk ?_); (try simp only [CL.ncell, CL.cnt, Int.toNat_natCast, decide_eq_true_eq, decide_eq_false_iff_not, Bool.not_eq_true, Bool.not_false, Bool.not_true, and_self, and_true, true_and, te3b, te4b, te3s, te4s, Nat.mul_one, Nat.zero_add, List.length_cons, List.length_nil, Bool.false_eq_true, Bool.true_eq_false] at *); (try omega))
    all_goals (try (rw [← hL0]; done))
  intro k hk
  have e3 := linesTo_len n (2 * n + 1 + k)
  have e4 := linesTo_succ n (2 * n + 1 + k)
  by_cases hlt : k < n
  · rw [← dg3 n k (by omega)] at e4
    repeat' (first | ((conv => whnf); refine And.intro ?_ ?_) | ((conv => whnf); with_reducible exact VC.mk rfl) | ((conv => whnf); exact Ok.mk) | ((conv => whnf); exact True.intro) | ((conv => whnf); refine Nx.mk ?_) | ((conv => whnf); refine Fin.mk ?_) | ((conv => whnf); intro _))
    all_goals ((try refine VC.mk ?_); (try simp only [CL.ncell, CL.cnt, Int.toNat_natCast, decide_eq_true_eq, decide_eq_false_iff_not, Bool.not_eq_true, Bool.not_false, Bool.not_true, and_self, and_true, true_and, te3b, te4b, te3s, te4s, Nat.mul_one, Nat.zero_add, List.length_cons, List.length_nil, Bool.false_eq_true, Bool.true_eq_false] at *); (try omega))
    all_goals (try (simp only [List.length_append, List.length_cons, List.length_nil]; omega))
    refine ⟨k + 1, [], ⟨by omega, by omega⟩, ?_⟩
    repeat' (first | ((conv => whnf); refine And.intro ?_ ?_) | ((conv => whnf); with_reducible exact VC.mk rfl) | ((conv => whnf); exact Ok.mk) | ((conv => whnf); exact True.intro) | ((conv => whnf); refine Nx.mk ?_) | ((conv => whnf); refine Fin.mk ?_) | ((conv => whnf); intro _))
    all_goals ((try refine VC.mk ?_); (try simp only [CL.ncell, CL.cnt, Int.toNat_natCast, decide_eq_true_eq, decide_eq_false_iff_not, Bool.not_eq_true, Bool.not_false, Bool.not_true, and_self, and_true, true_and, te3b, te4b, te3s, te4s, Nat.mul_one, Nat.zero_add, List.length_cons, List.length_nil, Bool.false_eq_true, Bool.true_eq_false] at *); (try omega))
    all_goals (try (rw [← Nat.add_assoc, e4]))
  have : n = k := by omega
  subst this
  repeat' (first | ((conv => whnf); refine And.intro ?_ ?_) | ((conv => whnf); with_reducible exact VC.mk rfl) | ((conv => whnf); exact Ok.mk) | ((conv => whnf); exact True.intro) | ((conv => whnf); refine Nx.mk ?_) | ((conv => whnf); refine Fin.mk ?_) | ((conv => whnf); intro _))
  all_goals ((try refine VC.mk ?_); (try simp only [CL.ncell, CL.cnt, Int.toNat_natCast, decide_eq_true_eq, decide_eq_false_iff_not, Bool.not_eq_true, Bool.not_false, Bool.not_true, and_self, and_true, true_and, te3b, te4b, te3s, te4s, Nat.mul_one, Nat.zero_add, List.length_cons, List.length_nil, Bool.false_eq_true, Bool.true_eq_false] at *); (try omega))
  conv => whnf
  refine loop_of (X := Nat) (fun k => k + 1 ≤ n) (fun k => [(13, .int .i64 k), (5, .isl (.rows .i64 (linesTo n (3 * n + 1 + k))) (.own 0))]) (fun k => [(0, .tok 1 (3 * n + 1 + k))]) (fun k => n - k) 0 ⟨anyB_ok, mixed, tabOK, cpLn_ok, noY_ok⟩ (by rfl) (by omega) ?_ ?_
  · have : 2 * n + 1 + n = 3 * n + 1 + 0 := by omega
    rw [this]
    repeat' (first | ((conv => whnf); refine And.intro ?_ ?_) | ((conv => whnf); with_reducible exact VC.mk rfl) | ((conv => whnf); exact Ok.mk) | ((conv => whnf); exact True.intro) | ((conv => whnf); refine Nx.mk ?_) | ((conv => whnf); refine Fin.mk ?_) | ((conv => whnf); intro _))
    all_goals ((try refine VC.mk ?_); (try simp only [CL.ncell, CL.cnt, Int.toNat_natCast, decide_eq_true_eq, decide_eq_false_iff_not, Bool.not_eq_true, Bool.not_false, Bool.not_true, and_self, and_true, true_and, te3b, te4b, te3s, te4s, Nat.mul_one, Nat.zero_add, List.length_cons, List.length_nil, Bool.false_eq_true, Bool.true_eq_false] at *); (try omega))
  intro k hk
  have e3 := linesTo_len n (3 * n + 1 + k)
  have e4 := linesTo_succ n (3 * n + 1 + k)
  by_cases hlt : k + 1 < n
  · rw [← dg4 n k hn.1 hlt] at e4
    repeat' (first | ((conv => whnf); refine And.intro ?_ ?_) | ((conv => whnf); with_reducible exact VC.mk rfl) | ((conv => whnf); exact Ok.mk) | ((conv => whnf); exact True.intro) | ((conv => whnf); refine Nx.mk ?_) | ((conv => whnf); refine Fin.mk ?_) | ((conv => whnf); intro _))
    all_goals ((try refine VC.mk ?_); (try simp only [CL.ncell, CL.cnt, Int.toNat_natCast, decide_eq_true_eq, decide_eq_false_iff_not, Bool.not_eq_true, Bool.not_false, Bool.not_true, and_self, and_true, true_and, te3b, te4b, te3s, te4s, Nat.mul_one, Nat.zero_add, List.length_cons, List.length_nil, Bool.false_eq_true, Bool.true_eq_false] at *); (try omega))
    all_goals (try (simp only [List.length_append, List.length_cons, List.length_nil]; omega))
    refine ⟨k + 1, [], ⟨by omega, by omega⟩, ?_⟩
    repeat' (first | ((conv => whnf); refine And.intro ?_ ?_) | ((conv => whnf); with_reducible exact VC.mk rfl) | ((conv => whnf); exact Ok.mk) | ((conv => whnf); exact True.intro) | ((conv => whnf); refine Nx.mk ?_) | ((conv => whnf); refine Fin.mk ?_) | ((conv => whnf); intro _))
    all_goals ((try refine VC.mk ?_); (try simp only [CL.ncell, CL.cnt, Int.toNat_natCast, decide_eq_true_eq, decide_eq_false_iff_not, Bool.not_eq_true, Bool.not_false, Bool.not_true, and_self, and_true, true_and, te3b, te4b, te3s, te4s, Nat.mul_one, Nat.zero_add, List.length_cons, List.length_nil, Bool.false_eq_true, Bool.true_eq_false] at *); (try omega))
    all_goals (try (rw [← Nat.add_assoc, e4]))
  · have : 3 * n + 1 + k = 4 * n := by omega
    rw [this]
    repeat' (first | ((conv => whnf); refine And.intro ?_ ?_) | ((conv => whnf); with_reducible exact VC.mk rfl) | ((conv => whnf); exact Ok.mk) | ((conv => whnf); exact True.intro) | ((conv => whnf); refine Nx.mk ?_) | ((conv => whnf); refine Fin.mk ?_) | ((conv => whnf); intro _))
    all_goals ((try refine VC.mk ?_); (try simp only [CL.ncell, CL.cnt, Int.toNat_natCast, decide_eq_true_eq, decide_eq_false_iff_not, Bool.not_eq_true, Bool.not_false, Bool.not_true, and_self, and_true, true_and, te3b, te4b, te3s, te4s, Nat.mul_one, Nat.zero_add, List.length_cons, List.length_nil, Bool.false_eq_true, Bool.true_eq_false] at *); (try omega))
    all_goals (first | (refine Sup.of ?_; first | rfl | (simp [*, resOf]; done)) | (refine Sup.via ?_; repeat' (first | ((conv => whnf); refine And.intro ?_ ?_) | ((conv => whnf); with_reducible exact VC.mk rfl) | ((conv => whnf); exact Ok.mk) | ((conv => whnf); exact True.intro) | ((conv => whnf); refine Nx.mk ?_) | ((conv => whnf); refine Fin.mk ?_) | ((conv => whnf); intro _)); all_goals ((try refine VC.mk ?_); (try simp only [CL.ncell, CL.cnt, Int.toNat_natCast, decide_eq_true_eq, decide_eq_false_iff_not, Bool.not_eq_true, Bool.not_false, Bool.not_true, and_self, and_true, true_and, te3b, te4b, te3s, te4s, Nat.mul_one, Nat.zero_add, List.length_cons, List.length_nil, Bool.false_eq_true, Bool.true_eq_false] at *); (try omega)); all_goals (try (simp [CL.sub]; done))))
theorem Lines_spec' {n : Int} {s : ByteArray} (hn : 1 ≤ n ∧ n ≤ 16) : PSpec Try.prog 105 [.int .i64 n, .str s] (.isl (.rows .i64 (linesTo n.toNat (lineCnt n.toNat (gOf s)))) .none) := by
  have := Lines_spec n.toNat (by omega) s
  rwa [Int.toNat_of_nonneg (by omega)] at this
def LinesP : PSp := fun xs K => match xs with
  | [.int .i64 n, .str s] => VC (1 ≤ n ∧ n ≤ 16) ∧ K (.isl (.rows .i64 (linesTo n.toNat (lineCnt n.toNat (gOf s)))) .none)
  | _ => False
theorem Lines_ok : POK Try.prog 105 LinesP := by
  intro xs K h
  unfold LinesP at h
  split at h
  · exact ⟨_, h.2, Lines_spec' h.1.get⟩
  · exact h.elim
end Go.Eng.Ytppflbccfdbogaa
namespace Go.Eng.Ytppflbccfdbogaa
open Go.Proofs
set_option maxRecDepth 100000
set_option maxHeartbeats 0
set_option linter.unusedVariables false
set_option linter.unusedSimpArgs false
theorem CheckKind_spec (s : ByteArray) : PSpec Try.prog 20 [.str s] (.int .i64 (kindErr s)) := by
  refine pspec_of (md := 0) (rf := []) mixed tabOK noC_ok Try.func20 (by rfl) (by rfl) (by rfl) ?_
  repeat' (first | ((conv => whnf); refine And.intro ?_ ?_) | ((conv => whnf); with_reducible exact VC.mk rfl) | ((conv => whnf); exact Ok.mk) | ((conv => whnf); exact True.intro) | ((conv => whnf); refine Nx.mk ?_) | ((conv => whnf); refine Fin.mk ?_) | ((conv => whnf); intro _))
  all_goals ((try refine VC.mk ?_); (try simp only [CL.ncell, CL.cnt, Int.toNat_natCast, decide_eq_true_eq, decide_eq_false_iff_not, Bool.not_eq_true, Bool.not_false, Bool.not_true, and_self, and_true, true_and, te3b, te4b, te3s, te4s, Nat.mul_one, Nat.zero_add, List.length_cons, List.length_nil, Bool.false_eq_true, Bool.true_eq_false] at *); (try omega))
  all_goals (refine Sup.of ?_; simp_all [resOf, kindErr])
/-! the first line with another sum -/
theorem badLine_none {n : Nat} {g : Int} {l : List Int} (h : ∀ j, j < lineCnt n g → lineOk n l j = true) : badLine n g l = none := by
  unfold badLine
  rw [List.find?_eq_none]
  intro i hi
  simp [h i (List.mem_range.1 hi)]
theorem badLine_some {n : Nat} {g : Int} {l : List Int} {i : Nat} (hi : i < lineCnt n g) (h : ∀ j, j < i → lineOk n l j = true) (hb : lineOk n l i = false) : badLine n g l = some i := by
  unfold badLine
  rw [List.find?_range_eq_some]
  exact ⟨by simp [hb], by simpa using hi, fun j hj => by simp [h j hj]⟩
def failsV (n : Nat) (g : Int) (l : List Int) : PV := match badLine n g l with
  | some i => .tup [.isl (.ints .i64 (lineAt n i)) .none, .bp true]
  | none => .tup [.isl (.ints .i64 []) .none, .bp false]
theorem lineCnt_le (n : Nat) (g : Int) : lineCnt n g ≤ 4 * n + 2 := by unfold lineCnt; split <;> (try split) <;> (try split) <;> omega
noncomputable def cpFa : CPT := cpAdd 105 (pureCC LinesP) (cpAdd 71 (pureCC rSumP) (cpAdd 72 (pureCC ConstantP) noC))
theorem cpFa_ok : CPOK Try.prog cpFa := cpAdd_ok (pureCC_ok Lines_ok) (cpAdd_ok (pureCC_ok rSum_ok) (cpAdd_ok (pureCC_ok Constant_ok) noC_ok))
theorem Fails_spec (n : Nat) (c : Int) (l : List Int) (s : ByteArray) (hn : 1 ≤ n ∧ n ≤ 16) (hl : l.length = n * n) (hv : ∀ x ∈ l, 0 ≤ x ∧ x ≤ 1000) : PSpec Try.prog 54 [gridV n c l, .str s] (failsV n (gOf s) l) := by
  have hg : ∀ c : Int, 0 ≤ c → c < (n : Int) * n → 0 ≤ l.getD c.toNat 0 ∧ l.getD c.toNat 0 ≤ 1000 := fun c h1 h2 => by
    rw [List.getD_eq_getElem?_getD]
    cases h : l[c.toNat]? with
    | none => simp
    | some v => simpa using hv v (List.mem_of_getElem? h)
  have hll : (l.length : Int) = (n : Int) * n := by rw [hl]; push_cast; rfl
  refine pspec_of (md := 0) (rf := []) mixed tabOK cpFa_ok Try.func54 (by rfl) (by rfl) (by rfl) ?_
  repeat' (first | ((conv => whnf); refine And.intro ?_ ?_) | ((conv => whnf); with_reducible exact VC.mk rfl) | ((conv => whnf); exact Ok.mk) | ((conv => whnf); exact True.intro) | ((conv => whnf); refine Nx.mk ?_) | ((conv => whnf); refine Fin.mk ?_) | ((conv => whnf); intro _))
  all_goals ((try refine VC.mk ?_); (try simp only [CL.ncell, CL.cnt, Int.toNat_natCast, decide_eq_true_eq, decide_eq_false_iff_not, Bool.not_eq_true, Bool.not_false, Bool.not_true, and_self, and_true, true_and, te3b, te4b, te3s, te4s, Nat.mul_one, Nat.zero_add, List.length_cons, List.length_nil, Bool.false_eq_true, Bool.true_eq_false] at *); (try omega))
  generalize hcnt : lineCnt n (gOf s) = cnt at *
  conv => whnf
  refine loop_of (X := Nat) (fun i => i ≤ cnt ∧ ∀ j, j < i → lineOk n l j = true) (fun i => [(7, .int .i64 i)]) (fun i => []) (fun i => cnt - i) 0 ⟨anyB_ok, mixed, tabOK, cpFa_ok, noY_ok⟩ (by rfl) ⟨by omega, fun j hj => by omega⟩ ?_ ?_
  · repeat' (first | ((conv => whnf); refine And.intro ?_ ?_) | ((conv => whnf); with_reducible exact VC.mk rfl) | ((conv => whnf); exact Ok.mk) | ((conv => whnf); exact True.intro) | ((conv => whnf); refine Nx.mk ?_) | ((conv => whnf); refine Fin.mk ?_) | ((conv => whnf); intro _))
    all_goals ((try refine VC.mk ?_); (try simp only [CL.ncell, CL.cnt, Int.toNat_natCast, decide_eq_true_eq, decide_eq_false_iff_not, Bool.not_eq_true, Bool.not_false, Bool.not_true, and_self, and_true, true_and, te3b, te4b, te3s, te4s, Nat.mul_one, Nat.zero_add, List.length_cons, List.length_nil, Bool.false_eq_true, Bool.true_eq_false] at *); (try omega))
  rintro i ⟨hi, hok⟩
  have e1 := linesTo_len n cnt
  by_cases hlt : i < cnt
  · have e2 := linesTo_get n cnt i hlt
    have hm := fun c hc => lineAt_mem (n := n) (i := i) c hc
    have e3 := lineAt_len n i
    have hb := sumAt_bd l (lineAt n i) (fun c hc => hg c (hm c hc).1 (hm c hc).2)
    have hc4 := lineCnt_le n (gOf s)
    repeat' (first | ((conv => whnf); refine And.intro ?_ ?_) | ((conv => whnf); with_reducible exact VC.mk rfl) | ((conv => whnf); exact Ok.mk) | ((conv => whnf); exact True.intro) | ((conv => whnf); refine Nx.mk ?_) | ((conv => whnf); refine Fin.mk ?_) | ((conv => whnf); intro _))
    all_goals ((try refine VC.mk ?_); (try simp only [CL.ncell, CL.cnt, Int.toNat_natCast, decide_eq_true_eq, decide_eq_false_iff_not, Bool.not_eq_true, Bool.not_false, Bool.not_true, and_self, and_true, true_and, te3b, te4b, te3s, te4s, Nat.mul_one, Nat.zero_add, List.length_cons, List.length_nil, Bool.false_eq_true, Bool.true_eq_false] at *); (try omega))
    all_goals (try simp only [e2] at *)
    · refine ⟨fun x hx => by have := hm x hx; omega, by omega, fun j hj => ?_⟩
      have := hb j hj
      rw [e3] at hj
      omega
    · rename_i hbad
      have : failsV n (gOf s) l = .tup [.isl (.ints .i64 (lineAt n i)) .none, .bp true] := by
        unfold failsV
        rw [badLine_some (i := i) (by omega) hok (by unfold lineOk lineSum; rw [e3] at hbad; simpa using hbad)]
      rw [this]
      all_goals (refine Sup.via ?_; repeat' (first | ((conv => whnf); refine And.intro ?_ ?_) | ((conv => whnf); with_reducible exact VC.mk rfl) | ((conv => whnf); exact Ok.mk) | ((conv => whnf); exact True.intro) | ((conv => whnf); refine Nx.mk ?_) | ((conv => whnf); refine Fin.mk ?_) | ((conv => whnf); intro _)); all_goals ((try refine VC.mk ?_); (try simp only [CL.ncell, CL.cnt, Int.toNat_natCast, decide_eq_true_eq, decide_eq_false_iff_not, Bool.not_eq_true, Bool.not_false, Bool.not_true, and_self, and_true, true_and, te3b, te4b, te3s, te4s, Nat.mul_one, Nat.zero_add, List.length_cons, List.length_nil, Bool.false_eq_true, Bool.true_eq_false] at *); (try omega)); all_goals (try (simp [CL.sub]; done)))
    · rename_i hgood
      refine ⟨i + 1, [], ⟨⟨by omega, fun j hj => ?_⟩, by omega⟩, ?_⟩
      · by_cases e : j = i
        · subst e; unfold lineOk lineSum; rw [e3] at hgood; simpa using hgood
        · exact hok j (by omega)
      · repeat' (first | ((conv => whnf); refine And.intro ?_ ?_) | ((conv => whnf); with_reducible exact VC.mk rfl) | ((conv => whnf); exact Ok.mk) | ((conv => whnf); exact True.intro) | ((conv => whnf); refine Nx.mk ?_) | ((conv => whnf); refine Fin.mk ?_) | ((conv => whnf); intro _))
        all_goals ((try refine VC.mk ?_); (try simp only [CL.ncell, CL.cnt, Int.toNat_natCast, decide_eq_true_eq, decide_eq_false_iff_not, Bool.not_eq_true, Bool.not_false, Bool.not_true, and_self, and_true, true_and, te3b, te4b, te3s, te4s, Nat.mul_one, Nat.zero_add, List.length_cons, List.length_nil, Bool.false_eq_true, Bool.true_eq_false] at *); (try omega))
  · have : cnt = i := by omega
    subst this
    have : failsV n (gOf s) l = .tup [.isl (.ints .i64 []) .none, .bp false] := by unfold failsV; rw [badLine_none (by rw [hcnt]; exact hok)]
    rw [this]
    repeat' (first | ((conv => whnf); refine And.intro ?_ ?_) | ((conv => whnf); with_reducible exact VC.mk rfl) | ((conv => whnf); exact Ok.mk) | ((conv => whnf); exact True.intro) | ((conv => whnf); refine Nx.mk ?_) | ((conv => whnf); refine Fin.mk ?_) | ((conv => whnf); intro _))
    all_goals ((try refine VC.mk ?_); (try simp only [CL.ncell, CL.cnt, Int.toNat_natCast, decide_eq_true_eq, decide_eq_false_iff_not, Bool.not_eq_true, Bool.not_false, Bool.not_true, and_self, and_true, true_and, te3b, te4b, te3s, te4s, Nat.mul_one, Nat.zero_add, List.length_cons, List.length_nil, Bool.false_eq_true, Bool.true_eq_false] at *); (try omega))
    all_goals (first | (refine Sup.of ?_; first | rfl | (simp [*, resOf]; done)) | (refine Sup.via ?_; repeat' (first | ((conv => whnf); refine And.intro ?_ ?_) | ((conv => whnf); with_reducible exact VC.mk rfl) | ((conv => whnf); exact Ok.mk) | ((conv => whnf); exact True.intro) | ((conv => whnf); refine Nx.mk ?_) | ((conv => whnf); refine Fin.mk ?_) | ((conv => whnf); intro _)); all_goals ((try refine VC.mk ?_); (try simp only [CL.ncell, CL.cnt, Int.toNat_natCast, decide_eq_true_eq, decide_eq_false_iff_not, Bool.not_eq_true, Bool.not_false, Bool.not_true, and_self, and_true, true_and, te3b, te4b, te3s, te4s, Nat.mul_one, Nat.zero_add, List.length_cons, List.length_nil, Bool.false_eq_true, Bool.true_eq_false] at *); (try omega)); all_goals (try (simp [CL.sub]; done))))
/-! refusals -/
def failsL (n : Nat) (g : Int) (l : List Int) : List Int := match badLine n g l with | some i => lineAt n i | none => []
theorem failsV_eq (n : Nat) (g : Int) (l : List Int) : failsV n g l = .tup [.isl (.ints .i64 (failsL n g l)) .none, .bp (badLine n g l).isSome] := by
  unfold failsV failsL; cases badLine n g l <;> rfl
def refuseR (n : Nat) (c : Nat → Nat) (g : Int) : PV := match meetOf c (n * n) with
  | some y => .tup [refV kMeet ((gAt c (n * n) y).getD (c y) 0) ((y : Int) + 1) [] 0, .bp true]
  | none => match badLine n g (gAt c (n * n) (n * n)) with
    | some i => .tup [refV kSum 0 0 (lineAt n i) (lineSum n (gAt c (n * n) (n * n)) i), .bp true]
    | none => .tup [refV kNo 0 0 [] 0, .bp false]
theorem rRefuse_spec (n : Nat) (s0 s1 x0 x1 b0 b1 : Int) (s : ByteArray) (hn : 1 ≤ n ∧ n ≤ 16) (h : ∀ x ∈ [s0, s1, x0, x1, b0, b1], -999999999 ≤ x ∧ x ≤ 999999999) :
    PSpec Try.prog 22 [stepV n s0 s1 x0 x1 b0 b1, .str s] (refuseR n (cellS n s0 s1 x0 x1 b0 b1) (gOf s)) := by
  have hM := rMeet_spec n s0 s1 x0 x1 b0 b1 (by omega) h
  have hU := rUniform_spec n s0 s1 x0 x1 b0 b1 (by omega) h
  have eN : ((n : Int) * n).toNat = n * n := by rw [← Int.natCast_mul, Int.toNat_natCast]
  rw [eN] at hM hU
  generalize cellS n s0 s1 x0 x1 b0 b1 = c at *
  have hb := mul_bd (show 0 ≤ (n : Int) ∧ (n : Int) ≤ 16 by omega) (show 0 ≤ (n : Int) ∧ (n : Int) ≤ 16 by omega)
  have hnn : ((n * n : Nat) : Int) = (n : Int) * n := by push_cast; rfl
  have hgl := gAt_len c (n * n) (n * n)
  have hgv : ∀ x ∈ gAt c (n * n) (n * n), 0 ≤ x ∧ x ≤ 1000 := fun x hx => by
    have h1 := gAt_nonneg c _ _ x hx
    have h2 := gAt_le c _ _ x hx
    omega
  have hF := Fails_spec n n (gAt c (n * n) (n * n)) s hn hgl hgv
  unfold refuseR
  unfold meetV at hM
  generalize gAt c (n * n) (n * n) = l at *
  cases hm : meetOf c (n * n) with
  | some y =>
    rw [hm] at hM
    have hC := cpAdd_ok (pureCC_ok (atC_ok (C := True) fun _ => hM)) noC_ok
    refine pspec_of (md := 1) (rf := []) mixed tabOK hC Try.func22 (by rfl) (by rfl) (by rfl) ?_
    repeat' (first | ((conv => whnf); refine And.intro ?_ ?_) | ((conv => whnf); with_reducible exact VC.mk rfl) | ((conv => whnf); exact Ok.mk) | ((conv => whnf); exact True.intro) | ((conv => whnf); refine Nx.mk ?_) | ((conv => whnf); refine Fin.mk ?_) | ((conv => whnf); intro _))
    all_goals ((try refine VC.mk ?_); (try simp only [CL.ncell, CL.cnt, Int.toNat_natCast, decide_eq_true_eq, decide_eq_false_iff_not, Bool.not_eq_true, Bool.not_false, Bool.not_true, and_self, and_true, true_and, te3b, te4b, te3s, te4s, Nat.mul_one, Nat.zero_add, List.length_cons, List.length_nil, Bool.false_eq_true, Bool.true_eq_false] at *); (try omega))
    all_goals (refine Sup.via ?_; repeat' (first | ((conv => whnf); refine And.intro ?_ ?_) | ((conv => whnf); with_reducible exact VC.mk rfl) | ((conv => whnf); exact Ok.mk) | ((conv => whnf); exact True.intro) | ((conv => whnf); refine Nx.mk ?_) | ((conv => whnf); refine Fin.mk ?_) | ((conv => whnf); intro _)); all_goals ((try refine VC.mk ?_); (try simp only [CL.ncell, CL.cnt, Int.toNat_natCast, decide_eq_true_eq, decide_eq_false_iff_not, Bool.not_eq_true, Bool.not_false, Bool.not_true, and_self, and_true, true_and, te3b, te4b, te3s, te4s, Nat.mul_one, Nat.zero_add, List.length_cons, List.length_nil, Bool.false_eq_true, Bool.true_eq_false] at *); (try omega)); all_goals (try (simp [CL.sub]; done)))
  | none =>
    rw [hm] at hM
    rw [failsV_eq] at hF
    cases hb : badLine n (gOf s) l with
    | none =>
      rw [hb] at hF
      have hC := cpAdd_ok (pureCC_ok (atC_ok (C := True) fun _ => hM)) (cpAdd_ok (pureCC_ok (atC_ok (C := True) fun _ => hU)) (cpAdd_ok (pureCC_ok (atC_ok (C := True) fun _ => hF)) noC_ok))
      refine pspec_of (md := 1) (rf := []) mixed tabOK hC Try.func22 (by rfl) (by rfl) (by rfl) ?_
      repeat' (first | ((conv => whnf); refine And.intro ?_ ?_) | ((conv => whnf); with_reducible exact VC.mk rfl) | ((conv => whnf); exact Ok.mk) | ((conv => whnf); exact True.intro) | ((conv => whnf); refine Nx.mk ?_) | ((conv => whnf); refine Fin.mk ?_) | ((conv => whnf); intro _))
      all_goals ((try refine VC.mk ?_); (try simp only [CL.ncell, CL.cnt, Int.toNat_natCast, decide_eq_true_eq, decide_eq_false_iff_not, Bool.not_eq_true, Bool.not_false, Bool.not_true, and_self, and_true, true_and, te3b, te4b, te3s, te4s, Nat.mul_one, Nat.zero_add, List.length_cons, List.length_nil, Bool.false_eq_true, Bool.true_eq_false] at *); (try omega))
      all_goals (try (exfalso; simp_all; done))
      all_goals (refine Sup.via ?_; repeat' (first | ((conv => whnf); refine And.intro ?_ ?_) | ((conv => whnf); with_reducible exact VC.mk rfl) | ((conv => whnf); exact Ok.mk) | ((conv => whnf); exact True.intro) | ((conv => whnf); refine Nx.mk ?_) | ((conv => whnf); refine Fin.mk ?_) | ((conv => whnf); intro _)); all_goals ((try refine VC.mk ?_); (try simp only [CL.ncell, CL.cnt, Int.toNat_natCast, decide_eq_true_eq, decide_eq_false_iff_not, Bool.not_eq_true, Bool.not_false, Bool.not_true, and_self, and_true, true_and, te3b, te4b, te3s, te4s, Nat.mul_one, Nat.zero_add, List.length_cons, List.length_nil, Bool.false_eq_true, Bool.true_eq_false] at *); (try omega)); all_goals (try (simp [CL.sub]; done)))
    | some i =>
      rw [hb] at hF
      have hi : i < lineCnt n (gOf s) := by
        unfold badLine at hb
        have := List.mem_of_find?_eq_some hb
        simpa using this
      have hL : failsL n (gOf s) l = lineAt n i := by unfold failsL; rw [hb]
      rw [hL] at hF
      have hm := fun c hc => lineAt_mem (n := n) (i := i) c hc
      have e3 := lineAt_len n i
      have hg : ∀ c : Int, 0 ≤ c → c < (n : Int) * n → 0 ≤ l.getD c.toNat 0 ∧ l.getD c.toNat 0 ≤ 1000 := fun c h1 h2 => by
        rw [List.getD_eq_getElem?_getD]
        cases h : l[c.toNat]? with
        | none => simp
        | some v => simpa using hgv v (List.mem_of_getElem? h)
      have hbd := sumAt_bd l (lineAt n i) (fun c hc => hg c (hm c hc).1 (hm c hc).2)
      have hS := rSum_spec n n l (lineAt n i) (fun x hx => by have := hm x hx; omega) (by omega) (fun j hj => by have := hbd j hj; omega)
      have hC := cpAdd_ok (pureCC_ok (atC_ok (C := True) fun _ => hM)) (cpAdd_ok (pureCC_ok (atC_ok (C := True) fun _ => hU)) (cpAdd_ok (pureCC_ok (atC_ok (C := True) fun _ => hF)) (cpAdd_ok (pureCC_ok (atC_ok (C := True) fun _ => hS)) noC_ok)))
      refine pspec_of (md := 1) (rf := []) mixed tabOK hC Try.func22 (by rfl) (by rfl) (by rfl) ?_
      repeat' (first | ((conv => whnf); refine And.intro ?_ ?_) | ((conv => whnf); with_reducible exact VC.mk rfl) | ((conv => whnf); exact Ok.mk) | ((conv => whnf); exact True.intro) | ((conv => whnf); refine Nx.mk ?_) | ((conv => whnf); refine Fin.mk ?_) | ((conv => whnf); intro _))
      all_goals ((try refine VC.mk ?_); (try simp only [CL.ncell, CL.cnt, Int.toNat_natCast, decide_eq_true_eq, decide_eq_false_iff_not, Bool.not_eq_true, Bool.not_false, Bool.not_true, and_self, and_true, true_and, te3b, te4b, te3s, te4s, Nat.mul_one, Nat.zero_add, List.length_cons, List.length_nil, Bool.false_eq_true, Bool.true_eq_false] at *); (try omega))
      all_goals (try (exfalso; simp_all; done))
      rw [e3]
      unfold lineSum
      all_goals (refine Sup.via ?_; repeat' (first | ((conv => whnf); refine And.intro ?_ ?_) | ((conv => whnf); with_reducible exact VC.mk rfl) | ((conv => whnf); exact Ok.mk) | ((conv => whnf); exact True.intro) | ((conv => whnf); refine Nx.mk ?_) | ((conv => whnf); refine Fin.mk ?_) | ((conv => whnf); intro _)); all_goals ((try refine VC.mk ?_); (try simp only [CL.ncell, CL.cnt, Int.toNat_natCast, decide_eq_true_eq, decide_eq_false_iff_not, Bool.not_eq_true, Bool.not_false, Bool.not_true, and_self, and_true, true_and, te3b, te4b, te3s, te4s, Nat.mul_one, Nat.zero_add, List.length_cons, List.length_nil, Bool.false_eq_true, Bool.true_eq_false] at *); (try omega)); all_goals (try (simp [CL.sub]; done)))
end Go.Eng.Ytppflbccfdbogaa
namespace Go.Eng.Ytppflbccfdbogaa
open Go.Proofs
set_option maxRecDepth 100000
set_option maxHeartbeats 0
set_option linter.unusedVariables false
set_option linter.unusedSimpArgs false
def sumF (f : Nat → Int) : Nat → Int
  | 0 => 0
  | n + 1 => sumF f n + f n
theorem sumF_congr {f g : Nat → Int} : ∀ {n : Nat}, (∀ i, i < n → f i = g i) → sumF f n = sumF g n := by
  intro n
  induction n with
  | zero => intro _; rfl
  | succ n ih => intro h; simp only [sumF]; rw [ih fun i hi => h i (by omega), h n (by omega)]
theorem sumF_add (f g : Nat → Int) : ∀ n : Nat, sumF (fun i => f i + g i) n = sumF f n + sumF g n := by
  intro n
  induction n with
  | zero => rfl
  | succ n ih => simp only [sumF, ih]; omega
theorem sumF_mul (c : Int) (f : Nat → Int) : ∀ n : Nat, sumF (fun i => c * f i) n = c * sumF f n := by
  intro n
  induction n with
  | zero => simp [sumF]
  | succ n ih => simp only [sumF, ih, Int.mul_add]
theorem sumF_const (c : Int) : ∀ n : Nat, sumF (fun _ => c) n = n * c := by
  intro n
  induction n with
  | zero => simp [sumF]
  | succ n ih => simp only [sumF, ih]; push_cast; rw [Int.add_mul]; omega
theorem sumF_app (f : Nat → Int) (m : Nat) : ∀ n : Nat, sumF f (m + n) = sumF f m + sumF (fun i => f (m + i)) n := by
  intro n
  induction n with
  | zero => simp [sumF]
  | succ n ih => rw [← Nat.add_assoc]; simp only [sumF, ih]; omega
theorem sumF_block (f : Nat → Int) (n : Nat) : ∀ m : Nat, sumF f (m * n) = sumF (fun i => sumF (fun j => f (i * n + j)) n) m := by
  intro m
  induction m with
  | zero => simp [sumF]
  | succ m ih => rw [Nat.add_mul, Nat.one_mul, sumF_app, ih]; rfl
theorem sumF_swap (f : Nat → Nat → Int) (n : Nat) : ∀ m : Nat, sumF (fun i => sumF (f i) n) m = sumF (fun j => sumF (fun i => f i j) m) n := by
  intro m
  induction m with
  | zero => simp only [sumF]; rw [sumF_const]; simp
  | succ m ih => simp only [sumF]; rw [ih, ← sumF_add]
theorem sumF_at (g : Nat → Int) (a : Nat) : ∀ n : Nat, sumF (fun i => if i = a then g i else 0) n = if a < n then g a else 0 := by
  intro n
  induction n with
  | zero => simp [sumF]
  | succ n ih =>
    simp only [sumF, ih]
    by_cases h : n = a
    · subst h; simp
    · rw [if_neg h]
      by_cases h2 : a < n
      · rw [if_pos h2, if_pos (by omega)]; omega
      · rw [if_neg h2, if_neg (by omega)]; rfl
/-- a sum in another order -/
theorem sumF_perm {c : Nat → Nat} {N : Nat} (hb : ∀ i, i < N → c i < N) (h : ∀ i j, i < j → j < N → c i ≠ c j) (f : Nat → Int) : sumF (fun i => f (c i)) N = sumF f N := by
  have e1 : sumF (fun i => f (c i)) N = sumF (fun i => sumF (fun y => if y = c i then f y else 0) N) N :=
    sumF_congr fun i hi => by rw [sumF_at, if_pos (hb i hi)]
  rw [e1, sumF_swap]
  refine sumF_congr fun y hy => ?_
  obtain ⟨i0, h0, h1⟩ := inj_surj hb h y hy
  have e2 : sumF (fun i => if y = c i then f y else 0) N = sumF (fun i => if i = i0 then f y else 0) N := sumF_congr fun i hi => by
    by_cases e : i = i0
    · subst e; rw [if_pos h1.symm, if_pos rfl]
    · rw [if_neg e, if_neg]
      intro hc
      rcases Nat.lt_or_gt_of_ne e with hlt | hgt
      · exact h i i0 hlt h0 (by omega)
      · exact h i0 i hgt hi (by omega)
  rw [e2, sumF_at (fun _ => f y), if_pos h0]
theorem sumF_nonneg {f : Nat → Int} : ∀ {n : Nat}, (∀ i, i < n → 0 ≤ f i) → 0 ≤ sumF f n := by
  intro n
  induction n with
  | zero => intro _; simp [sumF]
  | succ n ih => intro h; have := ih fun i hi => h i (by omega); have := h n (by omega); simp only [sumF]; omega
/-! the sum of some cells -/
theorem sumAt_map (L : List Int) (c : Nat → Int) (m : Nat) : ∀ t, t ≤ m → sumAt L ((List.range m).map c) t = sumF (fun i => L.getD (c i).toNat 0) t := by
  intro t
  induction t with
  | zero => intro _; simp [sumAt, sumF]
  | succ t ih =>
    intro h
    rw [sumAt_succ _ _ _ (by simp; omega), ih (by omega), sumF]
    congr 2
    have : ((List.range m).map c).getD t 0 = c t := by
      rw [List.getD_eq_getElem?_getD, List.getElem?_map, List.getElem?_range (by omega)]; rfl
    rw [this]
theorem sumAt_colL (L : List Int) (n : Nat) (h : Nat → Int) : sumAt L (colL n h n) n = sumF (fun i => L.getD (n * i + (h i % n).toNat) 0) n := by
  unfold colL
  rw [sumAt_map _ _ _ _ (Nat.le_refl _)]
  refine sumF_congr fun i hi => ?_
  have h1 : 0 ≤ h i % n := Int.emod_nonneg _ (by omega)
  congr 1
  have : (n : Int) * i + h i % n = ((n * i + (h i % n).toNat : Nat) : Int) := by push_cast; rw [Int.toNat_of_nonneg h1]
  rw [this, Int.toNat_natCast]
theorem ls_row (n : Nat) (L : List Int) (i : Nat) (hi : i < n) : lineSum n L i = sumF (fun j => L.getD (n * i + j) 0) n := by
  unfold lineSum
  rw [lineAt_row hi]
  unfold rowL
  rw [sumAt_map _ _ _ _ (Nat.le_refl _)]
  refine sumF_congr fun j hj => ?_
  rfl
theorem ls_col (n : Nat) (L : List Int) (j : Nat) (hj : j < n) : lineSum n L (n + j) = sumF (fun i => L.getD (n * i + j) 0) n := by
  unfold lineSum
  rw [lineAt_col hj, sumAt_colL]
  refine sumF_congr fun i hi => ?_
  rw [Int.emod_eq_of_lt (by omega) (by omega), Int.toNat_natCast]
def upI (n k : Nat) : Nat := if k = 0 then 2 * n else 2 * n + 1 + k
def dnI (n k : Nat) : Nat := if k + 1 = n then 2 * n + 1 else 3 * n + 1 + k
theorem toNat_emod_cast (n : Nat) (hn : 1 ≤ n) (x : Int) (y : Nat) (k : Int) (h : x - y = n * k) : (x % n).toNat = y % n := by
  rw [emod_of_sub h, ← Int.natCast_emod, Int.toNat_natCast]
theorem ls_up (n : Nat) (L : List Int) (k : Nat) (hk : k < n) : lineSum n L (upI n k) = sumF (fun i => L.getD (n * i + (i + k) % n) 0) n := by
  unfold lineSum upI
  by_cases h : k = 0
  · subst h
    rw [if_pos rfl, lineAt_d1, sumAt_colL]
    refine sumF_congr fun i hi => ?_
    rw [toNat_emod_cast n (by omega) _ (i + 0) 0 (by simp)]
  · obtain ⟨q, rfl⟩ : ∃ q, k = q + 1 := ⟨k - 1, by omega⟩
    rw [if_neg h, show 2 * n + 1 + (q + 1) = 2 * n + 2 + q by omega, lineAt_b1 (by omega), sumAt_colL]
    refine sumF_congr fun i hi => ?_
    rw [toNat_emod_cast n (by omega) _ (i + (q + 1)) 0 (by simp)]
theorem ls_dn (n : Nat) (L : List Int) (k : Nat) (hk : k < n) : lineSum n L (dnI n k) = sumF (fun i => L.getD (n * i + (k + n - i) % n) 0) n := by
  unfold lineSum dnI
  by_cases h : k + 1 = n
  · rw [if_pos h, lineAt_d2, sumAt_colL]
    refine sumF_congr fun i hi => ?_
    rw [toNat_emod_cast n (by omega) _ (k + n - i) (-1) (by omega)]
  · rw [if_neg h, lineAt_b2 (by omega), sumAt_colL]
    refine sumF_congr fun i hi => ?_
    rw [toNat_emod_cast n (by omega) _ (k + n - i) (-1) (by omega)]
/-- the lines of the first groups have the sum -/
structure GoodK (n : Nat) (g : Int) (f : Nat → Nat → Int) (c : Int) : Prop where
  row : 1 ≤ g → ∀ i, i < n → sumF (fun j => f i j) n = c
  col : 1 ≤ g → ∀ j, j < n → sumF (fun i => f i j) n = c
  d1 : 2 ≤ g → sumF (fun i => f i i) n = c
  d2 : 2 ≤ g → sumF (fun i => f i (n - 1 - i)) n = c
  up : 3 ≤ g → ∀ k, k < n → sumF (fun i => f i ((i + k) % n)) n = c
  dn : 3 ≤ g → ∀ k, k < n → sumF (fun i => f i ((k + n - i) % n)) n = c
theorem dn_last (n : Nat) (f : Nat → Nat → Int) : sumF (fun i => f i ((n - 1 + n - i) % n)) n = sumF (fun i => f i (n - 1 - i)) n := by
  refine sumF_congr fun i hi => ?_
  congr 1
  rw [show n - 1 + n - i = (n - 1 - i) + n by omega, Nat.add_mod_right, Nat.mod_eq_of_lt (by omega)]
theorem up_first (n : Nat) (f : Nat → Nat → Int) : sumF (fun i => f i ((i + 0) % n)) n = sumF (fun i => f i i) n := by
  refine sumF_congr fun i hi => ?_
  rw [Nat.add_zero, Nat.mod_eq_of_lt hi]
def sqAt (n : Nat) (L : List Int) (i j : Nat) : Int := L.getD (n * i + j) 0
theorem badLine_iff {n : Nat} (hn : 1 ≤ n) (g : Int) (L : List Int) : badLine n g L = none ↔ ∀ i, i < lineCnt n g → lineSum n L i = constOf n := by
  unfold badLine
  rw [List.find?_eq_none]
  simp only [List.mem_range, Bool.not_eq_true', Bool.not_eq_false, lineOk, decide_eq_true_eq]
theorem line_cases {n i : Nat} (hi : i < 4 * n) : (i < n) ∨ (∃ j, j < n ∧ i = n + j) ∨ (∃ k, k < n ∧ i = upI n k) ∨ (∃ k, k < n ∧ i = dnI n k) := by
  by_cases h1 : i < n
  · exact .inl h1
  by_cases h2 : i < 2 * n
  · exact .inr (.inl ⟨i - n, by omega, by omega⟩)
  by_cases h3 : i = 2 * n
  · exact .inr (.inr (.inl ⟨0, by omega, by unfold upI; rw [if_pos rfl]; exact h3⟩))
  by_cases h4 : i = 2 * n + 1
  · exact .inr (.inr (.inr ⟨n - 1, by omega, by unfold dnI; rw [if_pos (by omega)]; exact h4⟩))
  by_cases h5 : i < 3 * n + 1
  · exact .inr (.inr (.inl ⟨i - (2 * n + 1), by omega, by unfold upI; rw [if_neg (by omega)]; omega⟩))
  · exact .inr (.inr (.inr ⟨i - (3 * n + 1), by omega, by unfold dnI; rw [if_neg (by omega)]; omega⟩))
theorem good_iff {n : Nat} (hn : 2 ≤ n ∨ n = 1) (g : Int) (L : List Int) : badLine n g L = none ↔ GoodK n g (sqAt n L) (constOf n) := by
  rw [badLine_iff (by omega)]
  have c1 : g < 1 → lineCnt n g = 0 := fun h => by unfold lineCnt; rw [if_pos h]
  have c2 : 1 ≤ g → 2 * n ≤ lineCnt n g := fun h => by unfold lineCnt; rw [if_neg (by omega)]; (repeat' split) <;> omega
  have c3 : 2 ≤ g → 2 * n + 2 ≤ lineCnt n g := fun h => by unfold lineCnt; rw [if_neg (by omega), if_neg (by omega)]; (repeat' split) <;> omega
  have c4 : 3 ≤ g → lineCnt n g = 4 * n := fun h => by unfold lineCnt; rw [if_neg (by omega), if_neg (by omega), if_neg (by omega)]
  have c5 : g < 2 → lineCnt n g ≤ 2 * n := fun h => by unfold lineCnt; (repeat' split) <;> omega
  have c6 : g < 3 → lineCnt n g ≤ 2 * n + 2 := fun h => by unfold lineCnt; (repeat' split) <;> omega
  constructor
  · intro h
    have hup : 3 ≤ g → ∀ k, k < n → sumF (fun i => sqAt n L i ((i + k) % n)) n = constOf n := fun hg k hk => by
      have := h (upI n k) (by rw [c4 hg]; unfold upI; split <;> omega)
      rwa [ls_up n L k hk] at this
    have hdn : 3 ≤ g → ∀ k, k < n → sumF (fun i => sqAt n L i ((k + n - i) % n)) n = constOf n := fun hg k hk => by
      have := h (dnI n k) (by rw [c4 hg]; unfold dnI; split <;> omega)
      rwa [ls_dn n L k hk] at this
    refine ⟨fun hg i hi => ?_, fun hg j hj => ?_, fun hg => ?_, fun hg => ?_, hup, hdn⟩
    · have := h i (by have := c2 hg; omega)
      rwa [ls_row n L i hi] at this
    · have := h (n + j) (by have := c2 hg; omega)
      rwa [ls_col n L j hj] at this
    · have := h (upI n 0) (by have := c3 hg; unfold upI; rw [if_pos rfl]; omega)
      rw [ls_up n L 0 (by omega)] at this
      rw [← up_first n (sqAt n L)]; exact this
    · have := h (dnI n (n - 1)) (by have := c3 hg; unfold dnI; rw [if_pos (by omega)]; omega)
      rw [ls_dn n L (n - 1) (by omega)] at this
      rw [← dn_last n (sqAt n L)]; exact this
  · intro h i hi
    have hg : 1 ≤ g := Classical.byContradiction fun hh => by rw [c1 (by omega)] at hi; omega
    have h4 : i < 4 * n := by
      by_cases h3 : 3 ≤ g
      · rw [c4 h3] at hi; exact hi
      · have := c6 (by omega)
        rcases hn with h2 | h2
        · omega
        · subst h2
          by_cases h22 : 2 ≤ g
          · have := c3 h22; omega
          · have := c5 (by omega); omega
    rcases line_cases h4 with h1 | ⟨j, h1, rfl⟩ | ⟨k, h1, rfl⟩ | ⟨k, h1, rfl⟩
    · rw [ls_row n L i h1]; exact h.row hg i h1
    · rw [ls_col n L j h1]; exact h.col hg j h1
    · rw [ls_up n L k h1]
      by_cases hk : k = 0
      · subst hk
        have h2 : 2 ≤ g := Classical.byContradiction fun hh => by have := c5 (by omega); unfold upI at hi; rw [if_pos rfl] at hi; omega
        have := h.d1 h2
        rw [← up_first n (sqAt n L)] at this; exact this
      · have h3 : 3 ≤ g := Classical.byContradiction fun hh => by have := c6 (by omega); unfold upI at hi; rw [if_neg hk] at hi; omega
        exact h.up h3 k h1
    · rw [ls_dn n L k h1]
      by_cases hk : k + 1 = n
      · obtain rfl : k = n - 1 := by omega
        have h2 : 2 ≤ g := Classical.byContradiction fun hh => by have := c5 (by omega); unfold dnI at hi; rw [if_pos (by omega)] at hi; omega
        have := h.d2 h2
        rw [← dn_last n (sqAt n L)] at this; exact this
      · have h3 : 3 ≤ g := Classical.byContradiction fun hh => by have := c6 (by omega); unfold dnI at hi; rw [if_neg hk] at hi; omega
        exact h.dn h3 k h1
/-! lists with each number once -/
theorem GoodK.congr {n : Nat} {g : Int} {f f' : Nat → Nat → Int} {c : Int} (h : GoodK n g f c) (e : ∀ i j, i < n → j < n → f i j = f' i j) : GoodK n g f' c := by
  have key : ∀ p q : Nat → Nat, (∀ i, i < n → p i < n) → (∀ i, i < n → q i < n) → sumF (fun i => f (p i) (q i)) n = c → sumF (fun i => f' (p i) (q i)) n = c := fun p q hp hq h => by
    rw [← h]; exact sumF_congr fun i hi => (e _ _ (hp i hi) (hq i hi)).symm
  refine ⟨fun hg i hi => ?_, fun hg j hj => ?_, fun hg => ?_, fun hg => ?_, fun hg k hk => ?_, fun hg k hk => ?_⟩
  · exact key (fun _ => i) (fun j => j) (fun _ _ => hi) (fun j hj => hj) (h.row hg i hi)
  · exact key (fun i => i) (fun _ => j) (fun j hj => hj) (fun _ _ => hj) (h.col hg j hj)
  · exact key (fun i => i) (fun i => i) (fun j hj => hj) (fun j hj => hj) (h.d1 hg)
  · exact key (fun i => i) (fun i => n - 1 - i) (fun j hj => hj) (fun j hj => by (try simp only); omega) (h.d2 hg)
  · exact key (fun i => i) (fun i => (i + k) % n) (fun j hj => hj) (fun j hj => Nat.mod_lt _ (by omega)) (h.up hg k hk)
  · exact key (fun i => i) (fun i => (k + n - i) % n) (fun j hj => hj) (fun j hj => Nat.mod_lt _ (by omega)) (h.dn hg k hk)
end Go.Eng.Ytppflbccfdbogaa
namespace Go.Eng.Ytppflbccfdbogaa
open Go.Proofs
set_option maxRecDepth 100000
set_option maxHeartbeats 0
set_option linter.unusedVariables false
set_option linter.unusedSimpArgs false
def sumN (f : Nat → Nat) (n : Nat) : Nat := Nat.rec 0 (fun i s => s + f i) n
def allN (f : Nat → Bool) (n : Nat) : Bool := Nat.rec true (fun i s => match f i with | true => s | false => false) n
theorem allN_iff {f : Nat → Bool} : ∀ {n : Nat}, allN f n = true ↔ ∀ i, i < n → f i = true := by
  intro n
  induction n with
  | zero => exact ⟨fun _ i h => by omega, fun _ => rfl⟩
  | succ n ih =>
    have e : allN f (n + 1) = match f n with | true => allN f n | false => false := rfl
    rw [e]
    cases h : f n with
    | false => simp; exact ⟨n, by omega, h⟩
    | true =>
      simp only
      rw [ih]
      constructor
      · intro g i hi
        by_cases e : i = n
        · subst e; exact h
        · exact g i (by omega)
      · intro g i hi; exact g i (by omega)
theorem sumN_cast (f : Nat → Nat) : ∀ n : Nat, ((sumN f n : Nat) : Int) = sumF (fun i => (f i : Int)) n := by
  intro n
  induction n with
  | zero => rfl
  | succ n ih =>
    have e : sumN f (n + 1) = sumN f n + f n := rfl
    rw [e, sumF]; push_cast; rw [ih]
/-! what is reckoned for all orders -/
def cntN (n y r : Nat) : Nat := sumN (fun b => match Nat.beq ((b * y) % n) r with | true => 1 | false => 0) n
def cntOK (n y : Nat) : Bool := allN (fun r => Nat.beq (cntN n y r) (match Nat.beq (r % Nat.gcd y n) 0 with | true => Nat.gcd y n | false => 0)) n
theorem cnt_all8 : allN (fun n => allN (fun y => cntOK (n + 1) y) (n + 1)) 8 = true := by decide +kernel
theorem cnt_9 : allN (fun y => cntOK 9 y) 9 = true := by decide +kernel
theorem cnt_10 : allN (fun y => cntOK 10 y) 10 = true := by decide +kernel
theorem cnt_11 : allN (fun y => cntOK 11 y) 11 = true := by decide +kernel
theorem cnt_12 : allN (fun y => cntOK 12 y) 12 = true := by decide +kernel
theorem cnt_13 : allN (fun y => cntOK 13 y) 13 = true := by decide +kernel
theorem cnt_14 : allN (fun y => cntOK 14 y) 14 = true := by decide +kernel
theorem cnt_15 : allN (fun y => cntOK 15 y) 15 = true := by decide +kernel
theorem cnt_16 : allN (fun y => cntOK 16 y) 16 = true := by decide +kernel
def clsA (n d a0 : Nat) : Nat := sumN (fun a => match Nat.beq (a % d) a0 with | true => a + 1 | false => 0) n
def clsB (n d a0 : Nat) : Nat := sumN (fun a => match Nat.beq (a % d) a0 with | true => a | false => 0) n
def clsOK (n d : Nat) : Bool := match Nat.beq (n % d) 0 with
  | true => allN (fun a0 => Nat.beq (2 * (d * clsA n d a0)) (n * (2 * a0 + n + 2 - d)) && Nat.beq (2 * (d * clsB n d a0)) (n * (2 * a0 + n - d))) d
  | false => true
theorem cls_all : allN (fun n => allN (fun d => clsOK (n + 1) (d + 1)) (n + 1)) 16 = true := by decide +kernel
theorem cnt_ok {n y : Nat} (hn : 1 ≤ n ∧ n ≤ 16) (hy : y < n) : cntOK n y = true := by
  rcases Nat.lt_or_ge n 9 with h | h
  · obtain ⟨k, rfl⟩ : ∃ k, n = k + 1 := ⟨n - 1, by omega⟩
    exact allN_iff.1 (allN_iff.1 cnt_all8 k (by omega)) y hy
  · have : n = 9 ∨ n = 10 ∨ n = 11 ∨ n = 12 ∨ n = 13 ∨ n = 14 ∨ n = 15 ∨ n = 16 := by omega
    rcases this with rfl | rfl | rfl | rfl | rfl | rfl | rfl | rfl
    · exact allN_iff.1 cnt_9 y hy
    · exact allN_iff.1 cnt_10 y hy
    · exact allN_iff.1 cnt_11 y hy
    · exact allN_iff.1 cnt_12 y hy
    · exact allN_iff.1 cnt_13 y hy
    · exact allN_iff.1 cnt_14 y hy
    · exact allN_iff.1 cnt_15 y hy
    · exact allN_iff.1 cnt_16 y hy
theorem beq_iff {a b : Nat} : Nat.beq a b = true ↔ a = b := ⟨Nat.eq_of_beq_eq_true, fun h => by subst h; exact Nat.beq_refl _⟩
theorem match_beq {α : Type} (a b : Nat) (x y : α) : (match Nat.beq a b with | true => x | false => y) = if a = b then x else y := by
  by_cases h : a = b
  · rw [if_pos h, beq_iff.2 h]
  · rw [if_neg h]
    cases e : Nat.beq a b with
    | true => exact absurd (beq_iff.1 e) h
    | false => rfl
theorem cnt_sum {n y : Nat} (hn : 1 ≤ n ∧ n ≤ 16) (hy : y < n) {r : Nat} (hr : r < n) : sumF (fun b => if (b * y) % n = r then 1 else 0) n = if r % Nat.gcd y n = 0 then (Nat.gcd y n : Int) else 0 := by
  have h := beq_iff.1 (allN_iff.1 (cnt_ok hn hy) r hr)
  rw [match_beq] at h
  unfold cntN at h
  have h2 := congrArg (fun (x : Nat) => (x : Int)) h
  simp only [sumN_cast] at h2
  have e : sumF (fun b => if (b * y) % n = r then (1 : Int) else 0) n = sumF (fun i => ((match Nat.beq (i * y % n) r with | true => 1 | false => 0 : Nat) : Int)) n := sumF_congr fun i _ => by rw [match_beq]; split <;> rfl
  rw [e, h2]; split <;> rfl
theorem cls_sum {n d a0 : Nat} (hn : 1 ≤ n ∧ n ≤ 16) (hd : 1 ≤ d) (hdn : d ∣ n) (ha : a0 < d) :
    2 * ((d : Int) * sumF (fun a => if a % d = a0 then (a : Int) + 1 else 0) n) = n * (2 * a0 + n + 2 - d) ∧ 2 * ((d : Int) * sumF (fun a => if a % d = a0 then (a : Int) else 0) n) = n * (2 * a0 + n - d) := by
  have hle := Nat.le_of_dvd (by omega) hdn
  obtain ⟨k, rfl⟩ : ∃ k, n = k + 1 := ⟨n - 1, by omega⟩
  obtain ⟨j, rfl⟩ : ∃ j, d = j + 1 := ⟨d - 1, by omega⟩
  have h := allN_iff.1 (allN_iff.1 cls_all k (by omega)) j (by omega)
  unfold clsOK at h
  rw [match_beq, if_pos (Nat.mod_eq_zero_of_dvd hdn)] at h
  have h := allN_iff.1 h a0 ha
  rw [Bool.and_eq_true, beq_iff, beq_iff] at h
  generalize k + 1 = n at *
  generalize j + 1 = d at *
  obtain ⟨h1, h2⟩ := h
  unfold clsA at h1
  unfold clsB at h2
  have h1 := congrArg (fun (x : Nat) => (x : Int)) h1
  have h2 := congrArg (fun (x : Nat) => (x : Int)) h2
  rw [Int.natCast_mul, Int.natCast_mul, sumN_cast, Int.natCast_mul] at h1 h2
  have e1 : sumF (fun a => if a % d = a0 then (a : Int) + 1 else 0) n = sumF (fun i => ((match Nat.beq (i % d) a0 with | true => i + 1 | false => 0 : Nat) : Int)) n := sumF_congr fun i _ => by rw [match_beq]; split <;> simp
  have e2 : sumF (fun a => if a % d = a0 then (a : Int) else 0) n = sumF (fun i => ((match Nat.beq (i % d) a0 with | true => i | false => 0 : Nat) : Int)) n := sumF_congr fun i _ => by rw [match_beq]; split <;> simp
  rw [e1, e2]
  have f1 : ((2 * a0 + n + 2 - d : Nat) : Int) = 2 * a0 + n + 2 - d := by omega
  have f2 : ((2 * a0 + n - d : Nat) : Int) = 2 * a0 + n - d := by omega
  rw [f1] at h1
  rw [f2] at h2
  exact ⟨h1, h2⟩
/-- one congruence modulo d -/
theorem one_sol {d x t : Nat} (hd : 1 ≤ d) (hx : Nat.gcd x d = 1) : ∃ a0, a0 < d ∧ ∀ a, (a * x) % d = t % d ↔ a % d = a0 := by
  have inj : ∀ i j, i < j → j < d → (i * x) % d ≠ (j * x) % d := fun i j hij hj e => by
    have h1 := Nat.sub_mod_eq_zero_of_mod_eq e.symm
    rw [← Nat.sub_mul] at h1
    have h2 := Nat.Coprime.dvd_of_dvd_mul_right (Nat.Coprime.symm hx) (Nat.dvd_of_mod_eq_zero h1)
    have := Nat.le_of_dvd (by omega) h2
    omega
  obtain ⟨a0, h1, h2⟩ := inj_surj (c := fun i => (i * x) % d) (N := d) (fun i _ => Nat.mod_lt _ (by omega)) inj (t % d) (Nat.mod_lt _ (by omega))
  refine ⟨a0, h1, fun a => ?_⟩
  have e : (a * x) % d = (a % d * x) % d := by simp [Nat.mul_mod]
  have hm : a % d < d := Nat.mod_lt _ (by omega)
  rw [e]
  constructor
  · intro h
    rcases Nat.lt_trichotomy (a % d) a0 with hh | hh | hh
    · exact absurd (h.trans h2.symm) (inj _ _ hh h1)
    · exact hh
    · exact absurd (h2.trans h.symm) (inj _ _ hh hm)
  · intro h; rw [h]; exact h2
theorem modr {x n : Nat} (h : x < 2 * n) : x % n = if x < n then x else x - n := by
  by_cases h1 : x < n
  · rw [if_pos h1, Nat.mod_eq_of_lt h1]
  · rw [if_neg h1, Nat.mod_eq_sub_mod (by omega), Nat.mod_eq_of_lt (by omega)]
/-- how many solutions of the second digit there are -/
theorem half_cnt {n x y t : Nat} (hn : 1 ≤ n ∧ n ≤ 16) (hy : y < n) (ht : t < n) (hg : Nat.gcd (Nat.gcd x y) n = 1) : ∃ a0, a0 < Nat.gcd y n ∧ ∀ a, sumF (fun b => if (a * x + b * y) % n = t then 1 else 0) n = if a % Nat.gcd y n = a0 then (Nat.gcd y n : Int) else 0 := by
  have hd : 1 ≤ Nat.gcd y n := Nat.gcd_pos_of_pos_right _ (by omega)
  have hdn : Nat.gcd y n ∣ n := Nat.gcd_dvd_right _ _
  obtain ⟨a0, h1, h2⟩ := one_sol (x := x) (t := t) hd (by rw [← Nat.gcd_assoc]; exact hg)
  refine ⟨a0, h1, fun a => ?_⟩
  have hu : (a * x) % n < n := Nat.mod_lt _ (by omega)
  have hr : (t + (n - (a * x) % n)) % n < n := Nat.mod_lt _ (by omega)
  have e1 : sumF (fun b => if (a * x + b * y) % n = t then (1 : Int) else 0) n = sumF (fun b => if (b * y) % n = (t + (n - (a * x) % n)) % n then 1 else 0) n := sumF_congr fun b _ => by
    have hv : (b * y) % n < n := Nat.mod_lt _ (by omega)
    have : (a * x + b * y) % n = t ↔ (b * y) % n = (t + (n - (a * x) % n)) % n := by
      rw [Nat.add_mod, modr (x := a * x % n + b * y % n) (n := n) (by omega), modr (x := t + (n - (a * x) % n)) (n := n) (by omega)]
      split <;> split <;> omega
    simp only [this]
  rw [e1, cnt_sum hn hy hr, Nat.mod_mod_of_dvd _ hdn]
  have hun : (a * x) % n % Nat.gcd y n = (a * x) % Nat.gcd y n := Nat.mod_mod_of_dvd _ hdn
  have key : (t + (n - (a * x) % n)) % Nat.gcd y n = 0 ↔ a % Nat.gcd y n = a0 := by
    rw [← h2 a, ← hun]
    generalize (a * x) % n = u at *
    have e2 : (t + (n - u)) + u = t + n := by omega
    have e3 := congrArg (· % Nat.gcd y n) e2
    simp only [Nat.add_mod (t + (n - u)) u, Nat.add_mod t n, Nat.mod_eq_zero_of_dvd hdn, Nat.add_zero, Nat.mod_mod] at e3
    have hw : (t + (n - u)) % Nat.gcd y n < Nat.gcd y n := Nat.mod_lt _ (by omega)
    have hz : u % Nat.gcd y n < Nat.gcd y n := Nat.mod_lt _ (by omega)
    rw [modr (x := (t + (n - u)) % Nat.gcd y n + u % Nat.gcd y n) (n := Nat.gcd y n) (by omega)] at e3
    split at e3 <;> omega
  by_cases h : a % Nat.gcd y n = a0
  · rw [if_pos (key.2 h), if_pos h]
  · rw [if_neg (fun hh => h (key.1 hh)), if_neg h]
end Go.Eng.Ytppflbccfdbogaa
namespace Go.Eng.Ytppflbccfdbogaa
open Go.Proofs
set_option maxRecDepth 100000
set_option maxHeartbeats 0
set_option linter.unusedVariables false
set_option linter.unusedSimpArgs false
theorem constD (n : Nat) : 2 * constOf n = n * ((n : Int) * n + 1) := by
  unfold constOf
  have h : (n : Int) * ((n : Int) * n + 1) % 2 = 0 := by
    rcases Nat.mod_two_eq_zero_or_one n with h | h
    · obtain ⟨k, hk⟩ : ∃ k : Int, (n : Int) = 2 * k := ⟨(n : Int) / 2, by omega⟩
      rw [hk, Int.mul_assoc, Int.mul_emod_right]
    · obtain ⟨k, hk⟩ : ∃ k : Int, (n : Int) = 2 * k + 1 := ⟨(n : Int) / 2, by omega⟩
      have : (n : Int) * ((n : Int) * n + 1) = 2 * ((2 * k + 1) * (2 * k * k + 2 * k + 1)) := by rw [hk]; grind
      rw [this, Int.mul_emod_right]
  omega
theorem sumF_zero {f : Nat → Int} : ∀ {n : Nat}, (∀ i, i < n → f i = 0) → sumF f n = 0 := by
  intro n h
  have := sumF_congr (g := fun _ => (0 : Int)) h
  rw [this, sumF_const]; simp
theorem sumF_pos {f : Nat → Int} {n i : Nat} (h0 : ∀ j, j < n → 0 ≤ f j) (hi : i < n) (h : sumF f n = 0) : f i = 0 := by
  induction n with
  | zero => omega
  | succ n ih =>
    have h1 := sumF_nonneg (f := f) (n := n) fun j hj => h0 j (by omega)
    have h2 := h0 n (by omega)
    simp only [sumF] at h
    by_cases e : i = n
    · subst e; omega
    · exact ih (fun j hj => h0 j (by omega)) (by omega) (by omega)
def lineS (n x y t : Nat) : Int := sumF (fun b => sumF (fun a => if (a * x + b * y) % n = t then (b : Int) * n + a + 1 else 0) n) n
structure LineV (n x y t d e a0 b0 : Nat) : Prop where
  ha : a0 < d
  hb : b0 < e
  sum : 2 * lineS n x y t = n * (2 * a0 + n + 2 - d) + n * (n * (2 * b0 + n - e))
  on : ∀ a b, a < n → b < n → (a * x + b * y) % n = t → a % d = a0 ∧ b % e = b0
  ex : ∃ a b, a < n ∧ b < n ∧ (a * x + b * y) % n = t
theorem line_val {n x y t : Nat} (hn : 1 ≤ n ∧ n ≤ 16) (hx : x < n) (hy : y < n) (ht : t < n) (hg : Nat.gcd (Nat.gcd x y) n = 1) : ∃ a0 b0, LineV n x y t (Nat.gcd y n) (Nat.gcd x n) a0 b0 := by
  obtain ⟨a0, h1, h2⟩ := half_cnt hn hy ht hg
  obtain ⟨b0, g1, g2⟩ := half_cnt (x := y) (y := x) hn hx ht (by rw [Nat.gcd_comm y x]; exact hg)
  have hd : 1 ≤ Nat.gcd y n := Nat.gcd_pos_of_pos_right _ (by omega)
  have hdn : Nat.gcd y n ∣ n := Nat.gcd_dvd_right _ _
  have he : 1 ≤ Nat.gcd x n := Nat.gcd_pos_of_pos_right _ (by omega)
  have hen : Nat.gcd x n ∣ n := Nat.gcd_dvd_right _ _
  have k1 := (cls_sum hn hd hdn h1).1
  have k2 := (cls_sum hn he hen g1).2
  generalize Nat.gcd y n = d at *
  generalize Nat.gcd x n = e at *
  refine ⟨a0, b0, h1, g1, ?_, fun a b ha hb hab => ⟨?_, ?_⟩, ?_⟩
  · have e1 : lineS n x y t = sumF (fun a => if a % d = a0 then (d : Int) * (a + 1) else 0) n + sumF (fun b => if b % e = b0 then (n : Int) * (e * b) else 0) n := by
      have s1 : lineS n x y t = sumF (fun b => sumF (fun a => ((a : Int) + 1) * (if (a * x + b * y) % n = t then 1 else 0)) n + sumF (fun a => ((b : Int) * n) * (if (b * y + a * x) % n = t then 1 else 0)) n) n :=
        sumF_congr fun b _ => by
          rw [← sumF_add]
          exact sumF_congr fun a _ => by rw [Nat.add_comm (b * y)]; split <;> omega
      rw [s1, sumF_add]
      congr 1
      · rw [sumF_swap]
        exact sumF_congr fun a _ => by rw [sumF_mul, h2 a]; split <;> simp [Int.mul_comm]
      · exact sumF_congr fun b _ => by rw [sumF_mul, g2 b]; split <;> grind
    have e2 : sumF (fun a => if a % d = a0 then (d : Int) * (a + 1) else 0) n = d * sumF (fun a => if a % d = a0 then (a : Int) + 1 else 0) n := by
      rw [← sumF_mul]; exact sumF_congr fun a _ => by split <;> simp
    have e3 : sumF (fun b => if b % e = b0 then (n : Int) * (e * b) else 0) n = n * (e * sumF (fun b => if b % e = b0 then (b : Int) else 0) n) := by
      rw [← sumF_mul, ← sumF_mul]; exact sumF_congr fun a _ => by split <;> simp
    rw [e1, e2, e3, Int.mul_add, k1, ← k2]
    grind
  · refine Classical.byContradiction fun hne => ?_
    have := h2 a
    rw [if_neg hne] at this
    have := sumF_pos (fun j _ => by split <;> omega) hb this
    rw [if_pos hab] at this; omega
  · refine Classical.byContradiction fun hne => ?_
    have := g2 b
    rw [if_neg hne] at this
    have := sumF_pos (fun j _ => by split <;> omega) ha this
    rw [Nat.add_comm, if_pos hab] at this; omega
  · refine Classical.byContradiction fun hne => ?_
    have hle := Nat.le_of_dvd (by omega) hdn
    have := h2 a0
    rw [if_pos (Nat.mod_eq_of_lt h1)] at this
    have z : sumF (fun b => if (a0 * x + b * y) % n = t then (1 : Int) else 0) n = 0 := sumF_zero fun b hb => if_neg fun hh => hne ⟨a0, b, by omega, hb, hh⟩
    omega
theorem line_const {n x y t d e a0 b0 : Nat} (hn : 1 ≤ n) (hd : d ≤ n) (he : e ≤ n) (V : LineV n x y t d e a0 b0) : lineS n x y t = constOf n ↔ (2 * a0 + 1 = d ∧ 2 * b0 + 1 = e) := by
  obtain ⟨h1, h2, hs, _, _⟩ := V
  have hc := constD n
  generalize lineS n x y t = S at *
  generalize constOf (n : Int) = C at *
  have e0 : 2 * S - 2 * C = n * ((2 * a0 + 1 - d) + n * (2 * b0 + 1 - e)) := by rw [hs, hc]; grind
  constructor
  · intro h
    rw [h, Int.sub_self] at e0
    have e1 : (2 * (a0 : Int) + 1 - d) + n * (2 * b0 + 1 - e) = 0 := by
      rcases Int.mul_eq_zero.1 e0.symm with hh | hh
      · omega
      · exact hh
    have e2 := small_dvd (n := (n : Int)) (a := 2 * a0 + 1 - d) (by omega) ⟨-(2 * b0 + 1 - e), by rw [Int.mul_neg]; omega⟩ (by omega) (by omega)
    have e3 : (n : Int) * (2 * b0 + 1 - e) = 0 := by omega
    rcases Int.mul_eq_zero.1 e3 with hh | hh <;> omega
  · rintro ⟨g1, g2⟩
    have f1 : (2 * (a0 : Int) + 1 - d) = 0 := by omega
    have f2 : (2 * (b0 : Int) + 1 - e) = 0 := by omega
    rw [f1, f2] at e0
    simp at e0
    omega
theorem gcd_le {y n : Nat} (hn : 1 ≤ n) : Nat.gcd y n ≤ n := Nat.le_of_dvd (by omega) (Nat.gcd_dvd_right _ _)
/-- all lines of a direction -/
theorem dir_iff {n x y : Nat} (hn : 1 ≤ n ∧ n ≤ 16) (hx : x < n) (hy : y < n) (hg : Nat.gcd (Nat.gcd x y) n = 1) (T : Nat → Nat) (hT : ∀ k, k < n → T k < n) (k0 : Nat) (hk0 : k0 < n) (h0 : T k0 = 0) :
    (∀ k, k < n → lineS n x y (T k) = constOf n) ↔ (Nat.gcd x n = 1 ∧ Nat.gcd y n = 1) := by
  constructor
  · intro h
    have h := h k0 hk0
    rw [h0] at h
    obtain ⟨a0, b0, V⟩ := line_val hn hx hy (show 0 < n by omega) hg
    have hh := (line_const hn.1 (gcd_le hn.1) (gcd_le hn.1) V).1 h
    have := V.on 0 0 (by omega) (by omega) (by simp)
    simp only [Nat.zero_mod] at this
    omega
  · rintro ⟨h1, h2⟩ k hk
    obtain ⟨a0, b0, V⟩ := line_val hn hx hy (hT k hk) hg
    rw [line_const hn.1 (gcd_le hn.1) (gcd_le hn.1) V]
    have a := V.ha
    have b := V.hb
    omega
end Go.Eng.Ytppflbccfdbogaa
namespace Go.Eng.Ytppflbccfdbogaa
open Go.Proofs
set_option maxRecDepth 100000
set_option maxHeartbeats 0
set_option linter.unusedVariables false
set_option linter.unusedSimpArgs false
structure GoodSq (n : Nat) (g : Int) (l : List Int) : Prop where
  len : l.length = n * n
  norm : isNorm l = true
  bad : badLine n g l = none
theorem flat_idx {n i j : Nat} (hi : i < n) (hj : j < n) : n * i + j < n * n := by
  have := Nat.mul_le_mul_left n (show i + 1 ≤ n by omega)
  rw [Nat.mul_add] at this; omega
/-- a normal square -/
structure NormG (r c : Int) (l : List Int) (n : Nat) : Prop where
  er : r = n
  ec : c = n
  en : 1 ≤ n ∧ n ≤ 16
  el : l.length = n * n
  eb : ∀ x ∈ l, 1 ≤ x ∧ x ≤ 256
end Go.Eng.Ytppflbccfdbogaa
namespace Go.Eng.Ytppflbccfdbogaa
open Go.Proofs
set_option maxRecDepth 100000
set_option maxHeartbeats 0
set_option linter.unusedVariables false
set_option linter.unusedSimpArgs false
def rowN (n s x b k : Nat) : Nat := (s + k % n * x + k / n * b) % n
theorem rowOf_nat (n s x b k : Nat) : rowOf (n : Int) s x b ((k : Int) + 1) = (rowN n s x b k : Int) := by
  unfold rowOf rowN; rw [Int.add_sub_cancel]; push_cast; rfl
theorem cellN_nat (n s0 s1 x0 x1 b0 b1 k : Nat) : cellN n s0 s1 x0 x1 b0 b1 k = n * rowN n s0 x0 b0 k + rowN n s1 x1 b1 k := by
  unfold cellN
  rw [cellOf_eq, rowOf_nat, rowOf_nat]
  have : ((rowN n s0 x0 b0 k : Int) * n + rowN n s1 x1 b1 k) = ((n * rowN n s0 x0 b0 k + rowN n s1 x1 b1 k : Nat) : Int) := by push_cast; rw [Int.mul_comm]
  rw [this, Int.toNat_natCast]
theorem rowN_lt {n s x b k : Nat} (hn : 1 ≤ n) : rowN n s x b k < n := Nat.mod_lt _ (by omega)
theorem dm {n x y : Nat} (hy : y < n) : (n * x + y) / n = x ∧ (n * x + y) % n = y := by
  rw [Nat.mul_add_div (by omega), Nat.div_eq_of_lt hy, Nat.mul_add_mod, Nat.mod_eq_of_lt hy]
  exact ⟨by omega, rfl⟩
/-- a sum over the cells with a property, by their numbers -/
theorem sq_sum {n : Nat} (hn : 1 ≤ n) {c : Nat → Nat} {r q : Nat → Nat} (hr : ∀ k, r k < n) (hq : ∀ k, q k < n) (hc : ∀ k, c k = n * r k + q k) (inj : ∀ i j, i < j → j < n * n → c i ≠ c j) (G : Nat → Nat → Prop) [∀ i j, Decidable (G i j)] :
    sumF (fun y => if G (y / n) (y % n) then (gAt c (n * n) (n * n)).getD y 0 else 0) (n * n) = sumF (fun b => sumF (fun a => if G (r (b * n + a)) (q (b * n + a)) then (b : Int) * n + a + 1 else 0) n) n := by
  have hb : ∀ i, i < n * n → c i < n * n := fun i _ => by rw [hc]; exact flat_idx (hr i) (hq i)
  rw [← sumF_perm hb inj (fun y => if G (y / n) (y % n) then (gAt c (n * n) (n * n)).getD y 0 else 0), sumF_block]
  refine sumF_congr fun b hbn => sumF_congr fun a han => ?_
  have hk : b * n + a < n * n := by have := flat_idx (n := n) hbn han; rw [Nat.mul_comm b]; exact this
  rw [gAt_at hb inj (n * n) (b * n + a) hk (Nat.le_refl _), hc, (dm (hq _)).1, (dm (hq _)).2]
  push_cast
  rfl
theorem path_sum {n : Nat} (hn : 1 ≤ n) (f : Nat → Int) (h : Nat → Nat) (hh : ∀ i, i < n → h i < n) : sumF (fun y => if y % n = h (y / n) then f y else 0) (n * n) = sumF (fun i => f (n * i + h i)) n := by
  rw [sumF_block]
  refine sumF_congr fun i hi => ?_
  have e : sumF (fun j => if (i * n + j) % n = h ((i * n + j) / n) then f (i * n + j) else 0) n = sumF (fun j => if j = h i then f (i * n + j) else 0) n := sumF_congr fun j hj => by
    rw [Nat.mul_comm i n, (dm hj).1, (dm hj).2]
  rw [e, sumF_at, if_pos (hh i hi), Nat.mul_comm i n]
theorem row_sum {n : Nat} (hn : 1 ≤ n) (f : Nat → Int) {i : Nat} (hi : i < n) : sumF (fun y => if y / n = i then f y else 0) (n * n) = sumF (fun j => f (n * i + j)) n := by
  rw [sumF_block]
  have e : sumF (fun I => sumF (fun j => if (I * n + j) / n = i then f (I * n + j) else 0) n) n = sumF (fun I => if I = i then sumF (fun j => f (n * I + j)) n else 0) n := sumF_congr fun I hI => by
    by_cases h : I = i
    · subst h
      rw [if_pos rfl]
      exact sumF_congr fun j hj => by rw [Nat.mul_comm I n, (dm hj).1, if_pos rfl]
    · rw [if_neg h]
      exact sumF_zero fun j hj => by rw [Nat.mul_comm I n, (dm hj).1, if_neg h]
  rw [e, sumF_at, if_pos hi]
theorem mod_iff {n p q : Nat} (hn : 1 ≤ n) : p % n = q % n ↔ (n : Int) ∣ (p : Int) - q := by
  constructor
  · intro h
    exact emod_eq_dvd (by rw [← Int.natCast_emod, ← Int.natCast_emod, h])
  · rintro ⟨k, hk⟩
    have h1 : (p : Int) % n = (q : Int) % n := emod_of_sub hk
    rw [← Int.natCast_emod, ← Int.natCast_emod] at h1
    exact_mod_cast h1
theorem dvd_shift {n u v : Int} (k : Int) (h : u - v = n * k) : n ∣ u ↔ n ∣ v := by
  constructor
  · rintro ⟨j, hj⟩; exact ⟨j - k, by rw [Int.mul_sub]; omega⟩
  · rintro ⟨j, hj⟩; exact ⟨j + k, by rw [Int.mul_add]; omega⟩
theorem lin_red {n X Y a b : Nat} : (a * (X % n) + b * (Y % n)) % n = (a * X + b * Y) % n := by
  rw [Nat.add_mod, Nat.mul_mod_mod, Nat.mul_mod_mod, ← Nat.add_mod]
/-! the four directions -/
structure Red (n s0 s1 x0 x1 b0 b1 : Nat) : Prop where
  n1 : 1 ≤ n
  h0 : s0 < n
  h1 : s1 < n
  h2 : x0 < n
  h3 : x1 < n
  h4 : b0 < n
  h5 : b1 < n
theorem cond_row {n s x y a b i : Nat} (hn : 1 ≤ n) (hs : s < n) (hi : i < n) : (s + a * x + b * y) % n = i ↔ (a * x + b * y) % n = (i + (n - s)) % n := by
  have e : (s + a * x + b * y) % n = i ↔ (s + a * x + b * y) % n = i % n := by rw [Nat.mod_eq_of_lt hi]
  rw [e, mod_iff hn, mod_iff hn]
  refine dvd_shift 1 ?_
  push_cast [Int.ofNat_sub (Nat.le_of_lt hs)]
  omega
theorem cond_up {n s0 s1 x0 x1 b0 b1 a b k : Nat} (R : Red n s0 s1 x0 x1 b0 b1) (hk : k < n) :
    (s1 + a * x1 + b * b1) % n = ((s0 + a * x0 + b * b0) % n + k) % n ↔ (a * ((x0 + (n - x1)) % n) + b * ((b0 + (n - b1)) % n)) % n = (s1 + (n - s0) + (n - k)) % n := by
  obtain ⟨hn, h0, h1, h2, h3, h4, h5⟩ := R
  rw [Nat.mod_add_mod, lin_red, mod_iff hn, mod_iff hn]
  have e : (n : Int) ∣ ((s1 + a * x1 + b * b1 : Nat) : Int) - ((s0 + a * x0 + b * b0 + k : Nat) : Int) ↔ (n : Int) ∣ -(((s1 + a * x1 + b * b1 : Nat) : Int) - ((s0 + a * x0 + b * b0 + k : Nat) : Int)) := Int.dvd_neg.symm
  rw [e]
  refine dvd_shift (2 - a - b) ?_
  push_cast [Int.ofNat_sub (Nat.le_of_lt h3), Int.ofNat_sub (Nat.le_of_lt h5), Int.ofNat_sub (Nat.le_of_lt h0), Int.ofNat_sub (Nat.le_of_lt hk)]
  grind
theorem cond_dn {n s0 s1 x0 x1 b0 b1 a b k : Nat} (R : Red n s0 s1 x0 x1 b0 b1) (hk : k < n) :
    (s1 + a * x1 + b * b1) % n = (k + n - (s0 + a * x0 + b * b0) % n) % n ↔ (a * ((x0 + x1) % n) + b * ((b0 + b1) % n)) % n = (k + (n - s0) + (n - s1)) % n := by
  obtain ⟨hn, h0, h1, h2, h3, h4, h5⟩ := R
  have hm : (s0 + a * x0 + b * b0) % n < n := Nat.mod_lt _ (by omega)
  have hd := Nat.div_add_mod (s0 + a * x0 + b * b0) n
  generalize (s0 + a * x0 + b * b0) % n = m at *
  generalize (s0 + a * x0 + b * b0) / n = w at *
  rw [lin_red, mod_iff hn, mod_iff hn]
  refine dvd_shift (1 - w) ?_
  have hd' : (n : Int) * w + m = s0 + a * x0 + b * b0 := by exact_mod_cast hd
  have e1 : ((k + n - m : Nat) : Int) = k + n - m := by omega
  rw [e1]
  push_cast [Int.ofNat_sub (Nat.le_of_lt h0), Int.ofNat_sub (Nat.le_of_lt h1)]
  grind
/-- the square's lines -/
structure SqS (n s0 s1 x0 x1 b0 b1 : Nat) (L : List Int) : Prop where
  row : ∀ i, i < n → sumF (fun j => sqAt n L i j) n = lineS n x0 b0 ((i + (n - s0)) % n)
  col : ∀ j, j < n → sumF (fun i => sqAt n L i j) n = lineS n x1 b1 ((j + (n - s1)) % n)
  up : ∀ k, k < n → sumF (fun i => sqAt n L i ((i + k) % n)) n = lineS n ((x0 + (n - x1)) % n) ((b0 + (n - b1)) % n) ((s1 + (n - s0) + (n - k)) % n)
  dn : ∀ k, k < n → sumF (fun i => sqAt n L i ((k + n - i) % n)) n = lineS n ((x0 + x1) % n) ((b0 + b1) % n) ((k + (n - s0) + (n - s1)) % n)
theorem sq_lines {n s0 s1 x0 x1 b0 b1 : Nat} (R : Red n s0 s1 x0 x1 b0 b1) (inj : ∀ i j, i < j → j < n * n → cellN n s0 s1 x0 x1 b0 b1 i ≠ cellN n s0 s1 x0 x1 b0 b1 j) :
    SqS n s0 s1 x0 x1 b0 b1 (gAt (cellN n s0 s1 x0 x1 b0 b1) (n * n) (n * n)) := by
  have hn := R.n1
  have key := fun G [∀ i j, Decidable (G i j)] => sq_sum hn (c := cellN n s0 s1 x0 x1 b0 b1) (r := rowN n s0 x0 b0) (q := rowN n s1 x1 b1) (fun k => rowN_lt hn) (fun k => rowN_lt hn) (fun k => cellN_nat n s0 s1 x0 x1 b0 b1 k) inj G
  have rn : ∀ s x y a b, a < n → rowN n s x y (b * n + a) = (s + a * x + b * y) % n := fun s x y a b ha => by
    unfold rowN; rw [Nat.mul_comm b n, (dm ha).1, (dm ha).2]
  generalize gAt (cellN n s0 s1 x0 x1 b0 b1) (n * n) (n * n) = L at *
  refine ⟨fun i hi => ?_, fun j hj => ?_, fun k hk => ?_, fun k hk => ?_⟩
  · have e := row_sum hn (fun y => L.getD y 0) hi
    unfold sqAt
    rw [← e, key (fun I _ => I = i)]
    exact sumF_congr fun b _ => sumF_congr fun a ha => by simp only [rn _ _ _ _ _ ha, cond_row hn R.h0 hi]
  · have e := path_sum hn (fun y => L.getD y 0) (fun _ => j) (fun _ _ => hj)
    unfold sqAt
    rw [← e, key (fun _ J => J = j)]
    exact sumF_congr fun b _ => sumF_congr fun a ha => by simp only [rn _ _ _ _ _ ha, cond_row hn R.h1 hj]
  · have e := path_sum hn (fun y => L.getD y 0) (fun i => (i + k) % n) (fun _ _ => Nat.mod_lt _ (by omega))
    unfold sqAt
    rw [← e, key (fun I J => J = (I + k) % n)]
    exact sumF_congr fun b _ => sumF_congr fun a ha => by simp only [rn _ _ _ _ _ ha, cond_up R hk]
  · have e := path_sum hn (fun y => L.getD y 0) (fun i => (k + n - i) % n) (fun _ _ => Nat.mod_lt _ (by omega))
    unfold sqAt
    rw [← e, key (fun I J => J = (k + n - I) % n)]
    exact sumF_congr fun b _ => sumF_congr fun a ha => by simp only [rn _ _ _ _ _ ha, cond_dn R hk]
end Go.Eng.Ytppflbccfdbogaa
namespace Go.Eng.Ytppflbccfdbogaa
open Go.Proofs
set_option maxRecDepth 100000
set_option maxHeartbeats 0
set_option linter.unusedVariables false
set_option linter.unusedSimpArgs false
theorem cop_nat (n : Nat) (a : Int) (x : Nat) (h : a % n = (x : Int)) : coprime n a = decide (Nat.gcd x n = 1) := by
  unfold coprime; rw [h, Int.gcd_natCast_natCast]
theorem gcdN_nat (n : Nat) (a : Int) (x : Nat) (h : a % n = (x : Int)) : gcdN n a = (Nat.gcd x n : Int) := by
  unfold gcdN; rw [h, Int.gcd_natCast_natCast]
theorem mod_nat {n x : Nat} (h : x < n) : (x : Int) % n = x := Int.emod_eq_of_lt (by omega) (by omega)
theorem sub_nat {n x y : Nat} (hn : 1 ≤ n) (hy : y < n) : ((x : Int) - y) % n = (((x + (n - y)) % n : Nat) : Int) := by
  push_cast [Int.ofNat_sub (Nat.le_of_lt hy)]
  exact emod_of_sub (k := -1) (by omega)
theorem add_nat (n x y : Nat) : ((x : Int) + y) % n = (((x + y) % n : Nat) : Int) := by push_cast; rfl
/-- no common part -/
theorem gcd3 {n u v : Nat} {D : Int} (h : Int.gcd (D % n) n = 1) (al be ga : Int) (hD : D = u * al + v * be + n * ga) : Nat.gcd (Nat.gcd u v) n = 1 := by
  have p1 : Nat.gcd (Nat.gcd u v) n ∣ n := Nat.gcd_dvd_right _ _
  have p2 : Nat.gcd (Nat.gcd u v) n ∣ u := Nat.dvd_trans (Nat.gcd_dvd_left _ _) (Nat.gcd_dvd_left _ _)
  have p3 : Nat.gcd (Nat.gcd u v) n ∣ v := Nat.dvd_trans (Nat.gcd_dvd_left _ _) (Nat.gcd_dvd_right _ _)
  generalize Nat.gcd (Nat.gcd u v) n = p at *
  obtain ⟨k1, e1⟩ := p1
  obtain ⟨k2, e2⟩ := p2
  obtain ⟨k3, e3⟩ := p3
  have e1' : (n : Int) = p * k1 := by exact_mod_cast e1
  have e2' : (u : Int) = p * k2 := by exact_mod_cast e2
  have e3' : (v : Int) = p * k3 := by exact_mod_cast e3
  have hm := Int.emod_add_mul_ediv D n
  have q1 : (p : Int) ∣ D % n := ⟨k2 * al + k3 * be + k1 * ga - k1 * (D / n), by
    have : D % n = D - n * (D / n) := by omega
    generalize D / n = w at *
    rw [this, hD, e1', e2', e3']; grind⟩
  have q2 : (p : Int) ∣ n := ⟨k1, e1'⟩
  have q3 : p ∣ Int.gcd (D % n) n := Nat.dvd_gcd (by have := Int.natAbs_dvd_natAbs.2 q1; simpa using this) (by have := Int.natAbs_dvd_natAbs.2 q2; simpa using this)
  rw [h] at q3
  exact Nat.dvd_one.1 q3
/-- two digits that lead back to the first cell -/
theorem back_inj {n s0 s1 x0 x1 b0 b1 : Nat} (R : Red n s0 s1 x0 x1 b0 b1) (inj : ∀ i j, i < j → j < n * n → cellN n s0 s1 x0 x1 b0 b1 i ≠ cellN n s0 s1 x0 x1 b0 b1 j) (p q : Int) (h0 : (n : Int) ∣ p * x0 + q * b0) (h1 : (n : Int) ∣ p * x1 + q * b1) : (n : Int) ∣ p ∧ (n : Int) ∣ q := by
  have hn := R.n1
  have hp : 0 ≤ p % n ∧ p % n < n := ⟨Int.emod_nonneg _ (by omega), Int.emod_lt_of_pos _ (by omega)⟩
  have hq : 0 ≤ q % n ∧ q % n < n := ⟨Int.emod_nonneg _ (by omega), Int.emod_lt_of_pos _ (by omega)⟩
  have mp := Int.emod_add_mul_ediv p n
  have mq := Int.emod_add_mul_ediv q n
  obtain ⟨a, ha⟩ : ∃ a : Nat, p % n = a := ⟨(p % n).toNat, by omega⟩
  obtain ⟨b, hb⟩ : ∃ b : Nat, q % n = b := ⟨(q % n).toNat, by omega⟩
  have han : a < n := by omega
  have hbn : b < n := by omega
  rw [ha] at mp
  rw [hb] at mq
  have z : ∀ x y : Nat, (n : Int) ∣ p * x + q * y → ∀ s : Nat, (s + a * x + b * y) % n = s % n := fun x y h s => by
    rw [mod_iff hn]
    obtain ⟨k, hk⟩ := h
    generalize p / n = w1 at *
    generalize q / n = w2 at *
    refine ⟨k - w1 * x - w2 * y, ?_⟩
    push_cast
    have e : (p : Int) * x + q * y = ((a : Int) + n * w1) * x + (b + n * w2) * y := by rw [mp, mq]
    rw [hk] at e
    grind
  have hk : b * n + a < n * n := by have := flat_idx (n := n) hbn han; rw [Nat.mul_comm b]; exact this
  have hz : b * n + a = 0 := by
    refine Classical.byContradiction fun hne => inj 0 (b * n + a) (by omega) hk ?_
    rw [cellN_nat, cellN_nat]
    have e : ∀ s x y, rowN n s x y (b * n + a) = (s + a * x + b * y) % n := fun s x y => by unfold rowN; rw [Nat.mul_comm b n, (dm han).1, (dm han).2]
    have e0 : ∀ s x y, rowN n s x y 0 = s % n := fun s x y => by unfold rowN; simp
    rw [e, e, e0, e0, z _ _ h0, z _ _ h1]
  have hb0 : b = 0 := by
    rcases Nat.eq_zero_or_pos b with h | h
    · exact h
    · have := Nat.mul_pos h (show 0 < n by omega); omega
  have ha0 : a = 0 := by subst hb0; omega
  subst ha0; subst hb0
  exact ⟨⟨p / n, by omega⟩, ⟨q / n, by omega⟩⟩
theorem sq_conv {n s0 s1 x0 x1 b0 b1 : Nat} (R : Red n s0 s1 x0 x1 b0 b1) (inj : ∀ i j, i < j → j < n * n → cellN n s0 s1 x0 x1 b0 b1 i ≠ cellN n s0 s1 x0 x1 b0 b1 j) : isSq n x0 x1 b0 b1 = true := by
  have hn := R.n1
  unfold isSq coprime
  rw [decide_eq_true_eq]
  generalize hD : (x0 : Int) * b1 - x1 * b0 = D
  refine Classical.byContradiction fun hne => ?_
  have g1 : (Int.gcd (D % n) n : Int) ∣ n := Int.gcd_dvd_right ..
  have g2 : (Int.gcd (D % n) n : Int) ∣ D % n := Int.gcd_dvd_left ..
  have g0 : 0 < Int.gcd (D % n) n := Int.gcd_pos_of_ne_zero_right _ (by omega)
  have hm := Int.emod_add_mul_ediv D n
  generalize Int.gcd (D % n) n = g at *
  obtain ⟨t, ht⟩ := g1
  obtain ⟨j, hj⟩ := g2
  have hD2 : D = g * (j + t * (D / n)) := by
    generalize D / n = w at *
    rw [← hm, hj, ht]; grind
  generalize j + t * (D / n) = r at *
  have ht1 : 0 < t := by
    rcases Int.lt_trichotomy t 0 with h | h | h
    · have := Int.mul_le_mul_of_nonneg_left (show t ≤ -1 by omega) (show (0 : Int) ≤ g by omega); omega
    · subst h; omega
    · exact h
  have htn : t < n := by
    have := Int.mul_le_mul_of_nonneg_right (show (2 : Int) ≤ g by omega) (show 0 ≤ t by omega)
    omega
  have c1 := back_inj R inj (t * b0) (-(t * x0)) ⟨0, by grind⟩ ⟨-r, by rw [ht]; grind⟩
  have c2 := back_inj R inj (t * b1) (-(t * x1)) ⟨r, by rw [ht]; grind⟩ ⟨0, by grind⟩
  have c3 := back_inj R inj t 0 (by have := (Int.dvd_neg.1 c1.2); simpa using this) (by have := (Int.dvd_neg.1 c2.2); simpa using this)
  have := Int.le_of_dvd ht1 c3.1
  omega
/-- a diagonal and its digits -/
theorem bal_line {n s0 s1 x0 x1 b0 b1 : Nat} (R : Red n s0 s1 x0 x1 b0 b1) (inj : ∀ i j, i < j → j < n * n → cellN n s0 s1 x0 x1 b0 b1 i ≠ cellN n s0 s1 x0 x1 b0 b1 j) (q : Nat → Nat) (hq : ∀ i, i < n → q i < n) (X Y T : Nat)
    (hc : ∀ a b, a < n → b < n → ((s1 + a * x1 + b * b1) % n = q ((s0 + a * x0 + b * b0) % n) ↔ (a * X + b * Y) % n = T)) {a0 c0 : Nat} (V : LineV n X Y T (Nat.gcd Y n) (Nat.gcd X n) a0 c0) (u v : Int) (hu : u % n = (X : Int)) (hv : v % n = (Y : Int)) (h : Nat → Int)
    (hh : ∀ i, i < n → h i = (gAt (cellN n s0 s1 x0 x1 b0 b1) (n * n) (n * n)).getD (n * i + q i) 0) : balB n h u v = true ↔ (2 * a0 + 1 = Nat.gcd Y n ∧ 2 * c0 + 1 = Nat.gcd X n) := by
  have hn := R.n1
  unfold balB
  rw [gcdN_nat n u X hu, gcdN_nat n v Y hv, Int.toNat_natCast]
  have hd : 1 ≤ Nat.gcd Y n := Nat.gcd_pos_of_pos_right _ (by omega)
  have he : 1 ≤ Nat.gcd X n := Nat.gcd_pos_of_pos_right _ (by omega)
  generalize Nat.gcd Y n = d at *
  generalize Nat.gcd X n = e at *
  have hcb : ∀ i, i < n * n → cellN n s0 s1 x0 x1 b0 b1 i < n * n := fun i _ => by rw [cellN_nat]; exact flat_idx (rowN_lt hn) (rowN_lt hn)
  have rn : ∀ s x y a b, a < n → rowN n s x y (b * n + a) = (s + a * x + b * y) % n := fun s x y a b ha => by
    unfold rowN; rw [Nat.mul_comm b n, (dm ha).1, (dm ha).2]
  -- the number at a place of the diagonal
  have at1 : ∀ a b, a < n → b < n → (a * X + b * Y) % n = T → ∃ i, i < n ∧ h i = ((b * n + a : Nat) : Int) + 1 := fun a b ha hb hab => by
    have hk : b * n + a < n * n := by have := flat_idx (n := n) hb ha; rw [Nat.mul_comm b]; exact this
    have h1 := gAt_at hcb inj (n * n) (b * n + a) hk (Nat.le_refl _)
    rw [cellN_nat, rn _ _ _ _ _ ha, rn _ _ _ _ _ ha, (hc a b ha hb).2 hab] at h1
    exact ⟨_, Nat.mod_lt _ (by omega), by rw [hh _ (Nat.mod_lt _ (by omega))]; exact h1⟩
  have at2 : ∀ i, i < n → ∃ a b, a < n ∧ b < n ∧ (a * X + b * Y) % n = T ∧ h i = ((b * n + a : Nat) : Int) + 1 := fun i hi => by
    obtain ⟨k, k1, k2, k3⟩ := gAt_full hcb inj (n * i + q i) (flat_idx hi (hq i hi))
    have ha : k % n < n := Nat.mod_lt _ (by omega)
    have hb : k / n < n := Nat.div_lt_of_lt_mul k1
    have hdm : k / n * n + k % n = k := by have := Nat.div_add_mod k n; rw [Nat.mul_comm]; exact this
    refine ⟨k % n, k / n, ha, hb, (hc _ _ ha hb).1 ?_, by rw [hh i hi, k3, hdm]⟩
    rw [cellN_nat] at k2
    have r1 := rowN_lt (n := n) (s := s0) (x := x0) (b := b0) (k := k) hn
    have r2 := rowN_lt (n := n) (s := s1) (x := x1) (b := b1) (k := k) hn
    have e1 : rowN n s0 x0 b0 k = i := by
      have a := congrArg (· / n) k2
      simp only [(dm r2).1, (dm (hq i hi)).1] at a
      exact a
    have e2 : rowN n s1 x1 b1 k = q i := by
      have a := congrArg (· % n) k2
      simp only [(dm r2).2, (dm (hq i hi)).2] at a
      exact a
    unfold rowN at e1 e2
    rw [e1, e2]
  have dig : ∀ a b : Nat, a < n → (((b * n + a : Nat) : Int) + 1 - 1) % n = a ∧ (((b * n + a : Nat) : Int) + 1 - 1) / n = b := fun a b ha => by
    rw [Int.add_sub_cancel, ← Int.natCast_emod, ← Int.natCast_ediv, Nat.mul_comm b n, (dm ha).1, (dm ha).2]; exact ⟨rfl, rfl⟩
  simp only [Bool.and_eq_true, Bool.not_eq_true', decide_eq_false_iff_not, List.all_eq_true, List.mem_range, balAt, decide_eq_true_eq]
  constructor
  · rintro ⟨⟨g1, g2⟩, g3⟩
    obtain ⟨a, b, ha, hb, hab⟩ := V.ex
    obtain ⟨i, hi, hv⟩ := at1 a b ha hb hab
    have g3 := g3 i hi
    rw [hv, (dig a b ha).1, (dig a b ha).2] at g3
    have o := V.on a b ha hb hab
    have f1 : (a : Int) % d = (a0 : Int) := by rw [← Int.natCast_emod, o.1]
    have f2 : (b : Int) % e = (c0 : Int) := by rw [← Int.natCast_emod, o.2]
    rw [f1, f2] at g3
    omega
  · rintro ⟨g1, g2⟩
    refine ⟨⟨by omega, by omega⟩, fun i hi => ?_⟩
    obtain ⟨a, b, ha, hb, hab, hv⟩ := at2 i hi
    rw [hv, (dig a b ha).1, (dig a b ha).2]
    have o := V.on a b ha hb hab
    have f1 : (a : Int) % d = (a0 : Int) := by rw [← Int.natCast_emod, o.1]
    have f2 : (b : Int) % e = (c0 : Int) := by rw [← Int.natCast_emod, o.2]
    rw [f1, f2]
    omega
end Go.Eng.Ytppflbccfdbogaa
namespace Go.Eng.Ytppflbccfdbogaa
open Go.Proofs
set_option maxRecDepth 100000
set_option maxHeartbeats 0
set_option linter.unusedVariables false
set_option linter.unusedSimpArgs false
def kindB (n s0 s1 x0 x1 b0 b1 : Int) (s : ByteArray) : Bool :=
  if s = kSq then isSq n x0 x1 b0 b1 else if s = kSemi then isSemi n x0 x1 b0 b1 else if s = kMag then isMag n s0 s1 x0 x1 b0 b1 else isPan n x0 x1 b0 b1
theorem kindB_sq {n s0 s1 x0 x1 b0 b1 : Int} {s : ByteArray} (h : kindB n s0 s1 x0 x1 b0 b1 s = true) : isSq n x0 x1 b0 b1 = true := by
  unfold kindB at h
  split at h
  · exact h
  · split at h
    · unfold isSemi at h; rw [Bool.and_eq_true] at h; exact h.1
    · split at h
      · unfold isMag isSemi at h; rw [Bool.and_eq_true, Bool.and_eq_true] at h; exact h.1.1
      · unfold isPan isSemi at h; rw [Bool.and_eq_true, Bool.and_eq_true] at h; exact h.1.1
theorem upT0 {n s0 s1 : Nat} (h0 : s0 < n) (h1 : s1 < n) : ∃ k, k < n ∧ (s1 + (n - s0) + (n - k)) % n = 0 := by
  refine ⟨(s1 + (n - s0)) % n, Nat.mod_lt _ (by omega), ?_⟩
  rw [modr (x := s1 + (n - s0)) (n := n) (by omega)]
  split
  · rw [show s1 + (n - s0) + (n - (s1 + (n - s0))) = n by omega, Nat.mod_self]
  · rw [show s1 + (n - s0) + (n - (s1 + (n - s0) - n)) = n + n by omega, Nat.add_mod_right, Nat.mod_self]
theorem dnT0 {n s0 s1 : Nat} (h0 : s0 < n) (h1 : s1 < n) : ∃ k, k < n ∧ (k + (n - s0) + (n - s1)) % n = 0 := by
  refine ⟨(s0 + s1) % n, Nat.mod_lt _ (by omega), ?_⟩
  rw [modr (x := s0 + s1) (n := n) (by omega)]
  split
  · rw [show s0 + s1 + (n - s0) + (n - s1) = n + n by omega, Nat.add_mod_right, Nat.mod_self]
  · rw [show s0 + s1 - n + (n - s0) + (n - s1) = n by omega, Nat.mod_self]
theorem exact_nat {n s0 s1 x0 x1 b0 b1 : Nat} (R : Red n s0 s1 x0 x1 b0 b1) (h16 : n ≤ 16) (s : ByteArray) (hk : kindErr s = 0) :
    kindB n s0 s1 x0 x1 b0 b1 s = true ↔ (meetOf (cellN n s0 s1 x0 x1 b0 b1) (n * n) = none ∧ badLine n (gOf s) (gAt (cellN n s0 s1 x0 x1 b0 b1) (n * n) (n * n)) = none) := by
  have hn := R.n1
  have eN : ((n : Int) * n).toNat = n * n := by rw [← Int.natCast_mul, Int.toNat_natCast]
  have hcb : ∀ i, i < n * n → cellN n s0 s1 x0 x1 b0 b1 i < n * n := fun i _ => by rw [cellN_nat]; exact flat_idx (rowN_lt hn) (rowN_lt hn)
  by_cases hsq : isSq n x0 x1 b0 b1 = true
  · have hm : meetOf (cellN n s0 s1 x0 x1 b0 b1) (n * n) = none := by
      have := meet_none (s0 := (s0 : Int)) (s1 := s1) (show 1 ≤ (n : Int) by omega) hsq
      rw [eN] at this; exact this
    have inj := meetOf_inj hcb hm
    have S := sq_lines R inj
    have hD : Int.gcd (((x0 : Int) * b1 - x1 * b0) % n) n = 1 := by
      unfold isSq coprime at hsq
      exact of_decide_eq_true hsq
    have hX : ((x0 : Int) - x1) % n = (((x0 + (n - x1)) % n : Nat) : Int) := sub_nat hn R.h3
    have hY : ((b0 : Int) - b1) % n = (((b0 + (n - b1)) % n : Nat) : Int) := sub_nat hn R.h5
    have hX' : ((x0 : Int) + x1) % n = (((x0 + x1) % n : Nat) : Int) := add_nat n x0 x1
    have hY' : ((b0 : Int) + b1) % n = (((b0 + b1) % n : Nat) : Int) := add_nat n b0 b1
    have lX : (x0 + (n - x1)) % n < n := Nat.mod_lt _ (by omega)
    have lY : (b0 + (n - b1)) % n < n := Nat.mod_lt _ (by omega)
    have lX' : (x0 + x1) % n < n := Nat.mod_lt _ (by omega)
    have lY' : (b0 + b1) % n < n := Nat.mod_lt _ (by omega)
    have hcu := fun (a b k : Nat) (hk : k < n) => cond_up (a := a) (b := b) R hk
    have hcd := fun (a b k : Nat) (hk : k < n) => cond_dn (a := a) (b := b) R hk
    have Sup := S.up
    have Sdn := S.dn
    generalize (x0 + (n - x1)) % n = X at *
    generalize (b0 + (n - b1)) % n = Y at *
    generalize (x0 + x1) % n = X' at *
    generalize (b0 + b1) % n = Y' at *
    have w1 := Int.emod_add_mul_ediv ((x0 : Int) - x1) n
    have w2 := Int.emod_add_mul_ediv ((b0 : Int) - b1) n
    have w3 := Int.emod_add_mul_ediv ((x0 : Int) + x1) n
    have w4 := Int.emod_add_mul_ediv ((b0 : Int) + b1) n
    rw [hX] at w1
    rw [hY] at w2
    rw [hX'] at w3
    rw [hY'] at w4
    have gR : Nat.gcd (Nat.gcd x0 b0) n = 1 := gcd3 hD b1 (-x1) 0 (by grind)
    have gC : Nat.gcd (Nat.gcd x1 b1) n = 1 := gcd3 hD (-b0) x0 0 (by grind)
    have gU : Nat.gcd (Nat.gcd X Y) n = 1 := gcd3 hD b1 (-x1) (((x0 : Int) - x1) / n * b1 - ((b0 : Int) - b1) / n * x1) (by grind)
    have gD : Nat.gcd (Nat.gcd X' Y') n = 1 := gcd3 hD b1 (-x1) (((x0 : Int) + x1) / n * b1 - ((b0 : Int) + b1) / n * x1) (by grind)
    clear w1 w2 w3 w4
    have cx0 := cop_nat n x0 x0 (mod_nat R.h2)
    have cx1 := cop_nat n x1 x1 (mod_nat R.h3)
    have cb0 := cop_nat n b0 b0 (mod_nat R.h4)
    have cb1 := cop_nat n b1 b1 (mod_nat R.h5)
    have cX := cop_nat n ((x0 : Int) - x1) X hX
    have cY := cop_nat n ((b0 : Int) - b1) Y hY
    have cX' := cop_nat n ((x0 : Int) + x1) X' hX'
    have cY' := cop_nat n ((b0 : Int) + b1) Y' hY'
    have ml : ∀ z, z % n < n := fun z => Nat.mod_lt _ (by omega)
    obtain ⟨ku, ku1, ku2⟩ := upT0 R.h0 R.h1
    obtain ⟨kd, kd1, kd2⟩ := dnT0 R.h0 R.h1
    have dR := dir_iff ⟨hn, h16⟩ R.h2 R.h4 gR (fun i => (i + (n - s0)) % n) (fun _ _ => ml _) s0 R.h0 (by have := R.h0; (try simp only); rw [show s0 + (n - s0) = n by omega, Nat.mod_self])
    have dC := dir_iff ⟨hn, h16⟩ R.h3 R.h5 gC (fun i => (i + (n - s1)) % n) (fun _ _ => ml _) s1 R.h1 (by have := R.h1; (try simp only); rw [show s1 + (n - s1) = n by omega, Nat.mod_self])
    have dU := dir_iff ⟨hn, h16⟩ lX lY gU (fun k => (s1 + (n - s0) + (n - k)) % n) (fun _ _ => ml _) ku ku1 ku2
    have dD := dir_iff ⟨hn, h16⟩ lX' lY' gD (fun k => (k + (n - s0) + (n - s1)) % n) (fun _ _ => ml _) kd kd1 kd2
    -- the diagonals
    obtain ⟨a0, c0, VU⟩ := line_val ⟨hn, h16⟩ lX lY (ml (s1 + (n - s0) + (n - 0))) gU
    obtain ⟨a1, c1, VD⟩ := line_val ⟨hn, h16⟩ lX' lY' (ml (n - 1 + (n - s0) + (n - s1))) gD
    have bU := bal_line R inj (fun i => (i + 0) % n) (fun _ _ => ml _) X Y _ (fun a b _ _ => hcu a b 0 (by omega)) VU ((x0 : Int) - x1) ((b0 : Int) - b1) hX hY (mainAt n (sqL n s0 s1 x0 x1 b0 b1)) (fun i hi => by
      unfold mainAt sqL
      rw [eN, show ((n : Int) * i + i) = ((n * i + i : Nat) : Int) by push_cast; rfl, Int.toNat_natCast, Nat.add_zero, Nat.mod_eq_of_lt hi])
    have bD := bal_line R inj (fun i => (n - 1 + n - i) % n) (fun _ _ => ml _) X' Y' _ (fun a b _ _ => hcd a b (n - 1) (by omega)) VD ((x0 : Int) + x1) ((b0 : Int) + b1) hX' hY' (antiAt n (sqL n s0 s1 x0 x1 b0 b1)) (fun i hi => by
      unfold antiAt sqL
      rw [eN, show ((n : Int) * i + n - 1 - i) = ((n * i + (n - 1 - i) : Nat) : Int) by push_cast [Int.ofNat_sub (show i ≤ n - 1 by omega), Int.ofNat_sub hn]; omega, Int.toNat_natCast]
      rw [show n - 1 + n - i = n - 1 - i + n by omega, Nat.add_mod_right, Nat.mod_eq_of_lt (by omega)])
    rw [← line_const hn (gcd_le hn) (gcd_le hn) VU, ← Sup 0 (by omega), up_first] at bU
    rw [← line_const hn (gcd_le hn) (gcd_le hn) VD, ← Sdn (n - 1) (by omega), dn_last] at bD
    rw [good_iff (by omega)]
    have semi : isSemi n x0 x1 b0 b1 = true ↔ ((∀ i, i < n → sumF (fun j => sqAt n (gAt (cellN n s0 s1 x0 x1 b0 b1) (n * n) (n * n)) i j) n = constOf n) ∧ (∀ j, j < n → sumF (fun i => sqAt n (gAt (cellN n s0 s1 x0 x1 b0 b1) (n * n) (n * n)) i j) n = constOf n)) := by
      unfold isSemi
      rw [hsq, Bool.true_and]
      simp only [List.all_cons, List.all_nil, Bool.and_true, Bool.and_eq_true, cx0, cx1, cb0, cb1, decide_eq_true_eq]
      constructor
      · rintro ⟨h1, h2, h3, h4⟩
        exact ⟨fun i hi => by rw [S.row i hi]; exact dR.2 ⟨h1, h3⟩ i hi, fun j hj => by rw [S.col j hj]; exact dC.2 ⟨h2, h4⟩ j hj⟩
      · rintro ⟨h1, h2⟩
        have f1 := dR.1 fun i hi => by rw [← S.row i hi]; exact h1 i hi
        have f2 := dC.1 fun i hi => by rw [← S.col i hi]; exact h2 i hi
        exact ⟨f1.1, f2.1, f1.2, f2.2⟩
    have hg : (s = kSq ∧ gOf s = 0) ∨ (s = kSemi ∧ gOf s = 1) ∨ (s = kMag ∧ gOf s = 2) ∨ (s = kPan ∧ gOf s = 3) := by
      unfold kindErr at hk
      split at hk
      · rename_i h
        rcases h with rfl | rfl | rfl | rfl
        · exact .inl ⟨rfl, by decide⟩
        · exact .inr (.inl ⟨rfl, by decide⟩)
        · exact .inr (.inr (.inl ⟨rfl, by decide⟩))
        · exact .inr (.inr (.inr ⟨rfl, by decide⟩))
      · omega
    have hSU : (∀ k, k < n → sumF (fun i => sqAt n (gAt (cellN n s0 s1 x0 x1 b0 b1) (n * n) (n * n)) i ((i + k) % n)) n = constOf n) ↔ (Nat.gcd X n = 1 ∧ Nat.gcd Y n = 1) := by
      rw [← dU]; exact ⟨fun h k hk => by rw [← Sup k hk]; exact h k hk, fun h k hk => by rw [Sup k hk]; exact h k hk⟩
    have hSD : (∀ k, k < n → sumF (fun i => sqAt n (gAt (cellN n s0 s1 x0 x1 b0 b1) (n * n) (n * n)) i ((k + n - i) % n)) n = constOf n) ↔ (Nat.gcd X' n = 1 ∧ Nat.gcd Y' n = 1) := by
      rw [← dD]; exact ⟨fun h k hk => by rw [← Sdn k hk]; exact h k hk, fun h k hk => by rw [Sdn k hk]; exact h k hk⟩
    unfold kindB
    rcases hg with ⟨hs, hgo⟩ | ⟨hs, hgo⟩ | ⟨hs, hgo⟩ | ⟨hs, hgo⟩ <;> rw [hgo] <;> subst hs
    · rw [if_pos rfl]
      exact ⟨fun _ => ⟨hm, ⟨fun h => by omega, fun h => by omega, fun h => by omega, fun h => by omega, fun h => by omega, fun h => by omega⟩⟩, fun _ => hsq⟩
    · rw [if_neg (by decide), if_pos rfl, semi]
      exact ⟨fun h => ⟨hm, ⟨fun _ => h.1, fun _ => h.2, fun h => by omega, fun h => by omega, fun h => by omega, fun h => by omega⟩⟩, fun h => ⟨h.2.row (by omega), h.2.col (by omega)⟩⟩
    · rw [if_neg (by decide), if_neg (by decide), if_pos rfl]
      unfold isMag
      rw [Bool.and_eq_true, Bool.and_eq_true, semi, bU, bD]
      exact ⟨fun h => ⟨hm, ⟨fun _ => h.1.1, fun _ => h.1.2, fun _ => h.2.1, fun _ => h.2.2, fun h => by omega, fun h => by omega⟩⟩, fun h => ⟨⟨h.2.row (by omega), h.2.col (by omega)⟩, h.2.d1 (by omega), h.2.d2 (by omega)⟩⟩
    · rw [if_neg (by decide), if_neg (by decide), if_neg (by decide)]
      unfold isPan
      rw [Bool.and_eq_true, semi]
      simp only [List.all_cons, List.all_nil, Bool.and_true, Bool.and_eq_true, cX, cX', cY, cY', decide_eq_true_eq]
      constructor
      · rintro ⟨h1, g1, g2, g3, g4⟩
        have u := hSU.2 ⟨g1, g3⟩
        have d := hSD.2 ⟨g2, g4⟩
        refine ⟨hm, ⟨fun _ => h1.1, fun _ => h1.2, fun _ => ?_, fun _ => ?_, fun _ => u, fun _ => d⟩⟩
        · rw [← up_first]; exact u 0 (by omega)
        · rw [← dn_last]; exact d (n - 1) (by omega)
      · rintro ⟨_, G⟩
        have u := hSU.1 (G.up (by omega))
        have d := hSD.1 (G.dn (by omega))
        exact ⟨⟨G.row (by omega), G.col (by omega)⟩, u.1, d.1, u.2, d.2⟩
  · constructor
    · intro h; exact absurd (kindB_sq h) hsq
    · rintro ⟨hm, _⟩
      exact absurd (sq_conv R (meetOf_inj hcb hm)) hsq
/-- what Admits says is what Refuse finds -/
theorem exact_adm {n s0 s1 x0 x1 b0 b1 : Int} {s : ByteArray} (hn : 1 ≤ n ∧ n ≤ 16) (hk : kindErr s = 0) :
    admB n s0 s1 x0 x1 b0 b1 s = true ↔ (meetOf (cellS n s0 s1 x0 x1 b0 b1) (n.toNat * n.toNat) = none ∧ badLine n.toNat (gOf s) (gAt (cellS n s0 s1 x0 x1 b0 b1) (n.toNat * n.toNat) (n.toNat * n.toNat)) = none) := by
  obtain ⟨m, rfl⟩ : ∃ m : Nat, n = m := ⟨n.toNat, by omega⟩
  rw [Int.toNat_natCast]
  have md : ∀ y : Int, ∃ z : Nat, y % m = z ∧ z < m := fun y => ⟨(y % m).toNat, by have := Int.emod_nonneg y (show (m : Int) ≠ 0 by omega); omega, by have := Int.emod_lt_of_pos y (show (0 : Int) < m by omega); have := Int.emod_nonneg y (show (m : Int) ≠ 0 by omega); omega⟩
  obtain ⟨t0, h0, l0⟩ := md s0
  obtain ⟨t1, h1, l1⟩ := md s1
  obtain ⟨y0, h2, l2⟩ := md x0
  obtain ⟨y1, h3, l3⟩ := md x1
  obtain ⟨c0, h4, l4⟩ := md b0
  obtain ⟨c1, h5, l5⟩ := md b1
  have := exact_nat (n := m) (s0 := t0) (s1 := t1) (x0 := y0) (x1 := y1) (b0 := c0) (b1 := c1) ⟨by omega, l0, l1, l2, l3, l4, l5⟩ (by omega) s hk
  unfold kindB at this
  unfold admB cellS
  rw [h0, h1, h2, h3, h4, h5]
  exact this
end Go.Eng.Ytppflbccfdbogaa
namespace Go.Eng.Ytppflbccfdbogaa
open Go.Proofs
set_option maxRecDepth 100000
set_option maxHeartbeats 0
set_option linter.unusedVariables false
set_option linter.unusedSimpArgs false
/-! Admits -/
/-! the program's condition is the reference's -/
end Go.Eng.Ytppflbccfdbogaa
namespace Go.Eng.Ytppflbccfdbogaa
open Go.Proofs
set_option maxRecDepth 100000
set_option maxHeartbeats 0
set_option linter.unusedVariables false
set_option linter.unusedSimpArgs false
end Go.Eng.Ytppflbccfdbogaa
namespace Go.Eng.Ytppflbccfdbogaa
open Go.Proofs
set_option maxRecDepth 100000
set_option maxHeartbeats 0
set_option linter.unusedVariables false
set_option linter.unusedSimpArgs false
theorem kindErr_or (s : ByteArray) : kindErr s = 0 ∨ kindErr s = 13 := by unfold kindErr; split <;> simp
end Go.Eng.Ytppflbccfdbogaa
namespace Go.Eng.Ytppflbccfdbogaa
open Go.Proofs
set_option maxRecDepth 100000
set_option maxHeartbeats 0
set_option linter.unusedVariables false
set_option linter.unusedSimpArgs false
/-- the numbers below a bound that have a property -/
def keepN (p : Nat → Bool) : Nat → List Nat
  | 0 => []
  | m + 1 => if p m then keepN p m ++ [m] else keepN p m
theorem keepN_len (p : Nat → Bool) (m : Nat) : (keepN p m).length ≤ m := by
  induction m with
  | zero => simp [keepN]
  | succ m ih =>
    rw [keepN]; split
    · rw [List.length_append, List.length_cons, List.length_nil]; omega
    · omega
/-- the rule with a number -/
def rx0 (n k : Nat) : Int := (k : Int) / ((n : Int) * n * n)
def rx1 (n k : Nat) : Int := (k : Int) / ((n : Int) * n) % n
def rb0 (n k : Nat) : Int := (k : Int) / n % n
def rb1 (n k : Nat) : Int := (k : Int) % n
def recC (n k : Nat) : List PV := [.int .i64 n, .int .i64 0, .int .i64 0, .int .i64 (rx0 n k), .int .i64 (rx1 n k), .int .i64 (rb0 n k), .int .i64 (rb1 n k)]
def admK (n : Nat) (s : ByteArray) (k : Nat) : Bool := admB n 0 0 (rx0 n k) (rx1 n k) (rb0 n k) (rb1 n k) s
def rulesN (n : Nat) (s : ByteArray) (m : Nat) : List (List PV) := (keepN (admK n s) m).map (recC n)
theorem rulesN_succ (n : Nat) (s : ByteArray) (m : Nat) : rulesN n s (m + 1) = if admK n s m then rulesN n s m ++ [recC n m] else rulesN n s m := by
  unfold rulesN; rw [keepN]; split
  · rw [List.map_append]; rfl
  · rfl
theorem rulesN_len (n : Nat) (s : ByteArray) (m : Nat) : (rulesN n s m).length ≤ m := by
  unfold rulesN; rw [List.length_map]; exact keepN_len _ _
noncomputable def cpRu : CPT := cpAdd 107 (lendCC [] kindsL) (cpAdd 98 (pureCC reducedP) (cpAdd 137 (pureCC squareP) (cpAdd 138 (pureCC semiP) (cpAdd 139 (pureCC magP) (cpAdd 140 (pureCC panP) cp2)))))
theorem cpRu_ok : CPOK Try.prog cpRu := cpAdd_ok (lendCC_ok [] kinds_ok) (cpAdd_ok (pureCC_ok reduced_ok) (cpAdd_ok (pureCC_ok square_ok) (cpAdd_ok (pureCC_ok semi_ok) (cpAdd_ok (pureCC_ok mag_ok) (cpAdd_ok (pureCC_ok pan_ok) cp2_ok)))))
/-- the error of the list of rules -/
def rulesErr (n : Int) (s : ByteArray) : Int := firstOf [if n < 1 ∨ 16 < n then 3 else 0, kindErr s, if 5 < n then 20 else 0]
theorem rules_err (n : Int) (s : ByteArray) (h : rulesErr n s ≠ 0) : PSpec Try.prog 57 [.int .i64 n, .str s] (.tup [.nils, .int .i64 (rulesErr n s)]) := by
  unfold rulesErr at h ⊢
  refine pspec_of (md := 0) (rf := []) mixed tabOK cpRu_ok Try.func57 (by rfl) (by rfl) (by rfl) ?_
  repeat' (first | ((conv => whnf); refine And.intro ?_ ?_) | ((conv => whnf); with_reducible exact VC.mk rfl) | ((conv => whnf); exact Ok.mk) | ((conv => whnf); exact True.intro) | ((conv => whnf); refine Nx.mk ?_) | ((conv => whnf); refine Fin.mk ?_) | ((conv => whnf); intro _))
  all_goals ((try refine VC.mk ?_); (try simp only [CL.ncell, CL.cnt, Int.toNat_natCast, decide_eq_true_eq, decide_eq_false_iff_not, Bool.not_eq_true, Bool.not_false, Bool.not_true, and_self, and_true, true_and, te3b, te4b, te3s, te4s, Nat.mul_one, Nat.zero_add, List.length_cons, List.length_nil, Bool.false_eq_true, Bool.true_eq_false] at *); (try omega))
  all_goals first | (exfalso; simp_all [kindErr]; done) | (refine Sup.of ?_; simp_all [resOf, kindErr]; done)
theorem chunk7 (a b c d e f g : PV) : chunks te24.size 1 [a, b, c, d, e, f, g] = [[a, b, c, d, e, f, g]] := rfl
/-- the list of rules, or that it is too long -/
def rulesR (n : Nat) (s : ByteArray) : PV := if 256 < (rulesN n s (n * n * n * n)).length then .tup [.nils, .int .i64 5] else .tup [.isl (.recs 7 (rulesN n s (n * n * n * n))) .none, .int .i64 0]
theorem rules_sq (n : Nat) (hn : 1 ≤ n ∧ n ≤ 5) : PSpec Try.prog 57 [.int .i64 n, .str kSq] (rulesR n kSq) := by
  have b1 := mul_bd (A := 5) (B := 5) (show 0 ≤ (n : Int) ∧ (n : Int) ≤ 5 by omega) (show 0 ≤ (n : Int) ∧ (n : Int) ≤ 5 by omega)
  have b2 := mul_bd (A := 25) (B := 5) b1 (show 0 ≤ (n : Int) ∧ (n : Int) ≤ 5 by omega)
  have b3 := mul_bd (A := 125) (B := 5) b2 (show 0 ≤ (n : Int) ∧ (n : Int) ≤ 5 by omega)
  have e0 : firstOf [if (n : Int) < 1 ∨ 16 < (n : Int) then 3 else 0, if False then 13 else 0, if 5 < (n : Int) then 20 else 0] = 0 := by
    rw [if_neg (by omega), if_neg (by simp), if_neg (by omega)]; rfl
  have hC : ((n * n * n * n : Nat) : Int) = (n : Int) * n * n * n := by push_cast; rfl
  refine pspec_of (md := 0) (rf := []) mixed tabOK cpRu_ok Try.func57 (by rfl) (by rfl) (by rfl) ?_
  repeat' (first | ((conv => whnf); refine And.intro ?_ ?_) | ((conv => whnf); with_reducible exact VC.mk rfl) | ((conv => whnf); exact Ok.mk) | ((conv => whnf); exact True.intro) | ((conv => whnf); refine Nx.mk ?_) | ((conv => whnf); refine Fin.mk ?_) | ((conv => whnf); intro _))
  all_goals ((try refine VC.mk ?_); (try simp only [CL.ncell, CL.cnt, Int.toNat_natCast, decide_eq_true_eq, decide_eq_false_iff_not, Bool.not_eq_true, Bool.not_false, Bool.not_true, and_self, and_true, true_and, te3b, te4b, te3s, te4s, Nat.mul_one, Nat.zero_add, List.length_cons, List.length_nil, Bool.false_eq_true, Bool.true_eq_false] at *); (try omega))
  all_goals (first | (exfalso; exact absurd ‹_ = (_ : ByteArray)› (by decide)) | (exfalso; exact absurd (rfl : kSq = kSq) ‹kSq ≠ kSq›) | (exfalso; exact absurd e0 ‹_›) | skip)
  conv => whnf
  refine loop_of (X := Nat) (fun i => i ≤ n * n * n * n) (fun i => [(12, .any), (13, .any), (15, .any), (38, .int .i64 i), (9, .isl (.recs 7 (rulesN n kSq i)) (.own 3))]) (fun i => [(3, .tok 7 (rulesN n kSq i).length)]) (fun i => n * n * n * n - i) 0 ⟨anyB_ok, mixed, tabOK, cpRu_ok, noY_ok⟩ (by rfl) (by omega) ?_ ?_
  · repeat' (first | ((conv => whnf); refine And.intro ?_ ?_) | ((conv => whnf); with_reducible exact VC.mk rfl) | ((conv => whnf); exact Ok.mk) | ((conv => whnf); exact True.intro) | ((conv => whnf); refine Nx.mk ?_) | ((conv => whnf); refine Fin.mk ?_) | ((conv => whnf); intro _))
    all_goals ((try refine VC.mk ?_); (try simp only [CL.ncell, CL.cnt, Int.toNat_natCast, decide_eq_true_eq, decide_eq_false_iff_not, Bool.not_eq_true, Bool.not_false, Bool.not_true, and_self, and_true, true_and, te3b, te4b, te3s, te4s, Nat.mul_one, Nat.zero_add, List.length_cons, List.length_nil, Bool.false_eq_true, Bool.true_eq_false] at *); (try omega))
  · intro i hi
    have hL := rulesN_len n kSq i
    have hS := rulesN_succ n kSq i
    have hA : admK n kSq i = isSq n (rx0 n i % n) (rx1 n i % n) (rb0 n i % n) (rb1 n i % n) := by unfold admK admB; rw [if_pos rfl]
    by_cases hlt : i < n * n * n * n
    · have d0 : ∀ m : Int, 0 < m → 0 ≤ (i : Int) / m ∧ (i : Int) / m ≤ i := fun m hm => ⟨Int.ediv_nonneg (by omega) (by omega), Int.ediv_le_self _ (by omega)⟩
      have m1 : 0 < (n : Int) * n := Int.mul_pos (by omega) (by omega)
      have m2 : 0 < (n : Int) * n * n := Int.mul_pos m1 (by omega)
      have q1 := d0 _ m2
      have q2 := d0 _ m1
      have q3 := d0 n (by omega)
      have r2 := Int.emod_nonneg ((i : Int) / ((n : Int) * n)) (show (n : Int) ≠ 0 by omega)
      have r3 := Int.emod_nonneg ((i : Int) / n) (show (n : Int) ≠ 0 by omega)
      have r4 := Int.emod_nonneg (i : Int) (show (n : Int) ≠ 0 by omega)
      have t2 := Int.emod_lt_of_pos ((i : Int) / ((n : Int) * n)) (show 0 < (n : Int) by omega)
      have t3 := Int.emod_lt_of_pos ((i : Int) / n) (show 0 < (n : Int) by omega)
      have t4 := Int.emod_lt_of_pos (i : Int) (show 0 < (n : Int) by omega)
      have hall := emod_all (show 1 ≤ (n : Int) by omega) 0 0 (rx0 n i) (rx1 n i) (rb0 n i) (rb1 n i)
      have hr : ∀ x ∈ [0, 0, rx0 n i, rx1 n i, rb0 n i, rb1 n i], -4611686018427387904 ≤ x ∧ x ≤ 4611686018427387904 := by
        intro x hx
        simp only [List.mem_cons, List.not_mem_nil, or_false] at hx
        unfold rx0 rx1 rb0 rb1 at hx
        omega
      repeat' (first | ((conv => whnf); refine And.intro ?_ ?_) | ((conv => whnf); with_reducible exact VC.mk rfl) | ((conv => whnf); exact Ok.mk) | ((conv => whnf); exact True.intro) | ((conv => whnf); refine Nx.mk ?_) | ((conv => whnf); refine Fin.mk ?_) | ((conv => whnf); intro _))
      all_goals ((try refine VC.mk ?_); (try simp only [CL.ncell, CL.cnt, Int.toNat_natCast, decide_eq_true_eq, decide_eq_false_iff_not, Bool.not_eq_true, Bool.not_false, Bool.not_true, and_self, and_true, true_and, te3b, te4b, te3s, te4s, Nat.mul_one, Nat.zero_add, List.length_cons, List.length_nil, Bool.false_eq_true, Bool.true_eq_false] at *); (try omega))
      all_goals (first | exact ⟨by omega, hr⟩ | exact ⟨by omega, hall⟩ | rfl | skip)
      all_goals clear hr hall d0
      all_goals (try simp only [chunk7])
      · rw [List.length_append, List.length_cons, List.length_nil]; omega
      · rename_i hq _
        have hT : admK n kSq i = true := hA.trans hq
        rw [if_pos hT] at hS
        refine ⟨i + 1, [], ⟨by omega, by omega⟩, ?_⟩
        repeat' (first | ((conv => whnf); refine And.intro ?_ ?_) | ((conv => whnf); with_reducible exact VC.mk rfl) | ((conv => whnf); exact Ok.mk) | ((conv => whnf); exact True.intro) | ((conv => whnf); refine Nx.mk ?_) | ((conv => whnf); refine Fin.mk ?_) | ((conv => whnf); intro _))
        all_goals ((try refine VC.mk ?_); (try simp only [CL.ncell, CL.cnt, Int.toNat_natCast, decide_eq_true_eq, decide_eq_false_iff_not, Bool.not_eq_true, Bool.not_false, Bool.not_true, and_self, and_true, true_and, te3b, te4b, te3s, te4s, Nat.mul_one, Nat.zero_add, List.length_cons, List.length_nil, Bool.false_eq_true, Bool.true_eq_false] at *); (try omega))
        all_goals (rw [hS]; first | rfl | (rw [List.length_append]; rfl))
      · rename_i hq _
        have hT : admK n kSq i = false := hA.trans hq
        rw [if_neg (by rw [hT]; simp)] at hS
        refine ⟨i + 1, [], ⟨by omega, by omega⟩, ?_⟩
        repeat' (first | ((conv => whnf); refine And.intro ?_ ?_) | ((conv => whnf); with_reducible exact VC.mk rfl) | ((conv => whnf); exact Ok.mk) | ((conv => whnf); exact True.intro) | ((conv => whnf); refine Nx.mk ?_) | ((conv => whnf); refine Fin.mk ?_) | ((conv => whnf); intro _))
        all_goals ((try refine VC.mk ?_); (try simp only [CL.ncell, CL.cnt, Int.toNat_natCast, decide_eq_true_eq, decide_eq_false_iff_not, Bool.not_eq_true, Bool.not_false, Bool.not_true, and_self, and_true, true_and, te3b, te4b, te3s, te4s, Nat.mul_one, Nat.zero_add, List.length_cons, List.length_nil, Bool.false_eq_true, Bool.true_eq_false] at *); (try omega))
        all_goals (rw [hS])
    · have e : n * n * n * n = i := by omega
      unfold rulesR
      rw [e]
      repeat' (first | ((conv => whnf); refine And.intro ?_ ?_) | ((conv => whnf); with_reducible exact VC.mk rfl) | ((conv => whnf); exact Ok.mk) | ((conv => whnf); exact True.intro) | ((conv => whnf); refine Nx.mk ?_) | ((conv => whnf); refine Fin.mk ?_) | ((conv => whnf); intro _))
      all_goals ((try refine VC.mk ?_); (try simp only [CL.ncell, CL.cnt, Int.toNat_natCast, decide_eq_true_eq, decide_eq_false_iff_not, Bool.not_eq_true, Bool.not_false, Bool.not_true, and_self, and_true, true_and, te3b, te4b, te3s, te4s, Nat.mul_one, Nat.zero_add, List.length_cons, List.length_nil, Bool.false_eq_true, Bool.true_eq_false] at *); (try omega))
      · rename_i hq
        rw [if_pos (by omega)]
        exact Sup.of rfl
      · rename_i hq
        rw [if_neg (by omega)]
        all_goals (first | (refine Sup.of ?_; first | rfl | (simp [*, resOf]; done)) | (refine Sup.via ?_; repeat' (first | ((conv => whnf); refine And.intro ?_ ?_) | ((conv => whnf); with_reducible exact VC.mk rfl) | ((conv => whnf); exact Ok.mk) | ((conv => whnf); exact True.intro) | ((conv => whnf); refine Nx.mk ?_) | ((conv => whnf); refine Fin.mk ?_) | ((conv => whnf); intro _)); all_goals ((try refine VC.mk ?_); (try simp only [CL.ncell, CL.cnt, Int.toNat_natCast, decide_eq_true_eq, decide_eq_false_iff_not, Bool.not_eq_true, Bool.not_false, Bool.not_true, and_self, and_true, true_and, te3b, te4b, te3s, te4s, Nat.mul_one, Nat.zero_add, List.length_cons, List.length_nil, Bool.false_eq_true, Bool.true_eq_false] at *); (try omega)); all_goals (try (simp [CL.sub]; done))))
theorem rules_semi (n : Nat) (hn : 1 ≤ n ∧ n ≤ 5) : PSpec Try.prog 57 [.int .i64 n, .str kSemi] (rulesR n kSemi) := by
  have b1 := mul_bd (A := 5) (B := 5) (show 0 ≤ (n : Int) ∧ (n : Int) ≤ 5 by omega) (show 0 ≤ (n : Int) ∧ (n : Int) ≤ 5 by omega)
  have b2 := mul_bd (A := 25) (B := 5) b1 (show 0 ≤ (n : Int) ∧ (n : Int) ≤ 5 by omega)
  have b3 := mul_bd (A := 125) (B := 5) b2 (show 0 ≤ (n : Int) ∧ (n : Int) ≤ 5 by omega)
  have e0 : firstOf [if (n : Int) < 1 ∨ 16 < (n : Int) then 3 else 0, if False then 13 else 0, if 5 < (n : Int) then 20 else 0] = 0 := by
    rw [if_neg (by omega), if_neg (by simp), if_neg (by omega)]; rfl
  have hC : ((n * n * n * n : Nat) : Int) = (n : Int) * n * n * n := by push_cast; rfl
  refine pspec_of (md := 0) (rf := []) mixed tabOK cpRu_ok Try.func57 (by rfl) (by rfl) (by rfl) ?_
  repeat' (first | ((conv => whnf); refine And.intro ?_ ?_) | ((conv => whnf); with_reducible exact VC.mk rfl) | ((conv => whnf); exact Ok.mk) | ((conv => whnf); exact True.intro) | ((conv => whnf); refine Nx.mk ?_) | ((conv => whnf); refine Fin.mk ?_) | ((conv => whnf); intro _))
  all_goals ((try refine VC.mk ?_); (try simp only [CL.ncell, CL.cnt, Int.toNat_natCast, decide_eq_true_eq, decide_eq_false_iff_not, Bool.not_eq_true, Bool.not_false, Bool.not_true, and_self, and_true, true_and, te3b, te4b, te3s, te4s, Nat.mul_one, Nat.zero_add, List.length_cons, List.length_nil, Bool.false_eq_true, Bool.true_eq_false] at *); (try omega))
  all_goals (first | (exfalso; exact absurd ‹_ = (_ : ByteArray)› (by decide)) | (exfalso; exact absurd (rfl : kSemi = kSemi) ‹kSemi ≠ kSemi›) | (exfalso; exact absurd e0 ‹_›) | skip)
  conv => whnf
  refine loop_of (X := Nat) (fun i => i ≤ n * n * n * n) (fun i => [(12, .any), (13, .any), (15, .any), (38, .int .i64 i), (9, .isl (.recs 7 (rulesN n kSemi i)) (.own 3))]) (fun i => [(3, .tok 7 (rulesN n kSemi i).length)]) (fun i => n * n * n * n - i) 0 ⟨anyB_ok, mixed, tabOK, cpRu_ok, noY_ok⟩ (by rfl) (by omega) ?_ ?_
  · repeat' (first | ((conv => whnf); refine And.intro ?_ ?_) | ((conv => whnf); with_reducible exact VC.mk rfl) | ((conv => whnf); exact Ok.mk) | ((conv => whnf); exact True.intro) | ((conv => whnf); refine Nx.mk ?_) | ((conv => whnf); refine Fin.mk ?_) | ((conv => whnf); intro _))
    all_goals ((try refine VC.mk ?_); (try simp only [CL.ncell, CL.cnt, Int.toNat_natCast, decide_eq_true_eq, decide_eq_false_iff_not, Bool.not_eq_true, Bool.not_false, Bool.not_true, and_self, and_true, true_and, te3b, te4b, te3s, te4s, Nat.mul_one, Nat.zero_add, List.length_cons, List.length_nil, Bool.false_eq_true, Bool.true_eq_false] at *); (try omega))
  · intro i hi
    have hL := rulesN_len n kSemi i
    have hS := rulesN_succ n kSemi i
    have hA : admK n kSemi i = isSemi n (rx0 n i % n) (rx1 n i % n) (rb0 n i % n) (rb1 n i % n) := by unfold admK admB; rw [if_neg (by decide), if_pos rfl]
    by_cases hlt : i < n * n * n * n
    · have d0 : ∀ m : Int, 0 < m → 0 ≤ (i : Int) / m ∧ (i : Int) / m ≤ i := fun m hm => ⟨Int.ediv_nonneg (by omega) (by omega), Int.ediv_le_self _ (by omega)⟩
      have m1 : 0 < (n : Int) * n := Int.mul_pos (by omega) (by omega)
      have m2 : 0 < (n : Int) * n * n := Int.mul_pos m1 (by omega)
      have q1 := d0 _ m2
      have q2 := d0 _ m1
      have q3 := d0 n (by omega)
      have r2 := Int.emod_nonneg ((i : Int) / ((n : Int) * n)) (show (n : Int) ≠ 0 by omega)
      have r3 := Int.emod_nonneg ((i : Int) / n) (show (n : Int) ≠ 0 by omega)
      have r4 := Int.emod_nonneg (i : Int) (show (n : Int) ≠ 0 by omega)
      have t2 := Int.emod_lt_of_pos ((i : Int) / ((n : Int) * n)) (show 0 < (n : Int) by omega)
      have t3 := Int.emod_lt_of_pos ((i : Int) / n) (show 0 < (n : Int) by omega)
      have t4 := Int.emod_lt_of_pos (i : Int) (show 0 < (n : Int) by omega)
      have hall := emod_all (show 1 ≤ (n : Int) by omega) 0 0 (rx0 n i) (rx1 n i) (rb0 n i) (rb1 n i)
      have hr : ∀ x ∈ [0, 0, rx0 n i, rx1 n i, rb0 n i, rb1 n i], -4611686018427387904 ≤ x ∧ x ≤ 4611686018427387904 := by
        intro x hx
        simp only [List.mem_cons, List.not_mem_nil, or_false] at hx
        unfold rx0 rx1 rb0 rb1 at hx
        omega
      repeat' (first | ((conv => whnf); refine And.intro ?_ ?_) | ((conv => whnf); with_reducible exact VC.mk rfl) | ((conv => whnf); exact Ok.mk) | ((conv => whnf); exact True.intro) | ((conv => whnf); refine Nx.mk ?_) | ((conv => whnf); refine Fin.mk ?_) | ((conv => whnf); intro _))
      all_goals ((try refine VC.mk ?_); (try simp only [CL.ncell, CL.cnt, Int.toNat_natCast, decide_eq_true_eq, decide_eq_false_iff_not, Bool.not_eq_true, Bool.not_false, Bool.not_true, and_self, and_true, true_and, te3b, te4b, te3s, te4s, Nat.mul_one, Nat.zero_add, List.length_cons, List.length_nil, Bool.false_eq_true, Bool.true_eq_false] at *); (try omega))
      all_goals (first | exact ⟨by omega, hr⟩ | exact ⟨by omega, hall⟩ | rfl | skip)
      all_goals clear hr hall d0
      all_goals (try simp only [chunk7])
      · rw [List.length_append, List.length_cons, List.length_nil]; omega
      · rename_i hq _
        have hT : admK n kSemi i = true := hA.trans hq
        rw [if_pos hT] at hS
        refine ⟨i + 1, [], ⟨by omega, by omega⟩, ?_⟩
        repeat' (first | ((conv => whnf); refine And.intro ?_ ?_) | ((conv => whnf); with_reducible exact VC.mk rfl) | ((conv => whnf); exact Ok.mk) | ((conv => whnf); exact True.intro) | ((conv => whnf); refine Nx.mk ?_) | ((conv => whnf); refine Fin.mk ?_) | ((conv => whnf); intro _))
        all_goals ((try refine VC.mk ?_); (try simp only [CL.ncell, CL.cnt, Int.toNat_natCast, decide_eq_true_eq, decide_eq_false_iff_not, Bool.not_eq_true, Bool.not_false, Bool.not_true, and_self, and_true, true_and, te3b, te4b, te3s, te4s, Nat.mul_one, Nat.zero_add, List.length_cons, List.length_nil, Bool.false_eq_true, Bool.true_eq_false] at *); (try omega))
        all_goals (rw [hS]; first | rfl | (rw [List.length_append]; rfl))
      · rename_i hq _
        have hT : admK n kSemi i = false := hA.trans hq
        rw [if_neg (by rw [hT]; simp)] at hS
        refine ⟨i + 1, [], ⟨by omega, by omega⟩, ?_⟩
        repeat' (first | ((conv => whnf); refine And.intro ?_ ?_) | ((conv => whnf); with_reducible exact VC.mk rfl) | ((conv => whnf); exact Ok.mk) | ((conv => whnf); exact True.intro) | ((conv => whnf); refine Nx.mk ?_) | ((conv => whnf); refine Fin.mk ?_) | ((conv => whnf); intro _))
        all_goals ((try refine VC.mk ?_); (try simp only [CL.ncell, CL.cnt, Int.toNat_natCast, decide_eq_true_eq, decide_eq_false_iff_not, Bool.not_eq_true, Bool.not_false, Bool.not_true, and_self, and_true, true_and, te3b, te4b, te3s, te4s, Nat.mul_one, Nat.zero_add, List.length_cons, List.length_nil, Bool.false_eq_true, Bool.true_eq_false] at *); (try omega))
        all_goals (rw [hS])
    · have e : n * n * n * n = i := by omega
      unfold rulesR
      rw [e]
      repeat' (first | ((conv => whnf); refine And.intro ?_ ?_) | ((conv => whnf); with_reducible exact VC.mk rfl) | ((conv => whnf); exact Ok.mk) | ((conv => whnf); exact True.intro) | ((conv => whnf); refine Nx.mk ?_) | ((conv => whnf); refine Fin.mk ?_) | ((conv => whnf); intro _))
      all_goals ((try refine VC.mk ?_); (try simp only [CL.ncell, CL.cnt, Int.toNat_natCast, decide_eq_true_eq, decide_eq_false_iff_not, Bool.not_eq_true, Bool.not_false, Bool.not_true, and_self, and_true, true_and, te3b, te4b, te3s, te4s, Nat.mul_one, Nat.zero_add, List.length_cons, List.length_nil, Bool.false_eq_true, Bool.true_eq_false] at *); (try omega))
      · rename_i hq
        rw [if_pos (by omega)]
        exact Sup.of rfl
      · rename_i hq
        rw [if_neg (by omega)]
        all_goals (first | (refine Sup.of ?_; first | rfl | (simp [*, resOf]; done)) | (refine Sup.via ?_; repeat' (first | ((conv => whnf); refine And.intro ?_ ?_) | ((conv => whnf); with_reducible exact VC.mk rfl) | ((conv => whnf); exact Ok.mk) | ((conv => whnf); exact True.intro) | ((conv => whnf); refine Nx.mk ?_) | ((conv => whnf); refine Fin.mk ?_) | ((conv => whnf); intro _)); all_goals ((try refine VC.mk ?_); (try simp only [CL.ncell, CL.cnt, Int.toNat_natCast, decide_eq_true_eq, decide_eq_false_iff_not, Bool.not_eq_true, Bool.not_false, Bool.not_true, and_self, and_true, true_and, te3b, te4b, te3s, te4s, Nat.mul_one, Nat.zero_add, List.length_cons, List.length_nil, Bool.false_eq_true, Bool.true_eq_false] at *); (try omega)); all_goals (try (simp [CL.sub]; done))))
theorem rules_mag (n : Nat) (hn : 1 ≤ n ∧ n ≤ 5) : PSpec Try.prog 57 [.int .i64 n, .str kMag] (rulesR n kMag) := by
  have b1 := mul_bd (A := 5) (B := 5) (show 0 ≤ (n : Int) ∧ (n : Int) ≤ 5 by omega) (show 0 ≤ (n : Int) ∧ (n : Int) ≤ 5 by omega)
  have b2 := mul_bd (A := 25) (B := 5) b1 (show 0 ≤ (n : Int) ∧ (n : Int) ≤ 5 by omega)
  have b3 := mul_bd (A := 125) (B := 5) b2 (show 0 ≤ (n : Int) ∧ (n : Int) ≤ 5 by omega)
  have e0 : firstOf [if (n : Int) < 1 ∨ 16 < (n : Int) then 3 else 0, if False then 13 else 0, if 5 < (n : Int) then 20 else 0] = 0 := by
    rw [if_neg (by omega), if_neg (by simp), if_neg (by omega)]; rfl
  have hC : ((n * n * n * n : Nat) : Int) = (n : Int) * n * n * n := by push_cast; rfl
  refine pspec_of (md := 0) (rf := []) mixed tabOK cpRu_ok Try.func57 (by rfl) (by rfl) (by rfl) ?_
  repeat' (first | ((conv => whnf); refine And.intro ?_ ?_) | ((conv => whnf); with_reducible exact VC.mk rfl) | ((conv => whnf); exact Ok.mk) | ((conv => whnf); exact True.intro) | ((conv => whnf); refine Nx.mk ?_) | ((conv => whnf); refine Fin.mk ?_) | ((conv => whnf); intro _))
  all_goals ((try refine VC.mk ?_); (try simp only [CL.ncell, CL.cnt, Int.toNat_natCast, decide_eq_true_eq, decide_eq_false_iff_not, Bool.not_eq_true, Bool.not_false, Bool.not_true, and_self, and_true, true_and, te3b, te4b, te3s, te4s, Nat.mul_one, Nat.zero_add, List.length_cons, List.length_nil, Bool.false_eq_true, Bool.true_eq_false] at *); (try omega))
  all_goals (first | (exfalso; exact absurd ‹_ = (_ : ByteArray)› (by decide)) | (exfalso; exact absurd (rfl : kMag = kMag) ‹kMag ≠ kMag›) | (exfalso; exact absurd e0 ‹_›) | skip)
  conv => whnf
  refine loop_of (X := Nat) (fun i => i ≤ n * n * n * n) (fun i => [(12, .any), (13, .any), (15, .any), (38, .int .i64 i), (9, .isl (.recs 7 (rulesN n kMag i)) (.own 3))]) (fun i => [(3, .tok 7 (rulesN n kMag i).length)]) (fun i => n * n * n * n - i) 0 ⟨anyB_ok, mixed, tabOK, cpRu_ok, noY_ok⟩ (by rfl) (by omega) ?_ ?_
  · repeat' (first | ((conv => whnf); refine And.intro ?_ ?_) | ((conv => whnf); with_reducible exact VC.mk rfl) | ((conv => whnf); exact Ok.mk) | ((conv => whnf); exact True.intro) | ((conv => whnf); refine Nx.mk ?_) | ((conv => whnf); refine Fin.mk ?_) | ((conv => whnf); intro _))
    all_goals ((try refine VC.mk ?_); (try simp only [CL.ncell, CL.cnt, Int.toNat_natCast, decide_eq_true_eq, decide_eq_false_iff_not, Bool.not_eq_true, Bool.not_false, Bool.not_true, and_self, and_true, true_and, te3b, te4b, te3s, te4s, Nat.mul_one, Nat.zero_add, List.length_cons, List.length_nil, Bool.false_eq_true, Bool.true_eq_false] at *); (try omega))
  · intro i hi
    have hL := rulesN_len n kMag i
    have hS := rulesN_succ n kMag i
    have hA : admK n kMag i = isMag n (0 % n) (0 % n) (rx0 n i % n) (rx1 n i % n) (rb0 n i % n) (rb1 n i % n) := by unfold admK admB; rw [if_neg (by decide), if_neg (by decide), if_pos rfl]
    by_cases hlt : i < n * n * n * n
    · have d0 : ∀ m : Int, 0 < m → 0 ≤ (i : Int) / m ∧ (i : Int) / m ≤ i := fun m hm => ⟨Int.ediv_nonneg (by omega) (by omega), Int.ediv_le_self _ (by omega)⟩
      have m1 : 0 < (n : Int) * n := Int.mul_pos (by omega) (by omega)
      have m2 : 0 < (n : Int) * n * n := Int.mul_pos m1 (by omega)
      have q1 := d0 _ m2
      have q2 := d0 _ m1
      have q3 := d0 n (by omega)
      have r2 := Int.emod_nonneg ((i : Int) / ((n : Int) * n)) (show (n : Int) ≠ 0 by omega)
      have r3 := Int.emod_nonneg ((i : Int) / n) (show (n : Int) ≠ 0 by omega)
      have r4 := Int.emod_nonneg (i : Int) (show (n : Int) ≠ 0 by omega)
      have t2 := Int.emod_lt_of_pos ((i : Int) / ((n : Int) * n)) (show 0 < (n : Int) by omega)
      have t3 := Int.emod_lt_of_pos ((i : Int) / n) (show 0 < (n : Int) by omega)
      have t4 := Int.emod_lt_of_pos (i : Int) (show 0 < (n : Int) by omega)
      have hall := emod_all (show 1 ≤ (n : Int) by omega) 0 0 (rx0 n i) (rx1 n i) (rb0 n i) (rb1 n i)
      have hr : ∀ x ∈ [0, 0, rx0 n i, rx1 n i, rb0 n i, rb1 n i], -4611686018427387904 ≤ x ∧ x ≤ 4611686018427387904 := by
        intro x hx
        simp only [List.mem_cons, List.not_mem_nil, or_false] at hx
        unfold rx0 rx1 rb0 rb1 at hx
        omega
      repeat' (first | ((conv => whnf); refine And.intro ?_ ?_) | ((conv => whnf); with_reducible exact VC.mk rfl) | ((conv => whnf); exact Ok.mk) | ((conv => whnf); exact True.intro) | ((conv => whnf); refine Nx.mk ?_) | ((conv => whnf); refine Fin.mk ?_) | ((conv => whnf); intro _))
      all_goals ((try refine VC.mk ?_); (try simp only [CL.ncell, CL.cnt, Int.toNat_natCast, decide_eq_true_eq, decide_eq_false_iff_not, Bool.not_eq_true, Bool.not_false, Bool.not_true, and_self, and_true, true_and, te3b, te4b, te3s, te4s, Nat.mul_one, Nat.zero_add, List.length_cons, List.length_nil, Bool.false_eq_true, Bool.true_eq_false] at *); (try omega))
      all_goals (first | exact ⟨by omega, hr⟩ | exact ⟨by omega, hall⟩ | rfl | skip)
      all_goals clear hr hall d0
      all_goals (try simp only [chunk7])
      · rw [List.length_append, List.length_cons, List.length_nil]; omega
      · rename_i hq _
        have hT : admK n kMag i = true := hA.trans hq
        rw [if_pos hT] at hS
        refine ⟨i + 1, [], ⟨by omega, by omega⟩, ?_⟩
        repeat' (first | ((conv => whnf); refine And.intro ?_ ?_) | ((conv => whnf); with_reducible exact VC.mk rfl) | ((conv => whnf); exact Ok.mk) | ((conv => whnf); exact True.intro) | ((conv => whnf); refine Nx.mk ?_) | ((conv => whnf); refine Fin.mk ?_) | ((conv => whnf); intro _))
        all_goals ((try refine VC.mk ?_); (try simp only [CL.ncell, CL.cnt, Int.toNat_natCast, decide_eq_true_eq, decide_eq_false_iff_not, Bool.not_eq_true, Bool.not_false, Bool.not_true, and_self, and_true, true_and, te3b, te4b, te3s, te4s, Nat.mul_one, Nat.zero_add, List.length_cons, List.length_nil, Bool.false_eq_true, Bool.true_eq_false] at *); (try omega))
        all_goals (rw [hS]; first | rfl | (rw [List.length_append]; rfl))
      · rename_i hq _
        have hT : admK n kMag i = false := hA.trans hq
        rw [if_neg (by rw [hT]; simp)] at hS
        refine ⟨i + 1, [], ⟨by omega, by omega⟩, ?_⟩
        repeat' (first | ((conv => whnf); refine And.intro ?_ ?_) | ((conv => whnf); with_reducible exact VC.mk rfl) | ((conv => whnf); exact Ok.mk) | ((conv => whnf); exact True.intro) | ((conv => whnf); refine Nx.mk ?_) | ((conv => whnf); refine Fin.mk ?_) | ((conv => whnf); intro _))
        all_goals ((try refine VC.mk ?_); (try simp only [CL.ncell, CL.cnt, Int.toNat_natCast, decide_eq_true_eq, decide_eq_false_iff_not, Bool.not_eq_true, Bool.not_false, Bool.not_true, and_self, and_true, true_and, te3b, te4b, te3s, te4s, Nat.mul_one, Nat.zero_add, List.length_cons, List.length_nil, Bool.false_eq_true, Bool.true_eq_false] at *); (try omega))
        all_goals (rw [hS])
    · have e : n * n * n * n = i := by omega
      unfold rulesR
      rw [e]
      repeat' (first | ((conv => whnf); refine And.intro ?_ ?_) | ((conv => whnf); with_reducible exact VC.mk rfl) | ((conv => whnf); exact Ok.mk) | ((conv => whnf); exact True.intro) | ((conv => whnf); refine Nx.mk ?_) | ((conv => whnf); refine Fin.mk ?_) | ((conv => whnf); intro _))
      all_goals ((try refine VC.mk ?_); (try simp only [CL.ncell, CL.cnt, Int.toNat_natCast, decide_eq_true_eq, decide_eq_false_iff_not, Bool.not_eq_true, Bool.not_false, Bool.not_true, and_self, and_true, true_and, te3b, te4b, te3s, te4s, Nat.mul_one, Nat.zero_add, List.length_cons, List.length_nil, Bool.false_eq_true, Bool.true_eq_false] at *); (try omega))
      · rename_i hq
        rw [if_pos (by omega)]
        exact Sup.of rfl
      · rename_i hq
        rw [if_neg (by omega)]
        all_goals (first | (refine Sup.of ?_; first | rfl | (simp [*, resOf]; done)) | (refine Sup.via ?_; repeat' (first | ((conv => whnf); refine And.intro ?_ ?_) | ((conv => whnf); with_reducible exact VC.mk rfl) | ((conv => whnf); exact Ok.mk) | ((conv => whnf); exact True.intro) | ((conv => whnf); refine Nx.mk ?_) | ((conv => whnf); refine Fin.mk ?_) | ((conv => whnf); intro _)); all_goals ((try refine VC.mk ?_); (try simp only [CL.ncell, CL.cnt, Int.toNat_natCast, decide_eq_true_eq, decide_eq_false_iff_not, Bool.not_eq_true, Bool.not_false, Bool.not_true, and_self, and_true, true_and, te3b, te4b, te3s, te4s, Nat.mul_one, Nat.zero_add, List.length_cons, List.length_nil, Bool.false_eq_true, Bool.true_eq_false] at *); (try omega)); all_goals (try (simp [CL.sub]; done))))
theorem rules_pan (n : Nat) (hn : 1 ≤ n ∧ n ≤ 5) : PSpec Try.prog 57 [.int .i64 n, .str kPan] (rulesR n kPan) := by
  have b1 := mul_bd (A := 5) (B := 5) (show 0 ≤ (n : Int) ∧ (n : Int) ≤ 5 by omega) (show 0 ≤ (n : Int) ∧ (n : Int) ≤ 5 by omega)
  have b2 := mul_bd (A := 25) (B := 5) b1 (show 0 ≤ (n : Int) ∧ (n : Int) ≤ 5 by omega)
  have b3 := mul_bd (A := 125) (B := 5) b2 (show 0 ≤ (n : Int) ∧ (n : Int) ≤ 5 by omega)
  have e0 : firstOf [if (n : Int) < 1 ∨ 16 < (n : Int) then 3 else 0, if False then 13 else 0, if 5 < (n : Int) then 20 else 0] = 0 := by
    rw [if_neg (by omega), if_neg (by simp), if_neg (by omega)]; rfl
  have hC : ((n * n * n * n : Nat) : Int) = (n : Int) * n * n * n := by push_cast; rfl
  refine pspec_of (md := 0) (rf := []) mixed tabOK cpRu_ok Try.func57 (by rfl) (by rfl) (by rfl) ?_
  repeat' (first | ((conv => whnf); refine And.intro ?_ ?_) | ((conv => whnf); with_reducible exact VC.mk rfl) | ((conv => whnf); exact Ok.mk) | ((conv => whnf); exact True.intro) | ((conv => whnf); refine Nx.mk ?_) | ((conv => whnf); refine Fin.mk ?_) | ((conv => whnf); intro _))
  all_goals ((try refine VC.mk ?_); (try simp only [CL.ncell, CL.cnt, Int.toNat_natCast, decide_eq_true_eq, decide_eq_false_iff_not, Bool.not_eq_true, Bool.not_false, Bool.not_true, and_self, and_true, true_and, te3b, te4b, te3s, te4s, Nat.mul_one, Nat.zero_add, List.length_cons, List.length_nil, Bool.false_eq_true, Bool.true_eq_false] at *); (try omega))
  all_goals (first | (exfalso; exact absurd ‹_ = (_ : ByteArray)› (by decide)) | (exfalso; exact absurd (rfl : kPan = kPan) ‹kPan ≠ kPan›) | (exfalso; exact absurd e0 ‹_›) | skip)
  conv => whnf
  refine loop_of (X := Nat) (fun i => i ≤ n * n * n * n) (fun i => [(12, .any), (13, .any), (15, .any), (38, .int .i64 i), (9, .isl (.recs 7 (rulesN n kPan i)) (.own 3))]) (fun i => [(3, .tok 7 (rulesN n kPan i).length)]) (fun i => n * n * n * n - i) 0 ⟨anyB_ok, mixed, tabOK, cpRu_ok, noY_ok⟩ (by rfl) (by omega) ?_ ?_
  · repeat' (first | ((conv => whnf); refine And.intro ?_ ?_) | ((conv => whnf); with_reducible exact VC.mk rfl) | ((conv => whnf); exact Ok.mk) | ((conv => whnf); exact True.intro) | ((conv => whnf); refine Nx.mk ?_) | ((conv => whnf); refine Fin.mk ?_) | ((conv => whnf); intro _))
    all_goals ((try refine VC.mk ?_); (try simp only [CL.ncell, CL.cnt, Int.toNat_natCast, decide_eq_true_eq, decide_eq_false_iff_not, Bool.not_eq_true, Bool.not_false, Bool.not_true, and_self, and_true, true_and, te3b, te4b, te3s, te4s, Nat.mul_one, Nat.zero_add, List.length_cons, List.length_nil, Bool.false_eq_true, Bool.true_eq_false] at *); (try omega))
  · intro i hi
    have hL := rulesN_len n kPan i
    have hS := rulesN_succ n kPan i
    have hA : admK n kPan i = isPan n (rx0 n i % n) (rx1 n i % n) (rb0 n i % n) (rb1 n i % n) := by unfold admK admB; rw [if_neg (by decide), if_neg (by decide), if_neg (by decide)]
    by_cases hlt : i < n * n * n * n
    · have d0 : ∀ m : Int, 0 < m → 0 ≤ (i : Int) / m ∧ (i : Int) / m ≤ i := fun m hm => ⟨Int.ediv_nonneg (by omega) (by omega), Int.ediv_le_self _ (by omega)⟩
      have m1 : 0 < (n : Int) * n := Int.mul_pos (by omega) (by omega)
      have m2 : 0 < (n : Int) * n * n := Int.mul_pos m1 (by omega)
      have q1 := d0 _ m2
      have q2 := d0 _ m1
      have q3 := d0 n (by omega)
      have r2 := Int.emod_nonneg ((i : Int) / ((n : Int) * n)) (show (n : Int) ≠ 0 by omega)
      have r3 := Int.emod_nonneg ((i : Int) / n) (show (n : Int) ≠ 0 by omega)
      have r4 := Int.emod_nonneg (i : Int) (show (n : Int) ≠ 0 by omega)
      have t2 := Int.emod_lt_of_pos ((i : Int) / ((n : Int) * n)) (show 0 < (n : Int) by omega)
      have t3 := Int.emod_lt_of_pos ((i : Int) / n) (show 0 < (n : Int) by omega)
      have t4 := Int.emod_lt_of_pos (i : Int) (show 0 < (n : Int) by omega)
      have hall := emod_all (show 1 ≤ (n : Int) by omega) 0 0 (rx0 n i) (rx1 n i) (rb0 n i) (rb1 n i)
      have hr : ∀ x ∈ [0, 0, rx0 n i, rx1 n i, rb0 n i, rb1 n i], -4611686018427387904 ≤ x ∧ x ≤ 4611686018427387904 := by
        intro x hx
        simp only [List.mem_cons, List.not_mem_nil, or_false] at hx
        unfold rx0 rx1 rb0 rb1 at hx
        omega
      repeat' (first | ((conv => whnf); refine And.intro ?_ ?_) | ((conv => whnf); with_reducible exact VC.mk rfl) | ((conv => whnf); exact Ok.mk) | ((conv => whnf); exact True.intro) | ((conv => whnf); refine Nx.mk ?_) | ((conv => whnf); refine Fin.mk ?_) | ((conv => whnf); intro _))
      all_goals ((try refine VC.mk ?_); (try simp only [CL.ncell, CL.cnt, Int.toNat_natCast, decide_eq_true_eq, decide_eq_false_iff_not, Bool.not_eq_true, Bool.not_false, Bool.not_true, and_self, and_true, true_and, te3b, te4b, te3s, te4s, Nat.mul_one, Nat.zero_add, List.length_cons, List.length_nil, Bool.false_eq_true, Bool.true_eq_false] at *); (try omega))
      all_goals (first | exact ⟨by omega, hr⟩ | exact ⟨by omega, hall⟩ | rfl | skip)
      all_goals clear hr hall d0
      all_goals (try simp only [chunk7])
      · rw [List.length_append, List.length_cons, List.length_nil]; omega
      · rename_i hq _
        have hT : admK n kPan i = true := hA.trans hq
        rw [if_pos hT] at hS
        refine ⟨i + 1, [], ⟨by omega, by omega⟩, ?_⟩
        repeat' (first | ((conv => whnf); refine And.intro ?_ ?_) | ((conv => whnf); with_reducible exact VC.mk rfl) | ((conv => whnf); exact Ok.mk) | ((conv => whnf); exact True.intro) | ((conv => whnf); refine Nx.mk ?_) | ((conv => whnf); refine Fin.mk ?_) | ((conv => whnf); intro _))
        all_goals ((try refine VC.mk ?_); (try simp only [CL.ncell, CL.cnt, Int.toNat_natCast, decide_eq_true_eq, decide_eq_false_iff_not, Bool.not_eq_true, Bool.not_false, Bool.not_true, and_self, and_true, true_and, te3b, te4b, te3s, te4s, Nat.mul_one, Nat.zero_add, List.length_cons, List.length_nil, Bool.false_eq_true, Bool.true_eq_false] at *); (try omega))
        all_goals (rw [hS]; first | rfl | (rw [List.length_append]; rfl))
      · rename_i hq _
        have hT : admK n kPan i = false := hA.trans hq
        rw [if_neg (by rw [hT]; simp)] at hS
        refine ⟨i + 1, [], ⟨by omega, by omega⟩, ?_⟩
        repeat' (first | ((conv => whnf); refine And.intro ?_ ?_) | ((conv => whnf); with_reducible exact VC.mk rfl) | ((conv => whnf); exact Ok.mk) | ((conv => whnf); exact True.intro) | ((conv => whnf); refine Nx.mk ?_) | ((conv => whnf); refine Fin.mk ?_) | ((conv => whnf); intro _))
        all_goals ((try refine VC.mk ?_); (try simp only [CL.ncell, CL.cnt, Int.toNat_natCast, decide_eq_true_eq, decide_eq_false_iff_not, Bool.not_eq_true, Bool.not_false, Bool.not_true, and_self, and_true, true_and, te3b, te4b, te3s, te4s, Nat.mul_one, Nat.zero_add, List.length_cons, List.length_nil, Bool.false_eq_true, Bool.true_eq_false] at *); (try omega))
        all_goals (rw [hS])
    · have e : n * n * n * n = i := by omega
      unfold rulesR
      rw [e]
      repeat' (first | ((conv => whnf); refine And.intro ?_ ?_) | ((conv => whnf); with_reducible exact VC.mk rfl) | ((conv => whnf); exact Ok.mk) | ((conv => whnf); exact True.intro) | ((conv => whnf); refine Nx.mk ?_) | ((conv => whnf); refine Fin.mk ?_) | ((conv => whnf); intro _))
      all_goals ((try refine VC.mk ?_); (try simp only [CL.ncell, CL.cnt, Int.toNat_natCast, decide_eq_true_eq, decide_eq_false_iff_not, Bool.not_eq_true, Bool.not_false, Bool.not_true, and_self, and_true, true_and, te3b, te4b, te3s, te4s, Nat.mul_one, Nat.zero_add, List.length_cons, List.length_nil, Bool.false_eq_true, Bool.true_eq_false] at *); (try omega))
      · rename_i hq
        rw [if_pos (by omega)]
        exact Sup.of rfl
      · rename_i hq
        rw [if_neg (by omega)]
        all_goals (first | (refine Sup.of ?_; first | rfl | (simp [*, resOf]; done)) | (refine Sup.via ?_; repeat' (first | ((conv => whnf); refine And.intro ?_ ?_) | ((conv => whnf); with_reducible exact VC.mk rfl) | ((conv => whnf); exact Ok.mk) | ((conv => whnf); exact True.intro) | ((conv => whnf); refine Nx.mk ?_) | ((conv => whnf); refine Fin.mk ?_) | ((conv => whnf); intro _)); all_goals ((try refine VC.mk ?_); (try simp only [CL.ncell, CL.cnt, Int.toNat_natCast, decide_eq_true_eq, decide_eq_false_iff_not, Bool.not_eq_true, Bool.not_false, Bool.not_true, and_self, and_true, true_and, te3b, te4b, te3s, te4s, Nat.mul_one, Nat.zero_add, List.length_cons, List.length_nil, Bool.false_eq_true, Bool.true_eq_false] at *); (try omega)); all_goals (try (simp [CL.sub]; done))))
theorem rules_good (n : Nat) (hn : 1 ≤ n ∧ n ≤ 5) {s : ByteArray} (hs : kindErr s = 0) : PSpec Try.prog 57 [.int .i64 n, .str s] (rulesR n s) := by
  unfold kindErr at hs
  split at hs
  · rename_i h
    rcases h with rfl | rfl | rfl | rfl
    · exact rules_sq n hn
    · exact rules_semi n hn
    · exact rules_mag n hn
    · exact rules_pan n hn
  · omega
end Go.Eng.Ytppflbccfdbogaa
namespace Go.Eng.Ytppflbccfdbogaa
open Go.Proofs
set_option maxRecDepth 100000
set_option maxHeartbeats 0
set_option linter.unusedVariables false
set_option linter.unusedSimpArgs false
/-- the reference's refusal of a rule with a number -/
theorem refused_of {n s0 s1 x0 x1 b0 b1 : Int} {s : ByteArray} (hz : stepErr n s0 s1 x0 x1 b0 b1 = 0) (hk : kindErr s = 0) : ∃ (k : ByteArray) (a b : Int) (l : List Int) (q : Int),
    PSpec Try.prog 22 [stepV n s0 s1 x0 x1 b0 b1, .str s] (.tup [refV k a b l q, .bp (!admB n s0 s1 x0 x1 b0 b1 s)]) := by
  obtain ⟨h1, h2⟩ := stepErr_zero hz
  have hE := exact_adm (s0 := s0) (s1 := s1) (x0 := x0) (x1 := x1) (b0 := b0) (b1 := b1) h1 hk
  obtain ⟨m, rfl⟩ : ∃ m : Nat, n = m := ⟨n.toNat, by omega⟩
  have hB := rRefuse_spec m s0 s1 x0 x1 b0 b1 s (by omega) h2
  rw [Int.toNat_natCast] at hE
  unfold refuseR at hB
  generalize cellS (m : Int) s0 s1 x0 x1 b0 b1 = c at *
  cases hm : meetOf c (m * m) with
  | some y =>
    rw [hm] at hB hE
    have : admB m s0 s1 x0 x1 b0 b1 s = false := by
      cases h : admB m s0 s1 x0 x1 b0 b1 s with
      | false => rfl
      | true => have := (hE.1 h).1; cases this
    rw [this]
    exact ⟨_, _, _, _, _, hB⟩
  | none =>
    rw [hm] at hB hE
    cases hb : badLine m (gOf s) (gAt c (m * m) (m * m)) with
    | some i =>
      rw [hb] at hB hE
      have : admB m s0 s1 x0 x1 b0 b1 s = false := by
        cases h : admB m s0 s1 x0 x1 b0 b1 s with
        | false => rfl
        | true => have := (hE.1 h).2; cases this
      rw [this]
      exact ⟨_, _, _, _, _, hB⟩
    | none =>
      rw [hb] at hB hE
      rw [hE.2 ⟨rfl, rfl⟩]
      exact ⟨_, _, _, _, _, hB⟩
def refusedP (s : ByteArray) : PSp := fun xs K => match xs with
  | [.agg [.int .i64 n, .int .i64 s0, .int .i64 s1, .int .i64 x0, .int .i64 x1, .int .i64 b0, .int .i64 b1], .str t] => VC (stepErr n s0 s1 x0 x1 b0 b1 = 0 ∧ kindErr s = 0 ∧ t = s) ∧ ∀ k a b l q, K (.tup [refV k a b l q, .bp (!admB n s0 s1 x0 x1 b0 b1 s)])
  | _ => False
theorem refused_ok (s : ByteArray) : POK Try.prog 22 (refusedP s) := by
  intro xs K h
  unfold refusedP at h
  split at h
  · obtain ⟨⟨h1, h2, rfl⟩, h⟩ := h
    obtain ⟨k, a, b, l, q, hs⟩ := refused_of h1 h2
    exact ⟨_, h k a b l q, hs⟩
  · exact h.elim
theorem rRules_spec (n : Nat) (hn : 1 ≤ n ∧ n ≤ 5) {s : ByteArray} (hs : kindErr s = 0) : PSpec Try.prog 58 [.int .i64 n, .str s] (.isl (.recs 7 (rulesN n s (n * n * n * n))) .none) := by
  have hC := cpAdd_ok (pureCC_ok (refused_ok s)) noC_ok
  have b1 := mul_bd (A := 5) (B := 5) (show 0 ≤ (n : Int) ∧ (n : Int) ≤ 5 by omega) (show 0 ≤ (n : Int) ∧ (n : Int) ≤ 5 by omega)
  have b2 := mul_bd (A := 25) (B := 5) b1 (show 0 ≤ (n : Int) ∧ (n : Int) ≤ 5 by omega)
  have b3 := mul_bd (A := 125) (B := 5) b2 (show 0 ≤ (n : Int) ∧ (n : Int) ≤ 5 by omega)
  have hCa : ((n * n * n * n : Nat) : Int) = (n : Int) * n * n * n := by push_cast; rfl
  refine pspec_of (md := 0) (rf := []) mixed tabOK hC Try.func58 (by rfl) (by rfl) (by rfl) ?_
  repeat' (first | ((conv => whnf); refine And.intro ?_ ?_) | ((conv => whnf); with_reducible exact VC.mk rfl) | ((conv => whnf); exact Ok.mk) | ((conv => whnf); exact True.intro) | ((conv => whnf); refine Nx.mk ?_) | ((conv => whnf); refine Fin.mk ?_) | ((conv => whnf); intro _))
  all_goals ((try refine VC.mk ?_); (try simp only [CL.ncell, CL.cnt, Int.toNat_natCast, decide_eq_true_eq, decide_eq_false_iff_not, Bool.not_eq_true, Bool.not_false, Bool.not_true, and_self, and_true, true_and, te3b, te4b, te3s, te4s, Nat.mul_one, Nat.zero_add, List.length_cons, List.length_nil, Bool.false_eq_true, Bool.true_eq_false] at *); (try omega))
  conv => whnf
  refine loop_of (X := Nat) (fun i => i ≤ n * n * n * n) (fun i => [(47, .any), (50, .any), (51, .any), (6, .int .i64 i), (5, .isl (.recs 7 (rulesN n s i)) (.own 3))]) (fun i => [(3, .tok 7 (rulesN n s i).length)]) (fun i => n * n * n * n - i) 0 ⟨anyB_ok, mixed, tabOK, hC, noY_ok⟩ (by rfl) (by omega) ?_ ?_
  · repeat' (first | ((conv => whnf); refine And.intro ?_ ?_) | ((conv => whnf); with_reducible exact VC.mk rfl) | ((conv => whnf); exact Ok.mk) | ((conv => whnf); exact True.intro) | ((conv => whnf); refine Nx.mk ?_) | ((conv => whnf); refine Fin.mk ?_) | ((conv => whnf); intro _))
    all_goals ((try refine VC.mk ?_); (try simp only [CL.ncell, CL.cnt, Int.toNat_natCast, decide_eq_true_eq, decide_eq_false_iff_not, Bool.not_eq_true, Bool.not_false, Bool.not_true, and_self, and_true, true_and, te3b, te4b, te3s, te4s, Nat.mul_one, Nat.zero_add, List.length_cons, List.length_nil, Bool.false_eq_true, Bool.true_eq_false] at *); (try omega))
  · intro i hi
    have hL := rulesN_len n s i
    have hS := rulesN_succ n s i
    by_cases hlt : i < n * n * n * n
    · have d0 : ∀ m : Int, 0 < m → 0 ≤ (i : Int) / m ∧ (i : Int) / m ≤ i := fun m hm => ⟨Int.ediv_nonneg (by omega) (by omega), Int.ediv_le_self _ (by omega)⟩
      have m1 : 0 < (n : Int) * n := Int.mul_pos (by omega) (by omega)
      have m2 : 0 < (n : Int) * n * n := Int.mul_pos m1 (by omega)
      have q1 := d0 _ m2
      have q2 := d0 _ m1
      have q3 := d0 n (by omega)
      have r2 := Int.emod_nonneg ((i : Int) / ((n : Int) * n)) (show (n : Int) ≠ 0 by omega)
      have r3 := Int.emod_nonneg ((i : Int) / n) (show (n : Int) ≠ 0 by omega)
      have r4 := Int.emod_nonneg (i : Int) (show (n : Int) ≠ 0 by omega)
      have t2 := Int.emod_lt_of_pos ((i : Int) / ((n : Int) * n)) (show 0 < (n : Int) by omega)
      have t3 := Int.emod_lt_of_pos ((i : Int) / n) (show 0 < (n : Int) by omega)
      have t4 := Int.emod_lt_of_pos (i : Int) (show 0 < (n : Int) by omega)
      have hz : stepErr n 0 0 (rx0 n i) (rx1 n i) (rb0 n i) (rb1 n i) = 0 := by
        unfold stepErr
        rw [if_neg]
        rintro (h | h)
        · omega
        · simp only [List.any_cons, List.any_nil, Bool.or_false, Bool.or_eq_true, farB, decide_eq_true_eq] at h
          unfold rx0 rx1 rb0 rb1 at h
          omega
      repeat' (first | ((conv => whnf); refine And.intro ?_ ?_) | ((conv => whnf); with_reducible exact VC.mk rfl) | ((conv => whnf); exact Ok.mk) | ((conv => whnf); exact True.intro) | ((conv => whnf); refine Nx.mk ?_) | ((conv => whnf); refine Fin.mk ?_) | ((conv => whnf); intro _))
      all_goals ((try refine VC.mk ?_); (try simp only [CL.ncell, CL.cnt, Int.toNat_natCast, decide_eq_true_eq, decide_eq_false_iff_not, Bool.not_eq_true, Bool.not_false, Bool.not_true, and_self, and_true, true_and, te3b, te4b, te3s, te4s, Nat.mul_one, Nat.zero_add, List.length_cons, List.length_nil, Bool.false_eq_true, Bool.true_eq_false] at *); (try omega))
      all_goals (first | exact ⟨hz, hs⟩ | rfl | skip)
      all_goals clear hz d0
      all_goals (try simp only [chunk7])
      · rw [List.length_append, List.length_cons, List.length_nil]; omega
      · rename_i hq _
        have hT : admK n s i = true := by rw [Bool.not_not] at hq; exact hq
        rw [if_pos hT] at hS
        refine ⟨i + 1, [], ⟨by omega, by omega⟩, ?_⟩
        repeat' (first | ((conv => whnf); refine And.intro ?_ ?_) | ((conv => whnf); with_reducible exact VC.mk rfl) | ((conv => whnf); exact Ok.mk) | ((conv => whnf); exact True.intro) | ((conv => whnf); refine Nx.mk ?_) | ((conv => whnf); refine Fin.mk ?_) | ((conv => whnf); intro _))
        all_goals ((try refine VC.mk ?_); (try simp only [CL.ncell, CL.cnt, Int.toNat_natCast, decide_eq_true_eq, decide_eq_false_iff_not, Bool.not_eq_true, Bool.not_false, Bool.not_true, and_self, and_true, true_and, te3b, te4b, te3s, te4s, Nat.mul_one, Nat.zero_add, List.length_cons, List.length_nil, Bool.false_eq_true, Bool.true_eq_false] at *); (try omega))
        all_goals (rw [hS]; first | rfl | (rw [List.length_append]; rfl))
      · rename_i hq _
        have hT : admK n s i = false := by rw [Bool.not_not] at hq; exact hq
        rw [if_neg (by rw [hT]; simp)] at hS
        refine ⟨i + 1, [], ⟨by omega, by omega⟩, ?_⟩
        repeat' (first | ((conv => whnf); refine And.intro ?_ ?_) | ((conv => whnf); with_reducible exact VC.mk rfl) | ((conv => whnf); exact Ok.mk) | ((conv => whnf); exact True.intro) | ((conv => whnf); refine Nx.mk ?_) | ((conv => whnf); refine Fin.mk ?_) | ((conv => whnf); intro _))
        all_goals ((try refine VC.mk ?_); (try simp only [CL.ncell, CL.cnt, Int.toNat_natCast, decide_eq_true_eq, decide_eq_false_iff_not, Bool.not_eq_true, Bool.not_false, Bool.not_true, and_self, and_true, true_and, te3b, te4b, te3s, te4s, Nat.mul_one, Nat.zero_add, List.length_cons, List.length_nil, Bool.false_eq_true, Bool.true_eq_false] at *); (try omega))
        all_goals (rw [hS])
    · have e : n * n * n * n = i := by omega
      rw [e]
      repeat' (first | ((conv => whnf); refine And.intro ?_ ?_) | ((conv => whnf); with_reducible exact VC.mk rfl) | ((conv => whnf); exact Ok.mk) | ((conv => whnf); exact True.intro) | ((conv => whnf); refine Nx.mk ?_) | ((conv => whnf); refine Fin.mk ?_) | ((conv => whnf); intro _))
      all_goals ((try refine VC.mk ?_); (try simp only [CL.ncell, CL.cnt, Int.toNat_natCast, decide_eq_true_eq, decide_eq_false_iff_not, Bool.not_eq_true, Bool.not_false, Bool.not_true, and_self, and_true, true_and, te3b, te4b, te3s, te4s, Nat.mul_one, Nat.zero_add, List.length_cons, List.length_nil, Bool.false_eq_true, Bool.true_eq_false] at *); (try omega))
      all_goals (first | (refine Sup.of ?_; first | rfl | (simp [*, resOf]; done)) | (refine Sup.via ?_; repeat' (first | ((conv => whnf); refine And.intro ?_ ?_) | ((conv => whnf); with_reducible exact VC.mk rfl) | ((conv => whnf); exact Ok.mk) | ((conv => whnf); exact True.intro) | ((conv => whnf); refine Nx.mk ?_) | ((conv => whnf); refine Fin.mk ?_) | ((conv => whnf); intro _)); all_goals ((try refine VC.mk ?_); (try simp only [CL.ncell, CL.cnt, Int.toNat_natCast, decide_eq_true_eq, decide_eq_false_iff_not, Bool.not_eq_true, Bool.not_false, Bool.not_true, and_self, and_true, true_and, te3b, te4b, te3s, te4s, Nat.mul_one, Nat.zero_add, List.length_cons, List.length_nil, Bool.false_eq_true, Bool.true_eq_false] at *); (try omega)); all_goals (try (simp [CL.sub]; done))))
/-- lists of rules by their numbers -/
theorem sup_isl {c c' : CL} (h1 : c'.cnt = c.cnt) (h2 : c'.ncell = c.ncell) (h3 : ∀ j, j < c.ncell → c'.get j = c.get j) : Sup (.isl c .none) (.isl c' .none) := ⟨fun h => by
  cases h with
  | islnil _ _ _ h => exact .islnil _ _ _ (h1.trans h)
  | isl _ _ _ b off cap hc hs h hf ho =>
    rw [← h1]
    exact .isl _ _ _ b off cap (by omega) (fun j hj => hs j (by omega)) (fun j hj => by rw [h3 j (by omega)]; exact h j (by omega)) (fun e => by cases e) (fun k e => by cases e)⟩
theorem sup_tup2 {p q x : PV} (h : Sup p q) : Sup (.tup [p, x]) (.tup [q, x]) := ⟨fun hr => by
  cases hr with
  | tup _ _ vs hl hc =>
    refine .tup _ _ vs (by simpa using hl) fun i hi => ?_
    have := hc i (by simpa using hi)
    cases i with
    | zero => exact h.get this
    | succ i => exact this⟩
def ruleG (n : Nat) (s : ByteArray) (m : Nat) (i : Nat) : List PV := recC n ((keepN (admK n s) m).getD i 0)
theorem sup_rules (n : Nat) (s : ByteArray) (m : Nat) : Sup (.isl (.recs 7 (rulesN n s m)) .none) (.isl (.genr 7 (keepN (admK n s) m).length (ruleG n s m)) .none) := by
  refine sup_isl ?_ ?_ fun j hj => ?_
  · simp [CL.cnt, rulesN]
  · simp [CL.ncell, rulesN]
  · simp only [CL.ncell, rulesN, List.length_map] at hj
    have : j / 7 < (keepN (admK n s) m).length := by omega
    simp only [CL.get, ruleG, rulesN]
    congr 1
    rw [List.getD_eq_getElem?_getD, List.getD_eq_getElem?_getD, List.getElem?_map, List.getElem?_eq_getElem this]
    rfl
/-- the program's list of rules, and the reference's -/
theorem rules_both (n : Nat) (hn : 1 ≤ n ∧ n ≤ 5) {s : ByteArray} (hs : kindErr s = 0) : ∃ (q : Nat) (f : Nat → Nat), q ≤ 625 ∧
    PSpec Try.prog 57 [.int .i64 n, .str s] (if 256 < q then .tup [.nils, .int .i64 5] else .tup [.isl (.genr 7 q (fun i => recC n (f i))) .none, .int .i64 0]) ∧
    PSpec Try.prog 58 [.int .i64 n, .str s] (.isl (.genr 7 q (fun i => recC n (f i))) .none) := by
  refine ⟨(keepN (admK n s) (n * n * n * n)).length, fun i => (keepN (admK n s) (n * n * n * n)).getD i 0, ?_, ?_, ?_⟩
  · have h := keepN_len (admK n s) (n * n * n * n)
    have b1 := Nat.mul_le_mul (show n ≤ 5 by omega) (show n ≤ 5 by omega)
    have b2 := Nat.mul_le_mul b1 (show n ≤ 5 by omega)
    have b3 := Nat.mul_le_mul b2 (show n ≤ 5 by omega)
    omega
  · have h := rules_good n hn hs
    unfold rulesR at h
    have e : (rulesN n s (n * n * n * n)).length = (keepN (admK n s) (n * n * n * n)).length := by unfold rulesN; rw [List.length_map]
    rw [e] at h
    split
    · rename_i hq; rw [if_pos hq] at h; exact h
    · rename_i hq; rw [if_neg hq] at h; exact pspec_sup h (sup_tup2 (sup_rules _ _ _))
  · exact pspec_sup (rRules_spec n hn hs) (sup_rules _ _ _)
end Go.Eng.Ytppflbccfdbogaa
namespace Go.Eng.Ytppflbccfdbogaa
open Go.Proofs
set_option maxRecDepth 100000
set_option maxHeartbeats 0
set_option linter.unusedVariables false
set_option linter.unusedSimpArgs false
theorem rulesErr_zero {n : Int} {s : ByteArray} (h : rulesErr n s = 0) : (1 ≤ n ∧ n ≤ 5) ∧ kindErr s = 0 := by
  unfold rulesErr at h
  have hk := kindErr_or s
  simp only [firstOf] at h
  by_cases h1 : n < 1 ∨ 16 < n
  · rw [if_pos h1, if_neg (by decide)] at h; omega
  · rw [if_neg h1, if_pos rfl] at h
    by_cases h2 : kindErr s = 0
    · rw [if_pos h2] at h
      by_cases h3 : 5 < n
      · rw [if_pos h3, if_neg (by decide)] at h; omega
      · exact ⟨by omega, h2⟩
    · rw [if_neg h2] at h; exact absurd h h2
theorem rulesErr_or {n : Int} {s : ByteArray} (h : rulesErr n s ≠ 0) : ((n < 1 ∨ 16 < n) ∧ rulesErr n s = 3) ∨ (¬ (n < 1 ∨ 16 < n) ∧ kindErr s = 13 ∧ rulesErr n s = 13) ∨ (¬ (n < 1 ∨ 16 < n) ∧ kindErr s = 0 ∧ 5 < n ∧ rulesErr n s = 20) := by
  have hk := kindErr_or s
  unfold rulesErr at h ⊢
  simp only [firstOf] at h ⊢
  by_cases h1 : n < 1 ∨ 16 < n
  · rw [if_pos h1, if_neg (by decide)]; exact .inl ⟨h1, rfl⟩
  · rw [if_neg h1, if_pos rfl] at h ⊢
    rcases hk with hk | hk
    · rw [if_pos hk] at h ⊢
      by_cases h3 : 5 < n
      · rw [if_pos h3, if_neg (by decide)]; exact .inr (.inr ⟨h1, hk, h3, rfl⟩)
      · rw [if_neg h3] at h; exact absurd rfl h
    · rw [hk, if_neg (by decide)]; exact .inr (.inl ⟨h1, rfl, rfl⟩)
theorem rules_law (n : Int) (s : ByteArray) : PSpec Try.prog 9 [.int .i64 n, .str s] (.bp true) := by
  by_cases he : rulesErr n s = 0
  · obtain ⟨h1, hk⟩ := rulesErr_zero he
    obtain ⟨m, rfl⟩ : ∃ m : Nat, n = m := ⟨n.toNat, by omega⟩
    obtain ⟨q, f, hq, h57, h58⟩ := rules_both m (by omega) hk
    have hK := CheckKind_spec s
    rw [hk] at hK
    by_cases hl : 256 < q
    · rw [if_pos hl] at h57
      have hC := cpAdd_ok (pureCC_ok (atC_ok (C := True) fun _ => h57)) (cpAdd_ok (pureCC_ok (atC_ok (C := True) fun _ => h58)) (cpAdd_ok (pureCC_ok (atC_ok (C := True) fun _ => hK)) (cpAdd_ok (pureCC_ok awakeT_ok) noC_ok)))
      clear h57 h58 hK
      refine pspec_of (md := 1) (rf := []) mixed tabOK hC Try.func9 (by rfl) (by rfl) (by rfl) ?_
      repeat' (first | ((conv => whnf); refine And.intro ?_ ?_) | ((conv => whnf); with_reducible exact VC.mk rfl) | ((conv => whnf); exact Ok.mk) | ((conv => whnf); exact True.intro) | ((conv => whnf); refine Nx.mk ?_) | ((conv => whnf); refine Fin.mk ?_) | ((conv => whnf); intro hq; (try simp only [decide_eq_true_eq, decide_eq_false_iff_not, Bool.not_eq_true, Bool.not_eq_false, Bool.not_eq_true', Bool.not_eq_false', Bool.not_true, Bool.not_false, ite_true, ite_false] at hq); (try (exfalso; first | exact absurd hq (by decide) | omega))))
      all_goals ((try refine VC.mk ?_); (try simp only [CL.ncell, CL.cnt, Int.toNat_natCast, decide_eq_true_eq, decide_eq_false_iff_not, Bool.not_eq_true, Bool.not_false, Bool.not_true, and_self, and_true, true_and, te3b, te4b, te3s, te4s, Nat.mul_one, Nat.zero_add, List.length_cons, List.length_nil, Bool.false_eq_true, Bool.true_eq_false] at *); (try omega))
      all_goals (first | exact sup_true | skip)
      conv => whnf
      refine loop_of (X := Unit) (fun _ => True) (fun _ => [(14, .any), (17, .any), (25, .any), (26, .any), (31, .any), (32, .any), (54, .int .i64 0)]) (fun _ => []) (fun _ => 0) () ⟨anyB_ok, mixed, tabOK, hC, noY_ok⟩ (by rfl) trivial ?_ ?_
      · repeat' (first | ((conv => whnf); refine And.intro ?_ ?_) | ((conv => whnf); with_reducible exact VC.mk rfl) | ((conv => whnf); exact Ok.mk) | ((conv => whnf); exact True.intro) | ((conv => whnf); refine Nx.mk ?_) | ((conv => whnf); refine Fin.mk ?_) | ((conv => whnf); intro _))
        all_goals ((try refine VC.mk ?_); (try simp only [CL.ncell, CL.cnt, Int.toNat_natCast, decide_eq_true_eq, decide_eq_false_iff_not, Bool.not_eq_true, Bool.not_false, Bool.not_true, and_self, and_true, true_and, te3b, te4b, te3s, te4s, Nat.mul_one, Nat.zero_add, List.length_cons, List.length_nil, Bool.false_eq_true, Bool.true_eq_false] at *); (try omega))
      · intro i hi
        repeat' (first | ((conv => whnf); refine And.intro ?_ ?_) | ((conv => whnf); with_reducible exact VC.mk rfl) | ((conv => whnf); exact Ok.mk) | ((conv => whnf); exact True.intro) | ((conv => whnf); refine Nx.mk ?_) | ((conv => whnf); refine Fin.mk ?_) | ((conv => whnf); intro _))
        all_goals ((try refine VC.mk ?_); (try simp only [CL.ncell, CL.cnt, Int.toNat_natCast, decide_eq_true_eq, decide_eq_false_iff_not, Bool.not_eq_true, Bool.not_false, Bool.not_true, and_self, and_true, true_and, te3b, te4b, te3s, te4s, Nat.mul_one, Nat.zero_add, List.length_cons, List.length_nil, Bool.false_eq_true, Bool.true_eq_false] at *); (try omega))
        all_goals (first | exact sup_true | skip)
    · rw [if_neg hl] at h57
      have hC := cpAdd_ok (pureCC_ok (atC_ok (C := True) fun _ => h57)) (cpAdd_ok (pureCC_ok (atC_ok (C := True) fun _ => h58)) (cpAdd_ok (pureCC_ok (atC_ok (C := True) fun _ => hK)) (cpAdd_ok (pureCC_ok awakeT_ok) noC_ok)))
      clear h57 h58 hK
      refine pspec_of (md := 1) (rf := []) mixed tabOK hC Try.func9 (by rfl) (by rfl) (by rfl) ?_
      repeat' (first | ((conv => whnf); refine And.intro ?_ ?_) | ((conv => whnf); with_reducible exact VC.mk rfl) | ((conv => whnf); exact Ok.mk) | ((conv => whnf); exact True.intro) | ((conv => whnf); refine Nx.mk ?_) | ((conv => whnf); refine Fin.mk ?_) | ((conv => whnf); intro hq; (try simp only [decide_eq_true_eq, decide_eq_false_iff_not, Bool.not_eq_true, Bool.not_eq_false, Bool.not_eq_true', Bool.not_eq_false', Bool.not_true, Bool.not_false, ite_true, ite_false] at hq); (try (exfalso; first | exact absurd hq (by decide) | omega))))
      all_goals ((try refine VC.mk ?_); (try simp only [CL.ncell, CL.cnt, Int.toNat_natCast, decide_eq_true_eq, decide_eq_false_iff_not, Bool.not_eq_true, Bool.not_false, Bool.not_true, and_self, and_true, true_and, te3b, te4b, te3s, te4s, Nat.mul_one, Nat.zero_add, List.length_cons, List.length_nil, Bool.false_eq_true, Bool.true_eq_false] at *); (try omega))
      all_goals (first | exact sup_true | skip)
      conv => whnf
      refine loop_of (X := Nat) (fun i => i ≤ q) (fun i => [(14, .any), (17, .any), (25, .any), (26, .any), (31, .any), (32, .any), (54, .int .i64 i)]) (fun _ => []) (fun i => q - i) 0 ⟨anyB_ok, mixed, tabOK, hC, noY_ok⟩ (by rfl) (by omega) ?_ ?_
      · repeat' (first | ((conv => whnf); refine And.intro ?_ ?_) | ((conv => whnf); with_reducible exact VC.mk rfl) | ((conv => whnf); exact Ok.mk) | ((conv => whnf); exact True.intro) | ((conv => whnf); refine Nx.mk ?_) | ((conv => whnf); refine Fin.mk ?_) | ((conv => whnf); intro _))
        all_goals ((try refine VC.mk ?_); (try simp only [CL.ncell, CL.cnt, Int.toNat_natCast, decide_eq_true_eq, decide_eq_false_iff_not, Bool.not_eq_true, Bool.not_false, Bool.not_true, and_self, and_true, true_and, te3b, te4b, te3s, te4s, Nat.mul_one, Nat.zero_add, List.length_cons, List.length_nil, Bool.false_eq_true, Bool.true_eq_false] at *); (try omega))
      · intro i hi
        repeat' (first | ((conv => whnf); refine And.intro ?_ ?_) | ((conv => whnf); with_reducible exact VC.mk rfl) | ((conv => whnf); exact Ok.mk) | ((conv => whnf); exact True.intro) | ((conv => whnf); refine Nx.mk ?_) | ((conv => whnf); refine Fin.mk ?_) | ((conv => whnf); intro _))
        all_goals ((try refine VC.mk ?_); (try simp only [CL.ncell, CL.cnt, Int.toNat_natCast, decide_eq_true_eq, decide_eq_false_iff_not, Bool.not_eq_true, Bool.not_false, Bool.not_true, and_self, and_true, true_and, te3b, te4b, te3s, te4s, Nat.mul_one, Nat.zero_add, List.length_cons, List.length_nil, Bool.false_eq_true, Bool.true_eq_false] at *); (try omega))
        · rfl
        · rfl
        · exfalso; rename_i hq; revert hq; simp
        · refine ⟨i + 1, [], ⟨by omega, by omega⟩, ?_⟩
          repeat' (first | ((conv => whnf); refine And.intro ?_ ?_) | ((conv => whnf); with_reducible exact VC.mk rfl) | ((conv => whnf); exact Ok.mk) | ((conv => whnf); exact True.intro) | ((conv => whnf); refine Nx.mk ?_) | ((conv => whnf); refine Fin.mk ?_) | ((conv => whnf); intro _))
          all_goals ((try refine VC.mk ?_); (try simp only [CL.ncell, CL.cnt, Int.toNat_natCast, decide_eq_true_eq, decide_eq_false_iff_not, Bool.not_eq_true, Bool.not_false, Bool.not_true, and_self, and_true, true_and, te3b, te4b, te3s, te4s, Nat.mul_one, Nat.zero_add, List.length_cons, List.length_nil, Bool.false_eq_true, Bool.true_eq_false] at *); (try omega))
        · exact sup_true
  · have h57 := rules_err n s he
    have hK := CheckKind_spec s
    have hC := cpAdd_ok (pureCC_ok (atC_ok (C := True) fun _ => h57)) (cpAdd_ok (pureCC_ok (atC_ok (C := True) fun _ => hK)) (cpAdd_ok (pureCC_ok awakeT_ok) noC_ok))
    clear h57 hK
    have hor := rulesErr_or he
    clear he
    generalize rulesErr n s = e at *
    generalize kindErr s = k at *
    refine pspec_of (md := 1) (rf := []) mixed tabOK hC Try.func9 (by rfl) (by rfl) (by rfl) ?_
    repeat' (first | ((conv => whnf); refine And.intro ?_ ?_) | ((conv => whnf); with_reducible exact VC.mk rfl) | ((conv => whnf); exact Ok.mk) | ((conv => whnf); exact True.intro) | ((conv => whnf); refine Nx.mk ?_) | ((conv => whnf); refine Fin.mk ?_) | ((conv => whnf); intro hq; (try simp only [decide_eq_true_eq, decide_eq_false_iff_not, Bool.not_eq_true, Bool.not_eq_false, Bool.not_eq_true', Bool.not_eq_false', Bool.not_true, Bool.not_false, ite_true, ite_false] at hq); (try (exfalso; first | exact absurd hq (by decide) | omega))))
    all_goals ((try refine VC.mk ?_); (try simp only [CL.ncell, CL.cnt, Int.toNat_natCast, decide_eq_true_eq, decide_eq_false_iff_not, Bool.not_eq_true, Bool.not_false, Bool.not_true, and_self, and_true, true_and, te3b, te4b, te3s, te4s, Nat.mul_one, Nat.zero_add, List.length_cons, List.length_nil, Bool.false_eq_true, Bool.true_eq_false] at *); (try omega))
    all_goals (first | exact sup_true | (exfalso; omega) | skip)
    all_goals (conv => whnf)
    all_goals refine loop_of (X := Unit) (fun _ => True) (fun _ => [(14, .any), (17, .any), (25, .any), (26, .any), (31, .any), (32, .any), (54, .int .i64 0)]) (fun _ => []) (fun _ => 0) () ⟨anyB_ok, mixed, tabOK, hC, noY_ok⟩ (by rfl) trivial ?_ ?_
    · repeat' (first | ((conv => whnf); refine And.intro ?_ ?_) | ((conv => whnf); with_reducible exact VC.mk rfl) | ((conv => whnf); exact Ok.mk) | ((conv => whnf); exact True.intro) | ((conv => whnf); refine Nx.mk ?_) | ((conv => whnf); refine Fin.mk ?_) | ((conv => whnf); intro _))
      all_goals ((try refine VC.mk ?_); (try simp only [CL.ncell, CL.cnt, Int.toNat_natCast, decide_eq_true_eq, decide_eq_false_iff_not, Bool.not_eq_true, Bool.not_false, Bool.not_true, and_self, and_true, true_and, te3b, te4b, te3s, te4s, Nat.mul_one, Nat.zero_add, List.length_cons, List.length_nil, Bool.false_eq_true, Bool.true_eq_false] at *); (try omega))
    · intro i hi
      repeat' (first | ((conv => whnf); refine And.intro ?_ ?_) | ((conv => whnf); with_reducible exact VC.mk rfl) | ((conv => whnf); exact Ok.mk) | ((conv => whnf); exact True.intro) | ((conv => whnf); refine Nx.mk ?_) | ((conv => whnf); refine Fin.mk ?_) | ((conv => whnf); intro _))
      all_goals ((try refine VC.mk ?_); (try simp only [CL.ncell, CL.cnt, Int.toNat_natCast, decide_eq_true_eq, decide_eq_false_iff_not, Bool.not_eq_true, Bool.not_false, Bool.not_true, and_self, and_true, true_and, te3b, te4b, te3s, te4s, Nat.mul_one, Nat.zero_add, List.length_cons, List.length_nil, Bool.false_eq_true, Bool.true_eq_false] at *); (try omega))
      all_goals exact sup_true
    · repeat' (first | ((conv => whnf); refine And.intro ?_ ?_) | ((conv => whnf); with_reducible exact VC.mk rfl) | ((conv => whnf); exact Ok.mk) | ((conv => whnf); exact True.intro) | ((conv => whnf); refine Nx.mk ?_) | ((conv => whnf); refine Fin.mk ?_) | ((conv => whnf); intro _))
      all_goals ((try refine VC.mk ?_); (try simp only [CL.ncell, CL.cnt, Int.toNat_natCast, decide_eq_true_eq, decide_eq_false_iff_not, Bool.not_eq_true, Bool.not_false, Bool.not_true, and_self, and_true, true_and, te3b, te4b, te3s, te4s, Nat.mul_one, Nat.zero_add, List.length_cons, List.length_nil, Bool.false_eq_true, Bool.true_eq_false] at *); (try omega))
    · intro i hi
      repeat' (first | ((conv => whnf); refine And.intro ?_ ?_) | ((conv => whnf); with_reducible exact VC.mk rfl) | ((conv => whnf); exact Ok.mk) | ((conv => whnf); exact True.intro) | ((conv => whnf); refine Nx.mk ?_) | ((conv => whnf); refine Fin.mk ?_) | ((conv => whnf); intro _))
      all_goals ((try refine VC.mk ?_); (try simp only [CL.ncell, CL.cnt, Int.toNat_natCast, decide_eq_true_eq, decide_eq_false_iff_not, Bool.not_eq_true, Bool.not_false, Bool.not_true, and_self, and_true, true_and, te3b, te4b, te3s, te4s, Nat.mul_one, Nat.zero_add, List.length_cons, List.length_nil, Bool.false_eq_true, Bool.true_eq_false] at *); (try omega))
      all_goals exact sup_true
    · repeat' (first | ((conv => whnf); refine And.intro ?_ ?_) | ((conv => whnf); with_reducible exact VC.mk rfl) | ((conv => whnf); exact Ok.mk) | ((conv => whnf); exact True.intro) | ((conv => whnf); refine Nx.mk ?_) | ((conv => whnf); refine Fin.mk ?_) | ((conv => whnf); intro _))
      all_goals ((try refine VC.mk ?_); (try simp only [CL.ncell, CL.cnt, Int.toNat_natCast, decide_eq_true_eq, decide_eq_false_iff_not, Bool.not_eq_true, Bool.not_false, Bool.not_true, and_self, and_true, true_and, te3b, te4b, te3s, te4s, Nat.mul_one, Nat.zero_add, List.length_cons, List.length_nil, Bool.false_eq_true, Bool.true_eq_false] at *); (try omega))
    · intro i hi
      repeat' (first | ((conv => whnf); refine And.intro ?_ ?_) | ((conv => whnf); with_reducible exact VC.mk rfl) | ((conv => whnf); exact Ok.mk) | ((conv => whnf); exact True.intro) | ((conv => whnf); refine Nx.mk ?_) | ((conv => whnf); refine Fin.mk ?_) | ((conv => whnf); intro _))
      all_goals ((try refine VC.mk ?_); (try simp only [CL.ncell, CL.cnt, Int.toNat_natCast, decide_eq_true_eq, decide_eq_false_iff_not, Bool.not_eq_true, Bool.not_false, Bool.not_true, and_self, and_true, true_and, te3b, te4b, te3s, te4s, Nat.mul_one, Nat.zero_add, List.length_cons, List.length_nil, Bool.false_eq_true, Bool.true_eq_false] at *); (try omega))
      all_goals exact sup_true
    · repeat' (first | ((conv => whnf); refine And.intro ?_ ?_) | ((conv => whnf); with_reducible exact VC.mk rfl) | ((conv => whnf); exact Ok.mk) | ((conv => whnf); exact True.intro) | ((conv => whnf); refine Nx.mk ?_) | ((conv => whnf); refine Fin.mk ?_) | ((conv => whnf); intro _))
      all_goals ((try refine VC.mk ?_); (try simp only [CL.ncell, CL.cnt, Int.toNat_natCast, decide_eq_true_eq, decide_eq_false_iff_not, Bool.not_eq_true, Bool.not_false, Bool.not_true, and_self, and_true, true_and, te3b, te4b, te3s, te4s, Nat.mul_one, Nat.zero_add, List.length_cons, List.length_nil, Bool.false_eq_true, Bool.true_eq_false] at *); (try omega))
    · intro i hi
      repeat' (first | ((conv => whnf); refine And.intro ?_ ?_) | ((conv => whnf); with_reducible exact VC.mk rfl) | ((conv => whnf); exact Ok.mk) | ((conv => whnf); exact True.intro) | ((conv => whnf); refine Nx.mk ?_) | ((conv => whnf); refine Fin.mk ?_) | ((conv => whnf); intro _))
      all_goals ((try refine VC.mk ?_); (try simp only [CL.ncell, CL.cnt, Int.toNat_natCast, decide_eq_true_eq, decide_eq_false_iff_not, Bool.not_eq_true, Bool.not_false, Bool.not_true, and_self, and_true, true_and, te3b, te4b, te3s, te4s, Nat.mul_one, Nat.zero_add, List.length_cons, List.length_nil, Bool.false_eq_true, Bool.true_eq_false] at *); (try omega))
      all_goals exact sup_true
end Go.Eng.Ytppflbccfdbogaa
