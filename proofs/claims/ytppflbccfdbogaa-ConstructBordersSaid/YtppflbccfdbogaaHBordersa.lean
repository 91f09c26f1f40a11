/-
  Contracts of functions of the program: what each returns. Their conditions stand in them.
-/
import Derived.Test.YtppflbccfdbogaaCd
namespace Go.Eng.Ytppflbccfdbogaa
open Go.Proofs Go.RowKit Go.ChangeShapes Go.WideShapes
set_option linter.unusedVariables false
section
variable {H : Type} {enc : TypeId × Value → H} {W : World}
theorem o5 : OpenC enc Try.prog W 5 [.int .u8] := openC_int Try.underlying5
theorem o93 : OpenC enc Try.prog W 93 [.int .u32] := openC_int Try.underlying93
theorem o9 : OpenC enc Try.prog W 9 [.str] := openC_str Try.underlying9
theorem o29 : OpenC enc Try.prog W 29 [.ints .i64] := openC_ints Try.underlying29 Try.underlying3 (by kernel_rfl)
theorem o43 : OpenC enc Try.prog W 43 [.int .u8, .int .u8] := openC_array (n := 2) Try.underlying43 o5 (by kernel_rfl) (by kernel_rfl)
theorem o42 : OpenC enc Try.prog W 42 [.int .i64, .int .i64, .ints .i64] :=
  openC_struct (lss := [[.int .i64], [.int .i64], [.ints .i64]]) Try.underlying42 ⟨⟨rfl, by kernel_rfl, o3⟩, ⟨rfl, by kernel_rfl, o3⟩, ⟨rfl, by kernel_rfl, o29⟩, trivial⟩ (by kernel_rfl)
theorem o37 : OpenC enc Try.prog W 37 [.str, .int .i64, .int .i64, .ints .i64, .int .i64] :=
  openC_struct (lss := [[.str], [.int .i64], [.int .i64], [.ints .i64], [.int .i64]]) Try.underlying37 ⟨⟨rfl, by kernel_rfl, o9⟩, ⟨rfl, by kernel_rfl, o3⟩, ⟨rfl, by kernel_rfl, o3⟩, ⟨rfl, by kernel_rfl, o29⟩, ⟨rfl, by kernel_rfl, o3⟩, trivial⟩ (by kernel_rfl)
end
end Go.Eng.Ytppflbccfdbogaa
namespace Go.Eng.Ytppflbccfdbogaa
open Go.Proofs
set_option maxRecDepth 100000
set_option maxHeartbeats 0
set_option linter.unusedVariables false
set_option linter.unusedSimpArgs false
theorem colL_succ' (n : Nat) (h : Nat → Int) (m : Nat) : colL n h (m + 1) = colL n h m ++ [(m : Int) * n + h m % n] := by
  simp [colL, List.range_succ, Int.mul_comm]
theorem diag_spec (n k s : Nat) (hn : 1 ≤ n ∧ n ≤ 16) (hk : k ≤ 1000) (hs : s ≤ 1000) : PSpec Try.prog 83 [.int .i64 (n : Int), .int .i64 (k : Int), .int .i64 (s : Int)] (.isl (.ints .i64 (colL n (fun i => (k : Int) + i * s) n)) .none) := by
  refine pspec_of (md := 0) (rf := []) mixed tabOK noC_ok Try.func83 (by rfl) (by rfl) (by rfl) ?_
  repeat' (first | ((conv => whnf); refine And.intro ?_ ?_) | ((conv => whnf); with_reducible exact VC.mk rfl) | ((conv => whnf); exact Ok.mk) | ((conv => whnf); exact True.intro) | ((conv => whnf); refine Nx.mk ?_) | ((conv => whnf); refine Fin.mk ?_) | ((conv => whnf); intro _))
  all_goals ((try refine VC.mk ?_); (try simp only [CL.ncell, CL.cnt, Int.toNat_natCast, decide_eq_true_eq, decide_eq_false_iff_not, Bool.not_eq_true, Bool.not_false, Bool.not_true, and_self, and_true, true_and, te3b, te4b, te3s, te4s, Nat.mul_one, Nat.zero_add, List.length_cons, List.length_nil, Bool.false_eq_true, Bool.true_eq_false] at *); (try omega))
  conv => whnf
  refine loop_of (X := Nat) (fun i => i ≤ n) (fun i => [(8, .int .i64 i), (7, .isl (.ints .i64 (colL n (fun i => (k : Int) + i * s) i)) (.own 0))]) (fun i => [(0, .tok 1 i)]) (fun i => n - i) 0 ⟨anyB_ok, mixed, tabOK, noC_ok, noY_ok⟩ (by rfl) (by omega) ?_ ?_
  · repeat' (first | ((conv => whnf); refine And.intro ?_ ?_) | ((conv => whnf); with_reducible exact VC.mk rfl) | ((conv => whnf); exact Ok.mk) | ((conv => whnf); exact True.intro) | ((conv => whnf); refine Nx.mk ?_) | ((conv => whnf); refine Fin.mk ?_) | ((conv => whnf); intro _))
    all_goals ((try refine VC.mk ?_); (try simp only [CL.ncell, CL.cnt, Int.toNat_natCast, decide_eq_true_eq, decide_eq_false_iff_not, Bool.not_eq_true, Bool.not_false, Bool.not_true, and_self, and_true, true_and, te3b, te4b, te3s, te4s, Nat.mul_one, Nat.zero_add, List.length_cons, List.length_nil, Bool.false_eq_true, Bool.true_eq_false] at *); (try omega))
  · intro i hi
    have e1 := colL_succ' n (fun i => (k : Int) + i * s) i
    have e2 := colL_len n (fun i => (k : Int) + i * s) i
    by_cases hlt : i < n
    · have h1 := mul_bd (A := 16) (B := 16) (show 0 ≤ (i : Int) ∧ (i : Int) ≤ 16 by omega) (show 0 ≤ (n : Int) ∧ (n : Int) ≤ 16 by omega)
      have h2 := mul_bd (A := 16) (B := 1000) (show 0 ≤ (i : Int) ∧ (i : Int) ≤ 16 by omega) (show 0 ≤ (s : Int) ∧ (s : Int) ≤ 1000 by omega)
      have h3 : 0 ≤ ((k : Int) + i * s) % n := Int.emod_nonneg _ (by omega)
      have h4 : ((k : Int) + i * s) % n < n := Int.emod_lt_of_pos _ (by omega)
      repeat' (first | ((conv => whnf); refine And.intro ?_ ?_) | ((conv => whnf); with_reducible exact VC.mk rfl) | ((conv => whnf); exact Ok.mk) | ((conv => whnf); exact True.intro) | ((conv => whnf); refine Nx.mk ?_) | ((conv => whnf); refine Fin.mk ?_) | ((conv => whnf); intro _))
      all_goals ((try refine VC.mk ?_); (try simp only [CL.ncell, CL.cnt, Int.toNat_natCast, decide_eq_true_eq, decide_eq_false_iff_not, Bool.not_eq_true, Bool.not_false, Bool.not_true, and_self, and_true, true_and, te3b, te4b, te3s, te4s, Nat.mul_one, Nat.zero_add, List.length_cons, List.length_nil, Bool.false_eq_true, Bool.true_eq_false] at *); (try omega))
      all_goals (try (simp only [List.length_append, List.length_cons, List.length_nil]; omega))
      refine ⟨i + 1, [], ⟨by omega, by omega⟩, ?_⟩
      repeat' (first | ((conv => whnf); refine And.intro ?_ ?_) | ((conv => whnf); with_reducible exact VC.mk rfl) | ((conv => whnf); exact Ok.mk) | ((conv => whnf); exact True.intro) | ((conv => whnf); refine Nx.mk ?_) | ((conv => whnf); refine Fin.mk ?_) | ((conv => whnf); intro _))
      all_goals ((try refine VC.mk ?_); (try simp only [CL.ncell, CL.cnt, Int.toNat_natCast, decide_eq_true_eq, decide_eq_false_iff_not, Bool.not_eq_true, Bool.not_false, Bool.not_true, and_self, and_true, true_and, te3b, te4b, te3s, te4s, Nat.mul_one, Nat.zero_add, List.length_cons, List.length_nil, Bool.false_eq_true, Bool.true_eq_false] at *); (try omega))
      all_goals (try (rw [e1]))
    · have : n = i := by omega
      subst this
      repeat' (first | ((conv => whnf); refine And.intro ?_ ?_) | ((conv => whnf); with_reducible exact VC.mk rfl) | ((conv => whnf); exact Ok.mk) | ((conv => whnf); exact True.intro) | ((conv => whnf); refine Nx.mk ?_) | ((conv => whnf); refine Fin.mk ?_) | ((conv => whnf); intro _))
      all_goals ((try refine VC.mk ?_); (try simp only [CL.ncell, CL.cnt, Int.toNat_natCast, decide_eq_true_eq, decide_eq_false_iff_not, Bool.not_eq_true, Bool.not_false, Bool.not_true, and_self, and_true, true_and, te3b, te4b, te3s, te4s, Nat.mul_one, Nat.zero_add, List.length_cons, List.length_nil, Bool.false_eq_true, Bool.true_eq_false] at *); (try omega))
      all_goals (first | (refine Sup.of ?_; first | rfl | (simp [*, resOf]; done)) | (refine Sup.via ?_; repeat' (first | ((conv => whnf); refine And.intro ?_ ?_) | ((conv => whnf); with_reducible exact VC.mk rfl) | ((conv => whnf); exact Ok.mk) | ((conv => whnf); exact True.intro) | ((conv => whnf); refine Nx.mk ?_) | ((conv => whnf); refine Fin.mk ?_) | ((conv => whnf); intro _)); all_goals ((try refine VC.mk ?_); (try simp only [CL.ncell, CL.cnt, Int.toNat_natCast, decide_eq_true_eq, decide_eq_false_iff_not, Bool.not_eq_true, Bool.not_false, Bool.not_true, and_self, and_true, true_and, te3b, te4b, te3s, te4s, Nat.mul_one, Nat.zero_add, List.length_cons, List.length_nil, Bool.false_eq_true, Bool.true_eq_false] at *); (try omega)); all_goals (try (simp [CL.sub]; done))))
theorem diag_spec' {n k s : Int} (hn : 1 ≤ n ∧ n ≤ 16) (hk : 0 ≤ k ∧ k ≤ 1000) (hs : 0 ≤ s ∧ s ≤ 1000) : PSpec Try.prog 83 [.int .i64 n, .int .i64 k, .int .i64 s] (.isl (.ints .i64 (colL n.toNat (fun i => k + i * s) n.toNat)) .none) := by
  have := diag_spec n.toNat k.toNat s.toNat (by omega) (by omega) (by omega)
  rwa [Int.toNat_of_nonneg (by omega), Int.toNat_of_nonneg (by omega), Int.toNat_of_nonneg (by omega)] at this
def diagP : PSp := fun xs K => match xs with
  | [.int .i64 n, .int .i64 k, .int .i64 s] => VC ((1 ≤ n ∧ n ≤ 16) ∧ (0 ≤ k ∧ k ≤ 1000) ∧ 0 ≤ s ∧ s ≤ 1000) ∧ K (.isl (.ints .i64 (colL n.toNat (fun i => k + i * s) n.toNat)) .none)
  | _ => False
theorem diag_ok : POK Try.prog 83 diagP := by
  intro xs K h
  unfold diagP at h
  split at h
  · exact ⟨_, h.2, diag_spec' h.1.get.1 h.1.get.2.1 h.1.get.2.2⟩
  · exact h.elim
/-! the sum of some cells -/
theorem rSum_spec (r c : Int) (cs l : List Int) (hc : ∀ x ∈ l, 0 ≤ x ∧ x < cs.length) (hl : l.length ≤ 1000000) (hb : ∀ i, i ≤ l.length → -1000000000000 ≤ sumAt cs l i ∧ sumAt cs l i ≤ 1000000000000) : PSpec Try.prog 71 [gridV r c cs, .isl (.ints .i64 l) .none] (.int .i64 (sumAt cs l l.length)) := by
  refine pspec_of (md := 0) (rf := []) mixed tabOK noC_ok Try.func71 (by rfl) (by rfl) (by rfl) ?_
  repeat' (first | ((conv => whnf); refine And.intro ?_ ?_) | ((conv => whnf); with_reducible exact VC.mk rfl) | ((conv => whnf); exact Ok.mk) | ((conv => whnf); exact True.intro) | ((conv => whnf); refine Nx.mk ?_) | ((conv => whnf); refine Fin.mk ?_) | ((conv => whnf); intro _))
  all_goals ((try refine VC.mk ?_); (try simp only [CL.ncell, CL.cnt, Int.toNat_natCast, decide_eq_true_eq, decide_eq_false_iff_not, Bool.not_eq_true, Bool.not_false, Bool.not_true, and_self, and_true, true_and, te3b, te4b, te3s, te4s, Nat.mul_one, Nat.zero_add, List.length_cons, List.length_nil, Bool.false_eq_true, Bool.true_eq_false] at *); (try omega))
  conv => whnf
  refine loop_of (X := Nat) (fun i => i ≤ l.length) (fun i => [(6, .int .i64 i), (5, .int .i64 (sumAt cs l i))]) (fun i => []) (fun i => l.length - i) 0 ⟨anyB_ok, mixed, tabOK, noC_ok, noY_ok⟩ (by rfl) (by omega) ?_ ?_
  · repeat' (first | ((conv => whnf); refine And.intro ?_ ?_) | ((conv => whnf); with_reducible exact VC.mk rfl) | ((conv => whnf); exact Ok.mk) | ((conv => whnf); exact True.intro) | ((conv => whnf); refine Nx.mk ?_) | ((conv => whnf); refine Fin.mk ?_) | ((conv => whnf); intro _))
    all_goals ((try refine VC.mk ?_); (try simp only [CL.ncell, CL.cnt, Int.toNat_natCast, decide_eq_true_eq, decide_eq_false_iff_not, Bool.not_eq_true, Bool.not_false, Bool.not_true, and_self, and_true, true_and, te3b, te4b, te3s, te4s, Nat.mul_one, Nat.zero_add, List.length_cons, List.length_nil, Bool.false_eq_true, Bool.true_eq_false] at *); (try omega))
    all_goals (try rfl)
  · intro i hi
    have e1 := hb i hi
    by_cases hlt : i < l.length
    · have e2 := sumAt_succ cs l i hlt
      have e3 := hb (i + 1) (by omega)
      have e4 := hc (l.getD i 0) (by rw [List.getD_eq_getElem?_getD, List.getElem?_eq_getElem hlt]; exact List.getElem_mem _)
      repeat' (first | ((conv => whnf); refine And.intro ?_ ?_) | ((conv => whnf); with_reducible exact VC.mk rfl) | ((conv => whnf); exact Ok.mk) | ((conv => whnf); exact True.intro) | ((conv => whnf); refine Nx.mk ?_) | ((conv => whnf); refine Fin.mk ?_) | ((conv => whnf); intro _))
      all_goals ((try refine VC.mk ?_); (try simp only [CL.ncell, CL.cnt, Int.toNat_natCast, decide_eq_true_eq, decide_eq_false_iff_not, Bool.not_eq_true, Bool.not_false, Bool.not_true, and_self, and_true, true_and, te3b, te4b, te3s, te4s, Nat.mul_one, Nat.zero_add, List.length_cons, List.length_nil, Bool.false_eq_true, Bool.true_eq_false] at *); (try omega))
      refine ⟨i + 1, [], ⟨by omega, by omega⟩, ?_⟩
      repeat' (first | ((conv => whnf); refine And.intro ?_ ?_) | ((conv => whnf); with_reducible exact VC.mk rfl) | ((conv => whnf); exact Ok.mk) | ((conv => whnf); exact True.intro) | ((conv => whnf); refine Nx.mk ?_) | ((conv => whnf); refine Fin.mk ?_) | ((conv => whnf); intro _))
      all_goals ((try refine VC.mk ?_); (try simp only [CL.ncell, CL.cnt, Int.toNat_natCast, decide_eq_true_eq, decide_eq_false_iff_not, Bool.not_eq_true, Bool.not_false, Bool.not_true, and_self, and_true, true_and, te3b, te4b, te3s, te4s, Nat.mul_one, Nat.zero_add, List.length_cons, List.length_nil, Bool.false_eq_true, Bool.true_eq_false] at *); (try omega))
      all_goals (try (rw [e2]))
    · have : l.length = i := by omega
      subst this
      repeat' (first | ((conv => whnf); refine And.intro ?_ ?_) | ((conv => whnf); with_reducible exact VC.mk rfl) | ((conv => whnf); exact Ok.mk) | ((conv => whnf); exact True.intro) | ((conv => whnf); refine Nx.mk ?_) | ((conv => whnf); refine Fin.mk ?_) | ((conv => whnf); intro _))
      all_goals ((try refine VC.mk ?_); (try simp only [CL.ncell, CL.cnt, Int.toNat_natCast, decide_eq_true_eq, decide_eq_false_iff_not, Bool.not_eq_true, Bool.not_false, Bool.not_true, and_self, and_true, true_and, te3b, te4b, te3s, te4s, Nat.mul_one, Nat.zero_add, List.length_cons, List.length_nil, Bool.false_eq_true, Bool.true_eq_false] at *); (try omega))
      all_goals (first | (refine Sup.of ?_; first | rfl | (simp [*, resOf]; done)) | (refine Sup.via ?_; repeat' (first | ((conv => whnf); refine And.intro ?_ ?_) | ((conv => whnf); with_reducible exact VC.mk rfl) | ((conv => whnf); exact Ok.mk) | ((conv => whnf); exact True.intro) | ((conv => whnf); refine Nx.mk ?_) | ((conv => whnf); refine Fin.mk ?_) | ((conv => whnf); intro _)); all_goals ((try refine VC.mk ?_); (try simp only [CL.ncell, CL.cnt, Int.toNat_natCast, decide_eq_true_eq, decide_eq_false_iff_not, Bool.not_eq_true, Bool.not_false, Bool.not_true, and_self, and_true, true_and, te3b, te4b, te3s, te4s, Nat.mul_one, Nat.zero_add, List.length_cons, List.length_nil, Bool.false_eq_true, Bool.true_eq_false] at *); (try omega)); all_goals (try (simp [CL.sub]; done))))
def rSumP : PSp := fun xs K => match xs with
  | [.agg [.int .i64 r, .int .i64 c, .isl (.ints .i64 cs) .none], .isl (.ints .i64 l) .none] => VC ((∀ x ∈ l, 0 ≤ x ∧ x < cs.length) ∧ l.length ≤ 1000000 ∧ ∀ i, i ≤ l.length → -1000000000000 ≤ sumAt cs l i ∧ sumAt cs l i ≤ 1000000000000) ∧ K (.int .i64 (sumAt cs l l.length))
  | _ => False
theorem rSum_ok : POK Try.prog 71 rSumP := by
  intro xs K h
  unfold rSumP at h
  split at h
  · exact ⟨_, h.2, rSum_spec _ _ _ _ h.1.get.1 h.1.get.2.1 h.1.get.2.2⟩
  · exact h.elim
/-! all lines -/
def gOf (s : ByteArray) : Int := if s = kSq then 0 else if s = kSemi then 1 else if s = kMag then 2 else 3
def linesTo (n m : Nat) : List (List Int) := (List.range m).map (lineAt n)
theorem linesTo_succ (n m : Nat) : linesTo n (m + 1) = linesTo n m ++ [lineAt n m] := by simp [linesTo, List.range_succ]
theorem linesTo_get (n m i : Nat) (h : i < m) : (linesTo n m).getD i [] = lineAt n i := by
  simp [linesTo, List.getD_eq_getElem?_getD, h]
theorem linesTo_len (n m : Nat) : (linesTo n m).length = m := by simp [linesTo]
theorem colL_congr {n : Nat} {h h' : Nat → Int} (e : ∀ i, i < n → h i % n = h' i % n) : colL n h n = colL n h' n := by
  unfold colL
  exact List.map_congr_left fun i hi => by rw [e i (List.mem_range.1 hi)]
theorem emod_of_sub {a b n k : Int} (h : a - b = n * k) : a % n = b % n := by
  have : a = b + n * k := by omega
  rw [this, Int.add_mul_emod_self_left]
theorem dg1 (n : Nat) : colL n (fun i => 0 + (i : Int) * 1) n = lineAt n (2 * n) := by
  rw [lineAt_d1]; exact colL_congr fun i _ => by congr 1; omega
theorem dg2 (n : Nat) : colL n (fun i => (n : Int) - 1 + (i : Int) * ((n : Int) - 1)) n = lineAt n (2 * n + 1) := by
  rw [lineAt_d2]; exact colL_congr fun i _ => emod_of_sub (k := (i : Int)) (by rw [Int.mul_sub, Int.mul_comm (n : Int) (i : Int)]; omega)
theorem dg3 (n k : Nat) (hk : 1 ≤ k ∧ k < n) : colL n (fun i => (k : Int) + (i : Int) * 1) n = lineAt n (2 * n + 1 + k) := by
  have : lineAt n (2 * n + 1 + k) = colL n (fun j => (j : Int) + (((2 * n + 1 + k : Nat) : Int) - 2 * n - 1)) n := by
    unfold lineAt; rw [if_neg (by omega), if_neg (by omega), if_neg (by omega), if_neg (by omega), if_pos (by omega)]
  rw [this]; exact colL_congr fun i _ => by congr 1; omega
theorem dg4 (n k : Nat) (hn : 1 ≤ n) (hk : k + 1 < n) : colL n (fun i => (k : Int) + (i : Int) * ((n : Int) - 1)) n = lineAt n (3 * n + 1 + k) := by
  have : lineAt n (3 * n + 1 + k) = colL n (fun j => ((3 * n + 1 + k : Nat) : Int) - 3 * n - 1 - j) n := by
    unfold lineAt; rw [if_neg (by omega), if_neg (by omega), if_neg (by omega), if_neg (by omega), if_neg (by omega)]
  rw [this]; exact colL_congr fun i _ => emod_of_sub (k := (i : Int)) (by rw [Int.mul_sub, Int.mul_comm (n : Int) (i : Int)]; push_cast; omega)
theorem linesTo_two (n : Nat) : linesTo n (n + n) ++ [colL n (fun i => 0 + (i : Int) * 1) n, colL n (fun i => (n : Int) - 1 + (i : Int) * ((n : Int) - 1)) n] = linesTo n (2 * n + 2) := by
  rw [dg1, dg2, show 2 * n + 2 = n + n + 1 + 1 by omega, linesTo_succ, linesTo_succ, show n + n + 1 = 2 * n + 1 by omega, show n + n = 2 * n by omega]
  simp
noncomputable def cpLn : CPT := cpAdd 83 (pureCC diagP) noC
theorem cpLn_ok : CPOK Try.prog cpLn := cpAdd_ok (pureCC_ok diag_ok) noC_ok
theorem Lines_spec (n : Nat) (hn : 1 ≤ n ∧ n ≤ 16) (s : ByteArray) : PSpec Try.prog 105 [.int .i64 (n : Int), .str s] (.isl (.rows .i64 (linesTo n (lineCnt n (gOf s)))) .none) := by
  refine pspec_of (md := 0) (rf := []) mixed tabOK cpLn_ok Try.func105 (by rfl) (by rfl) (by rfl) ?_
  repeat' (first | ((conv => whnf); refine And.intro ?_ ?_) | ((conv => whnf); with_reducible exact VC.mk rfl) | ((conv => whnf); exact Ok.mk) | ((conv => whnf); exact True.intro) | ((conv => whnf); refine Nx.mk ?_) | ((conv => whnf); refine Fin.mk ?_) | ((conv => whnf); intro _))
  all_goals ((try refine VC.mk ?_); (try simp only [CL.ncell, CL.cnt, Int.toNat_natCast, decide_eq_true_eq, decide_eq_false_iff_not, Bool.not_eq_true, Bool.not_false, Bool.not_true, and_self, and_true, true_and, te3b, te4b, te3s, te4s, Nat.mul_one, Nat.zero_add, List.length_cons, List.length_nil, Bool.false_eq_true, Bool.true_eq_false] at *); (try omega))
  · rename_i hs
    have : lineCnt n (gOf s) = 0 := by unfold gOf; rw [if_pos hs]; rfl
    rw [this]
    all_goals (refine Sup.via ?_; repeat' (first | ((conv => whnf); refine And.intro ?_ ?_) | ((conv => whnf); with_reducible exact VC.mk rfl) | ((conv => whnf); exact Ok.mk) | ((conv => whnf); exact True.intro) | ((conv => whnf); refine Nx.mk ?_) | ((conv => whnf); refine Fin.mk ?_) | ((conv => whnf); intro _)); all_goals ((try refine VC.mk ?_); (try simp only [CL.ncell, CL.cnt, Int.toNat_natCast, decide_eq_true_eq, decide_eq_false_iff_not, Bool.not_eq_true, Bool.not_false, Bool.not_true, and_self, and_true, true_and, te3b, te4b, te3s, te4s, Nat.mul_one, Nat.zero_add, List.length_cons, List.length_nil, Bool.false_eq_true, Bool.true_eq_false] at *); (try omega)); all_goals (try (simp [CL.sub]; done)))
    rfl
  rename_i hsq
  conv => whnf
  refine loop_of (X := Nat) (fun i => i ≤ n) (fun i => [(6, .int .i64 i), (5, .isl (.rows .i64 (linesTo n i)) (.own 0))]) (fun i => [(0, .tok 1 i)]) (fun i => n - i) 0 ⟨anyB_ok, mixed, tabOK, cpLn_ok, noY_ok⟩ (by rfl) (by omega) ?_ ?_
  · repeat' (first | ((conv => whnf); refine And.intro ?_ ?_) | ((conv => whnf); with_reducible exact VC.mk rfl) | ((conv => whnf); exact Ok.mk) | ((conv => whnf); exact True.intro) | ((conv => whnf); refine Nx.mk ?_) | ((conv => whnf); refine Fin.mk ?_) | ((conv => whnf); intro _))
    all_goals ((try refine VC.mk ?_); (try simp only [CL.ncell, CL.cnt, Int.toNat_natCast, decide_eq_true_eq, decide_eq_false_iff_not, Bool.not_eq_true, Bool.not_false, Bool.not_true, and_self, and_true, true_and, te3b, te4b, te3s, te4s, Nat.mul_one, Nat.zero_add, List.length_cons, List.length_nil, Bool.false_eq_true, Bool.true_eq_false] at *); (try omega))
  intro i hi
  by_cases hlt : i < n
  · repeat' (first | ((conv => whnf); refine And.intro ?_ ?_) | ((conv => whnf); with_reducible exact VC.mk rfl) | ((conv => whnf); exact Ok.mk) | ((conv => whnf); exact True.intro) | ((conv => whnf); refine Nx.mk ?_) | ((conv => whnf); refine Fin.mk ?_) | ((conv => whnf); intro _))
    all_goals ((try refine VC.mk ?_); (try simp only [CL.ncell, CL.cnt, Int.toNat_natCast, decide_eq_true_eq, decide_eq_false_iff_not, Bool.not_eq_true, Bool.not_false, Bool.not_true, and_self, and_true, true_and, te3b, te4b, te3s, te4s, Nat.mul_one, Nat.zero_add, List.length_cons, List.length_nil, Bool.false_eq_true, Bool.true_eq_false] at *); (try omega))
    conv => whnf
    refine loop_of (X := Nat) (fun j => j ≤ n) (fun j => [(8, .int .i64 j), (7, .isl (.ints .i64 (rowL n i j)) (.own 1))]) (fun j => [(1, .tok 1 j)]) (fun j => n - j) 0 ⟨anyB_ok, mixed, tabOK, cpLn_ok, noY_ok⟩ (by rfl) (by omega) ?_ ?_
    · repeat' (first | ((conv => whnf); refine And.intro ?_ ?_) | ((conv => whnf); with_reducible exact VC.mk rfl) | ((conv => whnf); exact Ok.mk) | ((conv => whnf); exact True.intro) | ((conv => whnf); refine Nx.mk ?_) | ((conv => whnf); refine Fin.mk ?_) | ((conv => whnf); intro _))
      all_goals ((try refine VC.mk ?_); (try simp only [CL.ncell, CL.cnt, Int.toNat_natCast, decide_eq_true_eq, decide_eq_false_iff_not, Bool.not_eq_true, Bool.not_false, Bool.not_true, and_self, and_true, true_and, te3b, te4b, te3s, te4s, Nat.mul_one, Nat.zero_add, List.length_cons, List.length_nil, Bool.false_eq_true, Bool.true_eq_false] at *); (try omega))
    intro j hj
    have e1 := rowL_succ n i j
    have e2 := rowL_len n i j
    have h1 := mul_bd (A := 16) (B := 16) (show 0 ≤ (i : Int) ∧ (i : Int) ≤ 16 by omega) (show 0 ≤ (n : Int) ∧ (n : Int) ≤ 16 by omega)
    by_cases hlj : j < n
    · repeat' (first | ((conv => whnf); refine And.intro ?_ ?_) | ((conv => whnf); with_reducible exact VC.mk rfl) | ((conv => whnf); exact Ok.mk) | ((conv => whnf); exact True.intro) | ((conv => whnf); refine Nx.mk ?_) | ((conv => whnf); refine Fin.mk ?_) | ((conv => whnf); intro _))
      all_goals ((try refine VC.mk ?_); (try simp only [CL.ncell, CL.cnt, Int.toNat_natCast, decide_eq_true_eq, decide_eq_false_iff_not, Bool.not_eq_true, Bool.not_false, Bool.not_true, and_self, and_true, true_and, te3b, te4b, te3s, te4s, Nat.mul_one, Nat.zero_add, List.length_cons, List.length_nil, Bool.false_eq_true, Bool.true_eq_false] at *); (try omega))
      all_goals (try (simp only [List.length_append, List.length_cons, List.length_nil]; omega))
      refine ⟨j + 1, [], ⟨by omega, by omega⟩, ?_⟩
      repeat' (first | ((conv => whnf); refine And.intro ?_ ?_) | ((conv => whnf); with_reducible exact VC.mk rfl) | ((conv => whnf); exact Ok.mk) | ((conv => whnf); exact True.intro) | ((conv => whnf); refine Nx.mk ?_) | ((conv => whnf); refine Fin.mk ?_) | ((conv => whnf); intro _))
      all_goals ((try refine VC.mk ?_); (try simp only [CL.ncell, CL.cnt, Int.toNat_natCast, decide_eq_true_eq, decide_eq_false_iff_not, Bool.not_eq_true, Bool.not_false, Bool.not_true, and_self, and_true, true_and, te3b, te4b, te3s, te4s, Nat.mul_one, Nat.zero_add, List.length_cons, List.length_nil, Bool.false_eq_true, Bool.true_eq_false] at *); (try omega))
      all_goals (try (rw [e1, Int.mul_comm (n : Int)]))
    · have : n = j := by omega
      subst this
      have e3 := linesTo_len n i
      have e4 := linesTo_succ n i
      rw [lineAt_row hlt] at e4
      repeat' (first | ((conv => whnf); refine And.intro ?_ ?_) | ((conv => whnf); with_reducible exact VC.mk rfl) | ((conv => whnf); exact Ok.mk) | ((conv => whnf); exact True.intro) | ((conv => whnf); refine Nx.mk ?_) | ((conv => whnf); refine Fin.mk ?_) | ((conv => whnf); intro _))
      all_goals ((try refine VC.mk ?_); (try simp only [CL.ncell, CL.cnt, Int.toNat_natCast, decide_eq_true_eq, decide_eq_false_iff_not, Bool.not_eq_true, Bool.not_false, Bool.not_true, and_self, and_true, true_and, te3b, te4b, te3s, te4s, Nat.mul_one, Nat.zero_add, List.length_cons, List.length_nil, Bool.false_eq_true, Bool.true_eq_false] at *); (try omega))
      all_goals (try (simp only [List.length_append, List.length_cons, List.length_nil]; omega))
      refine ⟨i + 1, [], ⟨by omega, by omega⟩, ?_⟩
      repeat' (first | ((conv => whnf); refine And.intro ?_ ?_) | ((conv => whnf); with_reducible exact VC.mk rfl) | ((conv => whnf); exact Ok.mk) | ((conv => whnf); exact True.intro) | ((conv => whnf); refine Nx.mk ?_) | ((conv => whnf); refine Fin.mk ?_) | ((conv => whnf); intro _))
      all_goals ((try refine VC.mk ?_); (try simp only [CL.ncell, CL.cnt, Int.toNat_natCast, decide_eq_true_eq, decide_eq_false_iff_not, Bool.not_eq_true, Bool.not_false, Bool.not_true, and_self, and_true, true_and, te3b, te4b, te3s, te4s, Nat.mul_one, Nat.zero_add, List.length_cons, List.length_nil, Bool.false_eq_true, Bool.true_eq_false] at *); (try omega))
      all_goals (try (rw [e4]))
  have : n = i := by omega
  subst this
  repeat' (first | ((conv => whnf); refine And.intro ?_ ?_) | ((conv => whnf); with_reducible exact VC.mk rfl) | ((conv => whnf); exact Ok.mk) | ((conv => whnf); exact True.intro) | ((conv => whnf); refine Nx.mk ?_) | ((conv => whnf); refine Fin.mk ?_) | ((conv => whnf); intro _))
  all_goals ((try refine VC.mk ?_); (try simp only [CL.ncell, CL.cnt, Int.toNat_natCast, decide_eq_true_eq, decide_eq_false_iff_not, Bool.not_eq_true, Bool.not_false, Bool.not_true, and_self, and_true, true_and, te3b, te4b, te3s, te4s, Nat.mul_one, Nat.zero_add, List.length_cons, List.length_nil, Bool.false_eq_true, Bool.true_eq_false] at *); (try omega))
  conv => whnf
  refine loop_of (X := Nat) (fun i => i ≤ n) (fun i => [(9, .int .i64 i), (5, .isl (.rows .i64 (linesTo n (n + i))) (.own 0))]) (fun i => [(0, .tok 1 (n + i))]) (fun i => n - i) 0 ⟨anyB_ok, mixed, tabOK, cpLn_ok, noY_ok⟩ (by rfl) (by omega) ?_ ?_
  · repeat' (first | ((conv => whnf); refine And.intro ?_ ?_) | ((conv => whnf); with_reducible exact VC.mk rfl) | ((conv => whnf); exact Ok.mk) | ((conv => whnf); exact True.intro) | ((conv => whnf); refine Nx.mk ?_) | ((conv => whnf); refine Fin.mk ?_) | ((conv => whnf); intro _))
    all_goals ((try refine VC.mk ?_); (try simp only [CL.ncell, CL.cnt, Int.toNat_natCast, decide_eq_true_eq, decide_eq_false_iff_not, Bool.not_eq_true, Bool.not_false, Bool.not_true, and_self, and_true, true_and, te3b, te4b, te3s, te4s, Nat.mul_one, Nat.zero_add, List.length_cons, List.length_nil, Bool.false_eq_true, Bool.true_eq_false] at *); (try omega))
  intro i hi
  by_cases hlt : i < n
  · repeat' (first | ((conv => whnf); refine And.intro ?_ ?_) | ((conv => whnf); with_reducible exact VC.mk rfl) | ((conv => whnf); exact Ok.mk) | ((conv => whnf); exact True.intro) | ((conv => whnf); refine Nx.mk ?_) | ((conv => whnf); refine Fin.mk ?_) | ((conv => whnf); intro _))
    all_goals ((try refine VC.mk ?_); (try simp only [CL.ncell, CL.cnt, Int.toNat_natCast, decide_eq_true_eq, decide_eq_false_iff_not, Bool.not_eq_true, Bool.not_false, Bool.not_true, and_self, and_true, true_and, te3b, te4b, te3s, te4s, Nat.mul_one, Nat.zero_add, List.length_cons, List.length_nil, Bool.false_eq_true, Bool.true_eq_false] at *); (try omega))
    conv => whnf
    refine loop_of (X := Nat) (fun j => j ≤ n) (fun j => [(11, .int .i64 j), (10, .isl (.ints .i64 (colL n (fun _ => (i : Int)) j)) (.own 1))]) (fun j => [(1, .tok 1 j)]) (fun j => n - j) 0 ⟨anyB_ok, mixed, tabOK, cpLn_ok, noY_ok⟩ (by rfl) (by omega) ?_ ?_
    · repeat' (first | ((conv => whnf); refine And.intro ?_ ?_) | ((conv => whnf); with_reducible exact VC.mk rfl) | ((conv => whnf); exact Ok.mk) | ((conv => whnf); exact True.intro) | ((conv => whnf); refine Nx.mk ?_) | ((conv => whnf); refine Fin.mk ?_) | ((conv => whnf); intro _))
      all_goals ((try refine VC.mk ?_); (try simp only [CL.ncell, CL.cnt, Int.toNat_natCast, decide_eq_true_eq, decide_eq_false_iff_not, Bool.not_eq_true, Bool.not_false, Bool.not_true, and_self, and_true, true_and, te3b, te4b, te3s, te4s, Nat.mul_one, Nat.zero_add, List.length_cons, List.length_nil, Bool.false_eq_true, Bool.true_eq_false] at *); (try omega))
    intro j hj
    have e1 := colL_succ' n (fun _ => (i : Int)) j
    rw [Int.emod_eq_of_lt (by omega) (by omega)] at e1
    have e2 := colL_len n (fun _ => (i : Int)) j
    have h1 := mul_bd (A := 16) (B := 16) (show 0 ≤ (j : Int) ∧ (j : Int) ≤ 16 by omega) (show 0 ≤ (n : Int) ∧ (n : Int) ≤ 16 by omega)
    by_cases hlj : j < n
    · repeat' (first | ((conv => whnf); refine And.intro ?_ ?_) | ((conv => whnf); with_reducible exact VC.mk rfl) | ((conv => whnf); exact Ok.mk) | ((conv => whnf); exact True.intro) | ((conv => whnf); refine Nx.mk ?_) | ((conv => whnf); refine Fin.mk ?_) | ((conv => whnf); intro _))
      all_goals ((try refine VC.mk ?_); (try simp only [CL.ncell, CL.cnt, Int.toNat_natCast, decide_eq_true_eq, decide_eq_false_iff_not, Bool.not_eq_true, Bool.not_false, Bool.not_true, and_self, and_true, true_and, te3b, te4b, te3s, te4s, Nat.mul_one, Nat.zero_add, List.length_cons, List.length_nil, Bool.false_eq_true, Bool.true_eq_false] at *); (try omega))
      all_goals (try (simp only [List.length_append, List.length_cons, List.length_nil]; omega))
      refine ⟨j + 1, [], ⟨by omega, by omega⟩, ?_⟩
      repeat' (first | ((conv => whnf); refine And.intro ?_ ?_) | ((conv => whnf); with_reducible exact VC.mk rfl) | ((conv => whnf); exact Ok.mk) | ((conv => whnf); exact True.intro) | ((conv => whnf); refine Nx.mk ?_) | ((conv => whnf); refine Fin.mk ?_) | ((conv => whnf); intro _))
      all_goals ((try refine VC.mk ?_); (try simp only [CL.ncell, CL.cnt, Int.toNat_natCast, decide_eq_true_eq, decide_eq_false_iff_not, Bool.not_eq_true, Bool.not_false, Bool.not_true, and_self, and_true, true_and, te3b, te4b, te3s, te4s, Nat.mul_one, Nat.zero_add, List.length_cons, List.length_nil, Bool.false_eq_true, Bool.true_eq_false] at *); (try omega))
      all_goals (try (rw [e1]))
    · have : n = j := by omega
      subst this
      have e3 := linesTo_len n (n + i)
      have e4 := linesTo_succ n (n + i)
      rw [lineAt_col hlt] at e4
      repeat' (first | ((conv => whnf); refine And.intro ?_ ?_) | ((conv => whnf); with_reducible exact VC.mk rfl) | ((conv => whnf); exact Ok.mk) | ((conv => whnf); exact True.intro) | ((conv => whnf); refine Nx.mk ?_) | ((conv => whnf); refine Fin.mk ?_) | ((conv => whnf); intro _))
      all_goals ((try refine VC.mk ?_); (try simp only [CL.ncell, CL.cnt, Int.toNat_natCast, decide_eq_true_eq, decide_eq_false_iff_not, Bool.not_eq_true, Bool.not_false, Bool.not_true, and_self, and_true, true_and, te3b, te4b, te3s, te4s, Nat.mul_one, Nat.zero_add, List.length_cons, List.length_nil, Bool.false_eq_true, Bool.true_eq_false] at *); (try omega))
      all_goals (try (simp only [List.length_append, List.length_cons, List.length_nil]; omega))
      refine ⟨i + 1, [], ⟨by omega, by omega⟩, ?_⟩
      repeat' (first | ((conv => whnf); refine And.intro ?_ ?_) | ((conv => whnf); with_reducible exact VC.mk rfl) | ((conv => whnf); exact Ok.mk) | ((conv => whnf); exact True.intro) | ((conv => whnf); refine Nx.mk ?_) | ((conv => whnf); refine Fin.mk ?_) | ((conv => whnf); intro _))
      all_goals ((try refine VC.mk ?_); (try simp only [CL.ncell, CL.cnt, Int.toNat_natCast, decide_eq_true_eq, decide_eq_false_iff_not, Bool.not_eq_true, Bool.not_false, Bool.not_true, and_self, and_true, true_and, te3b, te4b, te3s, te4s, Nat.mul_one, Nat.zero_add, List.length_cons, List.length_nil, Bool.false_eq_true, Bool.true_eq_false] at *); (try omega))
      all_goals (try (rw [← Nat.add_assoc, e4]))
  have : n = i := by omega
  subst this
  have e3 := linesTo_len n (n + n)
  repeat' (first | ((conv => whnf); refine And.intro ?_ ?_) | ((conv => whnf); with_reducible exact VC.mk rfl) | ((conv => whnf); exact Ok.mk) | ((conv => whnf); exact True.intro) | ((conv => whnf); refine Nx.mk ?_) | ((conv => whnf); refine Fin.mk ?_) | ((conv => whnf); intro _))
  all_goals ((try refine VC.mk ?_); (try simp only [CL.ncell, CL.cnt, Int.toNat_natCast, decide_eq_true_eq, decide_eq_false_iff_not, Bool.not_eq_true, Bool.not_false, Bool.not_true, and_self, and_true, true_and, te3b, te4b, te3s, te4s, Nat.mul_one, Nat.zero_add, List.length_cons, List.length_nil, Bool.false_eq_true, Bool.true_eq_false] at *); (try omega))
  · rename_i hs
    have : lineCnt n (gOf s) = n + n := by
      have e : gOf s = 1 := by unfold gOf; rw [if_neg hsq, if_pos hs]
      rw [e]; unfold lineCnt; rw [if_neg (by omega), if_pos (by omega)]; omega
    rw [this]
    all_goals (first | (refine Sup.of ?_; first | rfl | (simp [*, resOf]; done)) | (refine Sup.via ?_; repeat' (first | ((conv => whnf); refine And.intro ?_ ?_) | ((conv => whnf); with_reducible exact VC.mk rfl) | ((conv => whnf); exact Ok.mk) | ((conv => whnf); exact True.intro) | ((conv => whnf); refine Nx.mk ?_) | ((conv => whnf); refine Fin.mk ?_) | ((conv => whnf); intro _)); all_goals ((try refine VC.mk ?_); (try simp only [CL.ncell, CL.cnt, Int.toNat_natCast, decide_eq_true_eq, decide_eq_false_iff_not, Bool.not_eq_true, Bool.not_false, Bool.not_true, and_self, and_true, true_and, te3b, te4b, te3s, te4s, Nat.mul_one, Nat.zero_add, List.length_cons, List.length_nil, Bool.false_eq_true, Bool.true_eq_false] at *); (try omega)); all_goals (try (simp [CL.sub]; done))))
  · rename_i hs
    simp only [List.length_append, List.length_cons, List.length_nil]; omega
  · rename_i hs1 hs
    have : lineCnt n (gOf s) = 2 * n + 2 := by
      have e : gOf s = 2 := by unfold gOf; rw [if_neg hsq, if_neg hs1, if_pos hs]
      rw [e]; unfold lineCnt; rw [if_neg (by omega), if_neg (by omega), if_pos (by omega)]
    rw [this, linesTo_two]
    all_goals (first | (refine Sup.of ?_; first | rfl | (simp [*, resOf]; done)) | (refine Sup.via ?_; repeat' (first | ((conv => whnf); refine And.intro ?_ ?_) | ((conv => whnf); with_reducible exact VC.mk rfl) | ((conv => whnf); exact Ok.mk) | ((conv => whnf); exact True.intro) | ((conv => whnf); refine Nx.mk ?_) | ((conv => whnf); refine Fin.mk ?_) | ((conv => whnf); intro _)); all_goals ((try refine VC.mk ?_); (try simp only [CL.ncell, CL.cnt, Int.toNat_natCast, decide_eq_true_eq, decide_eq_false_iff_not, Bool.not_eq_true, Bool.not_false, Bool.not_true, and_self, and_true, true_and, te3b, te4b, te3s, te4s, Nat.mul_one, Nat.zero_add, List.length_cons, List.length_nil, Bool.false_eq_true, Bool.true_eq_false] at *); (try omega)); all_goals (try (simp [CL.sub]; done))))
  rename_i hs1 hs2
  have hcnt : lineCnt n (gOf s) = 4 * n := by
    have e : gOf s = 3 := by unfold gOf; rw [if_neg hsq, if_neg hs1, if_neg hs2]
    rw [e]; unfold lineCnt; rw [if_neg (by omega), if_neg (by omega), if_neg (by omega)]
  rw [hcnt]
  simp only [linesTo_two]
  have e3 := linesTo_len n (2 * n + 2)
  generalize hL0 : linesTo n (2 * n + 2) = L0 at *
  try simp only [List.length_append, List.length_cons, List.length_nil]
  conv => whnf
  refine loop_of (X := Nat) (fun k => 1 ≤ k ∧ k ≤ n) (fun k => [(12, .int .i64 k), (5, .isl (.rows .i64 (linesTo n (2 * n + 1 + k))) (.own 0))]) (fun k => [(0, .tok 1 (2 * n + 1 + k))]) (fun k => n - k) 1 ⟨anyB_ok, mixed, tabOK, cpLn_ok, noY_ok⟩ (by rfl) (by omega) ?_ ?_
  · repeat' (first | ((conv => whnf); refine And.intro ?_ ?_) | ((conv => whnf); with_reducible exact VC.mk rfl) | ((conv => whnf); exact Ok.mk) | ((conv => whnf); exact True.intro) | ((conv => whnf); refine Nx.mk ?_) | ((conv => whnf); refine Fin.mk ?_) | ((conv => whnf); intro _))
    all_goals ((try refine VC.mk ?_); (try simp only [CL.ncell, CL.cnt, Int.toNat_natCast, decide_eq_true_eq, decide_eq_false_iff_not, Bool.not_eq_true, Bool.not_false, Bool.not_true, and_self, and_true, true_and, te3b, te4b, te3s, te4s, Nat.mul_one, Nat.zero_add, List.length_cons, List.length_nil, Bool.false_eq_true, Bool.true_eq_false] at *); (try omega))
    all_goals (try (rw [← hL0]; done))
  intro k hk
  have e3 := linesTo_len n (2 * n + 1 + k)
  have e4 := linesTo_succ n (2 * n + 1 + k)
  by_cases hlt : k < n
  · rw [← dg3 n k (by omega)] at e4
    repeat' (first | ((conv => whnf); refine And.intro ?_ ?_) | ((conv => whnf); with_reducible exact VC.mk rfl) | ((conv => whnf); exact Ok.mk) | ((conv => whnf); exact True.intro) | ((conv => whnf); refine Nx.mk ?_) | ((conv => whnf); refine Fin.mk ?_) | ((conv => whnf); intro _))
    all_goals ((try refine VC.mk ?_); (try simp only [CL.ncell, CL.cnt, Int.toNat_natCast, decide_eq_true_eq, decide_eq_false_iff_not, Bool.not_eq_true, Bool.not_false, Bool.not_true, and_self, and_true, true_and, te3b, te4b, te3s, te4s, Nat.mul_one, Nat.zero_add, List.length_cons, List.length_nil, Bool.false_eq_true, Bool.true_eq_false] at *); (try omega))
    all_goals (try (simp only [List.length_append, List.length_cons, List.length_nil]; omega))
    refine ⟨k + 1, [], ⟨by omega, by omega⟩, ?_⟩
    repeat' (first | ((conv => whnf); refine And.intro ?_ ?_) | ((conv => whnf); with_reducible exact VC.mk rfl) | ((conv => whnf); exact Ok.mk) | ((conv => whnf); exact True.intro) | ((conv => whnf); refine Nx.mk ?_) | ((conv => whnf); refine Fin.mk ?_) | ((conv => whnf); intro _))
    all_goals ((try refine VC.mk ?_); (try simp only [CL.ncell, CL.cnt, Int.toNat_natCast, decide_eq_true_eq, decide_eq_false_iff_not, Bool.not_eq_true, Bool.not_false, Bool.not_true, and_self, and_true, true_and, te3b, te4b, te3s, te4s, Nat.mul_one, Nat.zero_add, List.length_cons, List.length_nil, Bool.false_eq_true, Bool.true_eq_false] at *); (try omega))
    all_goals (try (rw [← Nat.add_assoc, e4]))
  have : n = k := by omega
  subst this
  repeat' (first | ((conv => whnf); refine And.intro ?_ ?_) | ((conv => whnf); with_reducible exact VC.mk rfl) | ((conv => whnf); exact Ok.mk) | ((conv => whnf); exact True.intro) | ((conv => whnf); refine Nx.mk ?_) | ((conv => whnf); refine Fin.mk ?_) | ((conv => whnf); intro _))
  all_goals ((try refine VC.mk ?_); (try simp only [CL.ncell, CL.cnt, Int.toNat_natCast, decide_eq_true_eq, decide_eq_false_iff_not, Bool.not_eq_true, Bool.not_false, Bool.not_true, and_self, and_true, true_and, te3b, te4b, te3s, te4s, Nat.mul_one, Nat.zero_add, List.length_cons, List.length_nil, Bool.false_eq_true, Bool.true_eq_false] at *); (try omega))
  conv => whnf
  refine loop_of (X := Nat) (fun k => k + 1 ≤ n) (fun k => [(13, .int .i64 k), (5, .isl (.rows .i64 (linesTo n (3 * n + 1 + k))) (.own 0))]) (fun k => [(0, .tok 1 (3 * n + 1 + k))]) (fun k => n - k) 0 ⟨anyB_ok, mixed, tabOK, cpLn_ok, noY_ok⟩ (by rfl) (by omega) ?_ ?_
  · have : 2 * n + 1 + n = 3 * n + 1 + 0 := by omega
    rw [this]
    repeat' (first | ((conv => whnf); refine And.intro ?_ ?_) | ((conv => whnf); with_reducible exact VC.mk rfl) | ((conv => whnf); exact Ok.mk) | ((conv => whnf); exact True.intro) | ((conv => whnf); refine Nx.mk ?_) | ((conv => whnf); refine Fin.mk ?_) | ((conv => whnf); intro _))
    all_goals ((try refine VC.mk ?_); (try simp only [CL.ncell, CL.cnt, Int.toNat_natCast, decide_eq_true_eq, decide_eq_false_iff_not, Bool.not_eq_true, Bool.not_false, Bool.not_true, and_self, and_true, true_and, te3b, te4b, te3s, te4s, Nat.mul_one, Nat.zero_add, List.length_cons, List.length_nil, Bool.false_eq_true, Bool.true_eq_false] at *); (try omega))
  intro k hk
  have e3 := linesTo_len n (3 * n + 1 + k)
  have e4 := linesTo_succ n (3 * n + 1 + k)
  by_cases hlt : k + 1 < n
  · rw [← dg4 n k hn.1 hlt] at e4
    repeat' (first | ((conv => whnf); refine And.intro ?_ ?_) | ((conv => whnf); with_reducible exact VC.mk rfl) | ((conv => whnf); exact Ok.mk) | ((conv => whnf); exact True.intro) | ((conv => whnf); refine Nx.mk ?_) | ((conv => whnf); refine Fin.mk ?_) | ((conv => whnf); intro _))
    all_goals ((try refine VC.mk ?_); (try simp only [CL.ncell, CL.cnt, Int.toNat_natCast, decide_eq_true_eq, decide_eq_false_iff_not, Bool.not_eq_true, Bool.not_false, Bool.not_true, and_self, and_true, true_and, te3b, te4b, te3s, te4s, Nat.mul_one, Nat.zero_add, List.length_cons, List.length_nil, Bool.false_eq_true, Bool.true_eq_false] at *); (try omega))
    all_goals (try (simp only [List.length_append, List.length_cons, List.length_nil]; omega))
    refine ⟨k + 1, [], ⟨by omega, by omega⟩, ?_⟩
    repeat' (first | ((conv => whnf); refine And.intro ?_ ?_) | ((conv => whnf); with_reducible exact VC.mk rfl) | ((conv => whnf); exact Ok.mk) | ((conv => whnf); exact True.intro) | ((conv => whnf); refine Nx.mk ?_) | ((conv => whnf); refine Fin.mk ?_) | ((conv => whnf); intro _))
    all_goals ((try refine VC.mk ?_); (try simp only [CL.ncell, CL.cnt, Int.toNat_natCast, decide_eq_true_eq, decide_eq_false_iff_not, Bool.not_eq_true, Bool.not_false, Bool.not_true, and_self, and_true, true_and, te3b, te4b, te3s, te4s, Nat.mul_one, Nat.zero_add, List.length_cons, List.length_nil, Bool.false_eq_true, Bool.true_eq_false] at *); (try omega))
    all_goals (try (rw [← Nat.add_assoc, e4]))
  · have : 3 * n + 1 + k = 4 * n := by omega
    rw [this]
    repeat' (first | ((conv => whnf); refine And.intro ?_ ?_) | ((conv => whnf); with_reducible exact VC.mk rfl) | ((conv => whnf); exact Ok.mk) | ((conv => whnf); exact True.intro) | ((conv => whnf); refine Nx.mk ?_) | ((conv => whnf); refine Fin.mk ?_) | ((conv => whnf); intro _))
    all_goals ((try refine VC.mk ?_); (try simp only [CL.ncell, CL.cnt, Int.toNat_natCast, decide_eq_true_eq, decide_eq_false_iff_not, Bool.not_eq_true, Bool.not_false, Bool.not_true, and_self, and_true, true_and, te3b, te4b, te3s, te4s, Nat.mul_one, Nat.zero_add, List.length_cons, List.length_nil, Bool.false_eq_true, Bool.true_eq_false] at *); (try omega))
    all_goals (first | (refine Sup.of ?_; first | rfl | (simp [*, resOf]; done)) | (refine Sup.via ?_; repeat' (first | ((conv => whnf); refine And.intro ?_ ?_) | ((conv => whnf); with_reducible exact VC.mk rfl) | ((conv => whnf); exact Ok.mk) | ((conv => whnf); exact True.intro) | ((conv => whnf); refine Nx.mk ?_) | ((conv => whnf); refine Fin.mk ?_) | ((conv => whnf); intro _)); all_goals ((try refine VC.mk ?_); (try simp only [CL.ncell, CL.cnt, Int.toNat_natCast, decide_eq_true_eq, decide_eq_false_iff_not, Bool.not_eq_true, Bool.not_false, Bool.not_true, and_self, and_true, true_and, te3b, te4b, te3s, te4s, Nat.mul_one, Nat.zero_add, List.length_cons, List.length_nil, Bool.false_eq_true, Bool.true_eq_false] at *); (try omega)); all_goals (try (simp [CL.sub]; done))))
theorem Lines_spec' {n : Int} {s : ByteArray} (hn : 1 ≤ n ∧ n ≤ 16) : PSpec Try.prog 105 [.int .i64 n, .str s] (.isl (.rows .i64 (linesTo n.toNat (lineCnt n.toNat (gOf s)))) .none) := by
  have := Lines_spec n.toNat (by omega) s
  rwa [Int.toNat_of_nonneg (by omega)] at this
def LinesP : PSp := fun xs K => match xs with
  | [.int .i64 n, .str s] => VC (1 ≤ n ∧ n ≤ 16) ∧ K (.isl (.rows .i64 (linesTo n.toNat (lineCnt n.toNat (gOf s)))) .none)
  | _ => False
theorem Lines_ok : POK Try.prog 105 LinesP := by
  intro xs K h
  unfold LinesP at h
  split at h
  · exact ⟨_, h.2, Lines_spec' h.1.get⟩
  · exact h.elim
end Go.Eng.Ytppflbccfdbogaa
namespace Go.Eng.Ytppflbccfdbogaa
open Go.Proofs
set_option maxRecDepth 100000
set_option maxHeartbeats 0
set_option linter.unusedVariables false
set_option linter.unusedSimpArgs false
theorem CheckKind_spec (s : ByteArray) : PSpec Try.prog 20 [.str s] (.int .i64 (kindErr s)) := by
  refine pspec_of (md := 0) (rf := []) mixed tabOK noC_ok Try.func20 (by rfl) (by rfl) (by rfl) ?_
  repeat' (first | ((conv => whnf); refine And.intro ?_ ?_) | ((conv => whnf); with_reducible exact VC.mk rfl) | ((conv => whnf); exact Ok.mk) | ((conv => whnf); exact True.intro) | ((conv => whnf); refine Nx.mk ?_) | ((conv => whnf); refine Fin.mk ?_) | ((conv => whnf); intro _))
  all_goals ((try refine VC.mk ?_); (try simp only [CL.ncell, CL.cnt, Int.toNat_natCast, decide_eq_true_eq, decide_eq_false_iff_not, Bool.not_eq_true, Bool.not_false, Bool.not_true, and_self, and_true, true_and, te3b, te4b, te3s, te4s, Nat.mul_one, Nat.zero_add, List.length_cons, List.length_nil, Bool.false_eq_true, Bool.true_eq_false] at *); (try omega))
  all_goals (refine Sup.of ?_; simp_all [resOf, kindErr])
def CheckKindP : PSp := fun xs K => match xs with
  | [.str s] => VC (True) ∧ K (.int .i64 (kindErr s))
  | _ => False
theorem CheckKind_ok : POK Try.prog 20 CheckKindP := by
  intro xs K h
  unfold CheckKindP at h
  split at h
  · exact ⟨_, h.2, CheckKind_spec _⟩
  · exact h.elim
/-! the first line with another sum -/
theorem badLine_none {n : Nat} {g : Int} {l : List Int} (h : ∀ j, j < lineCnt n g → lineOk n l j = true) : badLine n g l = none := by
  unfold badLine
  rw [List.find?_eq_none]
  intro i hi
  simp [h i (List.mem_range.1 hi)]
theorem badLine_some {n : Nat} {g : Int} {l : List Int} {i : Nat} (hi : i < lineCnt n g) (h : ∀ j, j < i → lineOk n l j = true) (hb : lineOk n l i = false) : badLine n g l = some i := by
  unfold badLine
  rw [List.find?_range_eq_some]
  exact ⟨by simp [hb], by simpa using hi, fun j hj => by simp [h j hj]⟩
def failsV (n : Nat) (g : Int) (l : List Int) : PV := match badLine n g l with
  | some i => .tup [.isl (.ints .i64 (lineAt n i)) .none, .bp true]
  | none => .tup [.isl (.ints .i64 []) .none, .bp false]
theorem lineCnt_le (n : Nat) (g : Int) : lineCnt n g ≤ 4 * n + 2 := by unfold lineCnt; split <;> (try split) <;> (try split) <;> omega
noncomputable def cpFa : CPT := cpAdd 105 (pureCC LinesP) (cpAdd 71 (pureCC rSumP) (cpAdd 72 (pureCC ConstantP) noC))
theorem cpFa_ok : CPOK Try.prog cpFa := cpAdd_ok (pureCC_ok Lines_ok) (cpAdd_ok (pureCC_ok rSum_ok) (cpAdd_ok (pureCC_ok Constant_ok) noC_ok))
theorem Fails_spec (n : Nat) (c : Int) (l : List Int) (s : ByteArray) (hn : 1 ≤ n ∧ n ≤ 16) (hl : l.length = n * n) (hv : ∀ x ∈ l, 0 ≤ x ∧ x ≤ 1000) : PSpec Try.prog 54 [gridV n c l, .str s] (failsV n (gOf s) l) := by
  have hg : ∀ c : Int, 0 ≤ c → c < (n : Int) * n → 0 ≤ l.getD c.toNat 0 ∧ l.getD c.toNat 0 ≤ 1000 := fun c h1 h2 => by
    rw [List.getD_eq_getElem?_getD]
    cases h : l[c.toNat]? with
    | none => simp
    | some v => simpa using hv v (List.mem_of_getElem? h)
  have hll : (l.length : Int) = (n : Int) * n := by rw [hl]; push_cast; rfl
  refine pspec_of (md := 0) (rf := []) mixed tabOK cpFa_ok Try.func54 (by rfl) (by rfl) (by rfl) ?_
  repeat' (first | ((conv => whnf); refine And.intro ?_ ?_) | ((conv => whnf); with_reducible exact VC.mk rfl) | ((conv => whnf); exact Ok.mk) | ((conv => whnf); exact True.intro) | ((conv => whnf); refine Nx.mk ?_) | ((conv => whnf); refine Fin.mk ?_) | ((conv => whnf); intro _))
  all_goals ((try refine VC.mk ?_); (try simp only [CL.ncell, CL.cnt, Int.toNat_natCast, decide_eq_true_eq, decide_eq_false_iff_not, Bool.not_eq_true, Bool.not_false, Bool.not_true, and_self, and_true, true_and, te3b, te4b, te3s, te4s, Nat.mul_one, Nat.zero_add, List.length_cons, List.length_nil, Bool.false_eq_true, Bool.true_eq_false] at *); (try omega))
  generalize hcnt : lineCnt n (gOf s) = cnt at *
  conv => whnf
  refine loop_of (X := Nat) (fun i => i ≤ cnt ∧ ∀ j, j < i → lineOk n l j = true) (fun i => [(7, .int .i64 i)]) (fun i => []) (fun i => cnt - i) 0 ⟨anyB_ok, mixed, tabOK, cpFa_ok, noY_ok⟩ (by rfl) ⟨by omega, fun j hj => by omega⟩ ?_ ?_
  · repeat' (first | ((conv => whnf); refine And.intro ?_ ?_) | ((conv => whnf); with_reducible exact VC.mk rfl) | ((conv => whnf); exact Ok.mk) | ((conv => whnf); exact True.intro) | ((conv => whnf); refine Nx.mk ?_) | ((conv => whnf); refine Fin.mk ?_) | ((conv => whnf); intro _))
    all_goals ((try refine VC.mk ?_); (try simp only [CL.ncell, CL.cnt, Int.toNat_natCast, decide_eq_true_eq, decide_eq_false_iff_not, Bool.not_eq_true, Bool.not_false, Bool.not_true, and_self, and_true, true_and, te3b, te4b, te3s, te4s, Nat.mul_one, Nat.zero_add, List.length_cons, List.length_nil, Bool.false_eq_true, Bool.true_eq_false] at *); (try omega))
  rintro i ⟨hi, hok⟩
  have e1 := linesTo_len n cnt
  by_cases hlt : i < cnt
  · have e2 := linesTo_get n cnt i hlt
    have hm := fun c hc => lineAt_mem (n := n) (i := i) c hc
    have e3 := lineAt_len n i
    have hb := sumAt_bd l (lineAt n i) (fun c hc => hg c (hm c hc).1 (hm c hc).2)
    have hc4 := lineCnt_le n (gOf s)
    repeat' (first | ((conv => whnf); refine And.intro ?_ ?_) | ((conv => whnf); with_reducible exact VC.mk rfl) | ((conv => whnf); exact Ok.mk) | ((conv => whnf); exact True.intro) | ((conv => whnf); refine Nx.mk ?_) | ((conv => whnf); refine Fin.mk ?_) | ((conv => whnf); intro _))
    all_goals ((try refine VC.mk ?_); (try simp only [CL.ncell, CL.cnt, Int.toNat_natCast, decide_eq_true_eq, decide_eq_false_iff_not, Bool.not_eq_true, Bool.not_false, Bool.not_true, and_self, and_true, true_and, te3b, te4b, te3s, te4s, Nat.mul_one, Nat.zero_add, List.length_cons, List.length_nil, Bool.false_eq_true, Bool.true_eq_false] at *); (try omega))
    all_goals (try simp only [e2] at *)
    · refine ⟨fun x hx => by have := hm x hx; omega, by omega, fun j hj => ?_⟩
      have := hb j hj
      rw [e3] at hj
      omega
    · rename_i hbad
      have : failsV n (gOf s) l = .tup [.isl (.ints .i64 (lineAt n i)) .none, .bp true] := by
        unfold failsV
        rw [badLine_some (i := i) (by omega) hok (by unfold lineOk lineSum; rw [e3] at hbad; simpa using hbad)]
      rw [this]
      all_goals (refine Sup.via ?_; repeat' (first | ((conv => whnf); refine And.intro ?_ ?_) | ((conv => whnf); with_reducible exact VC.mk rfl) | ((conv => whnf); exact Ok.mk) | ((conv => whnf); exact True.intro) | ((conv => whnf); refine Nx.mk ?_) | ((conv => whnf); refine Fin.mk ?_) | ((conv => whnf); intro _)); all_goals ((try refine VC.mk ?_); (try simp only [CL.ncell, CL.cnt, Int.toNat_natCast, decide_eq_true_eq, decide_eq_false_iff_not, Bool.not_eq_true, Bool.not_false, Bool.not_true, and_self, and_true, true_and, te3b, te4b, te3s, te4s, Nat.mul_one, Nat.zero_add, List.length_cons, List.length_nil, Bool.false_eq_true, Bool.true_eq_false] at *); (try omega)); all_goals (try (simp [CL.sub]; done)))
    · rename_i hgood
      refine ⟨i + 1, [], ⟨⟨by omega, fun j hj => ?_⟩, by omega⟩, ?_⟩
      · by_cases e : j = i
        · subst e; unfold lineOk lineSum; rw [e3] at hgood; simpa using hgood
        · exact hok j (by omega)
      · repeat' (first | ((conv => whnf); refine And.intro ?_ ?_) | ((conv => whnf); with_reducible exact VC.mk rfl) | ((conv => whnf); exact Ok.mk) | ((conv => whnf); exact True.intro) | ((conv => whnf); refine Nx.mk ?_) | ((conv => whnf); refine Fin.mk ?_) | ((conv => whnf); intro _))
        all_goals ((try refine VC.mk ?_); (try simp only [CL.ncell, CL.cnt, Int.toNat_natCast, decide_eq_true_eq, decide_eq_false_iff_not, Bool.not_eq_true, Bool.not_false, Bool.not_true, and_self, and_true, true_and, te3b, te4b, te3s, te4s, Nat.mul_one, Nat.zero_add, List.length_cons, List.length_nil, Bool.false_eq_true, Bool.true_eq_false] at *); (try omega))
  · have : cnt = i := by omega
    subst this
    have : failsV n (gOf s) l = .tup [.isl (.ints .i64 []) .none, .bp false] := by unfold failsV; rw [badLine_none (by rw [hcnt]; exact hok)]
    rw [this]
    repeat' (first | ((conv => whnf); refine And.intro ?_ ?_) | ((conv => whnf); with_reducible exact VC.mk rfl) | ((conv => whnf); exact Ok.mk) | ((conv => whnf); exact True.intro) | ((conv => whnf); refine Nx.mk ?_) | ((conv => whnf); refine Fin.mk ?_) | ((conv => whnf); intro _))
    all_goals ((try refine VC.mk ?_); (try simp only [CL.ncell, CL.cnt, Int.toNat_natCast, decide_eq_true_eq, decide_eq_false_iff_not, Bool.not_eq_true, Bool.not_false, Bool.not_true, and_self, and_true, true_and, te3b, te4b, te3s, te4s, Nat.mul_one, Nat.zero_add, List.length_cons, List.length_nil, Bool.false_eq_true, Bool.true_eq_false] at *); (try omega))
    all_goals (first | (refine Sup.of ?_; first | rfl | (simp [*, resOf]; done)) | (refine Sup.via ?_; repeat' (first | ((conv => whnf); refine And.intro ?_ ?_) | ((conv => whnf); with_reducible exact VC.mk rfl) | ((conv => whnf); exact Ok.mk) | ((conv => whnf); exact True.intro) | ((conv => whnf); refine Nx.mk ?_) | ((conv => whnf); refine Fin.mk ?_) | ((conv => whnf); intro _)); all_goals ((try refine VC.mk ?_); (try simp only [CL.ncell, CL.cnt, Int.toNat_natCast, decide_eq_true_eq, decide_eq_false_iff_not, Bool.not_eq_true, Bool.not_false, Bool.not_true, and_self, and_true, true_and, te3b, te4b, te3s, te4s, Nat.mul_one, Nat.zero_add, List.length_cons, List.length_nil, Bool.false_eq_true, Bool.true_eq_false] at *); (try omega)); all_goals (try (simp [CL.sub]; done))))
/-! refusals -/
def failsL (n : Nat) (g : Int) (l : List Int) : List Int := match badLine n g l with | some i => lineAt n i | none => []
theorem failsV_eq (n : Nat) (g : Int) (l : List Int) : failsV n g l = .tup [.isl (.ints .i64 (failsL n g l)) .none, .bp (badLine n g l).isSome] := by
  unfold failsV failsL; cases badLine n g l <;> rfl
def refuseR (n : Nat) (c : Nat → Nat) (g : Int) : PV := match meetOf c (n * n) with
  | some y => .tup [refV kMeet ((gAt c (n * n) y).getD (c y) 0) ((y : Int) + 1) [] 0, .bp true]
  | none => match badLine n g (gAt c (n * n) (n * n)) with
    | some i => .tup [refV kSum 0 0 (lineAt n i) (lineSum n (gAt c (n * n) (n * n)) i), .bp true]
    | none => .tup [refV kNo 0 0 [] 0, .bp false]
theorem rRefuse_spec (n : Nat) (s0 s1 x0 x1 b0 b1 : Int) (s : ByteArray) (hn : 1 ≤ n ∧ n ≤ 16) (h : ∀ x ∈ [s0, s1, x0, x1, b0, b1], -999999999 ≤ x ∧ x ≤ 999999999) :
    PSpec Try.prog 22 [stepV n s0 s1 x0 x1 b0 b1, .str s] (refuseR n (cellS n s0 s1 x0 x1 b0 b1) (gOf s)) := by
  have hM := rMeet_spec n s0 s1 x0 x1 b0 b1 (by omega) h
  have hU := rUniform_spec n s0 s1 x0 x1 b0 b1 (by omega) h
  have eN : ((n : Int) * n).toNat = n * n := by rw [← Int.natCast_mul, Int.toNat_natCast]
  rw [eN] at hM hU
  generalize cellS n s0 s1 x0 x1 b0 b1 = c at *
  have hb := mul_bd (show 0 ≤ (n : Int) ∧ (n : Int) ≤ 16 by omega) (show 0 ≤ (n : Int) ∧ (n : Int) ≤ 16 by omega)
  have hnn : ((n * n : Nat) : Int) = (n : Int) * n := by push_cast; rfl
  have hgl := gAt_len c (n * n) (n * n)
  have hgv : ∀ x ∈ gAt c (n * n) (n * n), 0 ≤ x ∧ x ≤ 1000 := fun x hx => by
    have h1 := gAt_nonneg c _ _ x hx
    have h2 := gAt_le c _ _ x hx
    omega
  have hF := Fails_spec n n (gAt c (n * n) (n * n)) s hn hgl hgv
  unfold refuseR
  unfold meetV at hM
  generalize gAt c (n * n) (n * n) = l at *
  cases hm : meetOf c (n * n) with
  | some y =>
    rw [hm] at hM
    have hC := cpAdd_ok (pureCC_ok (atC_ok (C := True) fun _ => hM)) noC_ok
    refine pspec_of (md := 1) (rf := []) mixed tabOK hC Try.func22 (by rfl) (by rfl) (by rfl) ?_
    repeat' (first | ((conv => whnf); refine And.intro ?_ ?_) | ((conv => whnf); with_reducible exact VC.mk rfl) | ((conv => whnf); exact Ok.mk) | ((conv => whnf); exact True.intro) | ((conv => whnf); refine Nx.mk ?_) | ((conv => whnf); refine Fin.mk ?_) | ((conv => whnf); intro _))
    all_goals ((try refine VC.mk ?_); (try simp only [CL.ncell, CL.cnt, Int.toNat_natCast, decide_eq_true_eq, decide_eq_false_iff_not, Bool.not_eq_true, Bool.not_false, Bool.not_true, and_self, and_true, true_and, te3b, te4b, te3s, te4s, Nat.mul_one, Nat.zero_add, List.length_cons, List.length_nil, Bool.false_eq_true, Bool.true_eq_false] at *); (try omega))
    all_goals (refine Sup.via ?_; repeat' (first | ((conv => whnf); refine And.intro ?_ ?_) | ((conv => whnf); with_reducible exact VC.mk rfl) | ((conv => whnf); exact Ok.mk) | ((conv => whnf); exact True.intro) | ((conv => whnf); refine Nx.mk ?_) | ((conv => whnf); refine Fin.mk ?_) | ((conv => whnf); intro _)); all_goals ((try refine VC.mk ?_); (try simp only [CL.ncell, CL.cnt, Int.toNat_natCast, decide_eq_true_eq, decide_eq_false_iff_not, Bool.not_eq_true, Bool.not_false, Bool.not_true, and_self, and_true, true_and, te3b, te4b, te3s, te4s, Nat.mul_one, Nat.zero_add, List.length_cons, List.length_nil, Bool.false_eq_true, Bool.true_eq_false] at *); (try omega)); all_goals (try (simp [CL.sub]; done)))
  | none =>
    rw [hm] at hM
    rw [failsV_eq] at hF
    cases hb : badLine n (gOf s) l with
    | none =>
      rw [hb] at hF
      have hC := cpAdd_ok (pureCC_ok (atC_ok (C := True) fun _ => hM)) (cpAdd_ok (pureCC_ok (atC_ok (C := True) fun _ => hU)) (cpAdd_ok (pureCC_ok (atC_ok (C := True) fun _ => hF)) noC_ok))
      refine pspec_of (md := 1) (rf := []) mixed tabOK hC Try.func22 (by rfl) (by rfl) (by rfl) ?_
      repeat' (first | ((conv => whnf); refine And.intro ?_ ?_) | ((conv => whnf); with_reducible exact VC.mk rfl) | ((conv => whnf); exact Ok.mk) | ((conv => whnf); exact True.intro) | ((conv => whnf); refine Nx.mk ?_) | ((conv => whnf); refine Fin.mk ?_) | ((conv => whnf); intro _))
      all_goals ((try refine VC.mk ?_); (try simp only [CL.ncell, CL.cnt, Int.toNat_natCast, decide_eq_true_eq, decide_eq_false_iff_not, Bool.not_eq_true, Bool.not_false, Bool.not_true, and_self, and_true, true_and, te3b, te4b, te3s, te4s, Nat.mul_one, Nat.zero_add, List.length_cons, List.length_nil, Bool.false_eq_true, Bool.true_eq_false] at *); (try omega))
      all_goals (try (exfalso; simp_all; done))
      all_goals (refine Sup.via ?_; repeat' (first | ((conv => whnf); refine And.intro ?_ ?_) | ((conv => whnf); with_reducible exact VC.mk rfl) | ((conv => whnf); exact Ok.mk) | ((conv => whnf); exact True.intro) | ((conv => whnf); refine Nx.mk ?_) | ((conv => whnf); refine Fin.mk ?_) | ((conv => whnf); intro _)); all_goals ((try refine VC.mk ?_); (try simp only [CL.ncell, CL.cnt, Int.toNat_natCast, decide_eq_true_eq, decide_eq_false_iff_not, Bool.not_eq_true, Bool.not_false, Bool.not_true, and_self, and_true, true_and, te3b, te4b, te3s, te4s, Nat.mul_one, Nat.zero_add, List.length_cons, List.length_nil, Bool.false_eq_true, Bool.true_eq_false] at *); (try omega)); all_goals (try (simp [CL.sub]; done)))
    | some i =>
      rw [hb] at hF
      have hi : i < lineCnt n (gOf s) := by
        unfold badLine at hb
        have := List.mem_of_find?_eq_some hb
        simpa using this
      have hL : failsL n (gOf s) l = lineAt n i := by unfold failsL; rw [hb]
      rw [hL] at hF
      have hm := fun c hc => lineAt_mem (n := n) (i := i) c hc
      have e3 := lineAt_len n i
      have hg : ∀ c : Int, 0 ≤ c → c < (n : Int) * n → 0 ≤ l.getD c.toNat 0 ∧ l.getD c.toNat 0 ≤ 1000 := fun c h1 h2 => by
        rw [List.getD_eq_getElem?_getD]
        cases h : l[c.toNat]? with
        | none => simp
        | some v => simpa using hgv v (List.mem_of_getElem? h)
      have hbd := sumAt_bd l (lineAt n i) (fun c hc => hg c (hm c hc).1 (hm c hc).2)
      have hS := rSum_spec n n l (lineAt n i) (fun x hx => by have := hm x hx; omega) (by omega) (fun j hj => by have := hbd j hj; omega)
      have hC := cpAdd_ok (pureCC_ok (atC_ok (C := True) fun _ => hM)) (cpAdd_ok (pureCC_ok (atC_ok (C := True) fun _ => hU)) (cpAdd_ok (pureCC_ok (atC_ok (C := True) fun _ => hF)) (cpAdd_ok (pureCC_ok (atC_ok (C := True) fun _ => hS)) noC_ok)))
      refine pspec_of (md := 1) (rf := []) mixed tabOK hC Try.func22 (by rfl) (by rfl) (by rfl) ?_
      repeat' (first | ((conv => whnf); refine And.intro ?_ ?_) | ((conv => whnf); with_reducible exact VC.mk rfl) | ((conv => whnf); exact Ok.mk) | ((conv => whnf); exact True.intro) | ((conv => whnf); refine Nx.mk ?_) | ((conv => whnf); refine Fin.mk ?_) | ((conv => whnf); intro _))
      all_goals ((try refine VC.mk ?_); (try simp only [CL.ncell, CL.cnt, Int.toNat_natCast, decide_eq_true_eq, decide_eq_false_iff_not, Bool.not_eq_true, Bool.not_false, Bool.not_true, and_self, and_true, true_and, te3b, te4b, te3s, te4s, Nat.mul_one, Nat.zero_add, List.length_cons, List.length_nil, Bool.false_eq_true, Bool.true_eq_false] at *); (try omega))
      all_goals (try (exfalso; simp_all; done))
      rw [e3]
      unfold lineSum
      all_goals (refine Sup.via ?_; repeat' (first | ((conv => whnf); refine And.intro ?_ ?_) | ((conv => whnf); with_reducible exact VC.mk rfl) | ((conv => whnf); exact Ok.mk) | ((conv => whnf); exact True.intro) | ((conv => whnf); refine Nx.mk ?_) | ((conv => whnf); refine Fin.mk ?_) | ((conv => whnf); intro _)); all_goals ((try refine VC.mk ?_); (try simp only [CL.ncell, CL.cnt, Int.toNat_natCast, decide_eq_true_eq, decide_eq_false_iff_not, Bool.not_eq_true, Bool.not_false, Bool.not_true, and_self, and_true, true_and, te3b, te4b, te3s, te4s, Nat.mul_one, Nat.zero_add, List.length_cons, List.length_nil, Bool.false_eq_true, Bool.true_eq_false] at *); (try omega)); all_goals (try (simp [CL.sub]; done)))
end Go.Eng.Ytppflbccfdbogaa
namespace Go.Eng.Ytppflbccfdbogaa
open Go.Proofs
set_option maxRecDepth 100000
set_option maxHeartbeats 0
set_option linter.unusedVariables false
set_option linter.unusedSimpArgs false
def sumF (f : Nat → Int) : Nat → Int
  | 0 => 0
  | n + 1 => sumF f n + f n
theorem sumF_congr {f g : Nat → Int} : ∀ {n : Nat}, (∀ i, i < n → f i = g i) → sumF f n = sumF g n := by
  intro n
  induction n with
  | zero => intro _; rfl
  | succ n ih => intro h; simp only [sumF]; rw [ih fun i hi => h i (by omega), h n (by omega)]
theorem sumF_add (f g : Nat → Int) : ∀ n : Nat, sumF (fun i => f i + g i) n = sumF f n + sumF g n := by
  intro n
  induction n with
  | zero => rfl
  | succ n ih => simp only [sumF, ih]; omega
theorem sumF_sub (f g : Nat → Int) : ∀ n : Nat, sumF (fun i => f i - g i) n = sumF f n - sumF g n := by
  intro n
  induction n with
  | zero => rfl
  | succ n ih => simp only [sumF, ih]; omega
theorem sumF_mul (c : Int) (f : Nat → Int) : ∀ n : Nat, sumF (fun i => c * f i) n = c * sumF f n := by
  intro n
  induction n with
  | zero => simp [sumF]
  | succ n ih => simp only [sumF, ih, Int.mul_add]
theorem sumF_const (c : Int) : ∀ n : Nat, sumF (fun _ => c) n = n * c := by
  intro n
  induction n with
  | zero => simp [sumF]
  | succ n ih => simp only [sumF, ih]; push_cast; rw [Int.add_mul]; omega
theorem sumF_shift (f : Nat → Int) : ∀ n : Nat, sumF f (n + 1) = f 0 + sumF (fun i => f (i + 1)) n := by
  intro n
  induction n with
  | zero => simp [sumF]
  | succ n ih => rw [sumF, ih]; simp only [sumF]; omega
theorem sumF_app (f : Nat → Int) (m : Nat) : ∀ n : Nat, sumF f (m + n) = sumF f m + sumF (fun i => f (m + i)) n := by
  intro n
  induction n with
  | zero => simp [sumF]
  | succ n ih => rw [← Nat.add_assoc]; simp only [sumF, ih]; omega
theorem sumF_block (f : Nat → Int) (n : Nat) : ∀ m : Nat, sumF f (m * n) = sumF (fun i => sumF (fun j => f (i * n + j)) n) m := by
  intro m
  induction m with
  | zero => simp [sumF]
  | succ m ih => rw [Nat.add_mul, Nat.one_mul, sumF_app, ih]; rfl
theorem sumF_swap (f : Nat → Nat → Int) (n : Nat) : ∀ m : Nat, sumF (fun i => sumF (f i) n) m = sumF (fun j => sumF (fun i => f i j) m) n := by
  intro m
  induction m with
  | zero => simp only [sumF]; rw [sumF_const]; simp
  | succ m ih => simp only [sumF]; rw [ih, ← sumF_add]
theorem sumF_at (g : Nat → Int) (a : Nat) : ∀ n : Nat, sumF (fun i => if i = a then g i else 0) n = if a < n then g a else 0 := by
  intro n
  induction n with
  | zero => simp [sumF]
  | succ n ih =>
    simp only [sumF, ih]
    by_cases h : n = a
    · subst h; simp
    · rw [if_neg h]
      by_cases h2 : a < n
      · rw [if_pos h2, if_pos (by omega)]; omega
      · rw [if_neg h2, if_neg (by omega)]; rfl
/-- a sum in another order -/
theorem sumF_perm {c : Nat → Nat} {N : Nat} (hb : ∀ i, i < N → c i < N) (h : ∀ i j, i < j → j < N → c i ≠ c j) (f : Nat → Int) : sumF (fun i => f (c i)) N = sumF f N := by
  have e1 : sumF (fun i => f (c i)) N = sumF (fun i => sumF (fun y => if y = c i then f y else 0) N) N :=
    sumF_congr fun i hi => by rw [sumF_at, if_pos (hb i hi)]
  rw [e1, sumF_swap]
  refine sumF_congr fun y hy => ?_
  obtain ⟨i0, h0, h1⟩ := inj_surj hb h y hy
  have e2 : sumF (fun i => if y = c i then f y else 0) N = sumF (fun i => if i = i0 then f y else 0) N := sumF_congr fun i hi => by
    by_cases e : i = i0
    · subst e; rw [if_pos h1.symm, if_pos rfl]
    · rw [if_neg e, if_neg]
      intro hc
      rcases Nat.lt_or_gt_of_ne e with hlt | hgt
      · exact h i i0 hlt h0 (by omega)
      · exact h i0 i hgt hi (by omega)
  rw [e2, sumF_at (fun _ => f y), if_pos h0]
theorem sumF_rot (f : Nat → Int) (n k : Nat) : sumF (fun i => f ((i + k) % n)) n = sumF f n := by
  rcases Nat.eq_zero_or_pos n with h0 | h0
  · subst h0; rfl
  refine sumF_perm (c := fun i => (i + k) % n) (fun i _ => Nat.mod_lt _ h0) (fun i j hij hj h => ?_) f
  have h : (i + k) % n = (j + k) % n := h
  have h1 := Nat.div_add_mod (i + k) n
  have h2 := Nat.div_add_mod (j + k) n
  have h3 : (j + k) / n = (i + k) / n := by
    rcases Nat.lt_trichotomy ((j + k) / n) ((i + k) / n) with hh | hh | hh
    · have := Nat.mul_le_mul_left n (show (j + k) / n + 1 ≤ (i + k) / n by omega)
      rw [Nat.mul_add] at this; omega
    · exact hh
    · have := Nat.mul_le_mul_left n (show (i + k) / n + 1 ≤ (j + k) / n by omega)
      rw [Nat.mul_add] at this; omega
  rw [h3] at h2
  omega
theorem sumF_rev (f : Nat → Int) (n : Nat) : sumF (fun i => f (n - 1 - i)) n = sumF f n :=
  sumF_perm (c := fun i => n - 1 - i) (fun i hi => by (try simp only); omega) (fun i j hij hj h => by (try simp only at h); omega) f
theorem sumF_nonneg {f : Nat → Int} : ∀ {n : Nat}, (∀ i, i < n → 0 ≤ f i) → 0 ≤ sumF f n := by
  intro n
  induction n with
  | zero => intro _; simp [sumF]
  | succ n ih => intro h; have := ih fun i hi => h i (by omega); have := h n (by omega); simp only [sumF]; omega
theorem sumF_le {f : Nat → Int} {B : Int} : ∀ {n : Nat}, (∀ i, i < n → f i ≤ B) → sumF f n ≤ n * B := by
  intro n
  induction n with
  | zero => intro _; simp [sumF]
  | succ n ih => intro h; have := ih fun i hi => h i (by omega); have := h n (by omega); simp only [sumF]; push_cast; rw [Int.add_mul]; omega
/-! the sum of some cells -/
theorem sumAt_map (L : List Int) (c : Nat → Int) (m : Nat) : ∀ t, t ≤ m → sumAt L ((List.range m).map c) t = sumF (fun i => L.getD (c i).toNat 0) t := by
  intro t
  induction t with
  | zero => intro _; simp [sumAt, sumF]
  | succ t ih =>
    intro h
    rw [sumAt_succ _ _ _ (by simp; omega), ih (by omega), sumF]
    congr 2
    have : ((List.range m).map c).getD t 0 = c t := by
      rw [List.getD_eq_getElem?_getD, List.getElem?_map, List.getElem?_range (by omega)]; rfl
    rw [this]
theorem sumAt_colL (L : List Int) (n : Nat) (h : Nat → Int) : sumAt L (colL n h n) n = sumF (fun i => L.getD (n * i + (h i % n).toNat) 0) n := by
  unfold colL
  rw [sumAt_map _ _ _ _ (Nat.le_refl _)]
  refine sumF_congr fun i hi => ?_
  have h1 : 0 ≤ h i % n := Int.emod_nonneg _ (by omega)
  congr 1
  have : (n : Int) * i + h i % n = ((n * i + (h i % n).toNat : Nat) : Int) := by push_cast; rw [Int.toNat_of_nonneg h1]
  rw [this, Int.toNat_natCast]
theorem ls_row (n : Nat) (L : List Int) (i : Nat) (hi : i < n) : lineSum n L i = sumF (fun j => L.getD (n * i + j) 0) n := by
  unfold lineSum
  rw [lineAt_row hi]
  unfold rowL
  rw [sumAt_map _ _ _ _ (Nat.le_refl _)]
  refine sumF_congr fun j hj => ?_
  rfl
theorem ls_col (n : Nat) (L : List Int) (j : Nat) (hj : j < n) : lineSum n L (n + j) = sumF (fun i => L.getD (n * i + j) 0) n := by
  unfold lineSum
  rw [lineAt_col hj, sumAt_colL]
  refine sumF_congr fun i hi => ?_
  rw [Int.emod_eq_of_lt (by omega) (by omega), Int.toNat_natCast]
def upI (n k : Nat) : Nat := if k = 0 then 2 * n else 2 * n + 1 + k
def dnI (n k : Nat) : Nat := if k + 1 = n then 2 * n + 1 else 3 * n + 1 + k
theorem toNat_emod_cast (n : Nat) (hn : 1 ≤ n) (x : Int) (y : Nat) (k : Int) (h : x - y = n * k) : (x % n).toNat = y % n := by
  rw [emod_of_sub h, ← Int.natCast_emod, Int.toNat_natCast]
theorem ls_up (n : Nat) (L : List Int) (k : Nat) (hk : k < n) : lineSum n L (upI n k) = sumF (fun i => L.getD (n * i + (i + k) % n) 0) n := by
  unfold lineSum upI
  by_cases h : k = 0
  · subst h
    rw [if_pos rfl, lineAt_d1, sumAt_colL]
    refine sumF_congr fun i hi => ?_
    rw [toNat_emod_cast n (by omega) _ (i + 0) 0 (by simp)]
  · obtain ⟨q, rfl⟩ : ∃ q, k = q + 1 := ⟨k - 1, by omega⟩
    rw [if_neg h, show 2 * n + 1 + (q + 1) = 2 * n + 2 + q by omega, lineAt_b1 (by omega), sumAt_colL]
    refine sumF_congr fun i hi => ?_
    rw [toNat_emod_cast n (by omega) _ (i + (q + 1)) 0 (by simp)]
theorem ls_dn (n : Nat) (L : List Int) (k : Nat) (hk : k < n) : lineSum n L (dnI n k) = sumF (fun i => L.getD (n * i + (k + n - i) % n) 0) n := by
  unfold lineSum dnI
  by_cases h : k + 1 = n
  · rw [if_pos h, lineAt_d2, sumAt_colL]
    refine sumF_congr fun i hi => ?_
    rw [toNat_emod_cast n (by omega) _ (k + n - i) (-1) (by omega)]
  · rw [if_neg h, lineAt_b2 (by omega), sumAt_colL]
    refine sumF_congr fun i hi => ?_
    rw [toNat_emod_cast n (by omega) _ (k + n - i) (-1) (by omega)]
/-- the lines of the first groups have the sum -/
structure GoodK (n : Nat) (g : Int) (f : Nat → Nat → Int) (c : Int) : Prop where
  row : 1 ≤ g → ∀ i, i < n → sumF (fun j => f i j) n = c
  col : 1 ≤ g → ∀ j, j < n → sumF (fun i => f i j) n = c
  d1 : 2 ≤ g → sumF (fun i => f i i) n = c
  d2 : 2 ≤ g → sumF (fun i => f i (n - 1 - i)) n = c
  up : 3 ≤ g → ∀ k, k < n → sumF (fun i => f i ((i + k) % n)) n = c
  dn : 3 ≤ g → ∀ k, k < n → sumF (fun i => f i ((k + n - i) % n)) n = c
theorem dn_last (n : Nat) (f : Nat → Nat → Int) : sumF (fun i => f i ((n - 1 + n - i) % n)) n = sumF (fun i => f i (n - 1 - i)) n := by
  refine sumF_congr fun i hi => ?_
  congr 1
  rw [show n - 1 + n - i = (n - 1 - i) + n by omega, Nat.add_mod_right, Nat.mod_eq_of_lt (by omega)]
theorem up_first (n : Nat) (f : Nat → Nat → Int) : sumF (fun i => f i ((i + 0) % n)) n = sumF (fun i => f i i) n := by
  refine sumF_congr fun i hi => ?_
  rw [Nat.add_zero, Nat.mod_eq_of_lt hi]
def sqAt (n : Nat) (L : List Int) (i j : Nat) : Int := L.getD (n * i + j) 0
theorem badLine_iff {n : Nat} (hn : 1 ≤ n) (g : Int) (L : List Int) : badLine n g L = none ↔ ∀ i, i < lineCnt n g → lineSum n L i = constOf n := by
  unfold badLine
  rw [List.find?_eq_none]
  simp only [List.mem_range, Bool.not_eq_true', Bool.not_eq_false, lineOk, decide_eq_true_eq]
theorem line_cases {n i : Nat} (hi : i < 4 * n) : (i < n) ∨ (∃ j, j < n ∧ i = n + j) ∨ (∃ k, k < n ∧ i = upI n k) ∨ (∃ k, k < n ∧ i = dnI n k) := by
  by_cases h1 : i < n
  · exact .inl h1
  by_cases h2 : i < 2 * n
  · exact .inr (.inl ⟨i - n, by omega, by omega⟩)
  by_cases h3 : i = 2 * n
  · exact .inr (.inr (.inl ⟨0, by omega, by unfold upI; rw [if_pos rfl]; exact h3⟩))
  by_cases h4 : i = 2 * n + 1
  · exact .inr (.inr (.inr ⟨n - 1, by omega, by unfold dnI; rw [if_pos (by omega)]; exact h4⟩))
  by_cases h5 : i < 3 * n + 1
  · exact .inr (.inr (.inl ⟨i - (2 * n + 1), by omega, by unfold upI; rw [if_neg (by omega)]; omega⟩))
  · exact .inr (.inr (.inr ⟨i - (3 * n + 1), by omega, by unfold dnI; rw [if_neg (by omega)]; omega⟩))
theorem good_iff {n : Nat} (hn : 2 ≤ n ∨ n = 1) (g : Int) (L : List Int) : badLine n g L = none ↔ GoodK n g (sqAt n L) (constOf n) := by
  rw [badLine_iff (by omega)]
  have c1 : g < 1 → lineCnt n g = 0 := fun h => by unfold lineCnt; rw [if_pos h]
  have c2 : 1 ≤ g → 2 * n ≤ lineCnt n g := fun h => by unfold lineCnt; rw [if_neg (by omega)]; (repeat' split) <;> omega
  have c3 : 2 ≤ g → 2 * n + 2 ≤ lineCnt n g := fun h => by unfold lineCnt; rw [if_neg (by omega), if_neg (by omega)]; (repeat' split) <;> omega
  have c4 : 3 ≤ g → lineCnt n g = 4 * n := fun h => by unfold lineCnt; rw [if_neg (by omega), if_neg (by omega), if_neg (by omega)]
  have c5 : g < 2 → lineCnt n g ≤ 2 * n := fun h => by unfold lineCnt; (repeat' split) <;> omega
  have c6 : g < 3 → lineCnt n g ≤ 2 * n + 2 := fun h => by unfold lineCnt; (repeat' split) <;> omega
  constructor
  · intro h
    have hup : 3 ≤ g → ∀ k, k < n → sumF (fun i => sqAt n L i ((i + k) % n)) n = constOf n := fun hg k hk => by
      have := h (upI n k) (by rw [c4 hg]; unfold upI; split <;> omega)
      rwa [ls_up n L k hk] at this
    have hdn : 3 ≤ g → ∀ k, k < n → sumF (fun i => sqAt n L i ((k + n - i) % n)) n = constOf n := fun hg k hk => by
      have := h (dnI n k) (by rw [c4 hg]; unfold dnI; split <;> omega)
      rwa [ls_dn n L k hk] at this
    refine ⟨fun hg i hi => ?_, fun hg j hj => ?_, fun hg => ?_, fun hg => ?_, hup, hdn⟩
    · have := h i (by have := c2 hg; omega)
      rwa [ls_row n L i hi] at this
    · have := h (n + j) (by have := c2 hg; omega)
      rwa [ls_col n L j hj] at this
    · have := h (upI n 0) (by have := c3 hg; unfold upI; rw [if_pos rfl]; omega)
      rw [ls_up n L 0 (by omega)] at this
      rw [← up_first n (sqAt n L)]; exact this
    · have := h (dnI n (n - 1)) (by have := c3 hg; unfold dnI; rw [if_pos (by omega)]; omega)
      rw [ls_dn n L (n - 1) (by omega)] at this
      rw [← dn_last n (sqAt n L)]; exact this
  · intro h i hi
    have hg : 1 ≤ g := Classical.byContradiction fun hh => by rw [c1 (by omega)] at hi; omega
    have h4 : i < 4 * n := by
      by_cases h3 : 3 ≤ g
      · rw [c4 h3] at hi; exact hi
      · have := c6 (by omega)
        rcases hn with h2 | h2
        · omega
        · subst h2
          by_cases h22 : 2 ≤ g
          · have := c3 h22; omega
          · have := c5 (by omega); omega
    rcases line_cases h4 with h1 | ⟨j, h1, rfl⟩ | ⟨k, h1, rfl⟩ | ⟨k, h1, rfl⟩
    · rw [ls_row n L i h1]; exact h.row hg i h1
    · rw [ls_col n L j h1]; exact h.col hg j h1
    · rw [ls_up n L k h1]
      by_cases hk : k = 0
      · subst hk
        have h2 : 2 ≤ g := Classical.byContradiction fun hh => by have := c5 (by omega); unfold upI at hi; rw [if_pos rfl] at hi; omega
        have := h.d1 h2
        rw [← up_first n (sqAt n L)] at this; exact this
      · have h3 : 3 ≤ g := Classical.byContradiction fun hh => by have := c6 (by omega); unfold upI at hi; rw [if_neg hk] at hi; omega
        exact h.up h3 k h1
    · rw [ls_dn n L k h1]
      by_cases hk : k + 1 = n
      · obtain rfl : k = n - 1 := by omega
        have h2 : 2 ≤ g := Classical.byContradiction fun hh => by have := c5 (by omega); unfold dnI at hi; rw [if_pos (by omega)] at hi; omega
        have := h.d2 h2
        rw [← dn_last n (sqAt n L)] at this; exact this
      · have h3 : 3 ≤ g := Classical.byContradiction fun hh => by have := c6 (by omega); unfold dnI at hi; rw [if_neg hk] at hi; omega
        exact h.dn h3 k h1
/-! lists with each number once -/
theorem seen_iff (m : Nat) (l : List Int) (v : Nat) (hv : v < m) : ∀ i, i ≤ l.length → ((seenAt m l i).getD v false = true ↔ ∃ j, j < i ∧ (l.getD j 0).toNat = v) := by
  intro i
  induction i with
  | zero => intro _; simp only [seenAt, List.take_zero, List.foldl_nil]; rw [List.getD_eq_getElem?_getD, List.getElem?_replicate, if_pos hv]; simp
  | succ i ih =>
    intro hi
    rw [seenAt_succ m l i hi, List.getD_eq_getElem?_getD, List.getElem?_set]
    have hl := seenAt_len m l i
    by_cases e : (l.getD i 0).toNat = v
    · rw [if_pos e, if_pos (by omega)]
      simp only [Option.getD_some, true_iff]
      exact ⟨i, by omega, e⟩
    · rw [if_neg e, ← List.getD_eq_getElem?_getD, ih (by omega)]
      constructor
      · rintro ⟨j, h1, h2⟩; exact ⟨j, by omega, h2⟩
      · rintro ⟨j, h1, h2⟩
        by_cases ej : j = i
        · subst ej; exact absurd h2 e
        · exact ⟨j, by omega, h2⟩
theorem distinct_iff (lo : Int) (hlo : 0 ≤ lo) (m : Nat) (l : List Int) : distinctIn lo m l = true ↔ (∀ i, i < l.length → lo ≤ l.getD i 0 ∧ l.getD i 0 < m) ∧ ∀ i j, i < j → j < l.length → l.getD i 0 ≠ l.getD j 0 := by
  unfold distinctIn
  rw [List.all_eq_true]
  simp only [List.mem_range, okAt, Bool.and_eq_true, decide_eq_true_eq, Bool.not_eq_true']
  constructor
  · intro h
    refine ⟨fun i hi => (h i hi).1, fun i j hij hj e => ?_⟩
    have h2 := (h j hj).2
    have h3 := (h j hj).1
    have := (seen_iff m l (l.getD j 0).toNat (by omega) j (by omega)).2 ⟨i, hij, by rw [e]⟩
    rw [this] at h2; cases h2
  · rintro ⟨h1, h2⟩ i hi
    refine ⟨h1 i hi, ?_⟩
    have h3 := h1 i hi
    cases hs : (seenAt m l i).getD (l.getD i 0).toNat false with
    | false => rfl
    | true =>
      obtain ⟨j, hj, he⟩ := (seen_iff m l (l.getD i 0).toNat (by omega) i (by omega)).1 hs
      have h4 := h1 j (by omega)
      exact absurd (show l.getD j 0 = l.getD i 0 by omega) (h2 j i hj hi)
theorem isNorm_iff (l : List Int) : isNorm l = true ↔ (∀ i, i < l.length → 1 ≤ l.getD i 0 ∧ l.getD i 0 ≤ l.length) ∧ ∀ i j, i < j → j < l.length → l.getD i 0 ≠ l.getD j 0 := by
  unfold isNorm
  rw [distinct_iff 1 (by omega)]
  refine and_congr_left fun _ => ?_
  constructor
  · intro h i hi; have := h i hi; omega
  · intro h i hi; have := h i hi; omega
theorem isPerm_iff (l : List Int) : isPerm l = true ↔ (∀ i, i < l.length → 0 ≤ l.getD i 0 ∧ l.getD i 0 < l.length) ∧ ∀ i j, i < j → j < l.length → l.getD i 0 ≠ l.getD j 0 := by
  unfold isPerm
  rw [distinct_iff 0 (by omega)]
theorem norm_ne {l : List Int} (h : isNorm l = true) {i j : Nat} (hi : i < l.length) (hj : j < l.length) (hij : i ≠ j) : l.getD i 0 ≠ l.getD j 0 := by
  have h2 := ((isNorm_iff l).1 h).2
  rcases Nat.lt_or_gt_of_ne hij with h1 | h1
  · exact h2 i j h1 hj
  · exact fun e => h2 j i h1 hi e.symm
/-- squares made by a function -/
theorem madeL_get {n : Nat} {h : Nat → Nat → Int} {i j : Nat} (hi : i < n) (hj : j < n) : (madeL n h).getD (n * i + j) 0 = h i j := by
  have hlt : n * i + j < n * n := by
    have := Nat.mul_le_mul_left n (show i + 1 ≤ n by omega)
    rw [Nat.mul_add] at this; omega
  unfold madeL
  rw [List.getD_eq_getElem?_getD, List.getElem?_map, List.getElem?_range hlt]
  simp only [Option.map_some, Option.getD_some]
  rw [Nat.mul_add_div (by omega), Nat.div_eq_of_lt hj, Nat.mul_add_mod, Nat.mod_eq_of_lt hj, Nat.add_zero]
theorem GoodK.congr {n : Nat} {g : Int} {f f' : Nat → Nat → Int} {c : Int} (h : GoodK n g f c) (e : ∀ i j, i < n → j < n → f i j = f' i j) : GoodK n g f' c := by
  have key : ∀ p q : Nat → Nat, (∀ i, i < n → p i < n) → (∀ i, i < n → q i < n) → sumF (fun i => f (p i) (q i)) n = c → sumF (fun i => f' (p i) (q i)) n = c := fun p q hp hq h => by
    rw [← h]; exact sumF_congr fun i hi => (e _ _ (hp i hi) (hq i hi)).symm
  refine ⟨fun hg i hi => ?_, fun hg j hj => ?_, fun hg => ?_, fun hg => ?_, fun hg k hk => ?_, fun hg k hk => ?_⟩
  · exact key (fun _ => i) (fun j => j) (fun _ _ => hi) (fun j hj => hj) (h.row hg i hi)
  · exact key (fun i => i) (fun _ => j) (fun j hj => hj) (fun _ _ => hj) (h.col hg j hj)
  · exact key (fun i => i) (fun i => i) (fun j hj => hj) (fun j hj => hj) (h.d1 hg)
  · exact key (fun i => i) (fun i => n - 1 - i) (fun j hj => hj) (fun j hj => by (try simp only); omega) (h.d2 hg)
  · exact key (fun i => i) (fun i => (i + k) % n) (fun j hj => hj) (fun j hj => Nat.mod_lt _ (by omega)) (h.up hg k hk)
  · exact key (fun i => i) (fun i => (k + n - i) % n) (fun j hj => hj) (fun j hj => Nat.mod_lt _ (by omega)) (h.dn hg k hk)
end Go.Eng.Ytppflbccfdbogaa
namespace Go.Eng.Ytppflbccfdbogaa
open Go.Proofs
set_option maxRecDepth 100000
set_option maxHeartbeats 0
set_option linter.unusedVariables false
set_option linter.unusedSimpArgs false
def insN (x : Nat) : List Nat → List Nat
  | [] => [x]
  | y :: r => match Nat.ble x y with
    | true => x :: y :: r
    | false => y :: insN x r
def isortN : List Nat → List Nat
  | [] => []
  | x :: r => insN x (isortN r)
theorem insN_perm (x : Nat) : ∀ l, (insN x l).Perm (x :: l)
  | [] => .refl _
  | y :: r => by
    unfold insN
    split
    · exact .refl _
    · exact ((insN_perm x r).cons y).trans (.swap x y r)
theorem isortN_perm : ∀ l, (isortN l).Perm l
  | [] => .refl _
  | x :: r => (insN_perm x _).trans ((isortN_perm r).cons x)
theorem seen_false (m : Nat) (l : List Int) (i v : Nat) (h : ∀ x ∈ l.take i, x.toNat ≠ v) : (seenAt m l i).getD v false = false := by
  unfold seenAt
  have : ∀ (k : List Int) (s : List Bool), (∀ x ∈ k, x.toNat ≠ v) → s.getD v false = false → (k.foldl (fun s x => s.set x.toNat true) s).getD v false = false := by
    intro k
    induction k with
    | nil => intro s _ hs; exact hs
    | cons x r ih =>
      intro s hk hs
      refine ih _ (fun y hy => hk y (List.mem_cons_of_mem _ hy)) ?_
      rw [List.getD_eq_getElem?_getD, List.getElem?_set_ne (hk x List.mem_cons_self), ← List.getD_eq_getElem?_getD, hs]
  refine this _ _ h ?_
  rw [List.getD_eq_getElem?_getD, List.getElem?_replicate]
  split <;> rfl
theorem isNorm_sort {l : List Int} {N : Nat} (hl : l.length = N) (h : isortN (l.map Int.toNat) = List.range' 1 N) : isNorm l = true := by
  have hp := isortN_perm (l.map Int.toNat)
  rw [h] at hp
  have hn : (l.map Int.toNat).Nodup := hp.nodup_iff.1 List.nodup_range'
  unfold isNorm distinctIn
  refine all_true fun i hi => ?_
  have hm : (l[i]).toNat ∈ List.range' 1 N := hp.mem_iff.2 (List.mem_map_of_mem (List.getElem_mem _))
  rw [List.mem_range'_1] at hm
  have eg : l.getD i 0 = l[i] := by rw [List.getD_eq_getElem?_getD, List.getElem?_eq_getElem hi]; rfl
  unfold okAt
  rw [eg, seen_false]
  · rw [decide_eq_true (by omega)]; rfl
  · intro x hx
    obtain ⟨j, hj, rfl⟩ := List.mem_iff_getElem.1 hx
    rw [List.length_take] at hj
    rw [List.getElem_take]
    have := (List.pairwise_iff_getElem.1 hn) j i (by simp; omega) (by simp; omega) (by omega)
    simpa using this
def assocB (n : Nat) (l : List Int) : Bool := (List.range (n * n)).all fun i => decide (l.getD i 0 + l.getD (n * n - 1 - i) 0 = (n : Int) * n + 1)
def goodB (n : Nat) (g : Int) (l : List Int) : Bool := Nat.beq l.length (n * n) && (decide (isortN (l.map Int.toNat) = List.range' 1 (n * n)) && (badLine n g l).isNone)
structure GoodSq (n : Nat) (g : Int) (l : List Int) : Prop where
  len : l.length = n * n
  norm : isNorm l = true
  bad : badLine n g l = none
theorem goodB_ok {n : Nat} {g : Int} {l : List Int} (h : goodB n g l = true) : GoodSq n g l := by
  unfold goodB at h
  rw [Bool.and_eq_true, Bool.and_eq_true, decide_eq_true_eq] at h
  have h1 := Nat.eq_of_beq_eq_true h.1
  refine ⟨h1, isNorm_sort h1 h.2.1, ?_⟩
  have := h.2.2
  cases hb : badLine n g l with
  | none => rfl
  | some x => rw [hb] at this; simp at this
theorem bd_of {l : List Int} {lo hi : Int} (h : ∀ x ∈ l, lo ≤ x ∧ x ≤ hi) {k : Nat} (hk : k < l.length) : lo ≤ l.getD k 0 ∧ l.getD k 0 ≤ hi := by
  rw [List.getD_eq_getElem?_getD, List.getElem?_eq_getElem hk]
  exact h _ (List.getElem_mem _)
theorem flat_idx {n i j : Nat} (hi : i < n) (hj : j < n) : n * i + j < n * n := by
  have := Nat.mul_le_mul_left n (show i + 1 ≤ n by omega)
  rw [Nat.mul_add] at this; omega
/-- a normal square -/
structure NormG (r c : Int) (l : List Int) (n : Nat) : Prop where
  er : r = n
  ec : c = n
  en : 1 ≤ n ∧ n ≤ 16
  el : l.length = n * n
  eb : ∀ x ∈ l, 1 ≤ x ∧ x ≤ 256
theorem normG {r c : Int} {l : List Int} (h : normErr r c l = 0) : NormG r c l r.toNat := by
  obtain ⟨h1, h2⟩ := normErr_zero h
  obtain ⟨z1, z2, z3, z4, z5⟩ := sqErr_zero h1
  have hb := isNorm_bd h2
  refine ⟨by omega, by omega, by omega, ?_, fun x hx => by have := hb x hx; omega⟩
  have : ((r.toNat * r.toNat : Nat) : Int) = r * r := by push_cast; rw [Int.toNat_of_nonneg (by omega)]
  omega
end Go.Eng.Ytppflbccfdbogaa
namespace Go.Eng.Ytppflbccfdbogaa
open Go.Proofs
set_option maxRecDepth 100000
set_option maxHeartbeats 0
set_option linter.unusedVariables false
set_option linter.unusedSimpArgs false
def bcs (n : Nat) : List Int := castL (borderC n)
def onB (n k : Nat) : Bool := Nat.beq (k / n) 0 || Nat.beq (k / n) (n - 1) || Nat.beq (k % n) 0 || Nat.beq (k % n) (n - 1)
def bVal (n k : Nat) : Int := sqF n [] (bcs n) (k / n) (k % n)
/-- the border alone -/
def bordOK (n : Nat) : Bool :=
  decide (sumF (fun j => sqF n [] (bcs n) 0 j) n = constOf n) && decide (sumF (fun j => sqF n [] (bcs n) (n - 1) j) n = constOf n) &&
  decide (sumF (fun i => sqF n [] (bcs n) i 0) n = constOf n) && decide (sumF (fun i => sqF n [] (bcs n) i (n - 1)) n = constOf n) &&
  ((List.range (n * n)).all fun k => !onB n k || (decide (1 ≤ bVal n k ∧ bVal n k ≤ n * n ∧ (bVal n k ≤ 2 * n - 2 ∨ n * n - 2 * n + 3 ≤ bVal n k)) && (List.range k).all fun k' => !onB n k' || !decide (bVal n k' = bVal n k)))
theorem bordOK_all {n : Nat} (h : 3 ≤ n ∧ n ≤ 6) : bordOK n = true := by
  have : n = 3 ∨ n = 4 ∨ n = 5 ∨ n = 6 := by omega
  rcases this with rfl | rfl | rfl | rfl <;> decide +kernel
theorem sq2 (m : Nat) : (((m + 2 : Nat) : Int) * ((m + 2 : Nat) : Int)) = ((m : Int) + 2) * (m + 2) := by push_cast; rfl
theorem sqF_bord {n : Nat} (l l' cs : List Int) {i j : Nat} (h : i = 0 ∨ i = n - 1 ∨ j = 0 ∨ j = n - 1) : sqF n l cs i j = sqF n l' cs i j := by
  unfold sqF
  by_cases h1 : i = 0
  · rw [if_pos h1, if_pos h1]
  rw [if_neg h1, if_neg h1]
  by_cases h2 : i = n - 1
  · rw [if_pos h2, if_pos h2]
  rw [if_neg h2, if_neg h2]
  by_cases h3 : j = 0
  · rw [if_pos h3, if_pos h3]
  rw [if_neg h3, if_neg h3]
  by_cases h4 : j = n - 1
  · rw [if_pos h4, if_pos h4]
  · omega
theorem sqF_mid {m : Nat} (l cs : List Int) {i j : Nat} (hi : i < m) (hj : j < m) : sqF (m + 2) l cs (i + 1) (j + 1) = sqAt m l i j + (2 * m + 2) := by
  unfold sqF sqAt
  rw [if_neg (by omega), if_neg (by omega), if_neg (by omega), if_neg (by omega), show i + 1 - 1 = i by omega, show m + 2 - 2 = m by omega, show i * m + (j + 1) - 1 = m * i + j by rw [Nat.mul_comm]; omega]
  push_cast; omega
theorem sqF_left {m : Nat} (l cs : List Int) {i : Nat} (hi : i < m) : sqF (m + 2) l cs (i + 1) 0 + sqF (m + 2) l cs (i + 1) (m + 1) = ((m : Int) + 2) * (m + 2) + 1 := by
  unfold sqF
  rw [if_neg (by omega), if_neg (by omega), if_pos rfl, if_neg (by omega), if_neg (by omega), if_neg (by omega), if_pos (by omega), sq2, show m + 2 + (i + 1) - 1 = m + 2 + (i + 1) - 1 from rfl]
  omega
theorem sqF_top {m : Nat} (l cs : List Int) {j : Nat} (hj : j < m) : sqF (m + 2) l cs 0 (j + 1) + sqF (m + 2) l cs (m + 1) (j + 1) = ((m : Int) + 2) * (m + 2) + 1 := by
  unfold sqF
  rw [if_pos rfl, if_neg (by omega), if_pos (by omega), if_neg (by omega), sq2]
  omega
theorem sqF_c1 {m : Nat} (l cs : List Int) : sqF (m + 2) l cs 0 0 + sqF (m + 2) l cs (m + 1) (m + 1) = ((m : Int) + 2) * (m + 2) + 1 := by
  unfold sqF
  rw [if_pos rfl, if_neg (by omega), if_pos (by omega), if_pos (by omega), show m + 2 - 1 - (m + 1) = 0 by omega, sq2]
  omega
theorem sqF_c2 {m : Nat} (l cs : List Int) : sqF (m + 2) l cs 0 (m + 1) + sqF (m + 2) l cs (m + 1) 0 = ((m : Int) + 2) * (m + 2) + 1 := by
  unfold sqF
  rw [if_pos rfl, if_neg (by omega), if_pos (by omega), if_pos (by omega), show m + 2 - 1 - 0 = m + 1 by omega, sq2]
  omega
theorem sumF_ends (f : Nat → Int) (m : Nat) : sumF f (m + 2) = f 0 + sumF (fun i => f (i + 1)) m + f (m + 1) := by
  rw [sumF, sumF_shift]
theorem const_bord {m : Nat} (h : 1 ≤ m ∧ m ≤ 4) : constOf ((m + 2 : Nat) : Int) = constOf m + m * (2 * m + 2) + (((m : Int) + 2) * (m + 2) + 1) := by
  have : m = 1 ∨ m = 2 ∨ m = 3 ∨ m = 4 := by omega
  rcases this with rfl | rfl | rfl | rfl <;> decide
theorem bord_good {m : Nat} {l : List Int} (h : 1 ≤ m ∧ m ≤ 4) (hg : GoodK m 2 (sqAt m l) (constOf m)) : GoodK (m + 2) 2 (sqF (m + 2) l (bcs (m + 2))) (constOf ((m + 2 : Nat) : Int)) := by
  have hb := bordOK_all (n := m + 2) (by omega)
  unfold bordOK at hb
  simp only [Bool.and_eq_true, decide_eq_true_eq] at hb
  obtain ⟨⟨⟨⟨b1, b2⟩, b3⟩, b4⟩, _⟩ := hb
  have hc := const_bord h
  have mid : ∀ (p q : Nat → Nat), (∀ i, i < m → p i < m ∧ q i < m) → sumF (fun i => sqAt m l (p i) (q i)) m = constOf m → sumF (fun i => sqF (m + 2) l (bcs (m + 2)) (p i + 1) (q i + 1)) m = constOf m + m * (2 * m + 2) := fun p q hpq hs => by
    rw [← hs, ← sumF_const (2 * (m : Int) + 2) m, ← sumF_add]
    exact sumF_congr fun i hi => sqF_mid l _ (hpq i hi).1 (hpq i hi).2
  refine ⟨fun _ i hi => ?_, fun _ j hj => ?_, fun _ => ?_, fun _ => ?_, fun hg3 => by omega, fun hg3 => by omega⟩
  · by_cases h0 : i = 0
    · subst h0; rw [← b1]; exact sumF_congr fun j hj => sqF_bord _ _ _ (.inl rfl)
    by_cases h1 : i = m + 1
    · subst h1; rw [← b2]; exact sumF_congr fun j hj => sqF_bord _ _ _ (.inr (.inl (by omega)))
    obtain ⟨q, rfl⟩ : ∃ q, i = q + 1 := ⟨i - 1, by omega⟩
    rw [sumF_ends, mid (fun _ => q) (fun j => j) (fun j hj => ⟨by omega, hj⟩) (hg.row (by omega) q (by omega))]
    have := sqF_left l (bcs (m + 2)) (show q < m by omega)
    omega
  · by_cases h0 : j = 0
    · subst h0; rw [← b3]; exact sumF_congr fun j hj => sqF_bord _ _ _ (.inr (.inr (.inl rfl)))
    by_cases h1 : j = m + 1
    · subst h1; rw [← b4]; exact sumF_congr fun j hj => sqF_bord _ _ _ (.inr (.inr (.inr (by omega))))
    obtain ⟨q, rfl⟩ : ∃ q, j = q + 1 := ⟨j - 1, by omega⟩
    rw [sumF_ends, mid (fun i => i) (fun _ => q) (fun j hj => ⟨hj, by omega⟩) (hg.col (by omega) q (by omega))]
    have := sqF_top l (bcs (m + 2)) (show q < m by omega)
    omega
  · rw [sumF_ends, mid (fun i => i) (fun i => i) (fun j hj => ⟨hj, hj⟩) (hg.d1 (by omega))]
    have := sqF_c1 (m := m) l (bcs (m + 2))
    omega
  · have e := mid (fun i => i) (fun i => m - 1 - i) (fun j hj => ⟨hj, by omega⟩) (hg.d2 (by omega))
    rw [sumF_ends]
    have e2 : sumF (fun i => sqF (m + 2) l (bcs (m + 2)) (i + 1) (m + 2 - 1 - (i + 1))) m = sumF (fun i => sqF (m + 2) l (bcs (m + 2)) (i + 1) (m - 1 - i + 1)) m := sumF_congr fun i hi => by
      rw [show m + 2 - 1 - (i + 1) = m - 1 - i + 1 by omega]
    rw [e2, e, show m + 2 - 1 - 0 = m + 1 by omega, show m + 2 - 1 - (m + 1) = 0 by omega]
    have := sqF_c2 (m := m) l (bcs (m + 2))
    omega
theorem madeL_at {n : Nat} {h : Nat → Nat → Int} {k : Nat} (hk : k < n * n) : (madeL n h).getD k 0 = h (k / n) (k % n) := by
  unfold madeL
  rw [List.getD_eq_getElem?_getD, List.getElem?_map, List.getElem?_range hk]; rfl
theorem madeL_length (n : Nat) (h : Nat → Nat → Int) : (madeL n h).length = n * n := by simp [madeL]
theorem bord_norm {m : Nat} {l : List Int} (h : 1 ≤ m ∧ m ≤ 4) (hl : l.length = m * m) (hn : isNorm l = true) : isNorm (madeL (m + 2) (sqF (m + 2) l (bcs (m + 2)))) = true := by
  have hb := bordOK_all (n := m + 2) (by omega)
  unfold bordOK at hb
  simp only [Bool.and_eq_true] at hb
  have hb := hb.2
  rw [List.all_eq_true] at hb
  have hb1 : ∀ k, k < (m + 2) * (m + 2) → onB (m + 2) k = true → (1 ≤ bVal (m + 2) k ∧ bVal (m + 2) k ≤ ((m + 2 : Nat) : Int) * ((m + 2 : Nat) : Int) ∧ (bVal (m + 2) k ≤ 2 * ((m + 2 : Nat) : Int) - 2 ∨ ((m + 2 : Nat) : Int) * ((m + 2 : Nat) : Int) - 2 * ((m + 2 : Nat) : Int) + 3 ≤ bVal (m + 2) k)) ∧
      ∀ k', k' < k → onB (m + 2) k' = true → bVal (m + 2) k' ≠ bVal (m + 2) k := fun k hk ho => by
    have := hb k (List.mem_range.2 hk)
    rw [ho] at this
    simp only [Bool.not_true, Bool.false_or, Bool.and_eq_true, decide_eq_true_eq, List.all_eq_true, List.mem_range] at this
    refine ⟨this.1, fun k' hk' ho' => ?_⟩
    have := this.2 k' hk'
    rw [ho'] at this
    simpa using this
  have hI := (isNorm_iff l).1 hn
  rw [hl] at hI
  have hmm : ((m + 2 : Nat) : Int) * ((m + 2 : Nat) : Int) = (m : Int) * m + 4 * m + 4 := by push_cast; grind
  have hmm2 : (((m + 2) * (m + 2) : Nat) : Int) = (m : Int) * m + 4 * m + 4 := by push_cast; grind
  have hm2 : ((m * m : Nat) : Int) = (m : Int) * m := by push_cast; rfl
  -- a place on the border or within
  have val : ∀ k, k < (m + 2) * (m + 2) → (onB (m + 2) k = true ∧ (madeL (m + 2) (sqF (m + 2) l (bcs (m + 2)))).getD k 0 = bVal (m + 2) k) ∨
      (∃ i j, i < m ∧ j < m ∧ k = (m + 2) * (i + 1) + (j + 1) ∧ (madeL (m + 2) (sqF (m + 2) l (bcs (m + 2)))).getD k 0 = l.getD (m * i + j) 0 + (2 * m + 2)) := fun k hk => by
    rw [madeL_at hk]
    have q1 : k / (m + 2) < m + 2 := Nat.div_lt_of_lt_mul hk
    have q2 : k % (m + 2) < m + 2 := Nat.mod_lt _ (by omega)
    have q3 := Nat.div_add_mod k (m + 2)
    have q4 : onB (m + 2) k = true ↔ (k / (m + 2) = 0 ∨ k / (m + 2) = m + 2 - 1 ∨ k % (m + 2) = 0 ∨ k % (m + 2) = m + 2 - 1) := by
      unfold onB; simp only [Bool.or_eq_true, Nat.beq_eq, or_assoc]
    have q5 : bVal (m + 2) k = sqF (m + 2) [] (bcs (m + 2)) (k / (m + 2)) (k % (m + 2)) := rfl
    rw [q4, q5]
    clear q4 q5
    generalize k / (m + 2) = K at *
    generalize k % (m + 2) = R at *
    by_cases ho : K = 0 ∨ K = m + 2 - 1 ∨ R = 0 ∨ R = m + 2 - 1
    · exact .inl ⟨ho, sqF_bord _ _ _ ho⟩
    · right
      refine ⟨K - 1, R - 1, by omega, by omega, ?_, ?_⟩
      · rw [show K - 1 + 1 = K by omega, show R - 1 + 1 = R by omega]; exact q3.symm
      · have := sqF_mid l (bcs (m + 2)) (show K - 1 < m by omega) (show R - 1 < m by omega)
        rw [show K - 1 + 1 = K by omega, show R - 1 + 1 = R by omega] at this
        rw [this]; rfl
  have idx : ∀ i j, i < m → j < m → m * i + j < m * m := fun i j hi hj => by
    have := Nat.mul_le_mul_left m (show i + 1 ≤ m by omega)
    rw [Nat.mul_add] at this; omega
  rw [isNorm_iff, madeL_length]
  refine ⟨fun k hk => ?_, fun k' k hkk hk => ?_⟩
  · rcases val k hk with ⟨h1, h2⟩ | ⟨i, j, h1, h2, _, h3⟩
    · have := (hb1 k hk h1).1
      rw [h2]; omega
    · have := hI.1 (m * i + j) (idx i j h1 h2)
      rw [h3]; omega
  · rcases val k hk with ⟨h1, h2⟩ | ⟨i, j, h1, h2, h4, h3⟩
    · rcases val k' (by omega) with ⟨g1, g2⟩ | ⟨i', j', g1, g2, g4, g3⟩
      · rw [h2, g2]; exact (hb1 k hk h1).2 k' hkk g1
      · have a := (hb1 k hk h1).1
        have b := hI.1 (m * i' + j') (idx i' j' g1 g2)
        rw [h2, g3]; omega
    · rcases val k' (by omega) with ⟨g1, g2⟩ | ⟨i', j', g1, g2, g4, g3⟩
      · have a := (hb1 k' (by omega) g1).1
        have b := hI.1 (m * i + j) (idx i j h1 h2)
        rw [h3, g2]; omega
      · rw [h3, g3]
        have := norm_ne hn (i := m * i' + j') (j := m * i + j) (by rw [hl]; exact idx _ _ g1 g2) (by rw [hl]; exact idx _ _ h1 h2) (fun e => by
          have e1 : i' = i := by
            have a := congrArg (· / m) e
            simp only [Nat.mul_add_div (show 0 < m by omega), Nat.div_eq_of_lt g2, Nat.div_eq_of_lt h2] at a
            omega
          subst e1
          have : j' = j := by omega
          subst this
          omega)
        omega
/-- a bordered square is a normal magic one -/
theorem bord_sq {m : Nat} {l : List Int} (h : 1 ≤ m ∧ m ≤ 4) (hl : l.length = m * m) (hn : isNorm l = true) (hb : badLine m 2 l = none) : GoodSq (m + 2) 2 (bordL (m + 2) l) := by
  refine ⟨by unfold bordL; rw [madeL_length], bord_norm h hl hn, ?_⟩
  rw [good_iff (.inl (by omega))]
  refine (bord_good h ((good_iff (by omega) 2 l).1 hb)).congr fun i j hi hj => ?_
  unfold sqAt bordL
  rw [madeL_get hi hj]; rfl
/-! rectangles -/
def rectB (r c : Nat) : Bool :=
  decide (isortN ((rectL r c (r * c)).map Int.toNat) = List.range' 1 (r * c)) &&
  ((List.range r).all fun i => decide (sumF (fun j => rectF r c i j) c * r = r * c * (r * c + 1) / 2)) &&
  ((List.range c).all fun j => decide (sumF (fun i => rectF r c i j) r * c = r * c * (r * c + 1) / 2))
theorem rectB_all : ∀ p, p < 8 → ∀ q, q < 4 → rectB (2 + 2 * p) (4 + 4 * q) = true := by decide +kernel
end Go.Eng.Ytppflbccfdbogaa
namespace Go.Eng.Ytppflbccfdbogaa
open Go.Proofs
set_option maxRecDepth 100000
set_option maxHeartbeats 0
set_option linter.unusedVariables false
set_option linter.unusedSimpArgs false
def magB (r c : Int) (l : List Int) (m : Int) (g : Int) : Bool := decide (r = m ∧ normErr r c l = 0) && (badLine r.toNat g l).isNone
theorem magic_gen (r c : Int) (l : List Int) (m : Int) (s : ByteArray) (hl : l.length ≤ 2000000) : PSpec Try.prog 27 [gridV r c l, .int .i64 m, .str s] (.bp (magB r c l m (gOf s))) := by
  unfold magB
  by_cases h : r = m ∧ normErr r c l = 0
  · obtain ⟨rfl, h⟩ := h
    have hg := normG h
    obtain ⟨e1, e2, e3, e4, e5⟩ := hg
    have hF := Fails_spec r.toNat c l s e3 e4 (fun x hx => by have := e5 x hx; omega)
    rw [failsV_eq, ← e1] at hF
    rw [decide_eq_true ⟨rfl, h⟩, Bool.true_and]
    cases hb : badLine r.toNat (gOf s) l with
    | none =>
      rw [hb] at hF
      have hC := cpAdd_ok (pureCC_ok (atC_ok (C := True) fun _ => hF)) (cpAdd_ok (pureCC_ok CheckNormal_ok) noC_ok)
      refine pspec_of (md := 1) (rf := []) mixed tabOK hC Try.func27 (by rfl) (by rfl) (by rfl) ?_
      repeat' (first | ((conv => whnf); refine And.intro ?_ ?_) | ((conv => whnf); with_reducible exact VC.mk rfl) | ((conv => whnf); exact Ok.mk) | ((conv => whnf); exact True.intro) | ((conv => whnf); refine Nx.mk ?_) | ((conv => whnf); refine Fin.mk ?_) | ((conv => whnf); intro hq; (try simp only [decide_eq_true_eq, decide_eq_false_iff_not, Bool.not_eq_true, Bool.not_eq_false, Bool.not_eq_true', Bool.not_eq_false', ite_true, ite_false] at hq); (try (exfalso; first | exact absurd hq (by decide) | omega))))
      all_goals ((try refine VC.mk ?_); (try simp only [CL.ncell, CL.cnt, Int.toNat_natCast, decide_eq_true_eq, decide_eq_false_iff_not, Bool.not_eq_true, Bool.not_false, Bool.not_true, and_self, and_true, true_and, te3b, te4b, te3s, te4s, Nat.mul_one, Nat.zero_add, List.length_cons, List.length_nil, Bool.false_eq_true, Bool.true_eq_false] at *); (try omega))
      all_goals first | exact sup_true | exact Sup.of rfl | (exfalso; omega)
    | some i =>
      rw [hb] at hF
      have hC := cpAdd_ok (pureCC_ok (atC_ok (C := True) fun _ => hF)) (cpAdd_ok (pureCC_ok CheckNormal_ok) noC_ok)
      refine pspec_of (md := 1) (rf := []) mixed tabOK hC Try.func27 (by rfl) (by rfl) (by rfl) ?_
      repeat' (first | ((conv => whnf); refine And.intro ?_ ?_) | ((conv => whnf); with_reducible exact VC.mk rfl) | ((conv => whnf); exact Ok.mk) | ((conv => whnf); exact True.intro) | ((conv => whnf); refine Nx.mk ?_) | ((conv => whnf); refine Fin.mk ?_) | ((conv => whnf); intro hq; (try simp only [decide_eq_true_eq, decide_eq_false_iff_not, Bool.not_eq_true, Bool.not_eq_false, Bool.not_eq_true', Bool.not_eq_false', ite_true, ite_false] at hq); (try (exfalso; first | exact absurd hq (by decide) | omega))))
      all_goals ((try refine VC.mk ?_); (try simp only [CL.ncell, CL.cnt, Int.toNat_natCast, decide_eq_true_eq, decide_eq_false_iff_not, Bool.not_eq_true, Bool.not_false, Bool.not_true, and_self, and_true, true_and, te3b, te4b, te3s, te4s, Nat.mul_one, Nat.zero_add, List.length_cons, List.length_nil, Bool.false_eq_true, Bool.true_eq_false] at *); (try omega))
      all_goals first | all_goals (refine Sup.via ?_; repeat' (first | ((conv => whnf); refine And.intro ?_ ?_) | ((conv => whnf); with_reducible exact VC.mk rfl) | ((conv => whnf); exact Ok.mk) | ((conv => whnf); exact True.intro) | ((conv => whnf); refine Nx.mk ?_) | ((conv => whnf); refine Fin.mk ?_) | ((conv => whnf); intro _)); all_goals ((try refine VC.mk ?_); (try simp only [CL.ncell, CL.cnt, Int.toNat_natCast, decide_eq_true_eq, decide_eq_false_iff_not, Bool.not_eq_true, Bool.not_false, Bool.not_true, and_self, and_true, true_and, te3b, te4b, te3s, te4s, Nat.mul_one, Nat.zero_add, List.length_cons, List.length_nil, Bool.false_eq_true, Bool.true_eq_false] at *); (try omega)); all_goals (try (simp [CL.sub]; done))) | exact Sup.of rfl | (exfalso; omega)
  · rw [decide_eq_false h, Bool.false_and]
    have hC := cpAdd_ok (pureCC_ok CheckNormal_ok) noC_ok
    refine pspec_of (md := 1) (rf := []) mixed tabOK hC Try.func27 (by rfl) (by rfl) (by rfl) ?_
    repeat' (first | ((conv => whnf); refine And.intro ?_ ?_) | ((conv => whnf); with_reducible exact VC.mk rfl) | ((conv => whnf); exact Ok.mk) | ((conv => whnf); exact True.intro) | ((conv => whnf); refine Nx.mk ?_) | ((conv => whnf); refine Fin.mk ?_) | ((conv => whnf); intro hq; (try simp only [decide_eq_true_eq, decide_eq_false_iff_not, Bool.not_eq_true, Bool.not_eq_false, Bool.not_eq_true', Bool.not_eq_false', ite_true, ite_false] at hq); (try (exfalso; first | exact absurd hq (by decide) | omega))))
    all_goals ((try refine VC.mk ?_); (try simp only [CL.ncell, CL.cnt, Int.toNat_natCast, decide_eq_true_eq, decide_eq_false_iff_not, Bool.not_eq_true, Bool.not_false, Bool.not_true, and_self, and_true, true_and, te3b, te4b, te3s, te4s, Nat.mul_one, Nat.zero_add, List.length_cons, List.length_nil, Bool.false_eq_true, Bool.true_eq_false] at *); (try omega))
    all_goals first | all_goals (refine Sup.via ?_; repeat' (first | ((conv => whnf); refine And.intro ?_ ?_) | ((conv => whnf); with_reducible exact VC.mk rfl) | ((conv => whnf); exact Ok.mk) | ((conv => whnf); exact True.intro) | ((conv => whnf); refine Nx.mk ?_) | ((conv => whnf); refine Fin.mk ?_) | ((conv => whnf); intro _)); all_goals ((try refine VC.mk ?_); (try simp only [CL.ncell, CL.cnt, Int.toNat_natCast, decide_eq_true_eq, decide_eq_false_iff_not, Bool.not_eq_true, Bool.not_false, Bool.not_true, and_self, and_true, true_and, te3b, te4b, te3s, te4s, Nat.mul_one, Nat.zero_add, List.length_cons, List.length_nil, Bool.false_eq_true, Bool.true_eq_false] at *); (try omega)); all_goals (try (simp [CL.sub]; done))) | (exfalso; exact h ⟨by omega, by omega⟩) | (exfalso; omega)
def magGP : PSp := fun xs K => match xs with
  | [.agg [.int .i64 r, .int .i64 c, .isl (.ints .i64 l) .none], .int .i64 m, .str s] => VC (l.length ≤ 2000000) ∧ K (.bp (magB r c l m (gOf s)))
  | _ => False
theorem magG_ok : POK Try.prog 27 magGP := by
  intro xs K h
  unfold magGP at h
  split at h
  · exact ⟨_, h.2, magic_gen _ _ _ _ _ h.1.get⟩
  · exact h.elim
theorem linesOk_iff (n : Nat) (g : Int) (l : List Int) : linesOk n g l = (badLine n g l).isNone := by
  unfold linesOk badLine
  rw [Bool.eq_iff_iff, List.all_eq_true, Option.isNone_iff_eq_none, List.find?_eq_none]
  constructor
  · intro h i hi; simp [h i hi]
  · intro h i hi; simpa using h i hi
end Go.Eng.Ytppflbccfdbogaa
namespace Go.Eng.Ytppflbccfdbogaa
open Go.Proofs
set_option maxRecDepth 100000
set_option maxHeartbeats 0
set_option linter.unusedVariables false
set_option linter.unusedSimpArgs false
theorem good_err {n : Nat} (hn : 1 ≤ n ∧ n ≤ 16) {g : Int} {l : List Int} (h : GoodSq n g l) : normErr n n l = 0 := by
  have hl : (l.length : Int) = (n : Int) * n := by rw [h.len]; push_cast; rfl
  unfold normErr
  rw [if_pos, if_pos h.norm]
  unfold sqErr
  rw [if_neg (by omega)]
theorem magic_yes (n : Nat) (g : Int) (l : List Int) (s : ByteArray) (hn : 1 ≤ n ∧ n ≤ 16) (hg : gOf s = g) (h : GoodSq n g l) : PSpec Try.prog 27 [gridV n n l, .int .i64 n, .str s] (.bp true) := by
  have he := good_err hn h
  have hF := Fails_spec n n l s hn h.len (fun x hx => by
    have h1 := isNorm_bd h.norm x hx
    have h2 := Nat.mul_le_mul hn.2 hn.2
    rw [h.len] at h1
    omega)
  rw [failsV_eq, hg, h.bad] at hF
  unfold failsL at hF
  rw [h.bad] at hF
  have hC := cpAdd_ok (pureCC_ok (atC_ok (C := True) fun _ => hF)) (cpAdd_ok (pureCC_ok CheckNormal_ok) noC_ok)
  refine pspec_of (md := 1) (rf := []) mixed tabOK hC Try.func27 (by rfl) (by rfl) (by rfl) ?_
  repeat' (first | ((conv => whnf); refine And.intro ?_ ?_) | ((conv => whnf); with_reducible exact VC.mk rfl) | ((conv => whnf); exact Ok.mk) | ((conv => whnf); exact True.intro) | ((conv => whnf); refine Nx.mk ?_) | ((conv => whnf); refine Fin.mk ?_) | ((conv => whnf); intro hq; (try simp only [decide_eq_true_eq, decide_eq_false_iff_not, Bool.not_eq_true, Bool.not_eq_false, Bool.not_eq_true', Bool.not_eq_false', ite_true, ite_false] at hq); (try (exfalso; first | exact absurd hq (by decide) | omega))))
  all_goals ((try refine VC.mk ?_); (try simp only [CL.ncell, CL.cnt, Int.toNat_natCast, decide_eq_true_eq, decide_eq_false_iff_not, Bool.not_eq_true, Bool.not_false, Bool.not_true, and_self, and_true, true_and, te3b, te4b, te3s, te4s, Nat.mul_one, Nat.zero_add, List.length_cons, List.length_nil, Bool.false_eq_true, Bool.true_eq_false] at *); (try omega))
  exact Sup.of rfl
structure MagOK (r c : Int) (l : List Int) (m g : Int) : Prop where
  ex : ∃ n : Nat, (1 ≤ n ∧ n ≤ 16) ∧ r = n ∧ c = n ∧ m = n ∧ GoodSq n g l
def magT : PSp := fun xs K => match xs with
  | [.agg [.int .i64 r, .int .i64 c, .isl (.ints .i64 l) .none], .int .i64 m, .str s] => VC (MagOK r c l m (gOf s)) ∧ K (.bool true)
  | _ => False
theorem magT_ok : POK Try.prog 27 magT := by
  intro xs K h
  unfold magT at h
  split at h
  · obtain ⟨⟨⟨n, hn, rfl, rfl, rfl, hg⟩⟩, h⟩ := h
    exact ⟨_, h, pspec_sup (magic_yes n _ _ _ hn rfl hg) sup_b⟩
  · exact h.elim
end Go.Eng.Ytppflbccfdbogaa
namespace Go.Eng.Ytppflbccfdbogaa
open Go.Proofs
set_option maxRecDepth 100000
set_option maxHeartbeats 0
set_option linter.unusedVariables false
set_option linter.unusedSimpArgs false
theorem rectL_get {R C i j : Nat} (hi : i < R) (hj : j < C) : (rectL R C (R * C)).getD (C * i + j) 0 = rectF R C i j := by
  have hlt : C * i + j < R * C := by
    have := Nat.mul_le_mul_left C (show i + 1 ≤ R by omega)
    rw [Nat.mul_add, Nat.mul_comm C R] at this; omega
  unfold rectL
  rw [List.getD_eq_getElem?_getD, List.getElem?_map, List.getElem?_range hlt]
  simp only [Option.map_some, Option.getD_some]
  rw [Nat.mul_add_div (by omega), Nat.div_eq_of_lt hj, Nat.mul_add_mod, Nat.mod_eq_of_lt hj, Nat.add_zero]
structure RectOK (R C : Nat) (L : List Int) : Prop where
  len : L.length = R * C
  norm : isNorm L = true
  row : ∀ i, i < R → sumF (fun j => L.getD (C * i + j) 0) C * R = (R : Int) * C * (R * C + 1) / 2
  col : ∀ j, j < C → sumF (fun i => L.getD (C * i + j) 0) R * C = (R : Int) * C * (R * C + 1) / 2
theorem rect_all {p q : Nat} (hp : p < 8) (hq : q < 4) : RectOK (2 + 2 * p) (4 + 4 * q) (rectL (2 + 2 * p) (4 + 4 * q) ((2 + 2 * p) * (4 + 4 * q))) := by
  have h := rectB_all p hp q hq
  unfold rectB at h
  generalize 2 + 2 * p = R at *
  generalize 4 + 4 * q = C at *
  rw [Bool.and_eq_true, Bool.and_eq_true, decide_eq_true_eq, List.all_eq_true, List.all_eq_true] at h
  obtain ⟨⟨h1, h2⟩, h3⟩ := h
  refine ⟨rectL_len _ _ _, isNorm_sort (rectL_len _ _ _) h1, fun i hi => ?_, fun j hj => ?_⟩
  · have := of_decide_eq_true (h2 i (List.mem_range.2 hi))
    rw [← this]; congr 1
    exact sumF_congr fun j hj => rectL_get hi hj
  · have := of_decide_eq_true (h3 j (List.mem_range.2 hj))
    rw [← this]; congr 1
    exact sumF_congr fun i hi => rectL_get hi hj
/-- what is true of a bordered square -/
structure BordOK (m : Nat) (l L : List Int) : Prop where
  good : GoodSq (m + 2) 2 L
  bd : ∀ k, k < (m + 2) * (m + 2) → 1 ≤ L.getD k 0 ∧ L.getD k 0 ≤ 36
  mid : ∀ i j, i < m → j < m → L.getD ((m + 2) * (i + 1) + (j + 1)) 0 = l.getD (m * i + j) 0 + (2 * m + 2)
  top : ∀ j, j < m → L.getD (j + 1) 0 + L.getD ((m + 2) * (m + 1) + (j + 1)) 0 = ((m : Int) + 2) * (m + 2) + 1
  left : ∀ i, i < m → L.getD ((m + 2) * (i + 1)) 0 + L.getD ((m + 2) * (i + 1) + (m + 1)) 0 = ((m : Int) + 2) * (m + 2) + 1
  c1 : L.getD 0 0 + L.getD ((m + 2) * (m + 1) + (m + 1)) 0 = ((m : Int) + 2) * (m + 2) + 1
  c2 : L.getD (m + 1) 0 + L.getD ((m + 2) * (m + 1)) 0 = ((m : Int) + 2) * (m + 2) + 1
theorem bord_all {m : Nat} {l : List Int} (h : 1 ≤ m ∧ m ≤ 4) (hl : l.length = m * m) (hn : isNorm l = true) (hb : badLine m 2 l = none) : BordOK m l (bordL (m + 2) l) := by
  have hG := bord_sq h hl hn hb
  have at' : ∀ i j, i < m + 2 → j < m + 2 → (bordL (m + 2) l).getD ((m + 2) * i + j) 0 = sqF (m + 2) l (bcs (m + 2)) i j := fun i j hi hj => by
    unfold bordL; rw [madeL_get hi hj]; rfl
  refine ⟨hG, fun k hk => ?_, fun i j hi hj => ?_, fun j hj => ?_, fun i hi => ?_, ?_, ?_⟩
  · have := ((isNorm_iff _).1 hG.norm).1 k (by rw [hG.len]; exact hk)
    have h2 := Nat.mul_le_mul (show m + 2 ≤ 6 by omega) (show m + 2 ≤ 6 by omega)
    rw [hG.len] at this
    omega
  · rw [at' _ _ (by omega) (by omega), sqF_mid l _ hi hj]; rfl
  · have e := at' 0 (j + 1) (by omega) (by omega)
    rw [Nat.mul_zero, Nat.zero_add] at e
    rw [e, at' _ _ (by omega) (by omega)]; exact sqF_top l _ hj
  · have e := at' (i + 1) 0 (by omega) (by omega)
    have e : (bordL (m + 2) l).getD ((m + 2) * (i + 1)) 0 = _ := e
    rw [e, at' _ _ (by omega) (by omega)]; exact sqF_left l _ hi
  · have e := at' 0 0 (by omega) (by omega)
    rw [Nat.mul_zero, Nat.zero_add] at e
    rw [e, at' _ _ (by omega) (by omega)]; exact sqF_c1 l _
  · have e := at' 0 (m + 1) (by omega) (by omega)
    have e2 := at' (m + 1) 0 (by omega) (by omega)
    rw [Nat.mul_zero, Nat.zero_add] at e
    have e2 : (bordL (m + 2) l).getD ((m + 2) * (m + 1)) 0 = _ := e2
    rw [e, e2]; exact sqF_c2 l _
theorem rect_val {u v : Int} (hu : 0 ≤ u ∧ u ≤ 255) (hv : 0 ≤ v ∧ v ≤ 255) : ∃ (R C : Nat) (L : List Int), 2 + 2 * (u % 8) = R ∧ 4 + 4 * (v % 4) = C ∧ (2 ≤ R ∧ R ≤ 16) ∧ (4 ≤ C ∧ C ≤ 16) ∧ RectOK R C L ∧
    PSpec Try.prog 24 [.int .i64 (2 + 2 * (u % 8)), .int .i64 (4 + 4 * (v % 4))] (okGrid (2 + 2 * (u % 8)) (4 + 4 * (v % 4)) L) := by
  obtain ⟨p, hp⟩ : ∃ p : Nat, u % 8 = p := ⟨(u % 8).toNat, by omega⟩
  obtain ⟨q, hq⟩ : ∃ q : Nat, v % 4 = q := ⟨(v % 4).toNat, by omega⟩
  have e1 : 2 + 2 * (u % 8) = ((2 + 2 * p : Nat) : Int) := by omega
  have e2 : 4 + 4 * (v % 4) = ((4 + 4 * q : Nat) : Int) := by omega
  refine ⟨2 + 2 * p, 4 + 4 * q, _, e1, e2, by omega, by omega, rect_all (by omega) (by omega), ?_⟩
  have h := rectangle_spec (2 + 2 * (u % 8)) (4 + 4 * (v % 4))
  unfold rectV at h
  rw [if_pos (by unfold rectErr; rw [if_neg (by omega), if_pos (by omega)])] at h
  rw [e1, e2] at h ⊢
  simp only [Int.toNat_natCast] at h
  exact h
theorem idx_in {n i j : Nat} (hi : i < n) (hj : j < n) : n * i + j < n * n := flat_idx hi hj
theorem borders_law (r c : Int) (l : List Int) (u v : Int) (hu : 0 ≤ u ∧ u ≤ 255) (hv : 0 ≤ v ∧ v ≤ 255) : PSpec Try.prog 4 [gridV r c l, .agg [.int .u8 u, .int .u8 v]] (.bp true) := by
  obtain ⟨R, C, Z, eR, eC, hR, hC4, hZ, h24⟩ := rect_val hu hv
  have hRC := mul_bd (A := 16) (B := 16) (show 0 ≤ (R : Int) ∧ (R : Int) ≤ 16 by omega) (show 0 ≤ (C : Int) ∧ (C : Int) ≤ 16 by omega)
  have hRC' : ((R * C : Nat) : Int) = (R : Int) * C := by push_cast; rfl
  have hN := IsNormal_spec Z (by rw [hZ.len]; omega)
  rw [hZ.norm] at hN
  have hlen := hZ.len
  have hzb : ∀ k, k < R * C → 0 ≤ Z.getD k 0 ∧ Z.getD k 0 ≤ 256 := fun k hk => by
    have := ((isNorm_iff _).1 hZ.norm).1 k (by rw [hlen]; exact hk)
    rw [hlen] at this; omega
  have hrow := hZ.row
  have hcol := hZ.col
  have hT := mul_bd (show 0 ≤ (R : Int) * C ∧ (R : Int) * C ≤ 256 by omega) (show 0 ≤ (R : Int) * C + 1 ∧ (R : Int) * C + 1 ≤ 257 by omega)
  generalize hTT : (R : Int) * C * (R * C + 1) / 2 = T at *
  have idxR : ∀ i j : Nat, i < R → j < C → C * i + j < R * C := fun i j hi hj => by
    have := Nat.mul_le_mul_left C (show i + 1 ≤ R by omega)
    rw [Nat.mul_add, Nat.mul_comm C R] at this; omega
  have hRCi : ∀ i j : Nat, ((i : Int) * C + j) = ((C * i + j : Nat) : Int) := fun i j => by push_cast; rw [Int.mul_comm]
  have k1 : 0 ≤ (2 + 2 * (u % 8)) * (4 + 4 * (v % 4)) ∧ (2 + 2 * (u % 8)) * (4 + 4 * (v % 4)) ≤ 256 := by rw [eR, eC]; exact hRC
  have k2 : 0 ≤ (2 + 2 * (u % 8)) * (4 + 4 * (v % 4)) * ((2 + 2 * (u % 8)) * (4 + 4 * (v % 4)) + 1) ∧ (2 + 2 * (u % 8)) * (4 + 4 * (v % 4)) * ((2 + 2 * (u % 8)) * (4 + 4 * (v % 4)) + 1) ≤ 65792 := by rw [eR, eC]; exact hT
  have k3 : (Z.length : Int) = (2 + 2 * (u % 8)) * (4 + 4 * (v % 4)) := by rw [eR, eC, hlen]; exact hRC'
  have h28 : (normErr r c l = 0 ∧ r ≤ 4 ∧ badLine r.toNat 2 l = none) → PSpec Try.prog 28 [gridV r c l] (okGrid (r + 2) (r + 2) (bordL (r.toNat + 2) l)) := fun ⟨a1, a2, a3⟩ => by
    have h := border_spec r c l
    unfold borderV at h
    rw [if_neg (by simp [a1]), if_neg (by rw [linesOk_iff, a3]; simp), if_neg (by omega)] at h
    exact h
  have hC0 := cpAdd_ok (pureCC_ok (atC_ok (C := True) fun _ => h24)) (cpAdd_ok (pureCC_ok (atC_ok (C := True) fun _ => hN)) (cpAdd_ok (pureCC_ok CheckNormal_ok) (cpAdd_ok (pureCC_ok magG_ok) (cpAdd_ok (pureCC_ok (atC_ok h28)) (cpAdd_ok (pureCC_ok awakeT_ok) noC_ok)))))
  refine pspec_of (md := 0) (rf := []) mixed tabOK hC0 Try.func4 (by rfl) (by rfl) (by rfl) ?_
  repeat' (first | ((conv => whnf); refine And.intro ?_ ?_) | ((conv => whnf); with_reducible exact VC.mk rfl) | ((conv => whnf); exact Ok.mk) | ((conv => whnf); exact True.intro) | ((conv => whnf); refine Nx.mk ?_) | ((conv => whnf); refine Fin.mk ?_) | ((conv => whnf); intro hq; (try simp only [decide_eq_true_eq, decide_eq_false_iff_not, Bool.not_eq_true, Bool.not_eq_false, Bool.not_eq_true', Bool.not_eq_false', Bool.not_true, Bool.not_false, ite_true, ite_false] at hq); (try (exfalso; first | exact absurd hq (by decide) | omega))))
  all_goals ((try refine VC.mk ?_); (try simp only [CL.ncell, CL.cnt, Int.toNat_natCast, decide_eq_true_eq, decide_eq_false_iff_not, Bool.not_eq_true, Bool.not_false, Bool.not_true, and_self, and_true, true_and, te3b, te4b, te3s, te4s, Nat.mul_one, Nat.zero_add, List.length_cons, List.length_nil, Bool.false_eq_true, Bool.true_eq_false] at *); (try omega))
  all_goals (try (exfalso; first | omega | simp_all; done))
  conv => whnf
  rw [eR, eC] at hC0
  simp only [eR, eC, hTT]
  refine loop_of (X := Nat) (fun i => i ≤ R) (fun i => [(33, .any), (36, .any), (10, .int .i64 i)]) (fun i => []) (fun i => R - i) 0 ⟨anyB_ok, mixed, tabOK, hC0, noY_ok⟩ (by rfl) (by omega) ?_ ?_
  · repeat' (first | ((conv => whnf); refine And.intro ?_ ?_) | ((conv => whnf); with_reducible exact VC.mk rfl) | ((conv => whnf); exact Ok.mk) | ((conv => whnf); exact True.intro) | ((conv => whnf); refine Nx.mk ?_) | ((conv => whnf); refine Fin.mk ?_) | ((conv => whnf); intro _))
    all_goals ((try refine VC.mk ?_); (try simp only [CL.ncell, CL.cnt, Int.toNat_natCast, decide_eq_true_eq, decide_eq_false_iff_not, Bool.not_eq_true, Bool.not_false, Bool.not_true, and_self, and_true, true_and, te3b, te4b, te3s, te4s, Nat.mul_one, Nat.zero_add, List.length_cons, List.length_nil, Bool.false_eq_true, Bool.true_eq_false] at *); (try omega))
  intro i hi
  by_cases hlt : i < R
  · repeat' (first | ((conv => whnf); refine And.intro ?_ ?_) | ((conv => whnf); with_reducible exact VC.mk rfl) | ((conv => whnf); exact Ok.mk) | ((conv => whnf); exact True.intro) | ((conv => whnf); refine Nx.mk ?_) | ((conv => whnf); refine Fin.mk ?_) | ((conv => whnf); intro hq; (try simp only [decide_eq_true_eq, decide_eq_false_iff_not, Bool.not_eq_true, Bool.not_eq_false, Bool.not_eq_true', Bool.not_eq_false', Bool.not_true, Bool.not_false, ite_true, ite_false] at hq); (try (exfalso; first | exact absurd hq (by decide) | omega))))
    all_goals ((try refine VC.mk ?_); (try simp only [CL.ncell, CL.cnt, Int.toNat_natCast, decide_eq_true_eq, decide_eq_false_iff_not, Bool.not_eq_true, Bool.not_false, Bool.not_true, and_self, and_true, true_and, te3b, te4b, te3s, te4s, Nat.mul_one, Nat.zero_add, List.length_cons, List.length_nil, Bool.false_eq_true, Bool.true_eq_false] at *); (try omega))
    conv => whnf
    refine loop_of (X := Nat) (fun j => j ≤ C) (fun j => [(33, .any), (36, .any), (12, .int .i64 j), (11, .int .i64 (sumF (fun j => Z.getD (C * i + j) 0) j))]) (fun j => []) (fun j => C - j) 0 ⟨anyB_ok, mixed, tabOK, hC0, noY_ok⟩ (by rfl) (by omega) ?_ ?_
    · repeat' (first | ((conv => whnf); refine And.intro ?_ ?_) | ((conv => whnf); with_reducible exact VC.mk rfl) | ((conv => whnf); exact Ok.mk) | ((conv => whnf); exact True.intro) | ((conv => whnf); refine Nx.mk ?_) | ((conv => whnf); refine Fin.mk ?_) | ((conv => whnf); intro _))
      all_goals ((try refine VC.mk ?_); (try simp only [CL.ncell, CL.cnt, Int.toNat_natCast, decide_eq_true_eq, decide_eq_false_iff_not, Bool.not_eq_true, Bool.not_false, Bool.not_true, and_self, and_true, true_and, te3b, te4b, te3s, te4s, Nat.mul_one, Nat.zero_add, List.length_cons, List.length_nil, Bool.false_eq_true, Bool.true_eq_false] at *); (try omega))
      all_goals (try rfl)
    intro j hj
    have hr := hrow i hlt
    have b0 := sumF_nonneg (f := fun j => Z.getD (C * i + j) 0) (n := j) (fun x hx => (hzb _ (idxR i x hlt (by omega))).1)
    have b1 := sumF_le (f := fun j => Z.getD (C * i + j) 0) (B := 256) (n := j) (fun x hx => (hzb _ (idxR i x hlt (by omega))).2)
    by_cases hlj : j < C
    · have ix := hRCi i j
      have ib := idxR i j hlt hlj
      have iv := hzb _ ib
      have im := mul_bd (A := 16) (B := 16) (show 0 ≤ (i : Int) ∧ (i : Int) ≤ 16 by omega) (show 0 ≤ (C : Int) ∧ (C : Int) ≤ 16 by omega)
      repeat' (first | ((conv => whnf); refine And.intro ?_ ?_) | ((conv => whnf); with_reducible exact VC.mk rfl) | ((conv => whnf); exact Ok.mk) | ((conv => whnf); exact True.intro) | ((conv => whnf); refine Nx.mk ?_) | ((conv => whnf); refine Fin.mk ?_) | ((conv => whnf); intro hq; (try simp only [decide_eq_true_eq, decide_eq_false_iff_not, Bool.not_eq_true, Bool.not_eq_false, Bool.not_eq_true', Bool.not_eq_false', Bool.not_true, Bool.not_false, ite_true, ite_false] at hq); (try (exfalso; first | exact absurd hq (by decide) | omega))))
      all_goals ((try refine VC.mk ?_); (try simp only [CL.ncell, CL.cnt, Int.toNat_natCast, decide_eq_true_eq, decide_eq_false_iff_not, Bool.not_eq_true, Bool.not_false, Bool.not_true, and_self, and_true, true_and, te3b, te4b, te3s, te4s, Nat.mul_one, Nat.zero_add, List.length_cons, List.length_nil, Bool.false_eq_true, Bool.true_eq_false] at *); (try omega))
      all_goals (try simp only [ix, Int.toNat_natCast])
      all_goals (try omega)
      refine ⟨j + 1, [], ⟨by omega, by omega⟩, ?_⟩
      repeat' (first | ((conv => whnf); refine And.intro ?_ ?_) | ((conv => whnf); with_reducible exact VC.mk rfl) | ((conv => whnf); exact Ok.mk) | ((conv => whnf); exact True.intro) | ((conv => whnf); refine Nx.mk ?_) | ((conv => whnf); refine Fin.mk ?_) | ((conv => whnf); intro _))
      all_goals ((try refine VC.mk ?_); (try simp only [CL.ncell, CL.cnt, Int.toNat_natCast, decide_eq_true_eq, decide_eq_false_iff_not, Bool.not_eq_true, Bool.not_false, Bool.not_true, and_self, and_true, true_and, te3b, te4b, te3s, te4s, Nat.mul_one, Nat.zero_add, List.length_cons, List.length_nil, Bool.false_eq_true, Bool.true_eq_false] at *); (try omega))
      all_goals (try rw [ix, Int.toNat_natCast]; rfl)
    · have : C = j := by omega
      subst this
      repeat' (first | ((conv => whnf); refine And.intro ?_ ?_) | ((conv => whnf); with_reducible exact VC.mk rfl) | ((conv => whnf); exact Ok.mk) | ((conv => whnf); exact True.intro) | ((conv => whnf); refine Nx.mk ?_) | ((conv => whnf); refine Fin.mk ?_) | ((conv => whnf); intro hq; (try simp only [decide_eq_true_eq, decide_eq_false_iff_not, Bool.not_eq_true, Bool.not_eq_false, Bool.not_eq_true', Bool.not_eq_false', Bool.not_true, Bool.not_false, ite_true, ite_false] at hq); (try (exfalso; first | exact absurd hq (by decide) | omega))))
      all_goals ((try refine VC.mk ?_); (try simp only [CL.ncell, CL.cnt, Int.toNat_natCast, decide_eq_true_eq, decide_eq_false_iff_not, Bool.not_eq_true, Bool.not_false, Bool.not_true, and_self, and_true, true_and, te3b, te4b, te3s, te4s, Nat.mul_one, Nat.zero_add, List.length_cons, List.length_nil, Bool.false_eq_true, Bool.true_eq_false] at *); (try omega))
      all_goals (try (exfalso; omega))
      all_goals (try omega)
      refine ⟨i + 1, [], ⟨by omega, by omega⟩, ?_⟩
      repeat' (first | ((conv => whnf); refine And.intro ?_ ?_) | ((conv => whnf); with_reducible exact VC.mk rfl) | ((conv => whnf); exact Ok.mk) | ((conv => whnf); exact True.intro) | ((conv => whnf); refine Nx.mk ?_) | ((conv => whnf); refine Fin.mk ?_) | ((conv => whnf); intro _))
      all_goals ((try refine VC.mk ?_); (try simp only [CL.ncell, CL.cnt, Int.toNat_natCast, decide_eq_true_eq, decide_eq_false_iff_not, Bool.not_eq_true, Bool.not_false, Bool.not_true, and_self, and_true, true_and, te3b, te4b, te3s, te4s, Nat.mul_one, Nat.zero_add, List.length_cons, List.length_nil, Bool.false_eq_true, Bool.true_eq_false] at *); (try omega))
  have : R = i := by omega
  subst this
  clear hrow
  repeat' (first | ((conv => whnf); refine And.intro ?_ ?_) | ((conv => whnf); with_reducible exact VC.mk rfl) | ((conv => whnf); exact Ok.mk) | ((conv => whnf); exact True.intro) | ((conv => whnf); refine Nx.mk ?_) | ((conv => whnf); refine Fin.mk ?_) | ((conv => whnf); intro hq; (try simp only [decide_eq_true_eq, decide_eq_false_iff_not, Bool.not_eq_true, Bool.not_eq_false, Bool.not_eq_true', Bool.not_eq_false', Bool.not_true, Bool.not_false, ite_true, ite_false] at hq); (try (exfalso; first | exact absurd hq (by decide) | omega))))
  all_goals ((try refine VC.mk ?_); (try simp only [CL.ncell, CL.cnt, Int.toNat_natCast, decide_eq_true_eq, decide_eq_false_iff_not, Bool.not_eq_true, Bool.not_false, Bool.not_true, and_self, and_true, true_and, te3b, te4b, te3s, te4s, Nat.mul_one, Nat.zero_add, List.length_cons, List.length_nil, Bool.false_eq_true, Bool.true_eq_false] at *); (try omega))
  conv => whnf
  refine loop_of (X := Nat) (fun i => i ≤ C) (fun i => [(13, .int .i64 i)]) (fun i => []) (fun i => C - i) 0 ⟨anyB_ok, mixed, tabOK, hC0, noY_ok⟩ (by rfl) (by omega) ?_ ?_
  · repeat' (first | ((conv => whnf); refine And.intro ?_ ?_) | ((conv => whnf); with_reducible exact VC.mk rfl) | ((conv => whnf); exact Ok.mk) | ((conv => whnf); exact True.intro) | ((conv => whnf); refine Nx.mk ?_) | ((conv => whnf); refine Fin.mk ?_) | ((conv => whnf); intro _))
    all_goals ((try refine VC.mk ?_); (try simp only [CL.ncell, CL.cnt, Int.toNat_natCast, decide_eq_true_eq, decide_eq_false_iff_not, Bool.not_eq_true, Bool.not_false, Bool.not_true, and_self, and_true, true_and, te3b, te4b, te3s, te4s, Nat.mul_one, Nat.zero_add, List.length_cons, List.length_nil, Bool.false_eq_true, Bool.true_eq_false] at *); (try omega))
  intro j hj
  by_cases hlj : j < C
  · repeat' (first | ((conv => whnf); refine And.intro ?_ ?_) | ((conv => whnf); with_reducible exact VC.mk rfl) | ((conv => whnf); exact Ok.mk) | ((conv => whnf); exact True.intro) | ((conv => whnf); refine Nx.mk ?_) | ((conv => whnf); refine Fin.mk ?_) | ((conv => whnf); intro hq; (try simp only [decide_eq_true_eq, decide_eq_false_iff_not, Bool.not_eq_true, Bool.not_eq_false, Bool.not_eq_true', Bool.not_eq_false', Bool.not_true, Bool.not_false, ite_true, ite_false] at hq); (try (exfalso; first | exact absurd hq (by decide) | omega))))
    all_goals ((try refine VC.mk ?_); (try simp only [CL.ncell, CL.cnt, Int.toNat_natCast, decide_eq_true_eq, decide_eq_false_iff_not, Bool.not_eq_true, Bool.not_false, Bool.not_true, and_self, and_true, true_and, te3b, te4b, te3s, te4s, Nat.mul_one, Nat.zero_add, List.length_cons, List.length_nil, Bool.false_eq_true, Bool.true_eq_false] at *); (try omega))
    conv => whnf
    refine loop_of (X := Nat) (fun i => i ≤ R) (fun i => [(15, .int .i64 i), (14, .int .i64 (sumF (fun i => Z.getD (C * i + j) 0) i))]) (fun i => []) (fun i => R - i) 0 ⟨anyB_ok, mixed, tabOK, hC0, noY_ok⟩ (by rfl) (by omega) ?_ ?_
    · repeat' (first | ((conv => whnf); refine And.intro ?_ ?_) | ((conv => whnf); with_reducible exact VC.mk rfl) | ((conv => whnf); exact Ok.mk) | ((conv => whnf); exact True.intro) | ((conv => whnf); refine Nx.mk ?_) | ((conv => whnf); refine Fin.mk ?_) | ((conv => whnf); intro _))
      all_goals ((try refine VC.mk ?_); (try simp only [CL.ncell, CL.cnt, Int.toNat_natCast, decide_eq_true_eq, decide_eq_false_iff_not, Bool.not_eq_true, Bool.not_false, Bool.not_true, and_self, and_true, true_and, te3b, te4b, te3s, te4s, Nat.mul_one, Nat.zero_add, List.length_cons, List.length_nil, Bool.false_eq_true, Bool.true_eq_false] at *); (try omega))
      all_goals (try rfl)
    intro i hi
    have hr := hcol j hlj
    have b0 := sumF_nonneg (f := fun i => Z.getD (C * i + j) 0) (n := i) (fun x hx => (hzb _ (idxR x j (by omega) hlj)).1)
    have b1 := sumF_le (f := fun i => Z.getD (C * i + j) 0) (B := 256) (n := i) (fun x hx => (hzb _ (idxR x j (by omega) hlj)).2)
    by_cases hlt : i < R
    · have ix := hRCi i j
      have ib := idxR i j hlt hlj
      have iv := hzb _ ib
      have im := mul_bd (A := 16) (B := 16) (show 0 ≤ (i : Int) ∧ (i : Int) ≤ 16 by omega) (show 0 ≤ (C : Int) ∧ (C : Int) ≤ 16 by omega)
      repeat' (first | ((conv => whnf); refine And.intro ?_ ?_) | ((conv => whnf); with_reducible exact VC.mk rfl) | ((conv => whnf); exact Ok.mk) | ((conv => whnf); exact True.intro) | ((conv => whnf); refine Nx.mk ?_) | ((conv => whnf); refine Fin.mk ?_) | ((conv => whnf); intro hq; (try simp only [decide_eq_true_eq, decide_eq_false_iff_not, Bool.not_eq_true, Bool.not_eq_false, Bool.not_eq_true', Bool.not_eq_false', Bool.not_true, Bool.not_false, ite_true, ite_false] at hq); (try (exfalso; first | exact absurd hq (by decide) | omega))))
      all_goals ((try refine VC.mk ?_); (try simp only [CL.ncell, CL.cnt, Int.toNat_natCast, decide_eq_true_eq, decide_eq_false_iff_not, Bool.not_eq_true, Bool.not_false, Bool.not_true, and_self, and_true, true_and, te3b, te4b, te3s, te4s, Nat.mul_one, Nat.zero_add, List.length_cons, List.length_nil, Bool.false_eq_true, Bool.true_eq_false] at *); (try omega))
      all_goals (try simp only [ix, Int.toNat_natCast])
      all_goals (try omega)
      refine ⟨i + 1, [], ⟨by omega, by omega⟩, ?_⟩
      repeat' (first | ((conv => whnf); refine And.intro ?_ ?_) | ((conv => whnf); with_reducible exact VC.mk rfl) | ((conv => whnf); exact Ok.mk) | ((conv => whnf); exact True.intro) | ((conv => whnf); refine Nx.mk ?_) | ((conv => whnf); refine Fin.mk ?_) | ((conv => whnf); intro _))
      all_goals ((try refine VC.mk ?_); (try simp only [CL.ncell, CL.cnt, Int.toNat_natCast, decide_eq_true_eq, decide_eq_false_iff_not, Bool.not_eq_true, Bool.not_false, Bool.not_true, and_self, and_true, true_and, te3b, te4b, te3s, te4s, Nat.mul_one, Nat.zero_add, List.length_cons, List.length_nil, Bool.false_eq_true, Bool.true_eq_false] at *); (try omega))
      all_goals (try rw [ix, Int.toNat_natCast]; rfl)
    · have : R = i := by omega
      subst this
      repeat' (first | ((conv => whnf); refine And.intro ?_ ?_) | ((conv => whnf); with_reducible exact VC.mk rfl) | ((conv => whnf); exact Ok.mk) | ((conv => whnf); exact True.intro) | ((conv => whnf); refine Nx.mk ?_) | ((conv => whnf); refine Fin.mk ?_) | ((conv => whnf); intro hq; (try simp only [decide_eq_true_eq, decide_eq_false_iff_not, Bool.not_eq_true, Bool.not_eq_false, Bool.not_eq_true', Bool.not_eq_false', Bool.not_true, Bool.not_false, ite_true, ite_false] at hq); (try (exfalso; first | exact absurd hq (by decide) | omega))))
      all_goals ((try refine VC.mk ?_); (try simp only [CL.ncell, CL.cnt, Int.toNat_natCast, decide_eq_true_eq, decide_eq_false_iff_not, Bool.not_eq_true, Bool.not_false, Bool.not_true, and_self, and_true, true_and, te3b, te4b, te3s, te4s, Nat.mul_one, Nat.zero_add, List.length_cons, List.length_nil, Bool.false_eq_true, Bool.true_eq_false] at *); (try omega))
      all_goals (try (exfalso; omega))
      all_goals (try omega)
      refine ⟨j + 1, [], ⟨by omega, by omega⟩, ?_⟩
      repeat' (first | ((conv => whnf); refine And.intro ?_ ?_) | ((conv => whnf); with_reducible exact VC.mk rfl) | ((conv => whnf); exact Ok.mk) | ((conv => whnf); exact True.intro) | ((conv => whnf); refine Nx.mk ?_) | ((conv => whnf); refine Fin.mk ?_) | ((conv => whnf); intro _))
      all_goals ((try refine VC.mk ?_); (try simp only [CL.ncell, CL.cnt, Int.toNat_natCast, decide_eq_true_eq, decide_eq_false_iff_not, Bool.not_eq_true, Bool.not_false, Bool.not_true, and_self, and_true, true_and, te3b, te4b, te3s, te4s, Nat.mul_one, Nat.zero_add, List.length_cons, List.length_nil, Bool.false_eq_true, Bool.true_eq_false] at *); (try omega))
  have : C = j := by omega
  subst this
  clear hcol hzb idxR hRCi
  have hkM : gOf kMag = 2 := by decide
  have hz1 : normErr r c l = 0 → (1 ≤ r ∧ r ≤ 16) ∧ l.length ≤ 2000000 := fun h => by
    obtain ⟨g1, g2, g3, g4, g5⟩ := normG h
    have := Nat.mul_le_mul g3.2 g3.2
    omega
  have hz2 : r ≤ 4 → (bordL (r.toNat + 2) l).length ≤ 2000000 := fun h => by
    unfold bordL; rw [madeL_length]
    have := Nat.mul_le_mul (show r.toNat + 2 ≤ 6 by omega) (show r.toNat + 2 ≤ 6 by omega)
    omega
  have hmg : magB r c l r (gOf kMag) = true → normErr r c l = 0 ∧ badLine r.toNat 2 l = none := fun h => by
    unfold magB at h
    rw [Bool.and_eq_true, decide_eq_true_eq, hkM, Option.isNone_iff_eq_none] at h
    exact ⟨h.1.2, h.2⟩
  have hbo : normErr r c l = 0 ∧ r ≤ 4 ∧ badLine r.toNat 2 l = none → BordOK r.toNat l (bordL (r.toNat + 2) l) := fun ⟨a1, a2, a3⟩ => by
    obtain ⟨g1, g2, g3, g4, g5⟩ := normG a1
    exact bord_all (by omega) g4 (normErr_zero a1).2 a3
  have hmg2 : normErr r c l = 0 ∧ r ≤ 4 ∧ badLine r.toNat 2 l = none → magB (r + 2) (r + 2) (bordL (r.toNat + 2) l) (r + 2) (gOf kMag) = true := fun h => by
    have hG := (hbo h).good
    obtain ⟨g1, g2, g3, g4, g5⟩ := normG h.1
    unfold magB
    rw [hkM]
    have e : (r + 2).toNat = r.toNat + 2 := by omega
    have e2 : (r + 2 : Int) = ((r.toNat + 2 : Nat) : Int) := by omega
    rw [e, hG.bad, e2, good_err (by omega) hG]
    simp
  repeat' (first | ((conv => whnf); refine And.intro ?_ ?_) | ((conv => whnf); with_reducible exact VC.mk rfl) | ((conv => whnf); exact Ok.mk) | ((conv => whnf); exact True.intro) | ((conv => whnf); refine Nx.mk ?_) | ((conv => whnf); refine Fin.mk ?_) | ((conv => whnf); intro hq; (try simp only [decide_eq_true_eq, decide_eq_false_iff_not, Bool.not_eq_true, Bool.not_eq_false, Bool.not_eq_true', Bool.not_eq_false', Bool.not_true, Bool.not_false, ite_true, ite_false] at hq); (try (exfalso; first | exact absurd hq (by decide) | omega))))
  all_goals ((try refine VC.mk ?_); (try simp only [CL.ncell, CL.cnt, Int.toNat_natCast, decide_eq_true_eq, decide_eq_false_iff_not, Bool.not_eq_true, Bool.not_false, Bool.not_true, and_self, and_true, true_and, te3b, te4b, te3s, te4s, Nat.mul_one, Nat.zero_add, List.length_cons, List.length_nil, Bool.false_eq_true, Bool.true_eq_false] at *); (try omega))
  all_goals first | exact sup_true | exact (hz1 (by omega)).2 | exact ⟨by omega, by omega, (hmg (by assumption)).2⟩ | (have := (hz1 (by omega)).1; omega) | exact hz2 (by omega) | (exfalso; have h3 := hmg2 ⟨by omega, by omega, (hmg (by assumption)).2⟩; exact Bool.noConfusion (h3.symm.trans hq)) | skip
  have hall : normErr r c l = 0 ∧ r ≤ 4 ∧ badLine r.toNat 2 l = none := ⟨by omega, by omega, (hmg (by assumption)).2⟩
  have hB := hbo hall
  have hr1 := (hz1 hall.1).1
  obtain ⟨g1, g2, g3, g4, g5⟩ := normG hall.1
  clear hbo hmg2 hmg hz1 hz2 h28 hZ h24 hRC hRC' hN hlen hTT hT k1 k2 k3 hkM
  generalize bordL (r.toNat + 2) l = L at *
  obtain ⟨m, hm⟩ : ∃ m, r.toNat = m := ⟨_, rfl⟩
  rw [hm] at hB g4
  have er : r = m := by omega
  have ec : c = m := by omega
  subst er
  subst ec
  obtain ⟨hG, hbd, hmid, htop, hleft, hc1, hc2⟩ := hB
  have hLl := hG.len
  have hm4 : 1 ≤ m ∧ m ≤ 4 := by omega
  obtain ⟨n, hn⟩ : ∃ n, m + 2 = n := ⟨_, rfl⟩
  have hnI : (m : Int) + 2 = n := by omega
  rw [hn] at hbd hmid htop hleft hc1 hc2 hLl
  have hmm := mul_bd (A := 6) (B := 6) (show 0 ≤ (n : Int) ∧ (n : Int) ≤ 6 by omega) (show 0 ≤ (n : Int) ∧ (n : Int) ≤ 6 by omega)
  have hmm1 : ((n * n : Nat) : Int) = (n : Int) * n := by push_cast; rfl
  have hix : ∀ i j : Nat, (i : Int) * (n : Int) + j = ((n * i + j : Nat) : Int) := fun i j => by push_cast; rw [Int.mul_comm]
  have hix0 : ∀ i : Nat, (i : Int) * (n : Int) = ((n * i : Nat) : Int) := fun i => by push_cast; rw [Int.mul_comm]
  have hib : ∀ i j : Nat, i < n → j < n → n * i + j < n * n ∧ 0 ≤ (i : Int) * n ∧ (i : Int) * n ≤ 36 := fun i j h1 h2 => ⟨flat_idx h1 h2, mul_bd (A := 6) (B := 6) (by omega) (by omega)⟩
  have hgb : ∀ k, k < m * m → 1 ≤ l.getD k 0 ∧ l.getD k 0 ≤ 256 := fun k hk => bd_of g5 (k := k) (by omega)
  rw [hnI] at htop hleft hc1 hc2
  have hL4 : (L.length : Int) = (n : Int) * n := by omega
  have hgl : (l.length : Int) = (m : Int) * m := by rw [g4]; push_cast; rfl
  conv => whnf
  rw [hnI] at hC0
  simp only [hnI]
  clear hq
  repeat (rename_i hz; clear hz)
  clear hall hG g1 g2 g3 hm eR eC hR hC4 hu hv hr1 hi hj
  refine loop_of (X := Nat) (fun i => i ≤ n) (fun i => [(33, .any), (36, .any), (145, .any), (147, .any), (18, .int .i64 i)]) (fun i => []) (fun i => n - i) 0 ⟨anyB_ok, mixed, tabOK, hC0, noY_ok⟩ (by rfl) (by omega) ?_ ?_
  · repeat' (first | ((conv => whnf); refine And.intro ?_ ?_) | ((conv => whnf); with_reducible exact VC.mk rfl) | ((conv => whnf); exact Ok.mk) | ((conv => whnf); exact True.intro) | ((conv => whnf); refine Nx.mk ?_) | ((conv => whnf); refine Fin.mk ?_) | ((conv => whnf); intro _))
    all_goals ((try refine VC.mk ?_); (try simp only [CL.ncell, CL.cnt, Int.toNat_natCast, decide_eq_true_eq, decide_eq_false_iff_not, Bool.not_eq_true, Bool.not_false, Bool.not_true, and_self, and_true, true_and, te3b, te4b, te3s, te4s, Nat.mul_one, Nat.zero_add, List.length_cons, List.length_nil, Bool.false_eq_true, Bool.true_eq_false] at *); (try omega))
  intro i hi
  by_cases hlt : i < n
  · repeat' (first | ((conv => whnf); refine And.intro ?_ ?_) | ((conv => whnf); with_reducible exact VC.mk rfl) | ((conv => whnf); exact Ok.mk) | ((conv => whnf); exact True.intro) | ((conv => whnf); refine Nx.mk ?_) | ((conv => whnf); refine Fin.mk ?_) | ((conv => whnf); intro hq; (try simp only [decide_eq_true_eq, decide_eq_false_iff_not, Bool.not_eq_true, Bool.not_eq_false, Bool.not_eq_true', Bool.not_eq_false', Bool.not_true, Bool.not_false, ite_true, ite_false] at hq); (try (exfalso; first | exact absurd hq (by decide) | omega))))
    all_goals ((try refine VC.mk ?_); (try simp only [CL.ncell, CL.cnt, Int.toNat_natCast, decide_eq_true_eq, decide_eq_false_iff_not, Bool.not_eq_true, Bool.not_false, Bool.not_true, and_self, and_true, true_and, te3b, te4b, te3s, te4s, Nat.mul_one, Nat.zero_add, List.length_cons, List.length_nil, Bool.false_eq_true, Bool.true_eq_false] at *); (try omega))
    conv => whnf
    refine loop_of (X := Nat) (fun j => j ≤ n) (fun j => [(33, .any), (36, .any), (145, .any), (147, .any), (19, .int .i64 j)]) (fun j => []) (fun j => n - j) 0 ⟨anyB_ok, mixed, tabOK, hC0, noY_ok⟩ (by rfl) (by omega) ?_ ?_
    · repeat' (first | ((conv => whnf); refine And.intro ?_ ?_) | ((conv => whnf); with_reducible exact VC.mk rfl) | ((conv => whnf); exact Ok.mk) | ((conv => whnf); exact True.intro) | ((conv => whnf); refine Nx.mk ?_) | ((conv => whnf); refine Fin.mk ?_) | ((conv => whnf); intro _))
      all_goals ((try refine VC.mk ?_); (try simp only [CL.ncell, CL.cnt, Int.toNat_natCast, decide_eq_true_eq, decide_eq_false_iff_not, Bool.not_eq_true, Bool.not_false, Bool.not_true, and_self, and_true, true_and, te3b, te4b, te3s, te4s, Nat.mul_one, Nat.zero_add, List.length_cons, List.length_nil, Bool.false_eq_true, Bool.true_eq_false] at *); (try omega))
    intro j hj
    by_cases hlj : j < n
    · by_cases hin : 1 ≤ i ∧ i ≤ m ∧ 1 ≤ j ∧ j ≤ m
      · obtain ⟨p, rfl⟩ : ∃ p, i = p + 1 := ⟨i - 1, by omega⟩
        obtain ⟨q, rfl⟩ : ∃ q, j = q + 1 := ⟨j - 1, by omega⟩
        have e1 := hmid p q (by omega) (by omega)
        have e2 := hix (p + 1) (q + 1)
        have e3 : (((p + 1 : Nat) : Int) - 1) * m + ((q + 1 : Nat) : Int) - 1 = ((m * p + q : Nat) : Int) := by
          push_cast; rw [show (p : Int) + 1 - 1 = p by omega, Int.mul_comm]; omega
        have e4 := flat_idx (n := m) (i := p) (j := q) (by omega) (by omega)
        have e5 := hib (p + 1) (q + 1) (by omega) (by omega)
        have e6 := hgb _ e4
        have e8 := mul_bd (A := 6) (B := 6) (show 0 ≤ ((p + 1 : Nat) : Int) - 1 ∧ ((p + 1 : Nat) : Int) - 1 ≤ 6 by omega) (show 0 ≤ (m : Int) ∧ (m : Int) ≤ 6 by omega)
        have e9 := hbd _ e5.1
        clear hmid htop hleft hc1 hc2 hbd hix hix0 hib hgb hmm1
        repeat' (first | ((conv => whnf); refine And.intro ?_ ?_) | ((conv => whnf); with_reducible exact VC.mk rfl) | ((conv => whnf); exact Ok.mk) | ((conv => whnf); exact True.intro) | ((conv => whnf); refine Nx.mk ?_) | ((conv => whnf); refine Fin.mk ?_) | ((conv => whnf); intro hq; (try simp only [decide_eq_true_eq, decide_eq_false_iff_not, Bool.not_eq_true, Bool.not_eq_false, Bool.not_eq_true', Bool.not_eq_false', Bool.not_true, Bool.not_false, ite_true, ite_false] at hq); (try (exfalso; first | exact absurd hq (by decide) | omega))))
        all_goals (first | (refine VC.mk ?_; (try simp only [CL.ncell, CL.cnt, Int.toNat_natCast, te3b, te4b, te3s, te4s, Nat.mul_one, Nat.zero_add, Bool.false_eq_true, Bool.true_eq_false, e2, e3]); (try omega)) | ((with_reducible first | show (_ : Int) ≤ _ | show (_ : Int) < _ | show (_ : Nat) ≤ _ | show (_ : Nat) < _ | show (_ : Int) ≠ _); (try simp only [CL.ncell, CL.cnt, Int.toNat_natCast, te3b, te4b, te3s, te4s, Nat.mul_one, Nat.zero_add, Bool.false_eq_true, Bool.true_eq_false, e2, e3]); (try omega)) | skip)
        all_goals first | (refine ⟨q + 1 + 1, [], ⟨by omega, by omega⟩, ?_⟩) | (exfalso; (try simp only [e2, e3, Int.toNat_natCast] at hq); omega)
        repeat' (first | ((conv => whnf); refine And.intro ?_ ?_) | ((conv => whnf); with_reducible exact VC.mk rfl) | ((conv => whnf); exact Ok.mk) | ((conv => whnf); exact True.intro) | ((conv => whnf); refine Nx.mk ?_) | ((conv => whnf); refine Fin.mk ?_) | ((conv => whnf); intro _))
        all_goals (first | (refine VC.mk ?_; (try simp only [CL.ncell, CL.cnt, Int.toNat_natCast, te3b, te4b, te3s, te4s, Nat.mul_one, Nat.zero_add, Bool.false_eq_true, Bool.true_eq_false]); (try omega)) | ((with_reducible first | show (_ : Int) ≤ _ | show (_ : Int) < _ | show (_ : Nat) ≤ _ | show (_ : Nat) < _ | show (_ : Int) ≠ _); (try simp only [CL.ncell, CL.cnt, Int.toNat_natCast, te3b, te4b, te3s, te4s, Nat.mul_one, Nat.zero_add, Bool.false_eq_true, Bool.true_eq_false]); (try omega)) | skip)
      · clear hmid htop hleft hc1 hc2 hbd hix hix0 hib hgb
        repeat' (first | ((conv => whnf); refine And.intro ?_ ?_) | ((conv => whnf); with_reducible exact VC.mk rfl) | ((conv => whnf); exact Ok.mk) | ((conv => whnf); exact True.intro) | ((conv => whnf); refine Nx.mk ?_) | ((conv => whnf); refine Fin.mk ?_) | ((conv => whnf); intro hq; (try simp only [decide_eq_true_eq, decide_eq_false_iff_not, Bool.not_eq_true, Bool.not_eq_false, Bool.not_eq_true', Bool.not_eq_false', Bool.not_true, Bool.not_false, ite_true, ite_false] at hq); (try (exfalso; first | exact absurd hq (by decide) | omega))))
        all_goals (first | (refine VC.mk ?_; (try simp only [CL.ncell, CL.cnt, Int.toNat_natCast, te3b, te4b, te3s, te4s, Nat.mul_one, Nat.zero_add, Bool.false_eq_true, Bool.true_eq_false]); (try omega)) | ((with_reducible first | show (_ : Int) ≤ _ | show (_ : Int) < _ | show (_ : Nat) ≤ _ | show (_ : Nat) < _ | show (_ : Int) ≠ _); (try simp only [CL.ncell, CL.cnt, Int.toNat_natCast, te3b, te4b, te3s, te4s, Nat.mul_one, Nat.zero_add, Bool.false_eq_true, Bool.true_eq_false]); (try omega)) | skip)
        all_goals first | (refine ⟨j + 1, [], ⟨by omega, by omega⟩, ?_⟩) | (exfalso; omega)
        all_goals repeat' (first | ((conv => whnf); refine And.intro ?_ ?_) | ((conv => whnf); with_reducible exact VC.mk rfl) | ((conv => whnf); exact Ok.mk) | ((conv => whnf); exact True.intro) | ((conv => whnf); refine Nx.mk ?_) | ((conv => whnf); refine Fin.mk ?_) | ((conv => whnf); intro _))
        all_goals (first | (refine VC.mk ?_; (try simp only [CL.ncell, CL.cnt, Int.toNat_natCast, te3b, te4b, te3s, te4s, Nat.mul_one, Nat.zero_add, Bool.false_eq_true, Bool.true_eq_false]); (try omega)) | ((with_reducible first | show (_ : Int) ≤ _ | show (_ : Int) < _ | show (_ : Nat) ≤ _ | show (_ : Nat) < _ | show (_ : Int) ≠ _); (try simp only [CL.ncell, CL.cnt, Int.toNat_natCast, te3b, te4b, te3s, te4s, Nat.mul_one, Nat.zero_add, Bool.false_eq_true, Bool.true_eq_false]); (try omega)) | skip)
    · have : n = j := by omega
      subst this
      by_cases hin : 1 ≤ i ∧ i ≤ m
      · obtain ⟨p, rfl⟩ : ∃ p, i = p + 1 := ⟨i - 1, by omega⟩
        have e1 := htop p (by omega)
        have e2 := hleft p (by omega)
        have e3 := hix (m + 1) (p + 1)
        rw [show ((m + 1 : Nat) : Int) = (n : Int) - 1 by omega] at e3
        have e4 := hix0 (p + 1)
        have e5 : (((n * (p + 1) : Nat) : Int) + n - 1) = ((n * (p + 1) + (m + 1) : Nat) : Int) := by omega
        have b1 := hib (m + 1) (p + 1) (by omega) (by omega)
        rw [show ((m + 1 : Nat) : Int) = (n : Int) - 1 by omega] at b1
        have b2 := hib (p + 1) 0 (by omega) (by omega)
        have b3 := hib (p + 1) (m + 1) (by omega) (by omega)
        have b4 := hib 0 (p + 1) (by omega) (by omega)
        have v1 := hbd _ b1.1
        have v2 := hbd _ b2.1
        have v3 := hbd _ b3.1
        have v4 := hbd _ b4.1
        simp only [Nat.mul_zero, Nat.zero_add, Nat.add_zero] at v2 v4 b2 b4
        clear hmid htop hleft hc1 hc2 hbd hix hix0 hib hgb hin
        repeat' (first | ((conv => whnf); refine And.intro ?_ ?_) | ((conv => whnf); with_reducible exact VC.mk rfl) | ((conv => whnf); exact Ok.mk) | ((conv => whnf); exact True.intro) | ((conv => whnf); refine Nx.mk ?_) | ((conv => whnf); refine Fin.mk ?_) | ((conv => whnf); intro hq; (try simp only [decide_eq_true_eq, decide_eq_false_iff_not, Bool.not_eq_true, Bool.not_eq_false, Bool.not_eq_true', Bool.not_eq_false', Bool.not_true, Bool.not_false, ite_true, ite_false] at hq); (try (exfalso; first | exact absurd hq (by decide) | omega))))
        all_goals (first | (refine VC.mk ?_; (try simp only [CL.ncell, CL.cnt, Int.toNat_natCast, te3b, te4b, te3s, te4s, Nat.mul_one, Nat.zero_add, Bool.false_eq_true, Bool.true_eq_false, e3, e4, e5]); (try omega)) | ((with_reducible first | show (_ : Int) ≤ _ | show (_ : Int) < _ | show (_ : Nat) ≤ _ | show (_ : Nat) < _ | show (_ : Int) ≠ _); (try simp only [CL.ncell, CL.cnt, Int.toNat_natCast, te3b, te4b, te3s, te4s, Nat.mul_one, Nat.zero_add, Bool.false_eq_true, Bool.true_eq_false, e3, e4, e5]); (try omega)) | skip)
        all_goals first | (refine ⟨p + 1 + 1, [], ⟨by omega, by omega⟩, ?_⟩) | (exfalso; (try simp only [e3, e4, e5, Int.toNat_natCast] at hq); omega)
        all_goals repeat' (first | ((conv => whnf); refine And.intro ?_ ?_) | ((conv => whnf); with_reducible exact VC.mk rfl) | ((conv => whnf); exact Ok.mk) | ((conv => whnf); exact True.intro) | ((conv => whnf); refine Nx.mk ?_) | ((conv => whnf); refine Fin.mk ?_) | ((conv => whnf); intro _))
        all_goals (first | (refine VC.mk ?_; (try simp only [CL.ncell, CL.cnt, Int.toNat_natCast, te3b, te4b, te3s, te4s, Nat.mul_one, Nat.zero_add, Bool.false_eq_true, Bool.true_eq_false]); (try omega)) | ((with_reducible first | show (_ : Int) ≤ _ | show (_ : Int) < _ | show (_ : Nat) ≤ _ | show (_ : Nat) < _ | show (_ : Int) ≠ _); (try simp only [CL.ncell, CL.cnt, Int.toNat_natCast, te3b, te4b, te3s, te4s, Nat.mul_one, Nat.zero_add, Bool.false_eq_true, Bool.true_eq_false]); (try omega)) | skip)
      · clear hmid htop hleft hc1 hc2 hbd hix hix0 hib hgb
        repeat' (first | ((conv => whnf); refine And.intro ?_ ?_) | ((conv => whnf); with_reducible exact VC.mk rfl) | ((conv => whnf); exact Ok.mk) | ((conv => whnf); exact True.intro) | ((conv => whnf); refine Nx.mk ?_) | ((conv => whnf); refine Fin.mk ?_) | ((conv => whnf); intro hq; (try simp only [decide_eq_true_eq, decide_eq_false_iff_not, Bool.not_eq_true, Bool.not_eq_false, Bool.not_eq_true', Bool.not_eq_false', Bool.not_true, Bool.not_false, ite_true, ite_false] at hq); (try (exfalso; first | exact absurd hq (by decide) | omega))))
        all_goals (first | (refine VC.mk ?_; (try simp only [CL.ncell, CL.cnt, Int.toNat_natCast, te3b, te4b, te3s, te4s, Nat.mul_one, Nat.zero_add, Bool.false_eq_true, Bool.true_eq_false]); (try omega)) | ((with_reducible first | show (_ : Int) ≤ _ | show (_ : Int) < _ | show (_ : Nat) ≤ _ | show (_ : Nat) < _ | show (_ : Int) ≠ _); (try simp only [CL.ncell, CL.cnt, Int.toNat_natCast, te3b, te4b, te3s, te4s, Nat.mul_one, Nat.zero_add, Bool.false_eq_true, Bool.true_eq_false]); (try omega)) | skip)
        all_goals first | (refine ⟨i + 1, [], ⟨by omega, by omega⟩, ?_⟩) | (exfalso; omega)
        all_goals repeat' (first | ((conv => whnf); refine And.intro ?_ ?_) | ((conv => whnf); with_reducible exact VC.mk rfl) | ((conv => whnf); exact Ok.mk) | ((conv => whnf); exact True.intro) | ((conv => whnf); refine Nx.mk ?_) | ((conv => whnf); refine Fin.mk ?_) | ((conv => whnf); intro _))
        all_goals (first | (refine VC.mk ?_; (try simp only [CL.ncell, CL.cnt, Int.toNat_natCast, te3b, te4b, te3s, te4s, Nat.mul_one, Nat.zero_add, Bool.false_eq_true, Bool.true_eq_false]); (try omega)) | ((with_reducible first | show (_ : Int) ≤ _ | show (_ : Int) < _ | show (_ : Nat) ≤ _ | show (_ : Nat) < _ | show (_ : Int) ≠ _); (try simp only [CL.ncell, CL.cnt, Int.toNat_natCast, te3b, te4b, te3s, te4s, Nat.mul_one, Nat.zero_add, Bool.false_eq_true, Bool.true_eq_false]); (try omega)) | skip)
  have : n = i := by omega
  subst this
  have hnq : n * n = n * (m + 1) + n := by
    have := Nat.mul_add n (m + 1) 1
    rw [show m + 1 + 1 = n by omega] at this; omega
  have i1 : ((n : Int) * n - 1) = ((n * (m + 1) + (m + 1) : Nat) : Int) := by
    rw [← hmm1, hnq]; omega
  have i2 : ((n : Int) * n - n) = ((n * (m + 1) : Nat) : Int) := by
    rw [← hmm1, hnq]; omega
  have i3 : ((n : Int) - 1) = ((m + 1 : Nat) : Int) := by omega
  have v1 := hbd (n * (m + 1) + (m + 1)) (by omega)
  have v2 := hbd (n * (m + 1)) (by omega)
  have v3 := hbd (m + 1) (by omega)
  have v4 := hbd 0 (by omega)
  clear hmid htop hleft hbd hix hix0 hib hgb
  have i0 : Int.toNat 0 = 0 := rfl
  repeat' (first | ((conv => whnf); refine And.intro ?_ ?_) | ((conv => whnf); with_reducible exact VC.mk rfl) | ((conv => whnf); exact Ok.mk) | ((conv => whnf); exact True.intro) | ((conv => whnf); refine Nx.mk ?_) | ((conv => whnf); refine Fin.mk ?_) | ((conv => whnf); intro hq; (try simp only [decide_eq_true_eq, decide_eq_false_iff_not, Bool.not_eq_true, Bool.not_eq_false, Bool.not_eq_true', Bool.not_eq_false', Bool.not_true, Bool.not_false, ite_true, ite_false] at hq); (try (exfalso; first | exact absurd hq (by decide) | omega))))
  all_goals (first | (refine VC.mk ?_; (try simp only [CL.ncell, CL.cnt, Int.toNat_natCast, te3b, te4b, te3s, te4s, Nat.mul_one, Nat.zero_add, Bool.false_eq_true, Bool.true_eq_false, i0, i1, i2, i3]); (try omega)) | ((with_reducible first | show (_ : Int) ≤ _ | show (_ : Int) < _ | show (_ : Nat) ≤ _ | show (_ : Nat) < _ | show (_ : Int) ≠ _); (try simp only [CL.ncell, CL.cnt, Int.toNat_natCast, te3b, te4b, te3s, te4s, Nat.mul_one, Nat.zero_add, Bool.false_eq_true, Bool.true_eq_false, i0, i1, i2, i3]); (try omega)) | skip)
  all_goals first | exact sup_true | (exfalso; (try simp only [i0, i1, i2, i3, Int.toNat_natCast] at hq); omega)
end Go.Eng.Ytppflbccfdbogaa
namespace Go.Eng.Ytppflbccfdbogaa
open Go.Proofs
theorem borders_law' (r c : Int) (l : List Int) (u v : Int) (h1 : (Go.Lit.int Go.IntKind.u8 u).wf = true) (h2 : (Go.Lit.int Go.IntKind.u8 v).wf = true) : PSpec Try.prog 4 [gridV r c l, .agg [.int .u8 u, .int .u8 v]] (.bp true) := by
  have k1 : Go.IntKind.u8.min = 0 := by decide
  have k2 : Go.IntKind.u8.max = 255 := by decide
  simp [Go.Lit.wf, k1, k2] at h1 h2
  exact borders_law r c l u v h1 h2
end Go.Eng.Ytppflbccfdbogaa
