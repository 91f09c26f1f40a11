/-
  Contracts of functions of the program: what each returns. Their conditions stand in them.
-/
import Derived.Test.YtppflbccfdbogaaCd
namespace Go.Eng.Ytppflbccfdbogaa
open Go.Proofs Go.RowKit Go.ChangeShapes Go.WideShapes
set_option linter.unusedVariables false
section
variable {H : Type} {enc : TypeId × Value → H} {W : World}
theorem o5 : OpenC enc Try.prog W 5 [.int .u8] := openC_int Try.underlying5
theorem o93 : OpenC enc Try.prog W 93 [.int .u32] := openC_int Try.underlying93
theorem o9 : OpenC enc Try.prog W 9 [.str] := openC_str Try.underlying9
theorem o29 : OpenC enc Try.prog W 29 [.ints .i64] := openC_ints Try.underlying29 Try.underlying3 (by kernel_rfl)
theorem o43 : OpenC enc Try.prog W 43 [.int .u8, .int .u8] := openC_array (n := 2) Try.underlying43 o5 (by kernel_rfl) (by kernel_rfl)
theorem o42 : OpenC enc Try.prog W 42 [.int .i64, .int .i64, .ints .i64] :=
  openC_struct (lss := [[.int .i64], [.int .i64], [.ints .i64]]) Try.underlying42 ⟨⟨rfl, by kernel_rfl, o3⟩, ⟨rfl, by kernel_rfl, o3⟩, ⟨rfl, by kernel_rfl, o29⟩, trivial⟩ (by kernel_rfl)
theorem o37 : OpenC enc Try.prog W 37 [.str, .int .i64, .int .i64, .ints .i64, .int .i64] :=
  openC_struct (lss := [[.str], [.int .i64], [.int .i64], [.ints .i64], [.int .i64]]) Try.underlying37 ⟨⟨rfl, by kernel_rfl, o9⟩, ⟨rfl, by kernel_rfl, o3⟩, ⟨rfl, by kernel_rfl, o3⟩, ⟨rfl, by kernel_rfl, o29⟩, ⟨rfl, by kernel_rfl, o3⟩, trivial⟩ (by kernel_rfl)
end
end Go.Eng.Ytppflbccfdbogaa
namespace Go.Eng.Ytppflbccfdbogaa
open Go.Proofs
set_option maxRecDepth 100000
set_option maxHeartbeats 0
set_option linter.unusedVariables false
set_option linter.unusedSimpArgs false
theorem colL_succ' (n : Nat) (h : Nat → Int) (m : Nat) : colL n h (m + 1) = colL n h m ++ [(m : Int) * n + h m % n] := by
  simp [colL, List.range_succ, Int.mul_comm]
theorem diag_spec (n k s : Nat) (hn : 1 ≤ n ∧ n ≤ 16) (hk : k ≤ 1000) (hs : s ≤ 1000) : PSpec Try.prog 83 [.int .i64 (n : Int), .int .i64 (k : Int), .int .i64 (s : Int)] (.isl (.ints .i64 (colL n (fun i => (k : Int) + i * s) n)) .none) := by
  refine pspec_of (md := 0) (rf := []) mixed tabOK noC_ok Try.func83 (by rfl) (by rfl) (by rfl) ?_
  repeat' (first | ((conv => whnf); refine And.intro ?_ ?_) | ((conv => whnf); with_reducible exact VC.mk rfl) | ((conv => whnf); exact Ok.mk) | ((conv => whnf); exact True.intro) | ((conv => whnf); refine Nx.mk ?_) | ((conv => whnf); refine Fin.mk ?_) | ((conv => whnf); intro _))
  all_goals ((try refine VC.mk ?_); (try simp only [CL.ncell, CL.cnt, Int.toNat_natCast, decide_eq_true_eq, decide_eq_false_iff_not, Bool.not_eq_true, Bool.not_false, Bool.not_true, and_self, and_true, true_and, te3b, te4b, te3s, te4s, Nat.mul_one, Nat.zero_add, List.length_cons, List.length_nil, Bool.false_eq_true, Bool.true_eq_false] at *); (try omega))
  conv => whnf
  refine loop_of (X := Nat) (fun i => i ≤ n) (fun i => [(8, .int .i64 i), (7, .isl (.ints .i64 (colL n (fun i => (k : Int) + i * s) i)) (.own 0))]) (fun i => [(0, .tok 1 i)]) (fun i => n - i) 0 ⟨anyB_ok, mixed, tabOK, noC_ok, noY_ok⟩ (by rfl) (by omega) ?_ ?_
  · repeat' (first | ((conv => whnf); refine And.intro ?_ ?_) | ((conv => whnf); with_reducible exact VC.mk rfl) | ((conv => whnf); exact Ok.mk) | ((conv => whnf); exact True.intro) | ((conv => whnf); refine Nx.mk ?_) | ((conv => whnf); refine Fin.mk ?_) | ((conv => whnf); intro _))
    all_goals ((try refine VC.mk ?_); (try simp only [CL.ncell, CL.cnt, Int.toNat_natCast, decide_eq_true_eq, decide_eq_false_iff_not, Bool.not_eq_true, Bool.not_false, Bool.not_true, and_self, and_true, true_and, te3b, te4b, te3s, te4s, Nat.mul_one, Nat.zero_add, List.length_cons, List.length_nil, Bool.false_eq_true, Bool.true_eq_false] at *); (try omega))
  · intro i hi
    have e1 := colL_succ' n (fun i => (k : Int) + i * s) i
    have e2 := colL_len n (fun i => (k : Int) + i * s) i
    by_cases hlt : i < n
    · have h1 := mul_bd (A := 16) (B := 16) (show 0 ≤ (i : Int) ∧ (i : Int) ≤ 16 by omega) (show 0 ≤ (n : Int) ∧ (n : Int) ≤ 16 by omega)
      have h2 := mul_bd (A := 16) (B := 1000) (show 0 ≤ (i : Int) ∧ (i : Int) ≤ 16 by omega) (show 0 ≤ (s : Int) ∧ (s : Int) ≤ 1000 by omega)
      have h3 : 0 ≤ ((k : Int) + i * s) % n := Int.emod_nonneg _ (by omega)
      have h4 : ((k : Int) + i * s) % n < n := Int.emod_lt_of_pos _ (by omega)
      repeat' (first | ((conv => whnf); refine And.intro ?_ ?_) | ((conv => whnf); with_reducible exact VC.mk rfl) | ((conv => whnf); exact Ok.mk) | ((conv => whnf); exact True.intro) | ((conv => whnf); refine Nx.mk ?_) | ((conv => whnf); refine Fin.mk ?_) | ((conv => whnf); intro _))
      all_goals ((try refine VC.mk ?_); (try simp only [CL.ncell, CL.cnt, Int.toNat_natCast, decide_eq_true_eq, decide_eq_false_iff_not, Bool.not_eq_true, Bool.not_false, Bool.not_true, and_self, and_true, true_and, te3b, te4b, te3s, te4s, Nat.mul_one, Nat.zero_add, List.length_cons, List.length_nil, Bool.false_eq_true, Bool.true_eq_false] at *); (try omega))
      all_goals (try (simp only [List.length_append, List.length_cons, List.length_nil]; omega))
      refine ⟨i + 1, [], ⟨by omega, by omega⟩, ?_⟩
      repeat' (first | ((conv => whnf); refine And.intro ?_ ?_) | ((conv => whnf); with_reducible exact VC.mk rfl) | ((conv => whnf); exact Ok.mk) | ((conv => whnf); exact True.intro) | ((conv => whnf); refine Nx.mk ?_) | ((conv => whnf); refine Fin.mk ?_) | ((conv => whnf); intro _))
      all_goals ((try refine VC.mk ?_); (try simp only [CL.ncell, CL.cnt, Int.toNat_natCast, decide_eq_true_eq, decide_eq_false_iff_not, Bool.not_eq_true, Bool.not_false, Bool.not_true, and_self, and_true, true_and, te3b, te4b, te3s, te4s, Nat.mul_one, Nat.zero_add, List.length_cons, List.length_nil, Bool.false_eq_true, Bool.true_eq_false] at *); (try omega))
      all_goals (try (rw [e1]))
    · have : n = i := by omega
      subst this
      repeat' (first | ((conv => whnf); refine And.intro ?_ ?_) | ((conv => whnf); with_reducible exact VC.mk rfl) | ((conv => whnf); exact Ok.mk) | ((conv => whnf); exact True.intro) | ((conv => whnf); refine Nx.mk ?_) | ((conv => whnf); refine Fin.mk ?_) | ((conv => whnf); intro _))
      all_goals ((try refine VC.mk ?_); (try simp only [CL.ncell, CL.cnt, Int.toNat_natCast, decide_eq_true_eq, decide_eq_false_iff_not, Bool.not_eq_true, Bool.not_false, Bool.not_true, and_self, and_true, true_and, te3b, te4b, te3s, te4s, Nat.mul_one, Nat.zero_add, List.length_cons, List.length_nil, Bool.false_eq_true, Bool.true_eq_false] at *); (try omega))
      all_goals (first | (refine Sup.of ?_; first | rfl | (simp [*, resOf]; done)) | (refine Sup.via ?_; repeat' (first | ((conv => whnf); refine And.intro ?_ ?_) | ((conv => whnf); with_reducible exact VC.mk rfl) | ((conv => whnf); exact Ok.mk) | ((conv => whnf); exact True.intro) | ((conv => whnf); refine Nx.mk ?_) | ((conv => whnf); refine Fin.mk ?_) | ((conv => whnf); intro _)); all_goals ((try refine VC.mk ?_); (try simp only [CL.ncell, CL.cnt, Int.toNat_natCast, decide_eq_true_eq, decide_eq_false_iff_not, Bool.not_eq_true, Bool.not_false, Bool.not_true, and_self, and_true, true_and, te3b, te4b, te3s, te4s, Nat.mul_one, Nat.zero_add, List.length_cons, List.length_nil, Bool.false_eq_true, Bool.true_eq_false] at *); (try omega)); all_goals (try (simp [CL.sub]; done))))
theorem diag_spec' {n k s : Int} (hn : 1 ≤ n ∧ n ≤ 16) (hk : 0 ≤ k ∧ k ≤ 1000) (hs : 0 ≤ s ∧ s ≤ 1000) : PSpec Try.prog 83 [.int .i64 n, .int .i64 k, .int .i64 s] (.isl (.ints .i64 (colL n.toNat (fun i => k + i * s) n.toNat)) .none) := by
  have := diag_spec n.toNat k.toNat s.toNat (by omega) (by omega) (by omega)
  rwa [Int.toNat_of_nonneg (by omega), Int.toNat_of_nonneg (by omega), Int.toNat_of_nonneg (by omega)] at this
def diagP : PSp := fun xs K => match xs with
  | [.int .i64 n, .int .i64 k, .int .i64 s] => VC ((1 ≤ n ∧ n ≤ 16) ∧ (0 ≤ k ∧ k ≤ 1000) ∧ 0 ≤ s ∧ s ≤ 1000) ∧ K (.isl (.ints .i64 (colL n.toNat (fun i => k + i * s) n.toNat)) .none)
  | _ => False
theorem diag_ok : POK Try.prog 83 diagP := by
  intro xs K h
  unfold diagP at h
  split at h
  · exact ⟨_, h.2, diag_spec' h.1.get.1 h.1.get.2.1 h.1.get.2.2⟩
  · exact h.elim
/-! the sum of some cells -/
theorem rSum_spec (r c : Int) (cs l : List Int) (hc : ∀ x ∈ l, 0 ≤ x ∧ x < cs.length) (hl : l.length ≤ 1000000) (hb : ∀ i, i ≤ l.length → -1000000000000 ≤ sumAt cs l i ∧ sumAt cs l i ≤ 1000000000000) : PSpec Try.prog 71 [gridV r c cs, .isl (.ints .i64 l) .none] (.int .i64 (sumAt cs l l.length)) := by
  refine pspec_of (md := 0) (rf := []) mixed tabOK noC_ok Try.func71 (by rfl) (by rfl) (by rfl) ?_
  repeat' (first | ((conv => whnf); refine And.intro ?_ ?_) | ((conv => whnf); with_reducible exact VC.mk rfl) | ((conv => whnf); exact Ok.mk) | ((conv => whnf); exact True.intro) | ((conv => whnf); refine Nx.mk ?_) | ((conv => whnf); refine Fin.mk ?_) | ((conv => whnf); intro _))
  all_goals ((try refine VC.mk ?_); (try simp only [CL.ncell, CL.cnt, Int.toNat_natCast, decide_eq_true_eq, decide_eq_false_iff_not, Bool.not_eq_true, Bool.not_false, Bool.not_true, and_self, and_true, true_and, te3b, te4b, te3s, te4s, Nat.mul_one, Nat.zero_add, List.length_cons, List.length_nil, Bool.false_eq_true, Bool.true_eq_false] at *); (try omega))
  conv => whnf
  refine loop_of (X := Nat) (fun i => i ≤ l.length) (fun i => [(6, .int .i64 i), (5, .int .i64 (sumAt cs l i))]) (fun i => []) (fun i => l.length - i) 0 ⟨anyB_ok, mixed, tabOK, noC_ok, noY_ok⟩ (by rfl) (by omega) ?_ ?_
  · repeat' (first | ((conv => whnf); refine And.intro ?_ ?_) | ((conv => whnf); with_reducible exact VC.mk rfl) | ((conv => whnf); exact Ok.mk) | ((conv => whnf); exact True.intro) | ((conv => whnf); refine Nx.mk ?_) | ((conv => whnf); refine Fin.mk ?_) | ((conv => whnf); intro _))
    all_goals ((try refine VC.mk ?_); (try simp only [CL.ncell, CL.cnt, Int.toNat_natCast, decide_eq_true_eq, decide_eq_false_iff_not, Bool.not_eq_true, Bool.not_false, Bool.not_true, and_self, and_true, true_and, te3b, te4b, te3s, te4s, Nat.mul_one, Nat.zero_add, List.length_cons, List.length_nil, Bool.false_eq_true, Bool.true_eq_false] at *); (try omega))
    all_goals (try rfl)
  · intro i hi
    have e1 := hb i hi
    by_cases hlt : i < l.length
    · have e2 := sumAt_succ cs l i hlt
      have e3 := hb (i + 1) (by omega)
      have e4 := hc (l.getD i 0) (by rw [List.getD_eq_getElem?_getD, List.getElem?_eq_getElem hlt]; exact List.getElem_mem _)
      repeat' (first | ((conv => whnf); refine And.intro ?_ ?_) | ((conv => whnf); with_reducible exact VC.mk rfl) | ((conv => whnf); exact Ok.mk) | ((conv => whnf); exact True.intro) | ((conv => whnf); refine Nx.mk ?_) | ((conv => whnf); refine Fin.mk ?_) | ((conv => whnf); intro _))
      all_goals ((try refine VC.mk ?_); (try simp only [CL.ncell, CL.cnt, Int.toNat_natCast, decide_eq_true_eq, decide_eq_false_iff_not, Bool.not_eq_true, Bool.not_false, Bool.not_true, and_self, and_true, true_and, te3b, te4b, te3s, te4s, Nat.mul_one, Nat.zero_add, List.length_cons, List.length_nil, Bool.false_eq_true, Bool.true_eq_false] at *); (try omega))
      refine ⟨i + 1, [], ⟨by omega, by omega⟩, ?_⟩
      repeat' (first | ((conv => whnf); refine And.intro ?_ ?_) | ((conv => whnf); with_reducible exact VC.mk rfl) | ((conv => whnf); exact Ok.mk) | ((conv => whnf); exact True.intro) | ((conv => whnf); refine Nx.mk ?_) | ((conv => whnf); refine Fin.mk ?_) | ((conv => whnf); intro _))
      all_goals ((try refine VC.mk ?_); (try simp only [CL.ncell, CL.cnt, Int.toNat_natCast, decide_eq_true_eq, decide_eq_false_iff_not, Bool.not_eq_true, Bool.not_false, Bool.not_true, and_self, and_true, true_and, te3b, te4b, te3s, te4s, Nat.mul_one, Nat.zero_add, List.length_cons, List.length_nil, Bool.false_eq_true, Bool.true_eq_false] at *); (try omega))
      all_goals (try (rw [e2]))
    · have : l.length = i := by omega
      subst this
      repeat' (first | ((conv => whnf); refine And.intro ?_ ?_) | ((conv => whnf); with_reducible exact VC.mk rfl) | ((conv => whnf); exact Ok.mk) | ((conv => whnf); exact True.intro) | ((conv => whnf); refine Nx.mk ?_) | ((conv => whnf); refine Fin.mk ?_) | ((conv => whnf); intro _))
      all_goals ((try refine VC.mk ?_); (try simp only [CL.ncell, CL.cnt, Int.toNat_natCast, decide_eq_true_eq, decide_eq_false_iff_not, Bool.not_eq_true, Bool.not_false, Bool.not_true, and_self, and_true, true_and, te3b, te4b, te3s, te4s, Nat.mul_one, Nat.zero_add, List.length_cons, List.length_nil, Bool.false_eq_true, Bool.true_eq_false] at *); (try omega))
      all_goals (first | (refine Sup.of ?_; first | rfl | (simp [*, resOf]; done)) | (refine Sup.via ?_; repeat' (first | ((conv => whnf); refine And.intro ?_ ?_) | ((conv => whnf); with_reducible exact VC.mk rfl) | ((conv => whnf); exact Ok.mk) | ((conv => whnf); exact True.intro) | ((conv => whnf); refine Nx.mk ?_) | ((conv => whnf); refine Fin.mk ?_) | ((conv => whnf); intro _)); all_goals ((try refine VC.mk ?_); (try simp only [CL.ncell, CL.cnt, Int.toNat_natCast, decide_eq_true_eq, decide_eq_false_iff_not, Bool.not_eq_true, Bool.not_false, Bool.not_true, and_self, and_true, true_and, te3b, te4b, te3s, te4s, Nat.mul_one, Nat.zero_add, List.length_cons, List.length_nil, Bool.false_eq_true, Bool.true_eq_false] at *); (try omega)); all_goals (try (simp [CL.sub]; done))))
def rSumP : PSp := fun xs K => match xs with
  | [.agg [.int .i64 r, .int .i64 c, .isl (.ints .i64 cs) .none], .isl (.ints .i64 l) .none] => VC ((∀ x ∈ l, 0 ≤ x ∧ x < cs.length) ∧ l.length ≤ 1000000 ∧ ∀ i, i ≤ l.length → -1000000000000 ≤ sumAt cs l i ∧ sumAt cs l i ≤ 1000000000000) ∧ K (.int .i64 (sumAt cs l l.length))
  | _ => False
theorem rSum_ok : POK Try.prog 71 rSumP := by
  intro xs K h
  unfold rSumP at h
  split at h
  · exact ⟨_, h.2, rSum_spec _ _ _ _ h.1.get.1 h.1.get.2.1 h.1.get.2.2⟩
  · exact h.elim
/-! all lines -/
def gOf (s : ByteArray) : Int := if s = kSq then 0 else if s = kSemi then 1 else if s = kMag then 2 else 3
def linesTo (n m : Nat) : List (List Int) := (List.range m).map (lineAt n)
theorem linesTo_succ (n m : Nat) : linesTo n (m + 1) = linesTo n m ++ [lineAt n m] := by simp [linesTo, List.range_succ]
theorem linesTo_get (n m i : Nat) (h : i < m) : (linesTo n m).getD i [] = lineAt n i := by
  simp [linesTo, List.getD_eq_getElem?_getD, h]
theorem linesTo_len (n m : Nat) : (linesTo n m).length = m := by simp [linesTo]
theorem colL_congr {n : Nat} {h h' : Nat → Int} (e : ∀ i, i < n → h i % n = h' i % n) : colL n h n = colL n h' n := by
  unfold colL
  exact List.map_congr_left fun i hi => by rw [e i (List.mem_range.1 hi)]
theorem emod_of_sub {a b n k : Int} (h : a - b = n * k) : a % n = b % n := by
  have : a = b + n * k := by omega
  rw [this, Int.add_mul_emod_self_left]
theorem dg1 (n : Nat) : colL n (fun i => 0 + (i : Int) * 1) n = lineAt n (2 * n) := by
  rw [lineAt_d1]; exact colL_congr fun i _ => by congr 1; omega
theorem dg2 (n : Nat) : colL n (fun i => (n : Int) - 1 + (i : Int) * ((n : Int) - 1)) n = lineAt n (2 * n + 1) := by
  rw [lineAt_d2]; exact colL_congr fun i _ => emod_of_sub (k := (i : Int)) (by rw [Int.mul_sub, Int.mul_comm (n : Int) (i : Int)]; omega)
theorem dg3 (n k : Nat) (hk : 1 ≤ k ∧ k < n) : colL n (fun i => (k : Int) + (i : Int) * 1) n = lineAt n (2 * n + 1 + k) := by
  have : lineAt n (2 * n + 1 + k) = colL n (fun j => (j : Int) + (((2 * n + 1 + k : Nat) : Int) - 2 * n - 1)) n := by
    unfold lineAt; rw [if_neg (by omega), if_neg (by omega), if_neg (by omega), if_neg (by omega), if_pos (by omega)]
  rw [this]; exact colL_congr fun i _ => by congr 1; omega
theorem dg4 (n k : Nat) (hn : 1 ≤ n) (hk : k + 1 < n) : colL n (fun i => (k : Int) + (i : Int) * ((n : Int) - 1)) n = lineAt n (3 * n + 1 + k) := by
  have : lineAt n (3 * n + 1 + k) = colL n (fun j => ((3 * n + 1 + k : Nat) : Int) - 3 * n - 1 - j) n := by
    unfold lineAt; rw [if_neg (by omega), if_neg (by omega), if_neg (by omega), if_neg (by omega), if_neg (by omega)]
  rw [this]; exact colL_congr fun i _ => emod_of_sub (k := (i : Int)) (by rw [Int.mul_sub, Int.mul_comm (n : Int) (i : Int)]; push_cast; omega)
theorem linesTo_two (n : Nat) : linesTo n (n + n) ++ [colL n (fun i => 0 + (i : Int) * 1) n, colL n (fun i => (n : Int) - 1 + (i : Int) * ((n : Int) - 1)) n] = linesTo n (2 * n + 2) := by
  rw [dg1, dg2, show 2 * n + 2 = n + n + 1 + 1 by omega, linesTo_succ, linesTo_succ, show n + n + 1 = 2 * n + 1 by omega, show n + n = 2 * n by omega]
  simp
noncomputable def cpLn : CPT := cpAdd 83 (pureCC diagP) noC
theorem cpLn_ok : CPOK Try.prog cpLn := cpAdd_ok (pureCC_ok diag_ok) noC_ok
theorem Lines_spec (n : Nat) (hn : 1 ≤ n ∧ n ≤ 16) (s : ByteArray) : PSpec Try.prog 105 [.int .i64 (n : Int), .str s] (.isl (.rows .i64 (linesTo n (lineCnt n (gOf s)))) .none) := by
  refine pspec_of (md := 0) (rf := []) mixed tabOK cpLn_ok Try.func105 (by rfl) (by rfl) (by rfl) ?_
  repeat' (first | ((conv => whnf); refine And.intro ?_ ?_) | ((conv => whnf); with_reducible exact VC.mk rfl) | ((conv => whnf); exact Ok.mk) | ((conv => whnf); exact True.intro) | ((conv => whnf); refine Nx.mk ?_) | ((conv => whnf); refine Fin.mk ?_) | ((conv => whnf); intro _))
  all_goals ((try refine VC.mk ?_); (try simp only [CL.ncell, CL.cnt, Int.toNat_natCast, decide_eq_true_eq, decide_eq_false_iff_not, Bool.not_eq_true, Bool.not_false, Bool.not_true, and_self, and_true, true_and, te3b, te4b, te3s, te4s, Nat.mul_one, Nat.zero_add, List.length_cons, List.length_nil, Bool.false_eq_true, Bool.true_eq_false] at *); (try omega))
  · rename_i hs
    have : lineCnt n (gOf s) = 0 := by unfold gOf; rw [if_pos hs]; rfl
    rw [this]
    all_goals (refine Sup.via ?_; repeat' (first | ((conv => whnf); refine And.intro ?_ ?_) | ((conv => whnf); with_reducible exact VC.mk rfl) | ((conv => whnf); exact Ok.mk) | ((conv => whnf); exact True.intro) | ((conv => whnf); refine Nx.mk ?_) | ((conv => whnf); refine Fin.mk ?_) | ((conv => whnf); intro _)); all_goals ((try refine VC.mk ?_); (try simp only [CL.ncell, CL.cnt, Int.toNat_natCast, decide_eq_true_eq, decide_eq_false_iff_not, Bool.not_eq_true, Bool.not_false, Bool.not_true, and_self, and_true, true_and, te3b, te4b, te3s, te4s, Nat.mul_one, Nat.zero_add, List.length_cons, List.length_nil, Bool.false_eq_true, Bool.true_eq_false] at *); (try omega)); all_goals (try (simp [CL.sub]; done)))
    rfl
  rename_i hsq
  conv => whnf
  refine loop_of (X := Nat) (fun i => i ≤ n) (fun i => [(6, .int .i64 i), (5, .isl (.rows .i64 (linesTo n i)) (.own 0))]) (fun i => [(0, .tok 1 i)]) (fun i => n - i) 0 ⟨anyB_ok, mixed, tabOK, cpLn_ok, noY_ok⟩ (by rfl) (by omega) ?_ ?_
  · repeat' (first | ((conv => whnf); refine And.intro ?_ ?_) | ((conv => whnf); with_reducible exact VC.mk rfl) | ((conv => whnf); exact Ok.mk) | ((conv => whnf); exact True.intro) | ((conv => whnf); refine Nx.mk ?_) | ((conv => whnf); refine Fin.mk ?_) | ((conv => whnf); intro _))
    all_goals ((try refine VC.mk ?_); (try simp only [CL.ncell, CL.cnt, Int.toNat_natCast, decide_eq_true_eq, decide_eq_false_iff_not, Bool.not_eq_true, Bool.not_false, Bool.not_true, and_self, and_true, true_and, te3b, te4b, te3s, te4s, Nat.mul_one, Nat.zero_add, List.length_cons, List.length_nil, Bool.false_eq_true, Bool.true_eq_false] at *); (try omega))
  intro i hi
  by_cases hlt : i < n
  · repeat' (first | ((conv => whnf); refine And.intro ?_ ?_) | ((conv => whnf); with_reducible exact VC.mk rfl) | ((conv => whnf); exact Ok.mk) | ((conv => whnf); exact True.intro) | ((conv => whnf); refine Nx.mk ?_) | ((conv => whnf); refine Fin.mk ?_) | ((conv => whnf); intro _))
    all_goals ((try refine VC.mk ?_); (try simp only [CL.ncell, CL.cnt, Int.toNat_natCast, decide_eq_true_eq, decide_eq_false_iff_not, Bool.not_eq_true, Bool.not_false, Bool.not_true, and_self, and_true, true_and, te3b, te4b, te3s, te4s, Nat.mul_one, Nat.zero_add, List.length_cons, List.length_nil, Bool.false_eq_true, Bool.true_eq_false] at *); (try omega))
    conv => whnf
    refine loop_of (X := Nat) (fun j => j ≤ n) (fun j => [(8, .int .i64 j), (7, .isl (.ints .i64 (rowL n i j)) (.own 1))]) (fun j => [(1, .tok 1 j)]) (fun j => n - j) 0 ⟨anyB_ok, mixed, tabOK, cpLn_ok, noY_ok⟩ (by rfl) (by omega) ?_ ?_
    · repeat' (first | ((conv => whnf); refine And.intro ?_ ?_) | ((conv => whnf); with_reducible exact VC.mk rfl) | ((conv => whnf); exact Ok.mk) | ((conv => whnf); exact True.intro) | ((conv => whnf); refine Nx.mk ?_) | ((conv => whnf); refine Fin.mk ?_) | ((conv => whnf); intro _))
      all_goals ((try refine VC.mk ?_); (try simp only [CL.ncell, CL.cnt, Int.toNat_natCast, decide_eq_true_eq, decide_eq_false_iff_not, Bool.not_eq_true, Bool.not_false, Bool.not_true, and_self, and_true, true_and, te3b, te4b, te3s, te4s, Nat.mul_one, Nat.zero_add, List.length_cons, List.length_nil, Bool.false_eq_true, Bool.true_eq_false] at *); (try omega))
    intro j hj
    have e1 := rowL_succ n i j
    have e2 := rowL_len n i j
    have h1 := mul_bd (A := 16) (B := 16) (show 0 ≤ (i : Int) ∧ (i : Int) ≤ 16 by omega) (show 0 ≤ (n : Int) ∧ (n : Int) ≤ 16 by omega)
    by_cases hlj : j < n
    · repeat' (first | ((conv => whnf); refine And.intro ?_ ?_) | ((conv => whnf); with_reducible exact VC.mk rfl) | ((conv => whnf); exact Ok.mk) | ((conv => whnf); exact True.intro) | ((conv => whnf); refine Nx.mk ?_) | ((conv => whnf); refine Fin.mk ?_) | ((conv => whnf); intro _))
      all_goals ((try refine VC.mk ?_); (try simp only [CL.ncell, CL.cnt, Int.toNat_natCast, decide_eq_true_eq, decide_eq_false_iff_not, Bool.not_eq_true, Bool.not_false, Bool.not_true, and_self, and_true, true_and, te3b, te4b, te3s, te4s, Nat.mul_one, Nat.zero_add, List.length_cons, List.length_nil, Bool.false_eq_true, Bool.true_eq_false] at *); (try omega))
      all_goals (try (simp only [List.length_append, List.length_cons, List.length_nil]; omega))
      refine ⟨j + 1, [], ⟨by omega, by omega⟩, ?_⟩
      repeat' (first | ((conv => whnf); refine And.intro ?_ ?_) | ((conv => whnf); with_reducible exact VC.mk rfl) | ((conv => whnf); exact Ok.mk) | ((conv => whnf); exact True.intro) | ((conv => whnf); refine Nx.mk ?_) | ((conv => whnf); refine Fin.mk ?_) | ((conv => whnf); intro _))
      all_goals ((try refine VC.mk ?_); (try simp only [CL.ncell, CL.cnt, Int.toNat_natCast, decide_eq_true_eq, decide_eq_false_iff_not, Bool.not_eq_true, Bool.not_false, Bool.not_true, and_self, and_true, true_and, te3b, te4b, te3s, te4s, Nat.mul_one, Nat.zero_add, List.length_cons, List.length_nil, Bool.false_eq_true, Bool.true_eq_false] at *); (try omega))
      all_goals (try (rw [e1, Int.mul_comm (n : Int)]))
    · have : n = j := by omega
      subst this
      have e3 := linesTo_len n i
      have e4 := linesTo_succ n i
      rw [lineAt_row hlt] at e4
      repeat' (first | ((conv => whnf); refine And.intro ?_ ?_) | ((conv => whnf); with_reducible exact VC.mk rfl) | ((conv => whnf); exact Ok.mk) | ((conv => whnf); exact True.intro) | ((conv => whnf); refine Nx.mk ?_) | ((conv => whnf); refine Fin.mk ?_) | ((conv => whnf); intro _))
      all_goals ((try refine VC.mk ?_); (try simp only [CL.ncell, CL.cnt, Int.toNat_natCast, decide_eq_true_eq, decide_eq_false_iff_not, Bool.not_eq_true, Bool.not_false, Bool.not_true, and_self, and_true, true_and, te3b, te4b, te3s, te4s, Nat.mul_one, Nat.zero_add, List.length_cons, List.length_nil, Bool.false_eq_true, Bool.true_eq_false] at *); (try omega))
      all_goals (try (simp only [List.length_append, List.length_cons, List.length_nil]; omega))
      refine ⟨i + 1, [], ⟨by omega, by omega⟩, ?_⟩
      repeat' (first | ((conv => whnf); refine And.intro ?_ ?_) | ((conv => whnf); with_reducible exact VC.mk rfl) | ((conv => whnf); exact Ok.mk) | ((conv => whnf); exact True.intro) | ((conv => whnf); refine Nx.mk ?_) | ((conv => whnf); refine Fin.mk ?_) | ((conv => whnf); intro _))
      all_goals ((try refine VC.mk ?_); (try simp only [CL.ncell, CL.cnt, Int.toNat_natCast, decide_eq_true_eq, decide_eq_false_iff_not, Bool.not_eq_true, Bool.not_false, Bool.not_true, and_self, and_true, true_and, te3b, te4b, te3s, te4s, Nat.mul_one, Nat.zero_add, List.length_cons, List.length_nil, Bool.false_eq_true, Bool.true_eq_false] at *); (try omega))
      all_goals (try (rw [e4]))
  have : n = i := by omega
  subst this
  repeat' (first | ((conv => whnf); refine And.intro ?_ ?_) | ((conv => whnf); with_reducible exact VC.mk rfl) | ((conv => whnf); exact Ok.mk) | ((conv => whnf); exact True.intro) | ((conv => whnf); refine Nx.mk ?_) | ((conv => whnf); refine Fin.mk ?_) | ((conv => whnf); intro _))
  all_goals ((try refine VC.mk ?_); (try simp only [CL.ncell, CL.cnt, Int.toNat_natCast, decide_eq_true_eq, decide_eq_false_iff_not, Bool.not_eq_true, Bool.not_false, Bool.not_true, and_self, and_true, true_and, te3b, te4b, te3s, te4s, Nat.mul_one, Nat.zero_add, List.length_cons, List.length_nil, Bool.false_eq_true, Bool.true_eq_false] at *); (try omega))
  conv => whnf
  refine loop_of (X := Nat) (fun i => i ≤ n) (fun i => [(9, .int .i64 i), (5, .isl (.rows .i64 (linesTo n (n + i))) (.own 0))]) (fun i => [(0, .tok 1 (n + i))]) (fun i => n - i) 0 ⟨anyB_ok, mixed, tabOK, cpLn_ok, noY_ok⟩ (by rfl) (by omega) ?_ ?_
  · repeat' (first | ((conv => whnf); refine And.intro ?_ ?_) | ((conv => whnf); with_reducible exact VC.mk rfl) | ((conv => whnf); exact Ok.mk) | ((conv => whnf); exact True.intro) | ((conv => whnf); refine Nx.mk ?_) | ((conv => whnf); refine Fin.mk ?_) | ((conv => whnf); intro _))
    all_goals ((try refine VC.mk ?_); (try simp only [CL.ncell, CL.cnt, Int.toNat_natCast, decide_eq_true_eq, decide_eq_false_iff_not, Bool.not_eq_true, Bool.not_false, Bool.not_true, and_self, and_true, true_and, te3b, te4b, te3s, te4s, Nat.mul_one, Nat.zero_add, List.length_cons, List.length_nil, Bool.false_eq_true, Bool.true_eq_false] at *); (try omega))
  intro i hi
  by_cases hlt : i < n
  · repeat' (first | ((conv => whnf); refine And.intro ?_ ?_) | ((conv => whnf); with_reducible exact VC.mk rfl) | ((conv => whnf); exact Ok.mk) | ((conv => whnf); exact True.intro) | ((conv => whnf); refine Nx.mk ?_) | ((conv => whnf); refine Fin.mk ?_) | ((conv => whnf); intro _))
    all_goals ((try refine VC.mk ?_); (try simp only [CL.ncell, CL.cnt, Int.toNat_natCast, decide_eq_true_eq, decide_eq_false_iff_not, Bool.not_eq_true, Bool.not_false, Bool.not_true, and_self, and_true, true_and, te3b, te4b, te3s, te4s, Nat.mul_one, Nat.zero_add, List.length_cons, List.length_nil, Bool.false_eq_true, Bool.true_eq_false] at *); (try omega))
    conv => whnf
    refine loop_of (X := Nat) (fun j => j ≤ n) (fun j => [(11, .int .i64 j), (10, .isl (.ints .i64 (colL n (fun _ => (i : Int)) j)) (.own 1))]) (fun j => [(1, .tok 1 j)]) (fun j => n - j) 0 ⟨anyB_ok, mixed, tabOK, cpLn_ok, noY_ok⟩ (by rfl) (by omega) ?_ ?_
    · repeat' (first | ((conv => whnf); refine And.intro ?_ ?_) | ((conv => whnf); with_reducible exact VC.mk rfl) | ((conv => whnf); exact Ok.mk) | ((conv => whnf); exact True.intro) | ((conv => whnf); refine Nx.mk ?_) | ((conv => whnf); refine Fin.mk ?_) | ((conv => whnf); intro _))
      all_goals ((try refine VC.mk ?_); (try simp only [CL.ncell, CL.cnt, Int.toNat_natCast, decide_eq_true_eq, decide_eq_false_iff_not, Bool.not_eq_true, Bool.not_false, Bool.not_true, and_self, and_true, true_and, te3b, te4b, te3s, te4s, Nat.mul_one, Nat.zero_add, List.length_cons, List.length_nil, Bool.false_eq_true, Bool.true_eq_false] at *); (try omega))
    intro j hj
    have e1 := colL_succ' n (fun _ => (i : Int)) j
    rw [Int.emod_eq_of_lt (by omega) (by omega)] at e1
    have e2 := colL_len n (fun _ => (i : Int)) j
    have h1 := mul_bd (A := 16) (B := 16) (show 0 ≤ (j : Int) ∧ (j : Int) ≤ 16 by omega) (show 0 ≤ (n : Int) ∧ (n : Int) ≤ 16 by omega)
    by_cases hlj : j < n
    · repeat' (first | ((conv => whnf); refine And.intro ?_ ?_) | ((conv => whnf); with_reducible exact VC.mk rfl) | ((conv => whnf); exact Ok.mk) | ((conv => whnf); exact True.intro) | ((conv => whnf); refine Nx.mk ?_) | ((conv => whnf); refine Fin.mk ?_) | ((conv => whnf); intro _))
      all_goals ((try refine VC.mk ?_); (try simp only [CL.ncell, CL.cnt, Int.toNat_natCast, decide_eq_true_eq, decide_eq_false_iff_not, Bool.not_eq_true, Bool.not_false, Bool.not_true, and_self, and_true, true_and, te3b, te4b, te3s, te4s, Nat.mul_one, Nat.zero_add, List.length_cons, List.length_nil, Bool.false_eq_true, Bool.true_eq_false] at *); (try omega))
      all_goals (try (simp only [List.length_append, List.length_cons, List.length_nil]; omega))
      refine ⟨j + 1, [], ⟨by omega, by omega⟩, ?_⟩
      repeat' (first | ((conv => whnf); refine And.intro ?_ ?_) | ((conv => whnf); with_reducible exact VC.mk rfl) | ((conv => whnf); exact Ok.mk) | ((conv => whnf); exact True.intro) | ((conv => whnf); refine Nx.mk ?_) | ((conv => whnf); refine Fin.mk ?_) | ((conv => whnf); intro _))
      all_goals ((try refine VC.mk ?_); (try simp only [CL.ncell, CL.cnt, Int.toNat_natCast, decide_eq_true_eq, decide_eq_false_iff_not, Bool.not_eq_true, Bool.not_false, Bool.not_true, and_self, and_true, true_and, te3b, te4b, te3s, te4s, Nat.mul_one, Nat.zero_add, List.length_cons, List.length_nil, Bool.false_eq_true, Bool.true_eq_false] at *); (try omega))
      all_goals (try (rw [e1]))
    · have : n = j := by omega
      subst this
      have e3 := linesTo_len n (n + i)
      have e4 := linesTo_succ n (n + i)
      rw [lineAt_col hlt] at e4
      repeat' (first | ((conv => whnf); refine And.intro ?_ ?_) | ((conv => whnf); with_reducible exact VC.mk rfl) | ((conv => whnf); exact Ok.mk) | ((conv => whnf); exact True.intro) | ((conv => whnf); refine Nx.mk ?_) | ((conv => whnf); refine Fin.mk ?_) | ((conv => whnf); intro _))
      all_goals ((try refine VC.mk ?_); (try simp only [CL.ncell, CL.cnt, Int.toNat_natCast, decide_eq_true_eq, decide_eq_false_iff_not, Bool.not_eq_true, Bool.not_false, Bool.not_true, and_self, and_true, true_and, te3b, te4b, te3s, te4s, Nat.mul_one, Nat.zero_add, List.length_cons, List.length_nil, Bool.false_eq_true, Bool.true_eq_false] at *); (try omega))
      all_goals (try (simp only [List.length_append, List.length_cons, List.length_nil]; omega))
      refine ⟨i + 1, [], ⟨by omega, by omega⟩, ?_⟩
      repeat' (first | ((conv => whnf); refine And.intro ?_ ?_) | ((conv => whnf); with_reducible exact VC.mk rfl) | ((conv => whnf); exact Ok.mk) | ((conv => whnf); exact True.intro) | ((conv => whnf); refine Nx.mk ?_) | ((conv => whnf); refine Fin.mk ?_) | ((conv => whnf); intro _))
      all_goals ((try refine VC.mk ?_); (try simp only [CL.ncell, CL.cnt, Int.toNat_natCast, decide_eq_true_eq, decide_eq_false_iff_not, Bool.not_eq_true, Bool.not_false, Bool.not_true, and_self, and_true, true_and, te3b, te4b, te3s, te4s, Nat.mul_one, Nat.zero_add, List.length_cons, List.length_nil, Bool.false_eq_true, Bool.true_eq_false] at *); (try omega))
      all_goals (try (rw [← Nat.add_assoc, e4]))
  have : n = i := by omega
  subst this
  have e3 := linesTo_len n (n + n)
  repeat' (first | ((conv => whnf); refine And.intro ?_ ?_) | ((conv => whnf); with_reducible exact VC.mk rfl) | ((conv => whnf); exact Ok.mk) | ((conv => whnf); exact True.intro) | ((conv => whnf); refine Nx.mk ?_) | ((conv => whnf); refine Fin.mk ?_) | ((conv => whnf); intro _))
  all_goals ((try refine VC.mk ?_); (try simp only [CL.ncell, CL.cnt, Int.toNat_natCast, decide_eq_true_eq, decide_eq_false_iff_not, Bool.not_eq_true, Bool.not_false, Bool.not_true, and_self, and_true, true_and, te3b, te4b, te3s, te4s, Nat.mul_one, Nat.zero_add, List.length_cons, List.length_nil, Bool.false_eq_true, Bool.true_eq_false] at *); (try omega))
  · rename_i hs
    have : lineCnt n (gOf s) = n + n := by
      have e : gOf s = 1 := by unfold gOf; rw [if_neg hsq, if_pos hs]
      rw [e]; unfold lineCnt; rw [if_neg (by omega), if_pos (by omega)]; omega
    rw [this]
    all_goals (first | (refine Sup.of ?_; first | rfl | (simp [*, resOf]; done)) | (refine Sup.via ?_; repeat' (first | ((conv => whnf); refine And.intro ?_ ?_) | ((conv => whnf); with_reducible exact VC.mk rfl) | ((conv => whnf); exact Ok.mk) | ((conv => whnf); exact True.intro) | ((conv => whnf); refine Nx.mk ?_) | ((conv => whnf); refine Fin.mk ?_) | ((conv => whnf); intro _)); all_goals ((try refine VC.mk ?_); (try simp only [CL.ncell, CL.cnt, Int.toNat_natCast, decide_eq_true_eq, decide_eq_false_iff_not, Bool.not_eq_true, Bool.not_false, Bool.not_true, and_self, and_true, true_and, te3b, te4b, te3s, te4s, Nat.mul_one, Nat.zero_add, List.length_cons, List.length_nil, Bool.false_eq_true, Bool.true_eq_false] at *); (try omega)); all_goals (try (simp [CL.sub]; done))))
  · rename_i hs
    simp only [List.length_append, List.length_cons, List.length_nil]; omega
  · rename_i hs1 hs
    have : lineCnt n (gOf s) = 2 * n + 2 := by
      have e : gOf s = 2 := by unfold gOf; rw [if_neg hsq, if_neg hs1, if_pos hs]
      rw [e]; unfold lineCnt; rw [if_neg (by omega), if_neg (by omega), if_pos (by omega)]
    rw [this, linesTo_two]
    all_goals (first | (refine Sup.of ?_; first | rfl | (simp [*, resOf]; done)) | (refine Sup.via ?_; repeat' (first | ((conv => whnf); refine And.intro ?_ ?_) | ((conv => whnf); with_reducible exact VC.mk rfl) | ((conv => whnf); exact Ok.mk) | ((conv => whnf); exact True.intro) | ((conv => whnf); refine Nx.mk ?_) | ((conv => whnf); refine Fin.mk ?_) | ((conv => whnf); intro _)); all_goals ((try refine VC.mk ?_); (try simp only [CL.ncell, CL.cnt, Int.toNat_natCast, decide_eq_true_eq, decide_eq_false_iff_not, Bool.not_eq_true, Bool.not_false, Bool.not_true, and_self, and_true, true_and, te3b, te4b, te3s, te4s, Nat.mul_one, Nat.zero_add, List.length_cons, List.length_nil, Bool.false_eq_true, Bool.true_eq_false] at *); (try omega)); all_goals (try (simp [CL.sub]; done))))
  rename_i hs1 hs2
  have hcnt : lineCnt n (gOf s) = 4 * n := by
    have e : gOf s = 3 := by unfold gOf; rw [if_neg hsq, if_neg hs1, if_neg hs2]
    rw [e]; unfold lineCnt; rw [if_neg (by omega), if_neg (by omega), if_neg (by omega)]
  rw [hcnt]
  simp only [linesTo_two]
  have e3 := linesTo_len n (2 * n + 2)
  generalize hL0 : linesTo n (2 * n + 2) = L0 at *
  try simp only [List.length_append, List.length_cons, List.length_nil]
  conv => whnf
  refine loop_of (X := Nat) (fun k => 1 ≤ k ∧ k ≤ n) (fun k => [(12, .int .i64 k), (5, .isl (.rows .i64 (linesTo n (2 * n + 1 + k))) (.own 0))]) (fun k => [(0, .tok 1 (2 * n + 1 + k))]) (fun k => n - k) 1 ⟨anyB_ok, mixed, tabOK, cpLn_ok, noY_ok⟩ (by rfl) (by omega) ?_ ?_
  · repeat' (first | ((conv => whnf); refine And.intro ?_ ?_) | ((conv => whnf); with_reducible exact VC.mk rfl) | ((conv => whnf); exact Ok.mk) | ((conv => whnf); exact True.intro) | ((conv => whnf); refine Nx.mk ?_) | ((conv => whnf); refine Fin.mk ?_) | ((conv => whnf); intro _))
    all_goals ((try refine VC.mk ?_); (try simp only [CL.ncell, CL.cnt, Int.toNat_natCast, decide_eq_true_eq, decide_eq_false_iff_not, Bool.not_eq_true, Bool.not_false, Bool.not_true, and_self, and_true, true_and, te3b, te4b, te3s, te4s, Nat.mul_one, Nat.zero_add, List.length_cons, List.length_nil, Bool.false_eq_true, Bool.true_eq_false] at *); (try omega))
    all_goals (try (rw [← hL0]; done))
  intro k hk
  have e3 := linesTo_len n (2 * n + 1 + k)
  have e4 := linesTo_succ n (2 * n + 1 + k)
  by_cases hlt : k < n
  · rw [← dg3 n k (by omega)] at e4
    repeat' (first | ((conv => whnf); refine And.intro ?_ ?_) | ((conv => whnf); with_reducible exact VC.mk rfl) | ((conv => whnf); exact Ok.mk) | ((conv => whnf); exact True.intro) | ((conv => whnf); refine Nx.mk ?_) | ((conv => whnf); refine Fin.mk ?_) | ((conv => whnf); intro _))
    all_goals ((try refine VC.mk ?_); (try simp only [CL.ncell, CL.cnt, Int.toNat_natCast, decide_eq_true_eq, decide_eq_false_iff_not, Bool.not_eq_true, Bool.not_false, Bool.not_true, and_self, and_true, true_and, te3b, te4b, te3s, te4s, Nat.mul_one, Nat.zero_add, List.length_cons, List.length_nil, Bool.false_eq_true, Bool.true_eq_false] at *); (try omega))
    all_goals (try (simp only [List.length_append, List.length_cons, List.length_nil]; omega))
    refine ⟨k + 1, [], ⟨by omega, by omega⟩, ?_⟩
    repeat' (first | ((conv => whnf); refine And.intro ?_ ?_) | ((conv => whnf); with_reducible exact VC.mk rfl) | ((conv => whnf); exact Ok.mk) | ((conv => whnf); exact True.intro) | ((conv => whnf); refine Nx.mk ?_) | ((conv => whnf); refine Fin.mk ?_) | ((conv => whnf); intro _))
    all_goals ((try refine VC.mk ?_); (try simp only [CL.ncell, CL.cnt, Int.toNat_natCast, decide_eq_true_eq, decide_eq_false_iff_not, Bool.not_eq_true, Bool.not_false, Bool.not_true, and_self, and_true, true_and, te3b, te4b, te3s, te4s, Nat.mul_one, Nat.zero_add, List.length_cons, List.length_nil, Bool.false_eq_true, Bool.true_eq_false] at *); (try omega))
    all_goals (try (rw [← Nat.add_assoc, e4]))
  have : n = k := by omega
  subst this
  repeat' (first | ((conv => whnf); refine And.intro ?_ ?_) | ((conv => whnf); with_reducible exact VC.mk rfl) | ((conv => whnf); exact Ok.mk) | ((conv => whnf); exact True.intro) | ((conv => whnf); refine Nx.mk ?_) | ((conv => whnf); refine Fin.mk ?_) | ((conv => whnf); intro _))
  all_goals ((try refine VC.mk ?_); (try simp only [CL.ncell, CL.cnt, Int.toNat_natCast, decide_eq_true_eq, decide_eq_false_iff_not, Bool.not_eq_true, Bool.not_false, Bool.not_true, and_self, and_true, true_and, te3b, te4b, te3s, te4s, Nat.mul_one, Nat.zero_add, List.length_cons, List.length_nil, Bool.false_eq_true, Bool.true_eq_false] at *); (try omega))
  conv => whnf
  refine loop_of (X := Nat) (fun k => k + 1 ≤ n) (fun k => [(13, .int .i64 k), (5, .isl (.rows .i64 (linesTo n (3 * n + 1 + k))) (.own 0))]) (fun k => [(0, .tok 1 (3 * n + 1 + k))]) (fun k => n - k) 0 ⟨anyB_ok, mixed, tabOK, cpLn_ok, noY_ok⟩ (by rfl) (by omega) ?_ ?_
  · have : 2 * n + 1 + n = 3 * n + 1 + 0 := by omega
    rw [this]
    repeat' (first | ((conv => whnf); refine And.intro ?_ ?_) | ((conv => whnf); with_reducible exact VC.mk rfl) | ((conv => whnf); exact Ok.mk) | ((conv => whnf); exact True.intro) | ((conv => whnf); refine Nx.mk ?_) | ((conv => whnf); refine Fin.mk ?_) | ((conv => whnf); intro _))
    all_goals ((try refine VC.mk ?_); (try simp only [CL.ncell, CL.cnt, Int.toNat_natCast, decide_eq_true_eq, decide_eq_false_iff_not, Bool.not_eq_true, Bool.not_false, Bool.not_true, and_self, and_true, true_and, te3b, te4b, te3s, te4s, Nat.mul_one, Nat.zero_add, List.length_cons, List.length_nil, Bool.false_eq_true, Bool.true_eq_false] at *); (try omega))
  intro k hk
  have e3 := linesTo_len n (3 * n + 1 + k)
  have e4 := linesTo_succ n (3 * n + 1 + k)
  by_cases hlt : k + 1 < n
  · rw [← dg4 n k hn.1 hlt] at e4
    repeat' (first | ((conv => whnf); refine And.intro ?_ ?_) | ((conv => whnf); with_reducible exact VC.mk rfl) | ((conv => whnf); exact Ok.mk) | ((conv => whnf); exact True.intro) | ((conv => whnf); refine Nx.mk ?_) | ((conv => whnf); refine Fin.mk ?_) | ((conv => whnf); intro _))
    all_goals ((try refine VC.mk ?_); (try simp only [CL.ncell, CL.cnt, Int.toNat_natCast, decide_eq_true_eq, decide_eq_false_iff_not, Bool.not_eq_true, Bool.not_false, Bool.not_true, and_self, and_true, true_and, te3b, te4b, te3s, te4s, Nat.mul_one, Nat.zero_add, List.length_cons, List.length_nil, Bool.false_eq_true, Bool.true_eq_false] at *); (try omega))
    all_goals (try (simp only [List.length_append, List.length_cons, List.length_nil]; omega))
    refine ⟨k + 1, [], ⟨by omega, by omega⟩, ?_⟩
    repeat' (first | ((conv => whnf); refine And.intro ?_ ?_) | ((conv => whnf); with_reducible exact VC.mk rfl) | ((conv => whnf); exact Ok.mk) | ((conv => whnf); exact True.intro) | ((conv => whnf); refine Nx.mk ?_) | ((conv => whnf); refine Fin.mk ?_) | ((conv => whnf); intro _))
    all_goals ((try refine VC.mk ?_); (try simp only [CL.ncell, CL.cnt, Int.toNat_natCast, decide_eq_true_eq, decide_eq_false_iff_not, Bool.not_eq_true, Bool.not_false, Bool.not_true, and_self, and_true, true_and, te3b, te4b, te3s, te4s, Nat.mul_one, Nat.zero_add, List.length_cons, List.length_nil, Bool.false_eq_true, Bool.true_eq_false] at *); (try omega))
    all_goals (try (rw [← Nat.add_assoc, e4]))
  · have : 3 * n + 1 + k = 4 * n := by omega
    rw [this]
    repeat' (first | ((conv => whnf); refine And.intro ?_ ?_) | ((conv => whnf); with_reducible exact VC.mk rfl) | ((conv => whnf); exact Ok.mk) | ((conv => whnf); exact True.intro) | ((conv => whnf); refine Nx.mk ?_) | ((conv => whnf); refine Fin.mk ?_) | ((conv => whnf); intro _))
    all_goals ((try refine VC.mk ?_); (try simp only [CL.ncell, CL.cnt, Int.toNat_natCast, decide_eq_true_eq, decide_eq_false_iff_not, Bool.not_eq_true, Bool.not_false, Bool.not_true, and_self, and_true, true_and, te3b, te4b, te3s, te4s, Nat.mul_one, Nat.zero_add, List.length_cons, List.length_nil, Bool.false_eq_true, Bool.true_eq_false] at *); (try omega))
    all_goals (first | (refine Sup.of ?_; first | rfl | (simp [*, resOf]; done)) | (refine Sup.via ?_; repeat' (first | ((conv => whnf); refine And.intro ?_ ?_) | ((conv => whnf); with_reducible exact VC.mk rfl) | ((conv => whnf); exact Ok.mk) | ((conv => whnf); exact True.intro) | ((conv => whnf); refine Nx.mk ?_) | ((conv => whnf); refine Fin.mk ?_) | ((conv => whnf); intro _)); all_goals ((try refine VC.mk ?_); (try simp only [CL.ncell, CL.cnt, Int.toNat_natCast, decide_eq_true_eq, decide_eq_false_iff_not, Bool.not_eq_true, Bool.not_false, Bool.not_true, and_self, and_true, true_and, te3b, te4b, te3s, te4s, Nat.mul_one, Nat.zero_add, List.length_cons, List.length_nil, Bool.false_eq_true, Bool.true_eq_false] at *); (try omega)); all_goals (try (simp [CL.sub]; done))))
theorem Lines_spec' {n : Int} {s : ByteArray} (hn : 1 ≤ n ∧ n ≤ 16) : PSpec Try.prog 105 [.int .i64 n, .str s] (.isl (.rows .i64 (linesTo n.toNat (lineCnt n.toNat (gOf s)))) .none) := by
  have := Lines_spec n.toNat (by omega) s
  rwa [Int.toNat_of_nonneg (by omega)] at this
def LinesP : PSp := fun xs K => match xs with
  | [.int .i64 n, .str s] => VC (1 ≤ n ∧ n ≤ 16) ∧ K (.isl (.rows .i64 (linesTo n.toNat (lineCnt n.toNat (gOf s)))) .none)
  | _ => False
theorem Lines_ok : POK Try.prog 105 LinesP := by
  intro xs K h
  unfold LinesP at h
  split at h
  · exact ⟨_, h.2, Lines_spec' h.1.get⟩
  · exact h.elim
end Go.Eng.Ytppflbccfdbogaa
namespace Go.Eng.Ytppflbccfdbogaa
open Go.Proofs
set_option maxRecDepth 100000
set_option maxHeartbeats 0
set_option linter.unusedVariables false
set_option linter.unusedSimpArgs false
theorem CheckKind_spec (s : ByteArray) : PSpec Try.prog 20 [.str s] (.int .i64 (kindErr s)) := by
  refine pspec_of (md := 0) (rf := []) mixed tabOK noC_ok Try.func20 (by rfl) (by rfl) (by rfl) ?_
  repeat' (first | ((conv => whnf); refine And.intro ?_ ?_) | ((conv => whnf); with_reducible exact VC.mk rfl) | ((conv => whnf); exact Ok.mk) | ((conv => whnf); exact True.intro) | ((conv => whnf); refine Nx.mk ?_) | ((conv => whnf); refine Fin.mk ?_) | ((conv => whnf); intro _))
  all_goals ((try refine VC.mk ?_); (try simp only [CL.ncell, CL.cnt, Int.toNat_natCast, decide_eq_true_eq, decide_eq_false_iff_not, Bool.not_eq_true, Bool.not_false, Bool.not_true, and_self, and_true, true_and, te3b, te4b, te3s, te4s, Nat.mul_one, Nat.zero_add, List.length_cons, List.length_nil, Bool.false_eq_true, Bool.true_eq_false] at *); (try omega))
  all_goals (refine Sup.of ?_; simp_all [resOf, kindErr])
def CheckKindP : PSp := fun xs K => match xs with
  | [.str s] => VC (True) ∧ K (.int .i64 (kindErr s))
  | _ => False
theorem CheckKind_ok : POK Try.prog 20 CheckKindP := by
  intro xs K h
  unfold CheckKindP at h
  split at h
  · exact ⟨_, h.2, CheckKind_spec _⟩
  · exact h.elim
/-! the first line with another sum -/
theorem badLine_none {n : Nat} {g : Int} {l : List Int} (h : ∀ j, j < lineCnt n g → lineOk n l j = true) : badLine n g l = none := by
  unfold badLine
  rw [List.find?_eq_none]
  intro i hi
  simp [h i (List.mem_range.1 hi)]
theorem badLine_some {n : Nat} {g : Int} {l : List Int} {i : Nat} (hi : i < lineCnt n g) (h : ∀ j, j < i → lineOk n l j = true) (hb : lineOk n l i = false) : badLine n g l = some i := by
  unfold badLine
  rw [List.find?_range_eq_some]
  exact ⟨by simp [hb], by simpa using hi, fun j hj => by simp [h j hj]⟩
def failsV (n : Nat) (g : Int) (l : List Int) : PV := match badLine n g l with
  | some i => .tup [.isl (.ints .i64 (lineAt n i)) .none, .bp true]
  | none => .tup [.isl (.ints .i64 []) .none, .bp false]
theorem lineCnt_le (n : Nat) (g : Int) : lineCnt n g ≤ 4 * n + 2 := by unfold lineCnt; split <;> (try split) <;> (try split) <;> omega
noncomputable def cpFa : CPT := cpAdd 105 (pureCC LinesP) (cpAdd 71 (pureCC rSumP) (cpAdd 72 (pureCC ConstantP) noC))
theorem cpFa_ok : CPOK Try.prog cpFa := cpAdd_ok (pureCC_ok Lines_ok) (cpAdd_ok (pureCC_ok rSum_ok) (cpAdd_ok (pureCC_ok Constant_ok) noC_ok))
theorem Fails_spec (n : Nat) (c : Int) (l : List Int) (s : ByteArray) (hn : 1 ≤ n ∧ n ≤ 16) (hl : l.length = n * n) (hv : ∀ x ∈ l, 0 ≤ x ∧ x ≤ 1000) : PSpec Try.prog 54 [gridV n c l, .str s] (failsV n (gOf s) l) := by
  have hg : ∀ c : Int, 0 ≤ c → c < (n : Int) * n → 0 ≤ l.getD c.toNat 0 ∧ l.getD c.toNat 0 ≤ 1000 := fun c h1 h2 => by
    rw [List.getD_eq_getElem?_getD]
    cases h : l[c.toNat]? with
    | none => simp
    | some v => simpa using hv v (List.mem_of_getElem? h)
  have hll : (l.length : Int) = (n : Int) * n := by rw [hl]; push_cast; rfl
  refine pspec_of (md := 0) (rf := []) mixed tabOK cpFa_ok Try.func54 (by rfl) (by rfl) (by rfl) ?_
  repeat' (first | ((conv => whnf); refine And.intro ?_ ?_) | ((conv => whnf); with_reducible exact VC.mk rfl) | ((conv => whnf); exact Ok.mk) | ((conv => whnf); exact True.intro) | ((conv => whnf); refine Nx.mk ?_) | ((conv => whnf); refine Fin.mk ?_) | ((conv => whnf); intro _))
  all_goals ((try refine VC.mk ?_); (try simp only [CL.ncell, CL.cnt, Int.toNat_natCast, decide_eq_true_eq, decide_eq_false_iff_not, Bool.not_eq_true, Bool.not_false, Bool.not_true, and_self, and_true, true_and, te3b, te4b, te3s, te4s, Nat.mul_one, Nat.zero_add, List.length_cons, List.length_nil, Bool.false_eq_true, Bool.true_eq_false] at *); (try omega))
  generalize hcnt : lineCnt n (gOf s) = cnt at *
  conv => whnf
  refine loop_of (X := Nat) (fun i => i ≤ cnt ∧ ∀ j, j < i → lineOk n l j = true) (fun i => [(7, .int .i64 i)]) (fun i => []) (fun i => cnt - i) 0 ⟨anyB_ok, mixed, tabOK, cpFa_ok, noY_ok⟩ (by rfl) ⟨by omega, fun j hj => by omega⟩ ?_ ?_
  · repeat' (first | ((conv => whnf); refine And.intro ?_ ?_) | ((conv => whnf); with_reducible exact VC.mk rfl) | ((conv => whnf); exact Ok.mk) | ((conv => whnf); exact True.intro) | ((conv => whnf); refine Nx.mk ?_) | ((conv => whnf); refine Fin.mk ?_) | ((conv => whnf); intro _))
    all_goals ((try refine VC.mk ?_); (try simp only [CL.ncell, CL.cnt, Int.toNat_natCast, decide_eq_true_eq, decide_eq_false_iff_not, Bool.not_eq_true, Bool.not_false, Bool.not_true, and_self, and_true, true_and, te3b, te4b, te3s, te4s, Nat.mul_one, Nat.zero_add, List.length_cons, List.length_nil, Bool.false_eq_true, Bool.true_eq_false] at *); (try omega))
  rintro i ⟨hi, hok⟩
  have e1 := linesTo_len n cnt
  by_cases hlt : i < cnt
  · have e2 := linesTo_get n cnt i hlt
    have hm := fun c hc => lineAt_mem (n := n) (i := i) c hc
    have e3 := lineAt_len n i
    have hb := sumAt_bd l (lineAt n i) (fun c hc => hg c (hm c hc).1 (hm c hc).2)
    have hc4 := lineCnt_le n (gOf s)
    repeat' (first | ((conv => whnf); refine And.intro ?_ ?_) | ((conv => whnf); with_reducible exact VC.mk rfl) | ((conv => whnf); exact Ok.mk) | ((conv => whnf); exact True.intro) | ((conv => whnf); refine Nx.mk ?_) | ((conv => whnf); refine Fin.mk ?_) | ((conv => whnf); intro _))
    all_goals ((try refine VC.mk ?_); (try simp only [CL.ncell, CL.cnt, Int.toNat_natCast, decide_eq_true_eq, decide_eq_false_iff_not, Bool.not_eq_true, Bool.not_false, Bool.not_true, and_self, and_true, true_and, te3b, te4b, te3s, te4s, Nat.mul_one, Nat.zero_add, List.length_cons, List.length_nil, Bool.false_eq_true, Bool.true_eq_false] at *); (try omega))
    all_goals (try simp only [e2] at *)
    · refine ⟨fun x hx => by have := hm x hx; omega, by omega, fun j hj => ?_⟩
      have := hb j hj
      rw [e3] at hj
      omega
    · rename_i hbad
      have : failsV n (gOf s) l = .tup [.isl (.ints .i64 (lineAt n i)) .none, .bp true] := by
        unfold failsV
        rw [badLine_some (i := i) (by omega) hok (by unfold lineOk lineSum; rw [e3] at hbad; simpa using hbad)]
      rw [this]
      all_goals (refine Sup.via ?_; repeat' (first | ((conv => whnf); refine And.intro ?_ ?_) | ((conv => whnf); with_reducible exact VC.mk rfl) | ((conv => whnf); exact Ok.mk) | ((conv => whnf); exact True.intro) | ((conv => whnf); refine Nx.mk ?_) | ((conv => whnf); refine Fin.mk ?_) | ((conv => whnf); intro _)); all_goals ((try refine VC.mk ?_); (try simp only [CL.ncell, CL.cnt, Int.toNat_natCast, decide_eq_true_eq, decide_eq_false_iff_not, Bool.not_eq_true, Bool.not_false, Bool.not_true, and_self, and_true, true_and, te3b, te4b, te3s, te4s, Nat.mul_one, Nat.zero_add, List.length_cons, List.length_nil, Bool.false_eq_true, Bool.true_eq_false] at *); (try omega)); all_goals (try (simp [CL.sub]; done)))
    · rename_i hgood
      refine ⟨i + 1, [], ⟨⟨by omega, fun j hj => ?_⟩, by omega⟩, ?_⟩
      · by_cases e : j = i
        · subst e; unfold lineOk lineSum; rw [e3] at hgood; simpa using hgood
        · exact hok j (by omega)
      · repeat' (first | ((conv => whnf); refine And.intro ?_ ?_) | ((conv => whnf); with_reducible exact VC.mk rfl) | ((conv => whnf); exact Ok.mk) | ((conv => whnf); exact True.intro) | ((conv => whnf); refine Nx.mk ?_) | ((conv => whnf); refine Fin.mk ?_) | ((conv => whnf); intro _))
        all_goals ((try refine VC.mk ?_); (try simp only [CL.ncell, CL.cnt, Int.toNat_natCast, decide_eq_true_eq, decide_eq_false_iff_not, Bool.not_eq_true, Bool.not_false, Bool.not_true, and_self, and_true, true_and, te3b, te4b, te3s, te4s, Nat.mul_one, Nat.zero_add, List.length_cons, List.length_nil, Bool.false_eq_true, Bool.true_eq_false] at *); (try omega))
  · have : cnt = i := by omega
    subst this
    have : failsV n (gOf s) l = .tup [.isl (.ints .i64 []) .none, .bp false] := by unfold failsV; rw [badLine_none (by rw [hcnt]; exact hok)]
    rw [this]
    repeat' (first | ((conv => whnf); refine And.intro ?_ ?_) | ((conv => whnf); with_reducible exact VC.mk rfl) | ((conv => whnf); exact Ok.mk) | ((conv => whnf); exact True.intro) | ((conv => whnf); refine Nx.mk ?_) | ((conv => whnf); refine Fin.mk ?_) | ((conv => whnf); intro _))
    all_goals ((try refine VC.mk ?_); (try simp only [CL.ncell, CL.cnt, Int.toNat_natCast, decide_eq_true_eq, decide_eq_false_iff_not, Bool.not_eq_true, Bool.not_false, Bool.not_true, and_self, and_true, true_and, te3b, te4b, te3s, te4s, Nat.mul_one, Nat.zero_add, List.length_cons, List.length_nil, Bool.false_eq_true, Bool.true_eq_false] at *); (try omega))
    all_goals (first | (refine Sup.of ?_; first | rfl | (simp [*, resOf]; done)) | (refine Sup.via ?_; repeat' (first | ((conv => whnf); refine And.intro ?_ ?_) | ((conv => whnf); with_reducible exact VC.mk rfl) | ((conv => whnf); exact Ok.mk) | ((conv => whnf); exact True.intro) | ((conv => whnf); refine Nx.mk ?_) | ((conv => whnf); refine Fin.mk ?_) | ((conv => whnf); intro _)); all_goals ((try refine VC.mk ?_); (try simp only [CL.ncell, CL.cnt, Int.toNat_natCast, decide_eq_true_eq, decide_eq_false_iff_not, Bool.not_eq_true, Bool.not_false, Bool.not_true, and_self, and_true, true_and, te3b, te4b, te3s, te4s, Nat.mul_one, Nat.zero_add, List.length_cons, List.length_nil, Bool.false_eq_true, Bool.true_eq_false] at *); (try omega)); all_goals (try (simp [CL.sub]; done))))
/-! refusals -/
def failsL (n : Nat) (g : Int) (l : List Int) : List Int := match badLine n g l with | some i => lineAt n i | none => []
theorem failsV_eq (n : Nat) (g : Int) (l : List Int) : failsV n g l = .tup [.isl (.ints .i64 (failsL n g l)) .none, .bp (badLine n g l).isSome] := by
  unfold failsV failsL; cases badLine n g l <;> rfl
def refuseR (n : Nat) (c : Nat → Nat) (g : Int) : PV := match meetOf c (n * n) with
  | some y => .tup [refV kMeet ((gAt c (n * n) y).getD (c y) 0) ((y : Int) + 1) [] 0, .bp true]
  | none => match badLine n g (gAt c (n * n) (n * n)) with
    | some i => .tup [refV kSum 0 0 (lineAt n i) (lineSum n (gAt c (n * n) (n * n)) i), .bp true]
    | none => .tup [refV kNo 0 0 [] 0, .bp false]
theorem rRefuse_spec (n : Nat) (s0 s1 x0 x1 b0 b1 : Int) (s : ByteArray) (hn : 1 ≤ n ∧ n ≤ 16) (h : ∀ x ∈ [s0, s1, x0, x1, b0, b1], -999999999 ≤ x ∧ x ≤ 999999999) :
    PSpec Try.prog 22 [stepV n s0 s1 x0 x1 b0 b1, .str s] (refuseR n (cellS n s0 s1 x0 x1 b0 b1) (gOf s)) := by
  have hM := rMeet_spec n s0 s1 x0 x1 b0 b1 (by omega) h
  have hU := rUniform_spec n s0 s1 x0 x1 b0 b1 (by omega) h
  have eN : ((n : Int) * n).toNat = n * n := by rw [← Int.natCast_mul, Int.toNat_natCast]
  rw [eN] at hM hU
  generalize cellS n s0 s1 x0 x1 b0 b1 = c at *
  have hb := mul_bd (show 0 ≤ (n : Int) ∧ (n : Int) ≤ 16 by omega) (show 0 ≤ (n : Int) ∧ (n : Int) ≤ 16 by omega)
  have hnn : ((n * n : Nat) : Int) = (n : Int) * n := by push_cast; rfl
  have hgl := gAt_len c (n * n) (n * n)
  have hgv : ∀ x ∈ gAt c (n * n) (n * n), 0 ≤ x ∧ x ≤ 1000 := fun x hx => by
    have h1 := gAt_nonneg c _ _ x hx
    have h2 := gAt_le c _ _ x hx
    omega
  have hF := Fails_spec n n (gAt c (n * n) (n * n)) s hn hgl hgv
  unfold refuseR
  unfold meetV at hM
  generalize gAt c (n * n) (n * n) = l at *
  cases hm : meetOf c (n * n) with
  | some y =>
    rw [hm] at hM
    have hC := cpAdd_ok (pureCC_ok (atC_ok (C := True) fun _ => hM)) noC_ok
    refine pspec_of (md := 1) (rf := []) mixed tabOK hC Try.func22 (by rfl) (by rfl) (by rfl) ?_
    repeat' (first | ((conv => whnf); refine And.intro ?_ ?_) | ((conv => whnf); with_reducible exact VC.mk rfl) | ((conv => whnf); exact Ok.mk) | ((conv => whnf); exact True.intro) | ((conv => whnf); refine Nx.mk ?_) | ((conv => whnf); refine Fin.mk ?_) | ((conv => whnf); intro _))
    all_goals ((try refine VC.mk ?_); (try simp only [CL.ncell, CL.cnt, Int.toNat_natCast, decide_eq_true_eq, decide_eq_false_iff_not, Bool.not_eq_true, Bool.not_false, Bool.not_true, and_self, and_true, true_and, te3b, te4b, te3s, te4s, Nat.mul_one, Nat.zero_add, List.length_cons, List.length_nil, Bool.false_eq_true, Bool.true_eq_false] at *); (try omega))
    all_goals (refine Sup.via ?_; repeat' (first | ((conv => whnf); refine And.intro ?_ ?_) | ((conv => whnf); with_reducible exact VC.mk rfl) | ((conv => whnf); exact Ok.mk) | ((conv => whnf); exact True.intro) | ((conv => whnf); refine Nx.mk ?_) | ((conv => whnf); refine Fin.mk ?_) | ((conv => whnf); intro _)); all_goals ((try refine VC.mk ?_); (try simp only [CL.ncell, CL.cnt, Int.toNat_natCast, decide_eq_true_eq, decide_eq_false_iff_not, Bool.not_eq_true, Bool.not_false, Bool.not_true, and_self, and_true, true_and, te3b, te4b, te3s, te4s, Nat.mul_one, Nat.zero_add, List.length_cons, List.length_nil, Bool.false_eq_true, Bool.true_eq_false] at *); (try omega)); all_goals (try (simp [CL.sub]; done)))
  | none =>
    rw [hm] at hM
    rw [failsV_eq] at hF
    cases hb : badLine n (gOf s) l with
    | none =>
      rw [hb] at hF
      have hC := cpAdd_ok (pureCC_ok (atC_ok (C := True) fun _ => hM)) (cpAdd_ok (pureCC_ok (atC_ok (C := True) fun _ => hU)) (cpAdd_ok (pureCC_ok (atC_ok (C := True) fun _ => hF)) noC_ok))
      refine pspec_of (md := 1) (rf := []) mixed tabOK hC Try.func22 (by rfl) (by rfl) (by rfl) ?_
      repeat' (first | ((conv => whnf); refine And.intro ?_ ?_) | ((conv => whnf); with_reducible exact VC.mk rfl) | ((conv => whnf); exact Ok.mk) | ((conv => whnf); exact True.intro) | ((conv => whnf); refine Nx.mk ?_) | ((conv => whnf); refine Fin.mk ?_) | ((conv => whnf); intro _))
      all_goals ((try refine VC.mk ?_); (try simp only [CL.ncell, CL.cnt, Int.toNat_natCast, decide_eq_true_eq, decide_eq_false_iff_not, Bool.not_eq_true, Bool.not_false, Bool.not_true, and_self, and_true, true_and, te3b, te4b, te3s, te4s, Nat.mul_one, Nat.zero_add, List.length_cons, List.length_nil, Bool.false_eq_true, Bool.true_eq_false] at *); (try omega))
      all_goals (try (exfalso; simp_all; done))
      all_goals (refine Sup.via ?_; repeat' (first | ((conv => whnf); refine And.intro ?_ ?_) | ((conv => whnf); with_reducible exact VC.mk rfl) | ((conv => whnf); exact Ok.mk) | ((conv => whnf); exact True.intro) | ((conv => whnf); refine Nx.mk ?_) | ((conv => whnf); refine Fin.mk ?_) | ((conv => whnf); intro _)); all_goals ((try refine VC.mk ?_); (try simp only [CL.ncell, CL.cnt, Int.toNat_natCast, decide_eq_true_eq, decide_eq_false_iff_not, Bool.not_eq_true, Bool.not_false, Bool.not_true, and_self, and_true, true_and, te3b, te4b, te3s, te4s, Nat.mul_one, Nat.zero_add, List.length_cons, List.length_nil, Bool.false_eq_true, Bool.true_eq_false] at *); (try omega)); all_goals (try (simp [CL.sub]; done)))
    | some i =>
      rw [hb] at hF
      have hi : i < lineCnt n (gOf s) := by
        unfold badLine at hb
        have := List.mem_of_find?_eq_some hb
        simpa using this
      have hL : failsL n (gOf s) l = lineAt n i := by unfold failsL; rw [hb]
      rw [hL] at hF
      have hm := fun c hc => lineAt_mem (n := n) (i := i) c hc
      have e3 := lineAt_len n i
      have hg : ∀ c : Int, 0 ≤ c → c < (n : Int) * n → 0 ≤ l.getD c.toNat 0 ∧ l.getD c.toNat 0 ≤ 1000 := fun c h1 h2 => by
        rw [List.getD_eq_getElem?_getD]
        cases h : l[c.toNat]? with
        | none => simp
        | some v => simpa using hgv v (List.mem_of_getElem? h)
      have hbd := sumAt_bd l (lineAt n i) (fun c hc => hg c (hm c hc).1 (hm c hc).2)
      have hS := rSum_spec n n l (lineAt n i) (fun x hx => by have := hm x hx; omega) (by omega) (fun j hj => by have := hbd j hj; omega)
      have hC := cpAdd_ok (pureCC_ok (atC_ok (C := True) fun _ => hM)) (cpAdd_ok (pureCC_ok (atC_ok (C := True) fun _ => hU)) (cpAdd_ok (pureCC_ok (atC_ok (C := True) fun _ => hF)) (cpAdd_ok (pureCC_ok (atC_ok (C := True) fun _ => hS)) noC_ok)))
      refine pspec_of (md := 1) (rf := []) mixed tabOK hC Try.func22 (by rfl) (by rfl) (by rfl) ?_
      repeat' (first | ((conv => whnf); refine And.intro ?_ ?_) | ((conv => whnf); with_reducible exact VC.mk rfl) | ((conv => whnf); exact Ok.mk) | ((conv => whnf); exact True.intro) | ((conv => whnf); refine Nx.mk ?_) | ((conv => whnf); refine Fin.mk ?_) | ((conv => whnf); intro _))
      all_goals ((try refine VC.mk ?_); (try simp only [CL.ncell, CL.cnt, Int.toNat_natCast, decide_eq_true_eq, decide_eq_false_iff_not, Bool.not_eq_true, Bool.not_false, Bool.not_true, and_self, and_true, true_and, te3b, te4b, te3s, te4s, Nat.mul_one, Nat.zero_add, List.length_cons, List.length_nil, Bool.false_eq_true, Bool.true_eq_false] at *); (try omega))
      all_goals (try (exfalso; simp_all; done))
      rw [e3]
      unfold lineSum
      all_goals (refine Sup.via ?_; repeat' (first | ((conv => whnf); refine And.intro ?_ ?_) | ((conv => whnf); with_reducible exact VC.mk rfl) | ((conv => whnf); exact Ok.mk) | ((conv => whnf); exact True.intro) | ((conv => whnf); refine Nx.mk ?_) | ((conv => whnf); refine Fin.mk ?_) | ((conv => whnf); intro _)); all_goals ((try refine VC.mk ?_); (try simp only [CL.ncell, CL.cnt, Int.toNat_natCast, decide_eq_true_eq, decide_eq_false_iff_not, Bool.not_eq_true, Bool.not_false, Bool.not_true, and_self, and_true, true_and, te3b, te4b, te3s, te4s, Nat.mul_one, Nat.zero_add, List.length_cons, List.length_nil, Bool.false_eq_true, Bool.true_eq_false] at *); (try omega)); all_goals (try (simp [CL.sub]; done)))
end Go.Eng.Ytppflbccfdbogaa
namespace Go.Eng.Ytppflbccfdbogaa
open Go.Proofs
set_option maxRecDepth 100000
set_option maxHeartbeats 0
set_option linter.unusedVariables false
set_option linter.unusedSimpArgs false
def sumF (f : Nat → Int) : Nat → Int
  | 0 => 0
  | n + 1 => sumF f n + f n
theorem sumF_congr {f g : Nat → Int} : ∀ {n : Nat}, (∀ i, i < n → f i = g i) → sumF f n = sumF g n := by
  intro n
  induction n with
  | zero => intro _; rfl
  | succ n ih => intro h; simp only [sumF]; rw [ih fun i hi => h i (by omega), h n (by omega)]
theorem sumF_add (f g : Nat → Int) : ∀ n : Nat, sumF (fun i => f i + g i) n = sumF f n + sumF g n := by
  intro n
  induction n with
  | zero => rfl
  | succ n ih => simp only [sumF, ih]; omega
theorem sumF_sub (f g : Nat → Int) : ∀ n : Nat, sumF (fun i => f i - g i) n = sumF f n - sumF g n := by
  intro n
  induction n with
  | zero => rfl
  | succ n ih => simp only [sumF, ih]; omega
theorem sumF_mul (c : Int) (f : Nat → Int) : ∀ n : Nat, sumF (fun i => c * f i) n = c * sumF f n := by
  intro n
  induction n with
  | zero => simp [sumF]
  | succ n ih => simp only [sumF, ih, Int.mul_add]
theorem sumF_const (c : Int) : ∀ n : Nat, sumF (fun _ => c) n = n * c := by
  intro n
  induction n with
  | zero => simp [sumF]
  | succ n ih => simp only [sumF, ih]; push_cast; rw [Int.add_mul]; omega
theorem sumF_shift (f : Nat → Int) : ∀ n : Nat, sumF f (n + 1) = f 0 + sumF (fun i => f (i + 1)) n := by
  intro n
  induction n with
  | zero => simp [sumF]
  | succ n ih => rw [sumF, ih]; simp only [sumF]; omega
theorem sumF_app (f : Nat → Int) (m : Nat) : ∀ n : Nat, sumF f (m + n) = sumF f m + sumF (fun i => f (m + i)) n := by
  intro n
  induction n with
  | zero => simp [sumF]
  | succ n ih => rw [← Nat.add_assoc]; simp only [sumF, ih]; omega
theorem sumF_block (f : Nat → Int) (n : Nat) : ∀ m : Nat, sumF f (m * n) = sumF (fun i => sumF (fun j => f (i * n + j)) n) m := by
  intro m
  induction m with
  | zero => simp [sumF]
  | succ m ih => rw [Nat.add_mul, Nat.one_mul, sumF_app, ih]; rfl
theorem sumF_swap (f : Nat → Nat → Int) (n : Nat) : ∀ m : Nat, sumF (fun i => sumF (f i) n) m = sumF (fun j => sumF (fun i => f i j) m) n := by
  intro m
  induction m with
  | zero => simp only [sumF]; rw [sumF_const]; simp
  | succ m ih => simp only [sumF]; rw [ih, ← sumF_add]
theorem sumF_at (g : Nat → Int) (a : Nat) : ∀ n : Nat, sumF (fun i => if i = a then g i else 0) n = if a < n then g a else 0 := by
  intro n
  induction n with
  | zero => simp [sumF]
  | succ n ih =>
    simp only [sumF, ih]
    by_cases h : n = a
    · subst h; simp
    · rw [if_neg h]
      by_cases h2 : a < n
      · rw [if_pos h2, if_pos (by omega)]; omega
      · rw [if_neg h2, if_neg (by omega)]; rfl
/-- a sum in another order -/
theorem sumF_perm {c : Nat → Nat} {N : Nat} (hb : ∀ i, i < N → c i < N) (h : ∀ i j, i < j → j < N → c i ≠ c j) (f : Nat → Int) : sumF (fun i => f (c i)) N = sumF f N := by
  have e1 : sumF (fun i => f (c i)) N = sumF (fun i => sumF (fun y => if y = c i then f y else 0) N) N :=
    sumF_congr fun i hi => by rw [sumF_at, if_pos (hb i hi)]
  rw [e1, sumF_swap]
  refine sumF_congr fun y hy => ?_
  obtain ⟨i0, h0, h1⟩ := inj_surj hb h y hy
  have e2 : sumF (fun i => if y = c i then f y else 0) N = sumF (fun i => if i = i0 then f y else 0) N := sumF_congr fun i hi => by
    by_cases e : i = i0
    · subst e; rw [if_pos h1.symm, if_pos rfl]
    · rw [if_neg e, if_neg]
      intro hc
      rcases Nat.lt_or_gt_of_ne e with hlt | hgt
      · exact h i i0 hlt h0 (by omega)
      · exact h i0 i hgt hi (by omega)
  rw [e2, sumF_at (fun _ => f y), if_pos h0]
theorem sumF_rot (f : Nat → Int) (n k : Nat) : sumF (fun i => f ((i + k) % n)) n = sumF f n := by
  rcases Nat.eq_zero_or_pos n with h0 | h0
  · subst h0; rfl
  refine sumF_perm (c := fun i => (i + k) % n) (fun i _ => Nat.mod_lt _ h0) (fun i j hij hj h => ?_) f
  have h : (i + k) % n = (j + k) % n := h
  have h1 := Nat.div_add_mod (i + k) n
  have h2 := Nat.div_add_mod (j + k) n
  have h3 : (j + k) / n = (i + k) / n := by
    rcases Nat.lt_trichotomy ((j + k) / n) ((i + k) / n) with hh | hh | hh
    · have := Nat.mul_le_mul_left n (show (j + k) / n + 1 ≤ (i + k) / n by omega)
      rw [Nat.mul_add] at this; omega
    · exact hh
    · have := Nat.mul_le_mul_left n (show (i + k) / n + 1 ≤ (j + k) / n by omega)
      rw [Nat.mul_add] at this; omega
  rw [h3] at h2
  omega
theorem sumF_rev (f : Nat → Int) (n : Nat) : sumF (fun i => f (n - 1 - i)) n = sumF f n :=
  sumF_perm (c := fun i => n - 1 - i) (fun i hi => by (try simp only); omega) (fun i j hij hj h => by (try simp only at h); omega) f
theorem sumF_nonneg {f : Nat → Int} : ∀ {n : Nat}, (∀ i, i < n → 0 ≤ f i) → 0 ≤ sumF f n := by
  intro n
  induction n with
  | zero => intro _; simp [sumF]
  | succ n ih => intro h; have := ih fun i hi => h i (by omega); have := h n (by omega); simp only [sumF]; omega
theorem sumF_le {f : Nat → Int} {B : Int} : ∀ {n : Nat}, (∀ i, i < n → f i ≤ B) → sumF f n ≤ n * B := by
  intro n
  induction n with
  | zero => intro _; simp [sumF]
  | succ n ih => intro h; have := ih fun i hi => h i (by omega); have := h n (by omega); simp only [sumF]; push_cast; rw [Int.add_mul]; omega
/-! the sum of some cells -/
theorem sumAt_map (L : List Int) (c : Nat → Int) (m : Nat) : ∀ t, t ≤ m → sumAt L ((List.range m).map c) t = sumF (fun i => L.getD (c i).toNat 0) t := by
  intro t
  induction t with
  | zero => intro _; simp [sumAt, sumF]
  | succ t ih =>
    intro h
    rw [sumAt_succ _ _ _ (by simp; omega), ih (by omega), sumF]
    congr 2
    have : ((List.range m).map c).getD t 0 = c t := by
      rw [List.getD_eq_getElem?_getD, List.getElem?_map, List.getElem?_range (by omega)]; rfl
    rw [this]
theorem sumAt_colL (L : List Int) (n : Nat) (h : Nat → Int) : sumAt L (colL n h n) n = sumF (fun i => L.getD (n * i + (h i % n).toNat) 0) n := by
  unfold colL
  rw [sumAt_map _ _ _ _ (Nat.le_refl _)]
  refine sumF_congr fun i hi => ?_
  have h1 : 0 ≤ h i % n := Int.emod_nonneg _ (by omega)
  congr 1
  have : (n : Int) * i + h i % n = ((n * i + (h i % n).toNat : Nat) : Int) := by push_cast; rw [Int.toNat_of_nonneg h1]
  rw [this, Int.toNat_natCast]
theorem ls_row (n : Nat) (L : List Int) (i : Nat) (hi : i < n) : lineSum n L i = sumF (fun j => L.getD (n * i + j) 0) n := by
  unfold lineSum
  rw [lineAt_row hi]
  unfold rowL
  rw [sumAt_map _ _ _ _ (Nat.le_refl _)]
  refine sumF_congr fun j hj => ?_
  rfl
theorem ls_col (n : Nat) (L : List Int) (j : Nat) (hj : j < n) : lineSum n L (n + j) = sumF (fun i => L.getD (n * i + j) 0) n := by
  unfold lineSum
  rw [lineAt_col hj, sumAt_colL]
  refine sumF_congr fun i hi => ?_
  rw [Int.emod_eq_of_lt (by omega) (by omega), Int.toNat_natCast]
def upI (n k : Nat) : Nat := if k = 0 then 2 * n else 2 * n + 1 + k
def dnI (n k : Nat) : Nat := if k + 1 = n then 2 * n + 1 else 3 * n + 1 + k
theorem toNat_emod_cast (n : Nat) (hn : 1 ≤ n) (x : Int) (y : Nat) (k : Int) (h : x - y = n * k) : (x % n).toNat = y % n := by
  rw [emod_of_sub h, ← Int.natCast_emod, Int.toNat_natCast]
theorem ls_up (n : Nat) (L : List Int) (k : Nat) (hk : k < n) : lineSum n L (upI n k) = sumF (fun i => L.getD (n * i + (i + k) % n) 0) n := by
  unfold lineSum upI
  by_cases h : k = 0
  · subst h
    rw [if_pos rfl, lineAt_d1, sumAt_colL]
    refine sumF_congr fun i hi => ?_
    rw [toNat_emod_cast n (by omega) _ (i + 0) 0 (by simp)]
  · obtain ⟨q, rfl⟩ : ∃ q, k = q + 1 := ⟨k - 1, by omega⟩
    rw [if_neg h, show 2 * n + 1 + (q + 1) = 2 * n + 2 + q by omega, lineAt_b1 (by omega), sumAt_colL]
    refine sumF_congr fun i hi => ?_
    rw [toNat_emod_cast n (by omega) _ (i + (q + 1)) 0 (by simp)]
theorem ls_dn (n : Nat) (L : List Int) (k : Nat) (hk : k < n) : lineSum n L (dnI n k) = sumF (fun i => L.getD (n * i + (k + n - i) % n) 0) n := by
  unfold lineSum dnI
  by_cases h : k + 1 = n
  · rw [if_pos h, lineAt_d2, sumAt_colL]
    refine sumF_congr fun i hi => ?_
    rw [toNat_emod_cast n (by omega) _ (k + n - i) (-1) (by omega)]
  · rw [if_neg h, lineAt_b2 (by omega), sumAt_colL]
    refine sumF_congr fun i hi => ?_
    rw [toNat_emod_cast n (by omega) _ (k + n - i) (-1) (by omega)]
/-- the lines of the first groups have the sum -/
structure GoodK (n : Nat) (g : Int) (f : Nat → Nat → Int) (c : Int) : Prop where
  row : 1 ≤ g → ∀ i, i < n → sumF (fun j => f i j) n = c
  col : 1 ≤ g → ∀ j, j < n → sumF (fun i => f i j) n = c
  d1 : 2 ≤ g → sumF (fun i => f i i) n = c
  d2 : 2 ≤ g → sumF (fun i => f i (n - 1 - i)) n = c
  up : 3 ≤ g → ∀ k, k < n → sumF (fun i => f i ((i + k) % n)) n = c
  dn : 3 ≤ g → ∀ k, k < n → sumF (fun i => f i ((k + n - i) % n)) n = c
theorem dn_last (n : Nat) (f : Nat → Nat → Int) : sumF (fun i => f i ((n - 1 + n - i) % n)) n = sumF (fun i => f i (n - 1 - i)) n := by
  refine sumF_congr fun i hi => ?_
  congr 1
  rw [show n - 1 + n - i = (n - 1 - i) + n by omega, Nat.add_mod_right, Nat.mod_eq_of_lt (by omega)]
theorem up_first (n : Nat) (f : Nat → Nat → Int) : sumF (fun i => f i ((i + 0) % n)) n = sumF (fun i => f i i) n := by
  refine sumF_congr fun i hi => ?_
  rw [Nat.add_zero, Nat.mod_eq_of_lt hi]
def sqAt (n : Nat) (L : List Int) (i j : Nat) : Int := L.getD (n * i + j) 0
theorem badLine_iff {n : Nat} (hn : 1 ≤ n) (g : Int) (L : List Int) : badLine n g L = none ↔ ∀ i, i < lineCnt n g → lineSum n L i = constOf n := by
  unfold badLine
  rw [List.find?_eq_none]
  simp only [List.mem_range, Bool.not_eq_true', Bool.not_eq_false, lineOk, decide_eq_true_eq]
theorem line_cases {n i : Nat} (hi : i < 4 * n) : (i < n) ∨ (∃ j, j < n ∧ i = n + j) ∨ (∃ k, k < n ∧ i = upI n k) ∨ (∃ k, k < n ∧ i = dnI n k) := by
  by_cases h1 : i < n
  · exact .inl h1
  by_cases h2 : i < 2 * n
  · exact .inr (.inl ⟨i - n, by omega, by omega⟩)
  by_cases h3 : i = 2 * n
  · exact .inr (.inr (.inl ⟨0, by omega, by unfold upI; rw [if_pos rfl]; exact h3⟩))
  by_cases h4 : i = 2 * n + 1
  · exact .inr (.inr (.inr ⟨n - 1, by omega, by unfold dnI; rw [if_pos (by omega)]; exact h4⟩))
  by_cases h5 : i < 3 * n + 1
  · exact .inr (.inr (.inl ⟨i - (2 * n + 1), by omega, by unfold upI; rw [if_neg (by omega)]; omega⟩))
  · exact .inr (.inr (.inr ⟨i - (3 * n + 1), by omega, by unfold dnI; rw [if_neg (by omega)]; omega⟩))
theorem good_iff {n : Nat} (hn : 2 ≤ n ∨ n = 1) (g : Int) (L : List Int) : badLine n g L = none ↔ GoodK n g (sqAt n L) (constOf n) := by
  rw [badLine_iff (by omega)]
  have c1 : g < 1 → lineCnt n g = 0 := fun h => by unfold lineCnt; rw [if_pos h]
  have c2 : 1 ≤ g → 2 * n ≤ lineCnt n g := fun h => by unfold lineCnt; rw [if_neg (by omega)]; (repeat' split) <;> omega
  have c3 : 2 ≤ g → 2 * n + 2 ≤ lineCnt n g := fun h => by unfold lineCnt; rw [if_neg (by omega), if_neg (by omega)]; (repeat' split) <;> omega
  have c4 : 3 ≤ g → lineCnt n g = 4 * n := fun h => by unfold lineCnt; rw [if_neg (by omega), if_neg (by omega), if_neg (by omega)]
  have c5 : g < 2 → lineCnt n g ≤ 2 * n := fun h => by unfold lineCnt; (repeat' split) <;> omega
  have c6 : g < 3 → lineCnt n g ≤ 2 * n + 2 := fun h => by unfold lineCnt; (repeat' split) <;> omega
  constructor
  · intro h
    have hup : 3 ≤ g → ∀ k, k < n → sumF (fun i => sqAt n L i ((i + k) % n)) n = constOf n := fun hg k hk => by
      have := h (upI n k) (by rw [c4 hg]; unfold upI; split <;> omega)
      rwa [ls_up n L k hk] at this
    have hdn : 3 ≤ g → ∀ k, k < n → sumF (fun i => sqAt n L i ((k + n - i) % n)) n = constOf n := fun hg k hk => by
      have := h (dnI n k) (by rw [c4 hg]; unfold dnI; split <;> omega)
      rwa [ls_dn n L k hk] at this
    refine ⟨fun hg i hi => ?_, fun hg j hj => ?_, fun hg => ?_, fun hg => ?_, hup, hdn⟩
    · have := h i (by have := c2 hg; omega)
      rwa [ls_row n L i hi] at this
    · have := h (n + j) (by have := c2 hg; omega)
      rwa [ls_col n L j hj] at this
    · have := h (upI n 0) (by have := c3 hg; unfold upI; rw [if_pos rfl]; omega)
      rw [ls_up n L 0 (by omega)] at this
      rw [← up_first n (sqAt n L)]; exact this
    · have := h (dnI n (n - 1)) (by have := c3 hg; unfold dnI; rw [if_pos (by omega)]; omega)
      rw [ls_dn n L (n - 1) (by omega)] at this
      rw [← dn_last n (sqAt n L)]; exact this
  · intro h i hi
    have hg : 1 ≤ g := Classical.byContradiction fun hh => by rw [c1 (by omega)] at hi; omega
    have h4 : i < 4 * n := by
      by_cases h3 : 3 ≤ g
      · rw [c4 h3] at hi; exact hi
      · have := c6 (by omega)
        rcases hn with h2 | h2
        · omega
        · subst h2
          by_cases h22 : 2 ≤ g
          · have := c3 h22; omega
          · have := c5 (by omega); omega
    rcases line_cases h4 with h1 | ⟨j, h1, rfl⟩ | ⟨k, h1, rfl⟩ | ⟨k, h1, rfl⟩
    · rw [ls_row n L i h1]; exact h.row hg i h1
    · rw [ls_col n L j h1]; exact h.col hg j h1
    · rw [ls_up n L k h1]
      by_cases hk : k = 0
      · subst hk
        have h2 : 2 ≤ g := Classical.byContradiction fun hh => by have := c5 (by omega); unfold upI at hi; rw [if_pos rfl] at hi; omega
        have := h.d1 h2
        rw [← up_first n (sqAt n L)] at this; exact this
      · have h3 : 3 ≤ g := Classical.byContradiction fun hh => by have := c6 (by omega); unfold upI at hi; rw [if_neg hk] at hi; omega
        exact h.up h3 k h1
    · rw [ls_dn n L k h1]
      by_cases hk : k + 1 = n
      · obtain rfl : k = n - 1 := by omega
        have h2 : 2 ≤ g := Classical.byContradiction fun hh => by have := c5 (by omega); unfold dnI at hi; rw [if_pos (by omega)] at hi; omega
        have := h.d2 h2
        rw [← dn_last n (sqAt n L)] at this; exact this
      · have h3 : 3 ≤ g := Classical.byContradiction fun hh => by have := c6 (by omega); unfold dnI at hi; rw [if_neg hk] at hi; omega
        exact h.dn h3 k h1
/-! lists with each number once -/
theorem seen_iff (m : Nat) (l : List Int) (v : Nat) (hv : v < m) : ∀ i, i ≤ l.length → ((seenAt m l i).getD v false = true ↔ ∃ j, j < i ∧ (l.getD j 0).toNat = v) := by
  intro i
  induction i with
  | zero => intro _; simp only [seenAt, List.take_zero, List.foldl_nil]; rw [List.getD_eq_getElem?_getD, List.getElem?_replicate, if_pos hv]; simp
  | succ i ih =>
    intro hi
    rw [seenAt_succ m l i hi, List.getD_eq_getElem?_getD, List.getElem?_set]
    have hl := seenAt_len m l i
    by_cases e : (l.getD i 0).toNat = v
    · rw [if_pos e, if_pos (by omega)]
      simp only [Option.getD_some, true_iff]
      exact ⟨i, by omega, e⟩
    · rw [if_neg e, ← List.getD_eq_getElem?_getD, ih (by omega)]
      constructor
      · rintro ⟨j, h1, h2⟩; exact ⟨j, by omega, h2⟩
      · rintro ⟨j, h1, h2⟩
        by_cases ej : j = i
        · subst ej; exact absurd h2 e
        · exact ⟨j, by omega, h2⟩
theorem distinct_iff (lo : Int) (hlo : 0 ≤ lo) (m : Nat) (l : List Int) : distinctIn lo m l = true ↔ (∀ i, i < l.length → lo ≤ l.getD i 0 ∧ l.getD i 0 < m) ∧ ∀ i j, i < j → j < l.length → l.getD i 0 ≠ l.getD j 0 := by
  unfold distinctIn
  rw [List.all_eq_true]
  simp only [List.mem_range, okAt, Bool.and_eq_true, decide_eq_true_eq, Bool.not_eq_true']
  constructor
  · intro h
    refine ⟨fun i hi => (h i hi).1, fun i j hij hj e => ?_⟩
    have h2 := (h j hj).2
    have h3 := (h j hj).1
    have := (seen_iff m l (l.getD j 0).toNat (by omega) j (by omega)).2 ⟨i, hij, by rw [e]⟩
    rw [this] at h2; cases h2
  · rintro ⟨h1, h2⟩ i hi
    refine ⟨h1 i hi, ?_⟩
    have h3 := h1 i hi
    cases hs : (seenAt m l i).getD (l.getD i 0).toNat false with
    | false => rfl
    | true =>
      obtain ⟨j, hj, he⟩ := (seen_iff m l (l.getD i 0).toNat (by omega) i (by omega)).1 hs
      have h4 := h1 j (by omega)
      exact absurd (show l.getD j 0 = l.getD i 0 by omega) (h2 j i hj hi)
theorem isNorm_iff (l : List Int) : isNorm l = true ↔ (∀ i, i < l.length → 1 ≤ l.getD i 0 ∧ l.getD i 0 ≤ l.length) ∧ ∀ i j, i < j → j < l.length → l.getD i 0 ≠ l.getD j 0 := by
  unfold isNorm
  rw [distinct_iff 1 (by omega)]
  refine and_congr_left fun _ => ?_
  constructor
  · intro h i hi; have := h i hi; omega
  · intro h i hi; have := h i hi; omega
theorem isPerm_iff (l : List Int) : isPerm l = true ↔ (∀ i, i < l.length → 0 ≤ l.getD i 0 ∧ l.getD i 0 < l.length) ∧ ∀ i j, i < j → j < l.length → l.getD i 0 ≠ l.getD j 0 := by
  unfold isPerm
  rw [distinct_iff 0 (by omega)]
theorem norm_ne {l : List Int} (h : isNorm l = true) {i j : Nat} (hi : i < l.length) (hj : j < l.length) (hij : i ≠ j) : l.getD i 0 ≠ l.getD j 0 := by
  have h2 := ((isNorm_iff l).1 h).2
  rcases Nat.lt_or_gt_of_ne hij with h1 | h1
  · exact h2 i j h1 hj
  · exact fun e => h2 j i h1 hi e.symm
/-- squares made by a function -/
theorem madeL_get {n : Nat} {h : Nat → Nat → Int} {i j : Nat} (hi : i < n) (hj : j < n) : (madeL n h).getD (n * i + j) 0 = h i j := by
  have hlt : n * i + j < n * n := by
    have := Nat.mul_le_mul_left n (show i + 1 ≤ n by omega)
    rw [Nat.mul_add] at this; omega
  unfold madeL
  rw [List.getD_eq_getElem?_getD, List.getElem?_map, List.getElem?_range hlt]
  simp only [Option.map_some, Option.getD_some]
  rw [Nat.mul_add_div (by omega), Nat.div_eq_of_lt hj, Nat.mul_add_mod, Nat.mod_eq_of_lt hj, Nat.add_zero]
theorem GoodK.congr {n : Nat} {g : Int} {f f' : Nat → Nat → Int} {c : Int} (h : GoodK n g f c) (e : ∀ i j, i < n → j < n → f i j = f' i j) : GoodK n g f' c := by
  have key : ∀ p q : Nat → Nat, (∀ i, i < n → p i < n) → (∀ i, i < n → q i < n) → sumF (fun i => f (p i) (q i)) n = c → sumF (fun i => f' (p i) (q i)) n = c := fun p q hp hq h => by
    rw [← h]; exact sumF_congr fun i hi => (e _ _ (hp i hi) (hq i hi)).symm
  refine ⟨fun hg i hi => ?_, fun hg j hj => ?_, fun hg => ?_, fun hg => ?_, fun hg k hk => ?_, fun hg k hk => ?_⟩
  · exact key (fun _ => i) (fun j => j) (fun _ _ => hi) (fun j hj => hj) (h.row hg i hi)
  · exact key (fun i => i) (fun _ => j) (fun j hj => hj) (fun _ _ => hj) (h.col hg j hj)
  · exact key (fun i => i) (fun i => i) (fun j hj => hj) (fun j hj => hj) (h.d1 hg)
  · exact key (fun i => i) (fun i => n - 1 - i) (fun j hj => hj) (fun j hj => by (try simp only); omega) (h.d2 hg)
  · exact key (fun i => i) (fun i => (i + k) % n) (fun j hj => hj) (fun j hj => Nat.mod_lt _ (by omega)) (h.up hg k hk)
  · exact key (fun i => i) (fun i => (k + n - i) % n) (fun j hj => hj) (fun j hj => Nat.mod_lt _ (by omega)) (h.dn hg k hk)
end Go.Eng.Ytppflbccfdbogaa
namespace Go.Eng.Ytppflbccfdbogaa
open Go.Proofs
set_option maxRecDepth 100000
set_option maxHeartbeats 0
set_option linter.unusedVariables false
set_option linter.unusedSimpArgs false
def insN (x : Nat) : List Nat → List Nat
  | [] => [x]
  | y :: r => match Nat.ble x y with
    | true => x :: y :: r
    | false => y :: insN x r
def isortN : List Nat → List Nat
  | [] => []
  | x :: r => insN x (isortN r)
theorem insN_perm (x : Nat) : ∀ l, (insN x l).Perm (x :: l)
  | [] => .refl _
  | y :: r => by
    unfold insN
    split
    · exact .refl _
    · exact ((insN_perm x r).cons y).trans (.swap x y r)
theorem isortN_perm : ∀ l, (isortN l).Perm l
  | [] => .refl _
  | x :: r => (insN_perm x _).trans ((isortN_perm r).cons x)
theorem seen_false (m : Nat) (l : List Int) (i v : Nat) (h : ∀ x ∈ l.take i, x.toNat ≠ v) : (seenAt m l i).getD v false = false := by
  unfold seenAt
  have : ∀ (k : List Int) (s : List Bool), (∀ x ∈ k, x.toNat ≠ v) → s.getD v false = false → (k.foldl (fun s x => s.set x.toNat true) s).getD v false = false := by
    intro k
    induction k with
    | nil => intro s _ hs; exact hs
    | cons x r ih =>
      intro s hk hs
      refine ih _ (fun y hy => hk y (List.mem_cons_of_mem _ hy)) ?_
      rw [List.getD_eq_getElem?_getD, List.getElem?_set_ne (hk x List.mem_cons_self), ← List.getD_eq_getElem?_getD, hs]
  refine this _ _ h ?_
  rw [List.getD_eq_getElem?_getD, List.getElem?_replicate]
  split <;> rfl
theorem isNorm_sort {l : List Int} {N : Nat} (hl : l.length = N) (h : isortN (l.map Int.toNat) = List.range' 1 N) : isNorm l = true := by
  have hp := isortN_perm (l.map Int.toNat)
  rw [h] at hp
  have hn : (l.map Int.toNat).Nodup := hp.nodup_iff.1 List.nodup_range'
  unfold isNorm distinctIn
  refine all_true fun i hi => ?_
  have hm : (l[i]).toNat ∈ List.range' 1 N := hp.mem_iff.2 (List.mem_map_of_mem (List.getElem_mem _))
  rw [List.mem_range'_1] at hm
  have eg : l.getD i 0 = l[i] := by rw [List.getD_eq_getElem?_getD, List.getElem?_eq_getElem hi]; rfl
  unfold okAt
  rw [eg, seen_false]
  · rw [decide_eq_true (by omega)]; rfl
  · intro x hx
    obtain ⟨j, hj, rfl⟩ := List.mem_iff_getElem.1 hx
    rw [List.length_take] at hj
    rw [List.getElem_take]
    have := (List.pairwise_iff_getElem.1 hn) j i (by simp; omega) (by simp; omega) (by omega)
    simpa using this
def assocB (n : Nat) (l : List Int) : Bool := (List.range (n * n)).all fun i => decide (l.getD i 0 + l.getD (n * n - 1 - i) 0 = (n : Int) * n + 1)
def goodB (n : Nat) (g : Int) (l : List Int) : Bool := Nat.beq l.length (n * n) && (decide (isortN (l.map Int.toNat) = List.range' 1 (n * n)) && (badLine n g l).isNone)
structure GoodSq (n : Nat) (g : Int) (l : List Int) : Prop where
  len : l.length = n * n
  norm : isNorm l = true
  bad : badLine n g l = none
theorem goodB_ok {n : Nat} {g : Int} {l : List Int} (h : goodB n g l = true) : GoodSq n g l := by
  unfold goodB at h
  rw [Bool.and_eq_true, Bool.and_eq_true, decide_eq_true_eq] at h
  have h1 := Nat.eq_of_beq_eq_true h.1
  refine ⟨h1, isNorm_sort h1 h.2.1, ?_⟩
  have := h.2.2
  cases hb : badLine n g l with
  | none => rfl
  | some x => rw [hb] at this; simp at this
theorem bd_of {l : List Int} {lo hi : Int} (h : ∀ x ∈ l, lo ≤ x ∧ x ≤ hi) {k : Nat} (hk : k < l.length) : lo ≤ l.getD k 0 ∧ l.getD k 0 ≤ hi := by
  rw [List.getD_eq_getElem?_getD, List.getElem?_eq_getElem hk]
  exact h _ (List.getElem_mem _)
theorem flat_idx {n i j : Nat} (hi : i < n) (hj : j < n) : n * i + j < n * n := by
  have := Nat.mul_le_mul_left n (show i + 1 ≤ n by omega)
  rw [Nat.mul_add] at this; omega
/-- a normal square -/
structure NormG (r c : Int) (l : List Int) (n : Nat) : Prop where
  er : r = n
  ec : c = n
  en : 1 ≤ n ∧ n ≤ 16
  el : l.length = n * n
  eb : ∀ x ∈ l, 1 ≤ x ∧ x ≤ 256
theorem normG {r c : Int} {l : List Int} (h : normErr r c l = 0) : NormG r c l r.toNat := by
  obtain ⟨h1, h2⟩ := normErr_zero h
  obtain ⟨z1, z2, z3, z4, z5⟩ := sqErr_zero h1
  have hb := isNorm_bd h2
  refine ⟨by omega, by omega, by omega, ?_, fun x hx => by have := hb x hx; omega⟩
  have : ((r.toNat * r.toNat : Nat) : Int) = r * r := by push_cast; rw [Int.toNat_of_nonneg (by omega)]
  omega
end Go.Eng.Ytppflbccfdbogaa
namespace Go.Eng.Ytppflbccfdbogaa
open Go.Proofs
set_option maxRecDepth 100000
set_option maxHeartbeats 0
set_option linter.unusedVariables false
set_option linter.unusedSimpArgs false
def prodF (m n : Nat) (a b : List Int) (i j : Nat) : Int := (sqAt m a (i / n) (j / n) - 1) * n * n + sqAt n b (i % n) (j % n)
def prodL (m n : Nat) (a b : List Int) : List Int := madeL (m * n) (prodF m n a b)
theorem const2 (n : Nat) : 2 * constOf n = n * ((n : Int) * n + 1) := by
  unfold constOf
  have h : (n : Int) * ((n : Int) * n + 1) % 2 = 0 := by
    rcases Nat.mod_two_eq_zero_or_one n with h | h
    · obtain ⟨k, hk⟩ : ∃ k : Int, (n : Int) = 2 * k := ⟨(n : Int) / 2, by omega⟩
      rw [hk, Int.mul_assoc, Int.mul_emod_right]
    · obtain ⟨k, hk⟩ : ∃ k : Int, (n : Int) = 2 * k + 1 := ⟨(n : Int) / 2, by omega⟩
      have : (n : Int) * ((n : Int) * n + 1) = 2 * ((2 * k + 1) * (2 * k * k + 2 * k + 1)) := by rw [hk]; grind
      rw [this, Int.mul_emod_right]
  omega
theorem const_prod (m n : Nat) : constOf ((m * n : Nat) : Int) = (n : Int) * n * (n * (constOf m - m)) + m * constOf n := by
  have h1 := const2 (m * n)
  have h2 := const2 m
  have h3 := const2 n
  push_cast at h1 ⊢
  generalize constOf ((m : Int) * n) = x at *
  generalize constOf (m : Int) = y at *
  generalize constOf (n : Int) = z at *
  have e : 2 * ((n : Int) * n * (n * (y - m)) + m * z) = (n : Int) * n * (n * (2 * y - 2 * m)) + m * (2 * z) := by grind
  have e2 : 2 * x = 2 * ((n : Int) * n * (n * (y - m)) + m * z) := by rw [e, h1, h2, h3]; grind
  omega
theorem divmod_mk {n x y : Nat} (hy : y < n) : (x * n + y) / n = x ∧ (x * n + y) % n = y := by
  rw [Nat.mul_comm, Nat.mul_add_div (by omega), Nat.div_eq_of_lt hy, Nat.mul_add_mod, Nat.mod_eq_of_lt hy]
  exact ⟨by omega, rfl⟩
/-- the sum along a path -/
theorem prod_sum {m n : Nat} (hn : 1 ≤ n) (a b : List Int) (p q : Nat → Nat) (P Q : Nat → Nat → Nat) (p' q' : Nat → Nat) (hp : ∀ I i, I < m → i < n → p (I * n + i) = P I i * n + p' i ∧ p' i < n) (hq : ∀ I i, I < m → i < n → q (I * n + i) = Q I i * n + q' i ∧ q' i < n)
    (cA cB : Int) (hA : ∀ i, i < n → sumF (fun I => sqAt m a (P I i) (Q I i)) m = cA) (hB : sumF (fun i => sqAt n b (p' i) (q' i)) n = cB) :
    sumF (fun t => prodF m n a b (p t) (q t)) (m * n) = (n : Int) * n * (n * (cA - m)) + m * cB := by
  rw [sumF_block]
  have e1 : sumF (fun I => sumF (fun i => prodF m n a b (p (I * n + i)) (q (I * n + i))) n) m = sumF (fun I => sumF (fun i => (n : Int) * n * (sqAt m a (P I i) (Q I i) - 1) + sqAt n b (p' i) (q' i)) n) m :=
    sumF_congr fun I hI => sumF_congr fun i hi => by
      obtain ⟨h1, h2⟩ := hp I i hI hi
      obtain ⟨h3, h4⟩ := hq I i hI hi
      unfold prodF
      rw [h1, h3, (divmod_mk h2).1, (divmod_mk h2).2, (divmod_mk h4).1, (divmod_mk h4).2]
      grind
  rw [e1, sumF_swap]
  have e2 : sumF (fun i => sumF (fun I => (n : Int) * n * (sqAt m a (P I i) (Q I i) - 1) + sqAt n b (p' i) (q' i)) m) n = sumF (fun i => (n : Int) * n * (cA - m) + m * sqAt n b (p' i) (q' i)) n :=
    sumF_congr fun i hi => by
      rw [sumF_add, sumF_mul, sumF_sub, sumF_const, sumF_const, hA i hi]
      simp
  rw [e2, sumF_add, sumF_const, sumF_mul, hB]
  grind
theorem GoodK.upm {n : Nat} {f : Nat → Nat → Int} {c : Int} (h : GoodK n 3 f c) (hn : 1 ≤ n) (k : Nat) : sumF (fun i => f i ((i + k) % n)) n = c := by
  have := h.up (by omega) (k % n) (Nat.mod_lt _ (by omega))
  rw [← this]
  exact sumF_congr fun i hi => by rw [Nat.add_mod_mod]
theorem GoodK.dnm {n : Nat} {f : Nat → Nat → Int} {c : Int} (h : GoodK n 3 f c) (hn : 1 ≤ n) (k : Nat) : sumF (fun i => f i ((k + n - i) % n)) n = c := by
  have := h.dn (by omega) (k % n) (Nat.mod_lt _ (by omega))
  rw [← this]
  refine sumF_congr fun i hi => ?_
  congr 1
  rw [show k + n - i = k + (n - i) by omega, show k % n + n - i = k % n + (n - i) by omega, Nat.mod_add_mod]
theorem prod_good {m n : Nat} (hm : 1 ≤ m) (hn : 1 ≤ n) {a b : List Int} {g : Int} (hg : g ≤ 3) (ha : GoodK m g (sqAt m a) (constOf m)) (hb : GoodK n g (sqAt n b) (constOf n)) : GoodK (m * n) g (prodF m n a b) (constOf ((m * n : Nat) : Int)) := by
  rw [const_prod]
  have dm : ∀ x, x = x / n * n + x % n := fun x => by have := Nat.div_add_mod x n; rw [Nat.mul_comm]; omega
  have ml : ∀ x, x % n < n := fun x => Nat.mod_lt _ (by omega)
  have dl : ∀ {x}, x < m * n → x / n < m := fun {x} h => Nat.div_lt_of_lt_mul (by rw [Nat.mul_comm]; exact h)
  refine ⟨fun h1 r hr => ?_, fun h1 r hr => ?_, fun h2 => ?_, fun h2 => ?_, fun h3 k hk => ?_, fun h3 k hk => ?_⟩
  · exact prod_sum hn a b (fun _ => r) (fun t => t) (fun _ _ => r / n) (fun I _ => I) (fun _ => r % n) (fun i => i) (fun I i _ _ => ⟨dm r, ml r⟩) (fun I i _ hi => ⟨rfl, hi⟩) _ _ (fun i _ => ha.row h1 _ (dl hr)) (hb.row h1 _ (ml r))
  · exact prod_sum hn a b (fun t => t) (fun _ => r) (fun I _ => I) (fun _ _ => r / n) (fun i => i) (fun _ => r % n) (fun I i _ hi => ⟨rfl, hi⟩) (fun I i _ _ => ⟨dm r, ml r⟩) _ _ (fun i _ => ha.col h1 _ (dl hr)) (hb.col h1 _ (ml r))
  · exact prod_sum hn a b (fun t => t) (fun t => t) (fun I _ => I) (fun I _ => I) (fun i => i) (fun i => i) (fun I i _ hi => ⟨rfl, hi⟩) (fun I i _ hi => ⟨rfl, hi⟩) _ _ (fun i _ => ha.d1 h2) (hb.d1 h2)
  · refine prod_sum hn a b (fun t => t) (fun t => m * n - 1 - t) (fun I _ => I) (fun I _ => m - 1 - I) (fun i => i) (fun i => n - 1 - i) (fun I i _ hi => ⟨rfl, hi⟩) (fun I i hI hi => ⟨?_, by omega⟩) _ _ (fun i _ => ha.d2 h2) (hb.d2 h2)
    obtain ⟨q, rfl⟩ : ∃ q, m = I + 1 + q := ⟨m - (I + 1), by omega⟩
    rw [show I + 1 + q - 1 - I = q by omega, Nat.add_mul, Nat.add_mul]
    omega
  · have hg3 : g = 3 := by omega
    subst hg3
    refine prod_sum hn a b (fun t => t) (fun t => (t + k) % (m * n)) (fun I _ => I) (fun I i => (I + (k / n + (i + k % n) / n)) % m) (fun i => i) (fun i => (i + k % n) % n) (fun I i _ hi => ⟨rfl, hi⟩) (fun I i hI hi => ⟨?_, ml _⟩) _ _ (fun i _ => ha.upm hm _) (hb.upm hn _)
    have e1 : I * n + i + k = (I + (k / n + (i + k % n) / n)) * n + (i + k % n) % n := by
      have a1 := dm k
      have a2 := dm (i + k % n)
      rw [Nat.add_mul, Nat.add_mul]; omega
    rw [e1, Nat.mul_comm m n, Nat.mod_mul]
    rw [(divmod_mk (ml _)).1, (divmod_mk (ml _)).2, Nat.mul_comm n]; omega
  · have hg3 : g = 3 := by omega
    subst hg3
    refine prod_sum hn a b (fun t => t) (fun t => (k + m * n - t) % (m * n)) (fun I _ => I) (fun I i => ((k / n + m - 1 + (k % n + n - i) / n) + m - I) % m) (fun i => i) (fun i => (k % n + n - i) % n) (fun I i _ hi => ⟨rfl, hi⟩) (fun I i hI hi => ⟨?_, ml _⟩) _ _ (fun i _ => ha.dnm hm _) (hb.dnm hn _)
    have e1 : (k + m * n - (I * n + i)) + m * n = ((k / n + m - 1 + (k % n + n - i) / n) + m - I) * n + (k % n + n - i) % n := by
      have a1 := dm k
      have a2 := dm (k % n + n - i)
      obtain ⟨q, rfl⟩ : ∃ q, m = I + 1 + q := ⟨m - (I + 1), by omega⟩
      have a3 : ∀ X Y : Nat, X + (I + 1 + q) - 1 + Y + (I + 1 + q) - I = X + (Y + (I + q + 1 + q)) := fun X Y => by omega
      rw [a3]
      simp only [Nat.add_mul, Nat.one_mul]
      omega
    rw [← Nat.add_mod_right, e1, Nat.mul_comm m n, Nat.mod_mul, (divmod_mk (ml _)).1, (divmod_mk (ml _)).2, Nat.mul_comm n]; omega
theorem prod_norm {m n : Nat} (hm : 1 ≤ m) (hn : 1 ≤ n) {a b : List Int} (la : a.length = m * m) (lb : b.length = n * n) (ha : isNorm a = true) (hb : isNorm b = true) : isNorm (prodL m n a b) = true := by
  have hA := (isNorm_iff a).1 ha
  have hB := (isNorm_iff b).1 hb
  rw [la] at hA
  rw [lb] at hB
  have len : (prodL m n a b).length = m * n * (m * n) := by unfold prodL; simp [madeL]
  have dl : ∀ {x}, x < m * n → x / n < m := fun {x} h => Nat.div_lt_of_lt_mul (by rw [Nat.mul_comm]; exact h)
  have hat : ∀ k, k < m * n * (m * n) → (prodL m n a b).getD k 0 = prodF m n a b (k / (m * n)) (k % (m * n)) ∧ k / (m * n) < m * n ∧ k % (m * n) < m * n := fun k hk => by
    have h0 : 0 < m * n := Nat.mul_pos hm hn
    refine ⟨?_, Nat.div_lt_of_lt_mul hk, Nat.mod_lt _ h0⟩
    unfold prodL madeL
    rw [List.getD_eq_getElem?_getD, List.getElem?_map, List.getElem?_range hk]; rfl
  have ib : ∀ i j, i < m * n → j < m * n → (m * (i / n) + j / n < m * m) ∧ n * (i % n) + j % n < n * n := fun i j hi hj => ⟨flat_idx (dl hi) (dl hj), flat_idx (Nat.mod_lt _ (by omega)) (Nat.mod_lt _ (by omega))⟩
  have hnn : ((n * n : Nat) : Int) = (n : Int) * n := by push_cast; rfl
  have hmm : ((m * m : Nat) : Int) = (m : Int) * m := by push_cast; rfl
  have hnp : 1 ≤ (n : Int) * n := by rw [← hnn]; have := Nat.mul_pos hn hn; omega
  have val : ∀ i j, i < m * n → j < m * n → ∃ x y : Int, (0 ≤ x ∧ x < (m : Int) * m) ∧ (0 ≤ y ∧ y < (n : Int) * n) ∧ prodF m n a b i j = x * (n * n) + y + 1 ∧ x = a.getD (m * (i / n) + j / n) 0 - 1 ∧ y = b.getD (n * (i % n) + j % n) 0 - 1 := fun i j hi hj => by
    obtain ⟨i1, i2⟩ := ib i j hi hj
    have h1 := hA.1 _ i1
    have h2 := hB.1 _ i2
    refine ⟨_, _, by omega, by omega, ?_, rfl, rfl⟩
    unfold prodF sqAt
    rw [Int.mul_assoc]; omega
  rw [isNorm_iff, len]
  refine ⟨fun k hk => ?_, fun k' k hkk hk => ?_⟩
  · obtain ⟨e, h1, h2⟩ := hat k hk
    obtain ⟨x, y, hx, hy, hv, _⟩ := val _ _ h1 h2
    rw [e, hv]
    have b1 := Int.mul_nonneg hx.1 (show 0 ≤ (n : Int) * n by omega)
    have b2 := Int.mul_le_mul_of_nonneg_right (show x ≤ (m : Int) * m - 1 by omega) (show 0 ≤ (n : Int) * n by omega)
    have b3 : ((m * n * (m * n) : Nat) : Int) = (m : Int) * m * (n * n) := by push_cast; grind
    rw [Int.sub_mul] at b2
    omega
  · obtain ⟨e, h1, h2⟩ := hat k hk
    obtain ⟨e', h1', h2'⟩ := hat k' (by omega)
    obtain ⟨x, y, hx, hy, hv, ex, ey⟩ := val _ _ h1 h2
    obtain ⟨x', y', hx', hy', hv', ex', ey'⟩ := val _ _ h1' h2'
    rw [e, e', hv, hv']
    intro he
    have d0 := small_dvd (n := (n : Int) * n) (a := y - y') (by omega) ⟨x' - x, by rw [Int.mul_sub, Int.mul_comm _ x', Int.mul_comm _ x]; omega⟩ (by omega) (by omega)
    have d1 : (x - x') * ((n : Int) * n) = 0 := by rw [Int.sub_mul]; omega
    have d2 : x = x' := by rcases Int.mul_eq_zero.1 d1 with h | h <;> omega
    have f1 : m * (k / (m * n) / n) + k % (m * n) / n = m * (k' / (m * n) / n) + k' % (m * n) / n := Classical.byContradiction fun h =>
      norm_ne ha (by rw [la]; exact (ib _ _ h1 h2).1) (by rw [la]; exact (ib _ _ h1' h2').1) h (by omega)
    have f2 : n * (k / (m * n) % n) + k % (m * n) % n = n * (k' / (m * n) % n) + k' % (m * n) % n := Classical.byContradiction fun h =>
      norm_ne hb (by rw [lb]; exact (ib _ _ h1 h2).2) (by rw [lb]; exact (ib _ _ h1' h2').2) h (by omega)
    have uq : ∀ {s p q p' q' : Nat}, q < s → q' < s → s * p + q = s * p' + q' → p = p' ∧ q = q' := fun {s p q p' q'} hq hq' h => by
      have a1 := congrArg (· / s) h
      simp only [Nat.mul_add_div (show 0 < s by omega), Nat.div_eq_of_lt hq, Nat.div_eq_of_lt hq'] at a1
      have : p = p' := by omega
      subst this
      exact ⟨rfl, by omega⟩
    obtain ⟨g1, g2⟩ := uq (dl h2) (dl h2') f1
    obtain ⟨g3, g4⟩ := uq (Nat.mod_lt _ (by omega)) (Nat.mod_lt _ (by omega)) f2
    have z1 := Nat.div_add_mod (k / (m * n)) n
    have z2 := Nat.div_add_mod (k' / (m * n)) n
    have z3 := Nat.div_add_mod (k % (m * n)) n
    have z4 := Nat.div_add_mod (k' % (m * n)) n
    rw [g1, g3, z2] at z1
    rw [g2, g4, z4] at z3
    have z5 := Nat.div_add_mod k (m * n)
    have z6 := Nat.div_add_mod k' (m * n)
    rw [← z1, ← z3, z6] at z5
    omega
end Go.Eng.Ytppflbccfdbogaa
namespace Go.Eng.Ytppflbccfdbogaa
open Go.Proofs
set_option maxRecDepth 100000
set_option maxHeartbeats 0
set_option linter.unusedVariables false
set_option linter.unusedSimpArgs false
/-- places in the two squares -/
structure ProdI (m n : Nat) (a b : List Int) (i j : Nat) : Prop where
  ia : m * (i / n) + j / n < m * m
  ib : n * (i % n) + j % n < n * n
  va : 1 ≤ a.getD (m * (i / n) + j / n) 0 ∧ a.getD (m * (i / n) + j / n) 0 ≤ 256
  vb : 1 ≤ b.getD (n * (i % n) + j % n) 0 ∧ b.getD (n * (i % n) + j % n) 0 ≤ 256
theorem prodI {m n : Nat} {a b : List Int} {i j : Nat} (hn : 1 ≤ n) (la : a.length = m * m) (lb : b.length = n * n) (ha : ∀ x ∈ a, 1 ≤ x ∧ x ≤ 256) (hb : ∀ x ∈ b, 1 ≤ x ∧ x ≤ 256) (hi : i < m * n) (hj : j < m * n) : ProdI m n a b i j := by
  have dl : ∀ {x}, x < m * n → x / n < m := fun {x} h => Nat.div_lt_of_lt_mul (by rw [Nat.mul_comm]; exact h)
  have h1 := flat_idx (dl hi) (dl hj)
  have h2 := flat_idx (n := n) (i := i % n) (j := j % n) (Nat.mod_lt _ (by omega)) (Nat.mod_lt _ (by omega))
  exact ⟨h1, h2, bd_of ha (by omega), bd_of hb (by omega)⟩
structure ProdR (m n : Nat) (a b : List Int) (i j : Nat) : Prop where
  e1 : (i : Int) / n * m + (j : Int) / n = ((m * (i / n) + j / n : Nat) : Int)
  e2 : (i : Int) % n * n + (j : Int) % n = ((n * (i % n) + j % n : Nat) : Int)
  b1 : 0 ≤ (i : Int) / n * m ∧ (i : Int) / n * m ≤ 256
  b2 : 0 ≤ (i : Int) % n * n ∧ (i : Int) % n * n ≤ 256
  b3 : 0 ≤ (i : Int) / n ∧ (i : Int) / n ≤ 256
  b4 : 0 ≤ (j : Int) / n ∧ (j : Int) / n ≤ 256
  b5 : 0 ≤ (i : Int) % n ∧ (i : Int) % n ≤ 16
  b6 : 0 ≤ (j : Int) % n ∧ (j : Int) % n ≤ 16
  b7 : 0 ≤ (a.getD (m * (i / n) + j / n) 0 - 1) * n ∧ (a.getD (m * (i / n) + j / n) 0 - 1) * n ≤ 256 * 16
  b8 : 0 ≤ (a.getD (m * (i / n) + j / n) 0 - 1) * n * n ∧ (a.getD (m * (i / n) + j / n) 0 - 1) * n * n ≤ 4096 * 16
theorem prodR {m n : Nat} {a b : List Int} {i j : Nat} (hm : 1 ≤ m ∧ m ≤ 16) (hn : 1 ≤ n ∧ n ≤ 16) (P : ProdI m n a b i j) (hi : i < m * n) (hj : j < m * n) : ProdR m n a b i j := by
  obtain ⟨i1, i2, v1, v2⟩ := P
  have e1 : (i : Int) / n * m + (j : Int) / n = ((m * (i / n) + j / n : Nat) : Int) := by push_cast; rw [Int.mul_comm]
  have e2 : (i : Int) % n * n + (j : Int) % n = ((n * (i % n) + j % n : Nat) : Int) := by push_cast; rw [Int.mul_comm]
  have b3 : 0 ≤ (i : Int) / n ∧ (i : Int) / n ≤ 256 := by
    have h1 : i / n ≤ i := Nat.div_le_self _ _
    have := Nat.mul_le_mul hm.2 hn.2
    have h2 : 0 ≤ (i : Int) / n := Int.ediv_nonneg (by omega) (by omega)
    have h3 : (i : Int) / n ≤ i := Int.ediv_le_self _ (by omega)
    omega
  have b4 : 0 ≤ (j : Int) / n ∧ (j : Int) / n ≤ 256 := by
    have h1 : j / n ≤ j := Nat.div_le_self _ _
    have := Nat.mul_le_mul hm.2 hn.2
    have h2 : 0 ≤ (j : Int) / n := Int.ediv_nonneg (by omega) (by omega)
    have h3 : (j : Int) / n ≤ j := Int.ediv_le_self _ (by omega)
    omega
  have b1 : 0 ≤ (i : Int) / n * m ∧ (i : Int) / n * m ≤ 256 := by
    have : (i : Int) / n * m = ((m * (i / n) : Nat) : Int) := by push_cast; rw [Int.mul_comm]
    have := Nat.mul_le_mul hm.2 hm.2
    omega
  have b2 : 0 ≤ (i : Int) % n * n ∧ (i : Int) % n * n ≤ 256 := by
    have : (i : Int) % n * n = ((n * (i % n) : Nat) : Int) := by push_cast; rw [Int.mul_comm]
    have := Nat.mul_le_mul hn.2 hn.2
    omega
  have b5 : 0 ≤ (i : Int) % n ∧ (i : Int) % n ≤ 16 := ⟨Int.emod_nonneg _ (by omega), by have := Int.emod_lt_of_pos (i : Int) (show (0 : Int) < n by omega); omega⟩
  have b6 : 0 ≤ (j : Int) % n ∧ (j : Int) % n ≤ 16 := ⟨Int.emod_nonneg _ (by omega), by have := Int.emod_lt_of_pos (j : Int) (show (0 : Int) < n by omega); omega⟩
  have b7 := mul_bd (A := 256) (B := 16) (show 0 ≤ a.getD (m * (i / n) + j / n) 0 - 1 ∧ a.getD (m * (i / n) + j / n) 0 - 1 ≤ 256 by omega) (show 0 ≤ (n : Int) ∧ (n : Int) ≤ 16 by omega)
  have b8 := mul_bd (A := 4096) (B := 16) (show 0 ≤ (a.getD (m * (i / n) + j / n) 0 - 1) * n ∧ (a.getD (m * (i / n) + j / n) 0 - 1) * n ≤ 4096 by omega) (show 0 ≤ (n : Int) ∧ (n : Int) ≤ 16 by omega)
  exact ⟨e1, e2, b1, b2, b3, b4, b5, b6, b7, b8⟩
theorem c104_spec (m n : Nat) (ca cb : Int) (a b : List Int) (i j : Nat) (hm : 1 ≤ m ∧ m ≤ 16) (hn : 1 ≤ n ∧ n ≤ 16) (la : a.length = m * m) (lb : b.length = n * n) (ha : ∀ x ∈ a, 1 ≤ x ∧ x ≤ 256) (hb : ∀ x ∈ b, 1 ≤ x ∧ x ≤ 256) (hi : i < m * n) (hj : j < m * n) :
    PSpec Try.prog 104 ([] ++ [.int .i64 i, .int .i64 j] ++ [.ip (.pv [.int .i64 m, .int .i64 ca, .isl (.ints .i64 a) .none]) 0, .ip (.pv [.int .i64 n]) 0, .ip (.pv [.int .i64 m]) 0, .ip (.pv [.int .i64 n, .int .i64 cb, .isl (.ints .i64 b) .none]) 0]) (.int .i64 (prodF m n a b i j)) := by
  obtain ⟨i1, i2, v1, v2⟩ := prodI hn.1 la lb ha hb hi hj
  obtain ⟨e1, e2, b1, b2, b3, b4, b5, b6, b7, b8⟩ := prodR hm hn ⟨i1, i2, v1, v2⟩ hi hj
  have la' : (a.length : Int) = (m * m : Nat) := by rw [la]
  have lb' : (b.length : Int) = (n * n : Nat) := by rw [lb]
  refine pspec_of (md := 0) (rf := []) mixed tabOK noC_ok Try.func104 (by rfl) (by rfl) (by rfl) ?_
  repeat' (first | ((conv => whnf); refine And.intro ?_ ?_) | ((conv => whnf); with_reducible exact VC.mk rfl) | ((conv => whnf); exact Ok.mk) | ((conv => whnf); exact True.intro) | ((conv => whnf); refine Nx.mk ?_) | ((conv => whnf); refine Fin.mk ?_) | ((conv => whnf); intro _))
  all_goals ((try refine VC.mk ?_); (try simp only [CL.ncell, CL.cnt, Int.toNat_natCast, decide_eq_true_eq, decide_eq_false_iff_not, Bool.not_eq_true, Bool.not_false, Bool.not_true, and_self, and_true, true_and, te3b, te4b, te3s, te4s, Nat.mul_one, Nat.zero_add, List.length_cons, List.length_nil, Bool.false_eq_true, Bool.true_eq_false] at *); (try omega))
  all_goals (try simp only [e1, e2, Int.toNat_natCast] at *)
  all_goals (try omega)
  all_goals exact Sup.of rfl
def prodErr (ra ca : Int) (a : List Int) (rb cb : Int) (b : List Int) : Int := firstOf [normErr ra ca a, normErr rb cb b, if 16 < ra * rb then 20 else 0]
noncomputable def cpPd : CPT := cpAdd 88 (pureCC checkNormalP) (cpAdd 103 (pureCC madeP) cp2)
theorem cpPd_ok : CPOK Try.prog cpPd := cpAdd_ok (pureCC_ok checkNormal_ok) (cpAdd_ok (pureCC_ok made_ok) cp2_ok)
theorem product_good (m n : Nat) (a b : List Int) (ha : normErr m m a = 0) (hb : normErr n n b = 0) (hmn : m * n ≤ 16) : PSpec Try.prog 52 [gridV m m a, gridV n n b] (okGrid (m * n : Nat) (m * n : Nat) (prodL m n a b)) := by
  obtain ⟨_, _, a3, a4, a5⟩ := normG ha
  obtain ⟨_, _, b3, b4, b5⟩ := normG hb
  simp only [Int.toNat_natCast] at a3 a4 b3 b4
  have e : (m : Int) * n = ((m * n : Nat) : Int) := by push_cast; rfl
  unfold prodL
  refine pspec_of (md := 0) (rf := []) mixed tabOK cpPd_ok Try.func52 (by rfl) (by rfl) (by rfl) ?_
  repeat' (first | ((conv => whnf); refine And.intro ?_ ?_) | ((conv => whnf); with_reducible exact VC.mk rfl) | ((conv => whnf); exact Ok.mk) | ((conv => whnf); exact True.intro) | ((conv => whnf); refine Nx.mk ?_) | ((conv => whnf); refine Fin.mk ?_) | ((conv => whnf); intro hq; (try simp only [decide_eq_true_eq, decide_eq_false_iff_not, Bool.not_eq_true, Bool.not_eq_false, Bool.not_eq_true', Bool.not_eq_false', Bool.not_true, Bool.not_false, ite_true, ite_false] at hq); (try (exfalso; first | exact absurd hq (by decide) | omega))))
  all_goals ((try refine VC.mk ?_); (try simp only [CL.ncell, CL.cnt, Int.toNat_natCast, decide_eq_true_eq, decide_eq_false_iff_not, Bool.not_eq_true, Bool.not_false, Bool.not_true, and_self, and_true, true_and, te3b, te4b, te3s, te4s, Nat.mul_one, Nat.zero_add, List.length_cons, List.length_nil, Bool.false_eq_true, Bool.true_eq_false] at *); (try omega))
  all_goals (try (exfalso; simp_all [firstOf]; omega))
  refine ⟨prodF m n a b, fun i j hi hj => c104_spec m n m n a b i j a3 b3 a4 b4 a5 b5 (by omega) (by omega), ?_⟩
  rw [e]
  simp only [Int.toNat_natCast]
  repeat' (first | ((conv => whnf); refine And.intro ?_ ?_) | ((conv => whnf); with_reducible exact VC.mk rfl) | ((conv => whnf); exact Ok.mk) | ((conv => whnf); exact True.intro) | ((conv => whnf); refine Nx.mk ?_) | ((conv => whnf); refine Fin.mk ?_) | ((conv => whnf); intro hq; (try simp only [decide_eq_true_eq, decide_eq_false_iff_not, Bool.not_eq_true, Bool.not_eq_false, Bool.not_eq_true', Bool.not_eq_false', Bool.not_true, Bool.not_false, ite_true, ite_false] at hq); (try (exfalso; first | exact absurd hq (by decide) | omega))))
  all_goals ((try refine VC.mk ?_); (try simp only [CL.ncell, CL.cnt, Int.toNat_natCast, decide_eq_true_eq, decide_eq_false_iff_not, Bool.not_eq_true, Bool.not_false, Bool.not_true, and_self, and_true, true_and, te3b, te4b, te3s, te4s, Nat.mul_one, Nat.zero_add, List.length_cons, List.length_nil, Bool.false_eq_true, Bool.true_eq_false] at *); (try omega))
  all_goals (refine Sup.via ?_; repeat' (first | ((conv => whnf); refine And.intro ?_ ?_) | ((conv => whnf); with_reducible exact VC.mk rfl) | ((conv => whnf); exact Ok.mk) | ((conv => whnf); exact True.intro) | ((conv => whnf); refine Nx.mk ?_) | ((conv => whnf); refine Fin.mk ?_) | ((conv => whnf); intro _)); all_goals ((try refine VC.mk ?_); (try simp only [CL.ncell, CL.cnt, Int.toNat_natCast, decide_eq_true_eq, decide_eq_false_iff_not, Bool.not_eq_true, Bool.not_false, Bool.not_true, and_self, and_true, true_and, te3b, te4b, te3s, te4s, Nat.mul_one, Nat.zero_add, List.length_cons, List.length_nil, Bool.false_eq_true, Bool.true_eq_false] at *); (try omega)); all_goals (try (simp [CL.sub]; done)))
end Go.Eng.Ytppflbccfdbogaa
namespace Go.Eng.Ytppflbccfdbogaa
open Go.Proofs
set_option maxRecDepth 100000
set_option maxHeartbeats 0
set_option linter.unusedVariables false
set_option linter.unusedSimpArgs false
def magB (r c : Int) (l : List Int) (m : Int) (g : Int) : Bool := decide (r = m ∧ normErr r c l = 0) && (badLine r.toNat g l).isNone
theorem magic_gen (r c : Int) (l : List Int) (m : Int) (s : ByteArray) (hl : l.length ≤ 2000000) : PSpec Try.prog 27 [gridV r c l, .int .i64 m, .str s] (.bp (magB r c l m (gOf s))) := by
  unfold magB
  by_cases h : r = m ∧ normErr r c l = 0
  · obtain ⟨rfl, h⟩ := h
    have hg := normG h
    obtain ⟨e1, e2, e3, e4, e5⟩ := hg
    have hF := Fails_spec r.toNat c l s e3 e4 (fun x hx => by have := e5 x hx; omega)
    rw [failsV_eq, ← e1] at hF
    rw [decide_eq_true ⟨rfl, h⟩, Bool.true_and]
    cases hb : badLine r.toNat (gOf s) l with
    | none =>
      rw [hb] at hF
      have hC := cpAdd_ok (pureCC_ok (atC_ok (C := True) fun _ => hF)) (cpAdd_ok (pureCC_ok CheckNormal_ok) noC_ok)
      refine pspec_of (md := 1) (rf := []) mixed tabOK hC Try.func27 (by rfl) (by rfl) (by rfl) ?_
      repeat' (first | ((conv => whnf); refine And.intro ?_ ?_) | ((conv => whnf); with_reducible exact VC.mk rfl) | ((conv => whnf); exact Ok.mk) | ((conv => whnf); exact True.intro) | ((conv => whnf); refine Nx.mk ?_) | ((conv => whnf); refine Fin.mk ?_) | ((conv => whnf); intro hq; (try simp only [decide_eq_true_eq, decide_eq_false_iff_not, Bool.not_eq_true, Bool.not_eq_false, Bool.not_eq_true', Bool.not_eq_false', ite_true, ite_false] at hq); (try (exfalso; first | exact absurd hq (by decide) | omega))))
      all_goals ((try refine VC.mk ?_); (try simp only [CL.ncell, CL.cnt, Int.toNat_natCast, decide_eq_true_eq, decide_eq_false_iff_not, Bool.not_eq_true, Bool.not_false, Bool.not_true, and_self, and_true, true_and, te3b, te4b, te3s, te4s, Nat.mul_one, Nat.zero_add, List.length_cons, List.length_nil, Bool.false_eq_true, Bool.true_eq_false] at *); (try omega))
      all_goals first | exact sup_true | exact Sup.of rfl | (exfalso; omega)
    | some i =>
      rw [hb] at hF
      have hC := cpAdd_ok (pureCC_ok (atC_ok (C := True) fun _ => hF)) (cpAdd_ok (pureCC_ok CheckNormal_ok) noC_ok)
      refine pspec_of (md := 1) (rf := []) mixed tabOK hC Try.func27 (by rfl) (by rfl) (by rfl) ?_
      repeat' (first | ((conv => whnf); refine And.intro ?_ ?_) | ((conv => whnf); with_reducible exact VC.mk rfl) | ((conv => whnf); exact Ok.mk) | ((conv => whnf); exact True.intro) | ((conv => whnf); refine Nx.mk ?_) | ((conv => whnf); refine Fin.mk ?_) | ((conv => whnf); intro hq; (try simp only [decide_eq_true_eq, decide_eq_false_iff_not, Bool.not_eq_true, Bool.not_eq_false, Bool.not_eq_true', Bool.not_eq_false', ite_true, ite_false] at hq); (try (exfalso; first | exact absurd hq (by decide) | omega))))
      all_goals ((try refine VC.mk ?_); (try simp only [CL.ncell, CL.cnt, Int.toNat_natCast, decide_eq_true_eq, decide_eq_false_iff_not, Bool.not_eq_true, Bool.not_false, Bool.not_true, and_self, and_true, true_and, te3b, te4b, te3s, te4s, Nat.mul_one, Nat.zero_add, List.length_cons, List.length_nil, Bool.false_eq_true, Bool.true_eq_false] at *); (try omega))
      all_goals first | all_goals (refine Sup.via ?_; repeat' (first | ((conv => whnf); refine And.intro ?_ ?_) | ((conv => whnf); with_reducible exact VC.mk rfl) | ((conv => whnf); exact Ok.mk) | ((conv => whnf); exact True.intro) | ((conv => whnf); refine Nx.mk ?_) | ((conv => whnf); refine Fin.mk ?_) | ((conv => whnf); intro _)); all_goals ((try refine VC.mk ?_); (try simp only [CL.ncell, CL.cnt, Int.toNat_natCast, decide_eq_true_eq, decide_eq_false_iff_not, Bool.not_eq_true, Bool.not_false, Bool.not_true, and_self, and_true, true_and, te3b, te4b, te3s, te4s, Nat.mul_one, Nat.zero_add, List.length_cons, List.length_nil, Bool.false_eq_true, Bool.true_eq_false] at *); (try omega)); all_goals (try (simp [CL.sub]; done))) | exact Sup.of rfl | (exfalso; omega)
  · rw [decide_eq_false h, Bool.false_and]
    have hC := cpAdd_ok (pureCC_ok CheckNormal_ok) noC_ok
    refine pspec_of (md := 1) (rf := []) mixed tabOK hC Try.func27 (by rfl) (by rfl) (by rfl) ?_
    repeat' (first | ((conv => whnf); refine And.intro ?_ ?_) | ((conv => whnf); with_reducible exact VC.mk rfl) | ((conv => whnf); exact Ok.mk) | ((conv => whnf); exact True.intro) | ((conv => whnf); refine Nx.mk ?_) | ((conv => whnf); refine Fin.mk ?_) | ((conv => whnf); intro hq; (try simp only [decide_eq_true_eq, decide_eq_false_iff_not, Bool.not_eq_true, Bool.not_eq_false, Bool.not_eq_true', Bool.not_eq_false', ite_true, ite_false] at hq); (try (exfalso; first | exact absurd hq (by decide) | omega))))
    all_goals ((try refine VC.mk ?_); (try simp only [CL.ncell, CL.cnt, Int.toNat_natCast, decide_eq_true_eq, decide_eq_false_iff_not, Bool.not_eq_true, Bool.not_false, Bool.not_true, and_self, and_true, true_and, te3b, te4b, te3s, te4s, Nat.mul_one, Nat.zero_add, List.length_cons, List.length_nil, Bool.false_eq_true, Bool.true_eq_false] at *); (try omega))
    all_goals first | all_goals (refine Sup.via ?_; repeat' (first | ((conv => whnf); refine And.intro ?_ ?_) | ((conv => whnf); with_reducible exact VC.mk rfl) | ((conv => whnf); exact Ok.mk) | ((conv => whnf); exact True.intro) | ((conv => whnf); refine Nx.mk ?_) | ((conv => whnf); refine Fin.mk ?_) | ((conv => whnf); intro _)); all_goals ((try refine VC.mk ?_); (try simp only [CL.ncell, CL.cnt, Int.toNat_natCast, decide_eq_true_eq, decide_eq_false_iff_not, Bool.not_eq_true, Bool.not_false, Bool.not_true, and_self, and_true, true_and, te3b, te4b, te3s, te4s, Nat.mul_one, Nat.zero_add, List.length_cons, List.length_nil, Bool.false_eq_true, Bool.true_eq_false] at *); (try omega)); all_goals (try (simp [CL.sub]; done))) | (exfalso; exact h ⟨by omega, by omega⟩) | (exfalso; omega)
def magGP : PSp := fun xs K => match xs with
  | [.agg [.int .i64 r, .int .i64 c, .isl (.ints .i64 l) .none], .int .i64 m, .str s] => VC (l.length ≤ 2000000) ∧ K (.bp (magB r c l m (gOf s)))
  | _ => False
theorem magG_ok : POK Try.prog 27 magGP := by
  intro xs K h
  unfold magGP at h
  split at h
  · exact ⟨_, h.2, magic_gen _ _ _ _ _ h.1.get⟩
  · exact h.elim
theorem linesOk_iff (n : Nat) (g : Int) (l : List Int) : linesOk n g l = (badLine n g l).isNone := by
  unfold linesOk badLine
  rw [Bool.eq_iff_iff, List.all_eq_true, Option.isNone_iff_eq_none, List.find?_eq_none]
  constructor
  · intro h i hi; simp [h i hi]
  · intro h i hi; simpa using h i hi
end Go.Eng.Ytppflbccfdbogaa
namespace Go.Eng.Ytppflbccfdbogaa
open Go.Proofs
set_option maxRecDepth 100000
set_option maxHeartbeats 0
set_option linter.unusedVariables false
set_option linter.unusedSimpArgs false
theorem good_err {n : Nat} (hn : 1 ≤ n ∧ n ≤ 16) {g : Int} {l : List Int} (h : GoodSq n g l) : normErr n n l = 0 := by
  have hl : (l.length : Int) = (n : Int) * n := by rw [h.len]; push_cast; rfl
  unfold normErr
  rw [if_pos, if_pos h.norm]
  unfold sqErr
  rw [if_neg (by omega)]
theorem magic_yes (n : Nat) (g : Int) (l : List Int) (s : ByteArray) (hn : 1 ≤ n ∧ n ≤ 16) (hg : gOf s = g) (h : GoodSq n g l) : PSpec Try.prog 27 [gridV n n l, .int .i64 n, .str s] (.bp true) := by
  have he := good_err hn h
  have hF := Fails_spec n n l s hn h.len (fun x hx => by
    have h1 := isNorm_bd h.norm x hx
    have h2 := Nat.mul_le_mul hn.2 hn.2
    rw [h.len] at h1
    omega)
  rw [failsV_eq, hg, h.bad] at hF
  unfold failsL at hF
  rw [h.bad] at hF
  have hC := cpAdd_ok (pureCC_ok (atC_ok (C := True) fun _ => hF)) (cpAdd_ok (pureCC_ok CheckNormal_ok) noC_ok)
  refine pspec_of (md := 1) (rf := []) mixed tabOK hC Try.func27 (by rfl) (by rfl) (by rfl) ?_
  repeat' (first | ((conv => whnf); refine And.intro ?_ ?_) | ((conv => whnf); with_reducible exact VC.mk rfl) | ((conv => whnf); exact Ok.mk) | ((conv => whnf); exact True.intro) | ((conv => whnf); refine Nx.mk ?_) | ((conv => whnf); refine Fin.mk ?_) | ((conv => whnf); intro hq; (try simp only [decide_eq_true_eq, decide_eq_false_iff_not, Bool.not_eq_true, Bool.not_eq_false, Bool.not_eq_true', Bool.not_eq_false', ite_true, ite_false] at hq); (try (exfalso; first | exact absurd hq (by decide) | omega))))
  all_goals ((try refine VC.mk ?_); (try simp only [CL.ncell, CL.cnt, Int.toNat_natCast, decide_eq_true_eq, decide_eq_false_iff_not, Bool.not_eq_true, Bool.not_false, Bool.not_true, and_self, and_true, true_and, te3b, te4b, te3s, te4s, Nat.mul_one, Nat.zero_add, List.length_cons, List.length_nil, Bool.false_eq_true, Bool.true_eq_false] at *); (try omega))
  exact Sup.of rfl
structure MagOK (r c : Int) (l : List Int) (m g : Int) : Prop where
  ex : ∃ n : Nat, (1 ≤ n ∧ n ≤ 16) ∧ r = n ∧ c = n ∧ m = n ∧ GoodSq n g l
def magT : PSp := fun xs K => match xs with
  | [.agg [.int .i64 r, .int .i64 c, .isl (.ints .i64 l) .none], .int .i64 m, .str s] => VC (MagOK r c l m (gOf s)) ∧ K (.bool true)
  | _ => False
theorem magT_ok : POK Try.prog 27 magT := by
  intro xs K h
  unfold magT at h
  split at h
  · obtain ⟨⟨⟨n, hn, rfl, rfl, rfl, hg⟩⟩, h⟩ := h
    exact ⟨_, h, pspec_sup (magic_yes n _ _ _ hn rfl hg) sup_b⟩
  · exact h.elim
end Go.Eng.Ytppflbccfdbogaa
namespace Go.Eng.Ytppflbccfdbogaa
open Go.Proofs
set_option maxRecDepth 100000
set_option maxHeartbeats 0
set_option linter.unusedVariables false
set_option linter.unusedSimpArgs false
def evenB (d x : Int) : Bool := decide (2 * (x % d) = d - 1)
theorem all_take_succ (p : Int → Bool) (l : List Int) (i : Nat) (h : i < l.length) : (l.take (i + 1)).all p = ((l.take i).all p && p (l.getD i 0)) := by
  rw [List.take_add_one, List.all_append]
  simp [h]
theorem balanced_spec (l : List Int) (d : Int) (hd : 1 ≤ d ∧ d ≤ 1000) (hl : ∀ x ∈ l, 0 ≤ x ∧ x ≤ 1000) (hn : l.length ≤ 100000) : PSpec Try.prog 125 [.isl (.ints .i64 l) .none, .int .i64 d] (.bp (l.all (evenB d))) := by
  refine pspec_of (md := 0) (rf := []) mixed tabOK noC_ok Try.func125 (by rfl) (by rfl) (by rfl) ?_
  repeat' (first | ((conv => whnf); refine And.intro ?_ ?_) | ((conv => whnf); with_reducible exact VC.mk rfl) | ((conv => whnf); exact Ok.mk) | ((conv => whnf); exact True.intro) | ((conv => whnf); refine Nx.mk ?_) | ((conv => whnf); refine Fin.mk ?_) | ((conv => whnf); intro _))
  all_goals ((try refine VC.mk ?_); (try simp only [CL.ncell, CL.cnt, Int.toNat_natCast, decide_eq_true_eq, decide_eq_false_iff_not, Bool.not_eq_true, Bool.not_false, Bool.not_true, and_self, and_true, true_and, te3b, te4b, te3s, te4s, Nat.mul_one, Nat.zero_add, List.length_cons, List.length_nil, Bool.false_eq_true, Bool.true_eq_false] at *); (try omega))
  conv => whnf
  refine loop_of (X := Nat) (fun i => i ≤ l.length ∧ (l.take i).all (evenB d) = true) (fun i => [(5, .int .i64 i)]) (fun i => []) (fun i => l.length - i) 0 ⟨anyB_ok, mixed, tabOK, noC_ok, noY_ok⟩ (by rfl) ⟨by omega, by simp⟩ ?_ ?_
  · repeat' (first | ((conv => whnf); refine And.intro ?_ ?_) | ((conv => whnf); with_reducible exact VC.mk rfl) | ((conv => whnf); exact Ok.mk) | ((conv => whnf); exact True.intro) | ((conv => whnf); refine Nx.mk ?_) | ((conv => whnf); refine Fin.mk ?_) | ((conv => whnf); intro _))
    all_goals ((try refine VC.mk ?_); (try simp only [CL.ncell, CL.cnt, Int.toNat_natCast, decide_eq_true_eq, decide_eq_false_iff_not, Bool.not_eq_true, Bool.not_false, Bool.not_true, and_self, and_true, true_and, te3b, te4b, te3s, te4s, Nat.mul_one, Nat.zero_add, List.length_cons, List.length_nil, Bool.false_eq_true, Bool.true_eq_false] at *); (try omega))
  rintro i ⟨hi, hok⟩
  by_cases hlt : i < l.length
  · have hx := hl (l.getD i 0) (by rw [List.getD_eq_getElem?_getD, List.getElem?_eq_getElem hlt]; exact List.getElem_mem _)
    have hm1 : 0 ≤ l.getD i 0 % d := Int.emod_nonneg _ (by omega)
    have hm2 : l.getD i 0 % d < d := Int.emod_lt_of_pos _ (by omega)
    have e1 := all_take_succ (evenB d) l i hlt
    repeat' (first | ((conv => whnf); refine And.intro ?_ ?_) | ((conv => whnf); with_reducible exact VC.mk rfl) | ((conv => whnf); exact Ok.mk) | ((conv => whnf); exact True.intro) | ((conv => whnf); refine Nx.mk ?_) | ((conv => whnf); refine Fin.mk ?_) | ((conv => whnf); intro _))
    all_goals ((try refine VC.mk ?_); (try simp only [CL.ncell, CL.cnt, Int.toNat_natCast, decide_eq_true_eq, decide_eq_false_iff_not, Bool.not_eq_true, Bool.not_false, Bool.not_true, and_self, and_true, true_and, te3b, te4b, te3s, te4s, Nat.mul_one, Nat.zero_add, List.length_cons, List.length_nil, Bool.false_eq_true, Bool.true_eq_false] at *); (try omega))
    · rename_i hb
      have : l.all (evenB d) = false := by
        rw [List.all_eq_false]
        exact ⟨l.getD i 0, by rw [List.getD_eq_getElem?_getD, List.getElem?_eq_getElem hlt]; exact List.getElem_mem _, by unfold evenB; simpa using hb⟩
      rw [this]; all_goals (first | (refine Sup.of ?_; first | rfl | (simp [*, resOf]; done)) | (refine Sup.via ?_; repeat' (first | ((conv => whnf); refine And.intro ?_ ?_) | ((conv => whnf); with_reducible exact VC.mk rfl) | ((conv => whnf); exact Ok.mk) | ((conv => whnf); exact True.intro) | ((conv => whnf); refine Nx.mk ?_) | ((conv => whnf); refine Fin.mk ?_) | ((conv => whnf); intro _)); all_goals ((try refine VC.mk ?_); (try simp only [CL.ncell, CL.cnt, Int.toNat_natCast, decide_eq_true_eq, decide_eq_false_iff_not, Bool.not_eq_true, Bool.not_false, Bool.not_true, and_self, and_true, true_and, te3b, te4b, te3s, te4s, Nat.mul_one, Nat.zero_add, List.length_cons, List.length_nil, Bool.false_eq_true, Bool.true_eq_false] at *); (try omega)); all_goals (try (simp [CL.sub]; done))))
    · rename_i hb
      refine ⟨i + 1, [], ⟨⟨by omega, by rw [e1, hok]; unfold evenB; simpa using hb⟩, by omega⟩, ?_⟩
      repeat' (first | ((conv => whnf); refine And.intro ?_ ?_) | ((conv => whnf); with_reducible exact VC.mk rfl) | ((conv => whnf); exact Ok.mk) | ((conv => whnf); exact True.intro) | ((conv => whnf); refine Nx.mk ?_) | ((conv => whnf); refine Fin.mk ?_) | ((conv => whnf); intro _))
      all_goals ((try refine VC.mk ?_); (try simp only [CL.ncell, CL.cnt, Int.toNat_natCast, decide_eq_true_eq, decide_eq_false_iff_not, Bool.not_eq_true, Bool.not_false, Bool.not_true, and_self, and_true, true_and, te3b, te4b, te3s, te4s, Nat.mul_one, Nat.zero_add, List.length_cons, List.length_nil, Bool.false_eq_true, Bool.true_eq_false] at *); (try omega))
  · have : l.length = i := by omega
    subst this
    rw [List.take_length] at hok
    rw [hok]
    repeat' (first | ((conv => whnf); refine And.intro ?_ ?_) | ((conv => whnf); with_reducible exact VC.mk rfl) | ((conv => whnf); exact Ok.mk) | ((conv => whnf); exact True.intro) | ((conv => whnf); refine Nx.mk ?_) | ((conv => whnf); refine Fin.mk ?_) | ((conv => whnf); intro _))
    all_goals ((try refine VC.mk ?_); (try simp only [CL.ncell, CL.cnt, Int.toNat_natCast, decide_eq_true_eq, decide_eq_false_iff_not, Bool.not_eq_true, Bool.not_false, Bool.not_true, and_self, and_true, true_and, te3b, te4b, te3s, te4s, Nat.mul_one, Nat.zero_add, List.length_cons, List.length_nil, Bool.false_eq_true, Bool.true_eq_false] at *); (try omega))
    all_goals (first | (refine Sup.of ?_; first | rfl | (simp [*, resOf]; done)) | (refine Sup.via ?_; repeat' (first | ((conv => whnf); refine And.intro ?_ ?_) | ((conv => whnf); with_reducible exact VC.mk rfl) | ((conv => whnf); exact Ok.mk) | ((conv => whnf); exact True.intro) | ((conv => whnf); refine Nx.mk ?_) | ((conv => whnf); refine Fin.mk ?_) | ((conv => whnf); intro _)); all_goals ((try refine VC.mk ?_); (try simp only [CL.ncell, CL.cnt, Int.toNat_natCast, decide_eq_true_eq, decide_eq_false_iff_not, Bool.not_eq_true, Bool.not_false, Bool.not_true, and_self, and_true, true_and, te3b, te4b, te3s, te4s, Nat.mul_one, Nat.zero_add, List.length_cons, List.length_nil, Bool.false_eq_true, Bool.true_eq_false] at *); (try omega)); all_goals (try (simp [CL.sub]; done))))
def balancedP : PSp := fun xs K => match xs with
  | [.isl (.ints .i64 l) .none, .int .i64 d] => VC ((1 ≤ d ∧ d ≤ 1000) ∧ (∀ x ∈ l, 0 ≤ x ∧ x ≤ 1000) ∧ l.length ≤ 100000) ∧ K (.bp (l.all (evenB d)))
  | _ => False
theorem balanced_ok : POK Try.prog 125 balancedP := by
  intro xs K h
  unfold balancedP at h
  split at h
  · exact ⟨_, h.2, balanced_spec _ _ h.1.get.1 h.1.get.2.1 h.1.get.2.2⟩
  · exact h.elim
theorem sup_bool {b c : Bool} (h : c = b) : Sup (resOf [PV.bool b]) (.bp c) := by subst h; exact ⟨fun h => by cases h; exact .bp _ _⟩
theorem sup_bp' {b c : Bool} (h : c = b) : Sup (resOf [PV.bp b]) (.bp c) := by subst h; exact ⟨fun h => h⟩
def digA (n : Int) (cs : List Int) (c : Int) : Int := (cs.getD c.toNat 0 - 1) % n
def digB (n : Int) (cs : List Int) (c : Int) : Int := (cs.getD c.toNat 0 - 1) / n
def lvlB (n : Int) (cs l : List Int) (u v : Int) : Bool := (l.map (digA n cs)).all (evenB (gcdN n v)) && (l.map (digB n cs)).all (evenB (gcdN n u))
noncomputable def cpLv : CPT := cpAdd 80 (pureCC ModP) (cpAdd 124 (pureCC GcdP) (cpAdd 125 (pureCC balancedP) noC))
theorem cpLv_ok : CPOK Try.prog cpLv := cpAdd_ok (pureCC_ok Mod_ok) (cpAdd_ok (pureCC_ok Gcd_ok) (cpAdd_ok (pureCC_ok balanced_ok) noC_ok))
theorem map_take_succ {f : Int → Int} {l : List Int} {i : Nat} (h : i < l.length) : (l.take (i + 1)).map f = (l.take i).map f ++ [f (l.getD i 0)] := by
  rw [List.take_add_one, List.map_append]
  simp [h]
theorem level_spec (n s0 s1 x0 x1 b0 b1 r c u v : Int) (cs l : List Int) (hn : 1 ≤ n ∧ n ≤ 16) (hu : -1000 ≤ u ∧ u ≤ 1000) (hv : -1000 ≤ v ∧ v ≤ 1000) (hl : ∀ x ∈ l, (0 ≤ x ∧ x < cs.length) ∧ 1 ≤ cs.getD x.toNat 0 ∧ cs.getD x.toNat 0 ≤ 256) (hll : l.length ≤ 1000) :
    PSpec Try.prog 82 [stepV n s0 s1 x0 x1 b0 b1, gridV r c cs, .isl (.ints .i64 l) .none, .int .i64 u, .int .i64 v] (.bp (lvlB n cs l u v)) := by
  have g1 := @gcdN_bd n v hn
  have g2 := @gcdN_bd n u hn
  have m1 : 0 ≤ v % n ∧ v % n < n := ⟨Int.emod_nonneg _ (by omega), Int.emod_lt_of_pos _ (by omega)⟩
  have m2 : 0 ≤ u % n ∧ u % n < n := ⟨Int.emod_nonneg _ (by omega), Int.emod_lt_of_pos _ (by omega)⟩
  have q1 : ((Int.gcd (v % n) n : Nat) : Int) = gcdN n v := rfl
  have q2 : ((Int.gcd (u % n) n : Nat) : Int) = gcdN n u := rfl
  refine pspec_of (md := 0) (rf := []) mixed tabOK cpLv_ok Try.func82 (by rfl) (by rfl) (by rfl) ?_
  repeat' (first | ((conv => whnf); refine And.intro ?_ ?_) | ((conv => whnf); with_reducible exact VC.mk rfl) | ((conv => whnf); exact Ok.mk) | ((conv => whnf); exact True.intro) | ((conv => whnf); refine Nx.mk ?_) | ((conv => whnf); refine Fin.mk ?_) | ((conv => whnf); intro _))
  all_goals ((try refine VC.mk ?_); (try simp only [CL.ncell, CL.cnt, Int.toNat_natCast, decide_eq_true_eq, decide_eq_false_iff_not, Bool.not_eq_true, Bool.not_false, Bool.not_true, and_self, and_true, true_and, te3b, te4b, te3s, te4s, Nat.mul_one, Nat.zero_add, List.length_cons, List.length_nil, Bool.false_eq_true, Bool.true_eq_false] at *); (try omega))
  simp only [q1, q2]
  conv => whnf
  refine loop_of (X := Nat) (fun i => i ≤ l.length) (fun i => [(15, .int .i64 i), (13, .isl (.ints .i64 ((l.take i).map (digA n cs))) (.own 2)), (14, .isl (.ints .i64 ((l.take i).map (digB n cs))) (.own 3))]) (fun i => [(2, .tok 1 i), (3, .tok 1 i)]) (fun i => l.length - i) 0 ⟨anyB_ok, mixed, tabOK, cpLv_ok, noY_ok⟩ (by rfl) (by omega) ?_ ?_
  · repeat' (first | ((conv => whnf); refine And.intro ?_ ?_) | ((conv => whnf); with_reducible exact VC.mk rfl) | ((conv => whnf); exact Ok.mk) | ((conv => whnf); exact True.intro) | ((conv => whnf); refine Nx.mk ?_) | ((conv => whnf); refine Fin.mk ?_) | ((conv => whnf); intro _))
    all_goals ((try refine VC.mk ?_); (try simp only [CL.ncell, CL.cnt, Int.toNat_natCast, decide_eq_true_eq, decide_eq_false_iff_not, Bool.not_eq_true, Bool.not_false, Bool.not_true, and_self, and_true, true_and, te3b, te4b, te3s, te4s, Nat.mul_one, Nat.zero_add, List.length_cons, List.length_nil, Bool.false_eq_true, Bool.true_eq_false] at *); (try omega))
    all_goals (try (simp; done))
  intro i hi
  have e2 : ((l.take i).map (digA n cs)).length = i := by simp; omega
  have e3 : ((l.take i).map (digB n cs)).length = i := by simp; omega
  by_cases hlt : i < l.length
  · have hx := hl (l.getD i 0) (by rw [List.getD_eq_getElem?_getD, List.getElem?_eq_getElem hlt]; exact List.getElem_mem _)
    have e4 := map_take_succ (f := digA n cs) hlt
    have e5 := map_take_succ (f := digB n cs) hlt
    have h4 : 0 ≤ (cs.getD (l.getD i 0).toNat 0 - 1) / n := Int.ediv_nonneg (by omega) (by omega)
    have h5 := Int.ediv_le_self (a := cs.getD (l.getD i 0).toNat 0 - 1) n (by omega)
    repeat' (first | ((conv => whnf); refine And.intro ?_ ?_) | ((conv => whnf); with_reducible exact VC.mk rfl) | ((conv => whnf); exact Ok.mk) | ((conv => whnf); exact True.intro) | ((conv => whnf); refine Nx.mk ?_) | ((conv => whnf); refine Fin.mk ?_) | ((conv => whnf); intro _))
    all_goals ((try refine VC.mk ?_); (try simp only [CL.ncell, CL.cnt, Int.toNat_natCast, decide_eq_true_eq, decide_eq_false_iff_not, Bool.not_eq_true, Bool.not_false, Bool.not_true, and_self, and_true, true_and, te3b, te4b, te3s, te4s, Nat.mul_one, Nat.zero_add, List.length_cons, List.length_nil, Bool.false_eq_true, Bool.true_eq_false] at *); (try omega))
    all_goals (try (simp only [List.length_append, List.length_cons, List.length_nil]; omega))
    refine ⟨i + 1, [], ⟨by omega, by omega⟩, ?_⟩
    repeat' (first | ((conv => whnf); refine And.intro ?_ ?_) | ((conv => whnf); with_reducible exact VC.mk rfl) | ((conv => whnf); exact Ok.mk) | ((conv => whnf); exact True.intro) | ((conv => whnf); refine Nx.mk ?_) | ((conv => whnf); refine Fin.mk ?_) | ((conv => whnf); intro _))
    all_goals ((try refine VC.mk ?_); (try simp only [CL.ncell, CL.cnt, Int.toNat_natCast, decide_eq_true_eq, decide_eq_false_iff_not, Bool.not_eq_true, Bool.not_false, Bool.not_true, and_self, and_true, true_and, te3b, te4b, te3s, te4s, Nat.mul_one, Nat.zero_add, List.length_cons, List.length_nil, Bool.false_eq_true, Bool.true_eq_false] at *); (try omega))
    all_goals first | (rw [e4]; rfl) | (rw [e5]; rfl)
  · have : l.length = i := by omega
    subst this
    rw [List.take_length] at e2 e3
    simp only [List.take_length]
    have k1 : ∀ x ∈ l.map (digA n cs), 0 ≤ x ∧ x ≤ 1000 := fun x hx => by
      obtain ⟨y, hy, rfl⟩ := List.mem_map.1 hx
      have h6 := hl y hy
      have h7 : 0 ≤ (cs.getD y.toNat 0 - 1) % n := Int.emod_nonneg _ (by omega)
      have h8 : (cs.getD y.toNat 0 - 1) % n < n := Int.emod_lt_of_pos _ (by omega)
      unfold digA; omega
    have k2 : ∀ x ∈ l.map (digB n cs), 0 ≤ x ∧ x ≤ 1000 := fun x hx => by
      obtain ⟨y, hy, rfl⟩ := List.mem_map.1 hx
      have h6 := hl y hy
      have h7 : 0 ≤ (cs.getD y.toNat 0 - 1) / n := Int.ediv_nonneg (by omega) (by omega)
      have h8 := Int.ediv_le_self (a := cs.getD y.toNat 0 - 1) n (by omega)
      unfold digB; omega
    unfold lvlB
    repeat' (first | ((conv => whnf); refine And.intro ?_ ?_) | ((conv => whnf); with_reducible exact VC.mk rfl) | ((conv => whnf); exact Ok.mk) | ((conv => whnf); exact True.intro) | ((conv => whnf); refine Nx.mk ?_) | ((conv => whnf); refine Fin.mk ?_) | ((conv => whnf); intro _))
    all_goals ((try refine VC.mk ?_); (try simp only [CL.ncell, CL.cnt, Int.toNat_natCast, decide_eq_true_eq, decide_eq_false_iff_not, Bool.not_eq_true, Bool.not_false, Bool.not_true, and_self, and_true, true_and, te3b, te4b, te3s, te4s, Nat.mul_one, Nat.zero_add, List.length_cons, List.length_nil, Bool.false_eq_true, Bool.true_eq_false] at *); (try omega))
    · exact ⟨by omega, k1, by omega⟩
    · exact ⟨by omega, k2, by omega⟩
    · rename_i _ h; refine sup_bp' ?_; simp_all
    · rename_i h; refine sup_bool ?_; rw [h]; rfl
def levelP : PSp := fun xs K => match xs with
  | [.agg [.int .i64 n, .int .i64 s0, .int .i64 s1, .int .i64 x0, .int .i64 x1, .int .i64 b0, .int .i64 b1], .agg [.int .i64 r, .int .i64 c, .isl (.ints .i64 cs) .none], .isl (.ints .i64 l) .none, .int .i64 u, .int .i64 v] => VC ((1 ≤ n ∧ n ≤ 16) ∧ (-1000 ≤ u ∧ u ≤ 1000) ∧ (-1000 ≤ v ∧ v ≤ 1000) ∧ (∀ x ∈ l, (0 ≤ x ∧ x < cs.length) ∧ 1 ≤ cs.getD x.toNat 0 ∧ cs.getD x.toNat 0 ≤ 256) ∧ l.length ≤ 1000) ∧ K (.bp (lvlB n cs l u v))
  | _ => False
theorem level_ok : POK Try.prog 82 levelP := by
  intro xs K h
  unfold levelP at h
  split at h
  · exact ⟨_, h.2, level_spec _ _ _ _ _ _ _ _ _ _ _ _ _ h.1.get.1 h.1.get.2.1 h.1.get.2.2.1 h.1.get.2.2.2.1 h.1.get.2.2.2.2⟩
  · exact h.elim
/-! Admits -/
def rMagB (n s0 s1 x0 x1 b0 b1 : Int) : Bool := isSemi n x0 x1 b0 b1 && (lvlB n (sqL n s0 s1 x0 x1 b0 b1) (colL n.toNat (fun i => 0 + (i : Int) * 1) n.toNat) (x0 - x1) (b0 - b1) && lvlB n (sqL n s0 s1 x0 x1 b0 b1) (colL n.toNat (fun i => n - 1 + (i : Int) * (n - 1)) n.toNat) (x0 + x1) (b0 + b1))
def rAdmB (n s0 s1 x0 x1 b0 b1 : Int) (s : ByteArray) : Bool :=
  if s = kSq then isSq n (x0 % n) (x1 % n) (b0 % n) (b1 % n) else if s = kSemi then isSemi n (x0 % n) (x1 % n) (b0 % n) (b1 % n) else if s = kMag then rMagB n (s0 % n) (s1 % n) (x0 % n) (x1 % n) (b0 % n) (b1 % n)
  else isPan n (x0 % n) (x1 % n) (b0 % n) (b1 % n)
noncomputable def cpAd : CPT := cpAdd 80 (pureCC ModP) (cpAdd 81 (pureCC primeP) (cpAdd 50 (pureCC rUniformP) (cpAdd 83 (pureCC diagP) (cpAdd 82 (pureCC levelP) noC))))
theorem cpAd_ok : CPOK Try.prog cpAd := cpAdd_ok (pureCC_ok Mod_ok) (cpAdd_ok (pureCC_ok prime_ok) (cpAdd_ok (pureCC_ok rUniform_ok) (cpAdd_ok (pureCC_ok diag_ok) (cpAdd_ok (pureCC_ok level_ok) noC_ok))))
theorem rAdmits_spec (n s0 s1 x0 x1 b0 b1 : Int) (s : ByteArray) (hn : 1 ≤ n ∧ n ≤ 16) (h : ∀ x ∈ [s0, s1, x0, x1, b0, b1], -999999999 ≤ x ∧ x ≤ 999999999) (hk : kindErr s = 0) :
    PSpec Try.prog 23 [stepV n s0 s1 x0 x1 b0 b1, .str s] (.bp (rAdmB n s0 s1 x0 x1 b0 b1 s)) := by
  have hh := h
  simp only [List.mem_cons, List.not_mem_nil, or_false, forall_eq_or_imp, forall_eq] at h
  obtain ⟨h1, h2, h3, h4, h5, h6⟩ := h
  have md : ∀ y : Int, 0 ≤ y % n ∧ y % n < n := fun y => ⟨Int.emod_nonneg _ (by omega), Int.emod_lt_of_pos _ (by omega)⟩
  have a1 := md x0
  have a2 := md x1
  have a3 := md b0
  have a4 := md b1
  have m1 := mul_bd (A := 16) (B := 16) (show 0 ≤ x0 % n ∧ x0 % n ≤ 16 by omega) (show 0 ≤ b1 % n ∧ b1 % n ≤ 16 by omega)
  have m2 := mul_bd (A := 16) (B := 16) (show 0 ≤ x1 % n ∧ x1 % n ≤ 16 by omega) (show 0 ≤ b0 % n ∧ b0 % n ≤ 16 by omega)
  have hks : s = kSq ∨ s = kSemi ∨ s = kMag ∨ s = kPan := by
    unfold kindErr at hk
    split at hk
    · assumption
    · omega
  have q : ∀ y : Int, decide (Int.gcd (y % n) n = 1) = coprime n y := fun y => rfl
  have hnn := mul_bd (show 0 ≤ n ∧ n ≤ 16 by omega) (show 0 ≤ n ∧ n ≤ 16 by omega)
  obtain ⟨L, hL⟩ : ∃ L, gAt (cellS n s0 s1 x0 x1 b0 b1) (n * n).toNat (n * n).toNat = L := ⟨_, rfl⟩
  have hL2 : sqL n (s0 % n) (s1 % n) (x0 % n) (x1 % n) (b0 % n) (b1 % n) = L := hL
  have hLl : (L.length : Int) = n * n := by rw [← hL, gAt_len]; omega
  have hfull : coprime n (x0 % n * (b1 % n) - x1 % n * (b0 % n)) = true → ∀ k : Int, 0 ≤ k → k < n * n → 1 ≤ L.getD k.toNat 0 ∧ L.getD k.toNat 0 ≤ 256 := fun hsq k k1 k2 => by
    have hm := meet_none (s0 := s0 % n) (s1 := s1 % n) hn.1 (show isSq n (x0 % n) (x1 % n) (b0 % n) (b1 % n) = true from hsq)
    obtain ⟨i, q1, q2, q3⟩ := gAt_full (fun i _ => cellN_lt (s0 := s0 % n) (s1 := s1 % n) (x0 := x0 % n) (x1 := x1 % n) (b0 := b0 % n) (b1 := b1 % n) hn.1 i) (meetOf_inj (fun i _ => cellN_lt hn.1 i) hm) k.toNat (by omega)
    rw [← hL]
    have q3 : (gAt (cellS n s0 s1 x0 x1 b0 b1) (n * n).toNat (n * n).toNat).getD k.toNat 0 = (i : Int) + 1 := q3
    rw [q3]; omega
  have hcol : ∀ h : Nat → Int, (!coprime n (x0 % n * (b1 % n) - x1 % n * (b0 % n))) = false → (∀ x ∈ colL n.toNat h n.toNat, (0 ≤ x ∧ x < L.length) ∧ 1 ≤ L.getD x.toNat 0 ∧ L.getD x.toNat 0 ≤ 256) ∧ (colL n.toNat h n.toNat).length ≤ 1000 := fun h hc => by
    refine ⟨fun x hx => ?_, by rw [colL_len]; omega⟩
    have h1 := colL_mem x hx
    rw [Int.toNat_of_nonneg (by omega)] at h1
    exact ⟨by omega, hfull (by simpa using hc) x h1.1 h1.2⟩
  generalize hres : rAdmB n s0 s1 x0 x1 b0 b1 s = res
  unfold rAdmB rMagB at hres
  rw [hL2] at hres
  refine pspec_of (md := 1) (rf := []) mixed tabOK cpAd_ok Try.func23 (by rfl) (by rfl) (by rfl) ?_
  repeat' (first | ((conv => whnf); refine And.intro ?_ ?_) | ((conv => whnf); with_reducible exact VC.mk rfl) | ((conv => whnf); exact Ok.mk) | ((conv => whnf); exact True.intro) | ((conv => whnf); refine Nx.mk ?_) | ((conv => whnf); refine Fin.mk ?_) | ((conv => whnf); intro _))
  all_goals ((try refine VC.mk ?_); (try simp only [CL.ncell, CL.cnt, Int.toNat_natCast, decide_eq_true_eq, decide_eq_false_iff_not, Bool.not_eq_true, Bool.not_false, Bool.not_true, and_self, and_true, true_and, te3b, te4b, te3s, te4s, Nat.mul_one, Nat.zero_add, List.length_cons, List.length_nil, Bool.false_eq_true, Bool.true_eq_false] at *); (try omega))
  all_goals (try (first | refine sup_bool ?_ | refine sup_bp' ?_))
  all_goals (try simp only [hL])
  all_goals (try exact ⟨hn, by omega, by omega, hcol _ (by assumption)⟩)
  all_goals (try exact ⟨hn, hh⟩)
  all_goals (rw [← hres]; clear hcol hfull hL2 hLl; subst hL; rcases hks with rfl | rfl | rfl | rfl <;> simp_all [isSemi, isSq, isPan, coprime, kSq, kSemi, kMag, kPan])
/-! the program's condition is the reference's -/
theorem even_iff (d x : Int) : evenB d x = true ↔ ¬ d % 2 = 0 ∧ x % d = (d - 1) / 2 := by
  unfold evenB
  rw [decide_eq_true_eq]
  omega
theorem lvl_bal {n : Int} (hn : 1 ≤ n) (cs : List Int) (f : Nat → Int) (u v : Int) :
    lvlB n cs ((List.range n.toNat).map f) u v = balB n (fun i => cs.getD (f i).toNat 0) u v := by
  have hr : (List.range n.toNat).all (fun _ => false) = false := by
    obtain ⟨m, hm⟩ : ∃ m, n.toNat = m + 1 := ⟨n.toNat - 1, by omega⟩
    rw [hm, List.range_succ_eq_map]; rfl
  unfold lvlB balB
  simp only [List.map_map, List.all_map]
  rw [Bool.eq_iff_iff]
  simp only [Bool.and_eq_true, List.all_eq_true, List.mem_range, Function.comp, even_iff, Bool.not_eq_true', decide_eq_false_iff_not, balAt, decide_eq_true_eq, digA, digB]
  constructor
  · rintro ⟨h1, h2⟩
    exact ⟨⟨(h1 0 (by omega)).1, (h2 0 (by omega)).1⟩, fun i hi => ⟨(h1 i hi).2, (h2 i hi).2⟩⟩
  · rintro ⟨⟨h1, h2⟩, h3⟩
    exact ⟨fun i hi => ⟨h1, (h3 i hi).1⟩, fun i hi => ⟨h2, (h3 i hi).2⟩⟩
theorem balB_congr {n : Int} {h h' : Nat → Int} (e : ∀ i : Nat, (i : Int) < n → h i = h' i) (u v : Int) : balB n h u v = balB n h' u v := by
  unfold balB
  congr 1
  rw [Bool.eq_iff_iff]
  simp only [List.all_eq_true, List.mem_range, balAt]
  constructor
  · intro h1 i hi; rw [← e i (by omega)]; exact h1 i hi
  · intro h1 i hi; rw [e i (by omega)]; exact h1 i hi
theorem mag_eq {n : Int} (hn : 1 ≤ n) (s0 s1 x0 x1 b0 b1 : Int) : rMagB n s0 s1 x0 x1 b0 b1 = isMag n s0 s1 x0 x1 b0 b1 := by
  unfold rMagB isMag
  congr 1
  unfold colL
  rw [lvl_bal hn, lvl_bal hn]
  congr 1
  · refine balB_congr (fun i hi => ?_) _ _
    unfold mainAt
    show (sqL n s0 s1 x0 x1 b0 b1).getD ((n.toNat : Int) * i + (0 + (i : Int) * 1) % (n.toNat : Int)).toNat 0 = _
    rw [Int.toNat_of_nonneg (by omega), Int.emod_eq_of_lt (by omega) (by omega)]
    congr 2; omega
  · refine balB_congr (fun i hi => ?_) _ _
    unfold antiAt
    rw [Int.toNat_of_nonneg (by omega), emod_of_sub (a := n - 1 + (i : Int) * (n - 1)) (b := n - 1 - i) (k := (i : Int)) (by rw [Int.mul_sub, Int.mul_comm n (i : Int)]; omega), Int.emod_eq_of_lt (by omega) (by omega)]
    congr 2; omega
theorem adm_eq {n : Int} (hn : 1 ≤ n) (s0 s1 x0 x1 b0 b1 : Int) (s : ByteArray) : rAdmB n s0 s1 x0 x1 b0 b1 s = admB n s0 s1 x0 x1 b0 b1 s := by
  unfold rAdmB admB; rw [mag_eq hn]
end Go.Eng.Ytppflbccfdbogaa
namespace Go.Eng.Ytppflbccfdbogaa
open Go.Proofs
set_option maxRecDepth 100000
set_option maxHeartbeats 0
set_option linter.unusedVariables false
set_option linter.unusedSimpArgs false
noncomputable def cpUn : CPT := cpAdd 50 (pureCC rUniformP) noC
theorem cpUn_ok : CPOK Try.prog cpUn := cpAdd_ok (pureCC_ok rUniform_ok) noC_ok
noncomputable def cpSq : CPT := cpAdd 100 (lendCC [] emptyL) noC
theorem cpSq_ok : CPOK Try.prog cpSq := cpAdd_ok (lendCC_ok [] SquareL_ok) noC_ok
theorem rSiamese_spec (n : Int) (hn : 1 ≤ n ∧ n ≤ 16) : PSpec Try.prog 37 [.int .i64 n] (gridV n n (siaL n)) := by
  refine pspec_of (md := 0) (rf := []) mixed tabOK cpUn_ok Try.func37 (by rfl) (by rfl) (by rfl) ?_
  repeat' (first | ((conv => whnf); refine And.intro ?_ ?_) | ((conv => whnf); with_reducible exact VC.mk rfl) | ((conv => whnf); exact Ok.mk) | ((conv => whnf); exact True.intro) | ((conv => whnf); refine Nx.mk ?_) | ((conv => whnf); refine Fin.mk ?_) | ((conv => whnf); intro _))
  all_goals ((try refine VC.mk ?_); (try simp only [CL.ncell, CL.cnt, Int.toNat_natCast, decide_eq_true_eq, decide_eq_false_iff_not, Bool.not_eq_true, Bool.not_false, Bool.not_true, and_self, and_true, true_and, te3b, te4b, te3s, te4s, Nat.mul_one, Nat.zero_add, List.length_cons, List.length_nil, Bool.false_eq_true, Bool.true_eq_false] at *); (try omega))
  · exact ⟨hn, by simp only [List.mem_cons, List.not_mem_nil, or_false, forall_eq_or_imp, forall_eq]; omega⟩
  · exact Sup.of rfl
theorem rDouble_spec (n : Nat) (hn : 1 ≤ n ∧ n ≤ 16) : PSpec Try.prog 38 [.int .i64 (n : Int)] (gridV n n (madeL n (dblF n))) := by
  have eN : ((n : Int) * n).toNat = n * n := by rw [← Int.natCast_mul, Int.toNat_natCast]
  have hbd : ∀ i j : Nat, i < n → j < n → n * i + j < n * n := fun i j hi hj => by
    have := Nat.mul_le_mul_left n (show i + 1 ≤ n by omega)
    rw [Nat.mul_add] at this; omega
  have hix : ∀ i j : Nat, ((n : Int) * i + j) = ((n * i + j : Nat) : Int) := fun i j => by push_cast; rfl
  have hix' : ∀ i j : Nat, ((i : Int) * n + j) = ((n * i + j : Nat) : Int) := fun i j => by push_cast; rw [Int.mul_comm]
  obtain ⟨g, hgd⟩ : ∃ g : Nat → Int, g = fun k => dblF n (k / n) (k % n) := ⟨_, rfl⟩
  have hg : ∀ i j : Nat, j < n → dblF n i j = g (n * i + j) := fun i j hj => by
    have h1 : (n * i + j) / n = i := by rw [Nat.mul_add_div (by omega), Nat.div_eq_of_lt hj]; simp
    have h2 : (n * i + j) % n = j := by rw [Nat.mul_add_mod, Nat.mod_eq_of_lt hj]
    simp only [hgd, h1, h2]
  have hNN : (n : Int) * n ≤ 1000000 := (mul_bd (show 0 ≤ (n : Int) ∧ (n : Int) ≤ 1000 by omega) (show 0 ≤ (n : Int) ∧ (n : Int) ≤ 1000 by omega)).2
  have hNN' : ((n * n : Nat) : Int) ≤ 1000000 := by rw [Int.natCast_mul]; exact hNN
  refine pspec_of (md := 0) (rf := []) mixed tabOK cpSq_ok Try.func38 (by rfl) (by rfl) (by rfl) ?_
  repeat' (first | ((conv => whnf); refine And.intro ?_ ?_) | ((conv => whnf); with_reducible exact VC.mk rfl) | ((conv => whnf); exact Ok.mk) | ((conv => whnf); exact True.intro) | ((conv => whnf); refine Nx.mk ?_) | ((conv => whnf); refine Fin.mk ?_) | ((conv => whnf); intro _))
  all_goals ((try refine VC.mk ?_); (try simp only [CL.ncell, CL.cnt, Int.toNat_natCast, decide_eq_true_eq, decide_eq_false_iff_not, Bool.not_eq_true, Bool.not_false, Bool.not_true, and_self, and_true, true_and, te3b, te4b, te3s, te4s, Nat.mul_one, Nat.zero_add, List.length_cons, List.length_nil, Bool.false_eq_true, Bool.true_eq_false] at *); (try omega))
  simp only [eN]
  conv => whnf
  refine loop_of (X := Nat) (fun i => i ≤ n) (fun i => [(4, .int .i64 i)]) (fun i => [(1, .cells (.ints .i64 (fillG g (n * n) (n * i))) false)]) (fun i => n - i) 0 ⟨anyB_ok, mixed, tabOK, cpSq_ok, noY_ok⟩ (by rfl) (by omega) ?_ ?_
  · repeat' (first | ((conv => whnf); refine And.intro ?_ ?_) | ((conv => whnf); with_reducible exact VC.mk rfl) | ((conv => whnf); exact Ok.mk) | ((conv => whnf); exact True.intro) | ((conv => whnf); refine Nx.mk ?_) | ((conv => whnf); refine Fin.mk ?_) | ((conv => whnf); intro _))
    all_goals ((try refine VC.mk ?_); (try simp only [CL.ncell, CL.cnt, Int.toNat_natCast, decide_eq_true_eq, decide_eq_false_iff_not, Bool.not_eq_true, Bool.not_false, Bool.not_true, and_self, and_true, true_and, te3b, te4b, te3s, te4s, Nat.mul_one, Nat.zero_add, List.length_cons, List.length_nil, Bool.false_eq_true, Bool.true_eq_false] at *); (try omega))
    all_goals simp [fillG_zero]
  intro i hi
  by_cases hlt : i < n
  · repeat' (first | ((conv => whnf); refine And.intro ?_ ?_) | ((conv => whnf); with_reducible exact VC.mk rfl) | ((conv => whnf); exact Ok.mk) | ((conv => whnf); exact True.intro) | ((conv => whnf); refine Nx.mk ?_) | ((conv => whnf); refine Fin.mk ?_) | ((conv => whnf); intro _))
    all_goals ((try refine VC.mk ?_); (try simp only [CL.ncell, CL.cnt, Int.toNat_natCast, decide_eq_true_eq, decide_eq_false_iff_not, Bool.not_eq_true, Bool.not_false, Bool.not_true, and_self, and_true, true_and, te3b, te4b, te3s, te4s, Nat.mul_one, Nat.zero_add, List.length_cons, List.length_nil, Bool.false_eq_true, Bool.true_eq_false] at *); (try omega))
    conv => whnf
    refine loop_of (X := Nat) (fun j => j ≤ n) (fun j => [(5, .int .i64 j)]) (fun j => [(1, .cells (.ints .i64 (fillG g (n * n) (n * i + j))) false)]) (fun j => n - j) 0 ⟨anyB_ok, mixed, tabOK, cpSq_ok, noY_ok⟩ (by rfl) (by omega) ?_ ?_
    · repeat' (first | ((conv => whnf); refine And.intro ?_ ?_) | ((conv => whnf); with_reducible exact VC.mk rfl) | ((conv => whnf); exact Ok.mk) | ((conv => whnf); exact True.intro) | ((conv => whnf); refine Nx.mk ?_) | ((conv => whnf); refine Fin.mk ?_) | ((conv => whnf); intro _))
      all_goals ((try refine VC.mk ?_); (try simp only [CL.ncell, CL.cnt, Int.toNat_natCast, decide_eq_true_eq, decide_eq_false_iff_not, Bool.not_eq_true, Bool.not_false, Bool.not_true, and_self, and_true, true_and, te3b, te4b, te3s, te4s, Nat.mul_one, Nat.zero_add, List.length_cons, List.length_nil, Bool.false_eq_true, Bool.true_eq_false] at *); (try omega))
      all_goals simp
    intro j hj
    by_cases hlj : j < n
    · have := hbd i j hlt hlj
      have e1 := hix i j
      have e2 := fillG_len g (n * n) (n * i + j) (by omega)
      have e3 := hg i j hlj
      unfold dblF at e3
      have h1 := mul_bd (A := 16) (B := 16) (show 0 ≤ (n : Int) ∧ (n : Int) ≤ 16 by omega) (show 0 ≤ (i : Int) ∧ (i : Int) ≤ 16 by omega)
      repeat' (first | ((conv => whnf); refine And.intro ?_ ?_) | ((conv => whnf); with_reducible exact VC.mk rfl) | ((conv => whnf); exact Ok.mk) | ((conv => whnf); exact True.intro) | ((conv => whnf); refine Nx.mk ?_) | ((conv => whnf); refine Fin.mk ?_) | ((conv => whnf); intro _))
      all_goals ((try refine VC.mk ?_); (try simp only [CL.ncell, CL.cnt, Int.toNat_natCast, decide_eq_true_eq, decide_eq_false_iff_not, Bool.not_eq_true, Bool.not_false, Bool.not_true, and_self, and_true, true_and, te3b, te4b, te3s, te4s, Nat.mul_one, Nat.zero_add, List.length_cons, List.length_nil, Bool.false_eq_true, Bool.true_eq_false] at *); (try omega))
      all_goals (refine ⟨j + 1, [], ⟨by omega, by omega⟩, ?_⟩)
      all_goals repeat' (first | ((conv => whnf); refine And.intro ?_ ?_) | ((conv => whnf); with_reducible exact VC.mk rfl) | ((conv => whnf); exact Ok.mk) | ((conv => whnf); exact True.intro) | ((conv => whnf); refine Nx.mk ?_) | ((conv => whnf); refine Fin.mk ?_) | ((conv => whnf); intro _))
      all_goals ((try refine VC.mk ?_); (try simp only [CL.ncell, CL.cnt, Int.toNat_natCast, decide_eq_true_eq, decide_eq_false_iff_not, Bool.not_eq_true, Bool.not_false, Bool.not_true, and_self, and_true, true_and, te3b, te4b, te3s, te4s, Nat.mul_one, Nat.zero_add, List.length_cons, List.length_nil, Bool.false_eq_true, Bool.true_eq_false] at *); (try omega))
      all_goals (rw [e1, Int.toNat_natCast, show n * i + (j + 1) = n * i + j + 1 from rfl, ← fillG_set g (n * n) (n * i + j) (by omega), ← e3]; split <;> first | rfl | (exfalso; omega))
    · have : n = j := by omega
      subst this
      repeat' (first | ((conv => whnf); refine And.intro ?_ ?_) | ((conv => whnf); with_reducible exact VC.mk rfl) | ((conv => whnf); exact Ok.mk) | ((conv => whnf); exact True.intro) | ((conv => whnf); refine Nx.mk ?_) | ((conv => whnf); refine Fin.mk ?_) | ((conv => whnf); intro _))
      all_goals ((try refine VC.mk ?_); (try simp only [CL.ncell, CL.cnt, Int.toNat_natCast, decide_eq_true_eq, decide_eq_false_iff_not, Bool.not_eq_true, Bool.not_false, Bool.not_true, and_self, and_true, true_and, te3b, te4b, te3s, te4s, Nat.mul_one, Nat.zero_add, List.length_cons, List.length_nil, Bool.false_eq_true, Bool.true_eq_false] at *); (try omega))
      refine ⟨i + 1, [], ⟨by omega, by omega⟩, ?_⟩
      repeat' (first | ((conv => whnf); refine And.intro ?_ ?_) | ((conv => whnf); with_reducible exact VC.mk rfl) | ((conv => whnf); exact Ok.mk) | ((conv => whnf); exact True.intro) | ((conv => whnf); refine Nx.mk ?_) | ((conv => whnf); refine Fin.mk ?_) | ((conv => whnf); intro _))
      all_goals ((try refine VC.mk ?_); (try simp only [CL.ncell, CL.cnt, Int.toNat_natCast, decide_eq_true_eq, decide_eq_false_iff_not, Bool.not_eq_true, Bool.not_false, Bool.not_true, and_self, and_true, true_and, te3b, te4b, te3s, te4s, Nat.mul_one, Nat.zero_add, List.length_cons, List.length_nil, Bool.false_eq_true, Bool.true_eq_false] at *); (try omega))
  · have : n = i := by omega
    subst this
    repeat' (first | ((conv => whnf); refine And.intro ?_ ?_) | ((conv => whnf); with_reducible exact VC.mk rfl) | ((conv => whnf); exact Ok.mk) | ((conv => whnf); exact True.intro) | ((conv => whnf); refine Nx.mk ?_) | ((conv => whnf); refine Fin.mk ?_) | ((conv => whnf); intro _))
    all_goals ((try refine VC.mk ?_); (try simp only [CL.ncell, CL.cnt, Int.toNat_natCast, decide_eq_true_eq, decide_eq_false_iff_not, Bool.not_eq_true, Bool.not_false, Bool.not_true, and_self, and_true, true_and, te3b, te4b, te3s, te4s, Nat.mul_one, Nat.zero_add, List.length_cons, List.length_nil, Bool.false_eq_true, Bool.true_eq_false] at *); (try omega))
    · rw [fillG_len _ _ _ (Nat.le_refl _)]; exact Nat.le_refl _
    rw [fillG_all]
    refine Sup.via ?_
    repeat' (first | ((conv => whnf); refine And.intro ?_ ?_) | ((conv => whnf); with_reducible exact VC.mk rfl) | ((conv => whnf); exact Ok.mk) | ((conv => whnf); exact True.intro) | ((conv => whnf); refine Nx.mk ?_) | ((conv => whnf); refine Fin.mk ?_) | ((conv => whnf); intro _))
    all_goals ((try refine VC.mk ?_); (try simp only [CL.ncell, CL.cnt, Int.toNat_natCast, decide_eq_true_eq, decide_eq_false_iff_not, Bool.not_eq_true, Bool.not_false, Bool.not_true, and_self, and_true, true_and, te3b, te4b, te3s, te4s, Nat.mul_one, Nat.zero_add, List.length_cons, List.length_nil, Bool.false_eq_true, Bool.true_eq_false] at *); (try omega))
    simp [CL.sub, madeL, hgd, List.take_of_length_le]
theorem rHalved_spec (n : Nat) (hn : n ≤ 16) : PSpec Try.prog 44 [.int .i64 (n : Int)] (.isl (.ints .i64 (halvedL n n)) .none) := by
  refine pspec_of (md := 0) (rf := []) mixed tabOK noC_ok Try.func44 (by rfl) (by rfl) (by rfl) ?_
  repeat' (first | ((conv => whnf); refine And.intro ?_ ?_) | ((conv => whnf); with_reducible exact VC.mk rfl) | ((conv => whnf); exact Ok.mk) | ((conv => whnf); exact True.intro) | ((conv => whnf); refine Nx.mk ?_) | ((conv => whnf); refine Fin.mk ?_) | ((conv => whnf); intro _))
  all_goals ((try refine VC.mk ?_); (try simp only [CL.ncell, CL.cnt, Int.toNat_natCast, decide_eq_true_eq, decide_eq_false_iff_not, Bool.not_eq_true, Bool.not_false, Bool.not_true, and_self, and_true, true_and, te3b, te4b, te3s, te4s, Nat.mul_one, Nat.zero_add, List.length_cons, List.length_nil, Bool.false_eq_true, Bool.true_eq_false] at *); (try omega))
  conv => whnf
  refine loop_of (X := Nat) (fun i => i ≤ n) (fun i => [(4, .int .i64 i), (3, .isl (.ints .i64 (halvedL n i)) (.own 0))]) (fun i => [(0, .tok 1 i)]) (fun i => n - i) 0 ⟨anyB_ok, mixed, tabOK, noC_ok, noY_ok⟩ (by rfl) (by omega) ?_ ?_
  · repeat' (first | ((conv => whnf); refine And.intro ?_ ?_) | ((conv => whnf); with_reducible exact VC.mk rfl) | ((conv => whnf); exact Ok.mk) | ((conv => whnf); exact True.intro) | ((conv => whnf); refine Nx.mk ?_) | ((conv => whnf); refine Fin.mk ?_) | ((conv => whnf); intro _))
    all_goals ((try refine VC.mk ?_); (try simp only [CL.ncell, CL.cnt, Int.toNat_natCast, decide_eq_true_eq, decide_eq_false_iff_not, Bool.not_eq_true, Bool.not_false, Bool.not_true, and_self, and_true, true_and, te3b, te4b, te3s, te4s, Nat.mul_one, Nat.zero_add, List.length_cons, List.length_nil, Bool.false_eq_true, Bool.true_eq_false] at *); (try omega))
  intro i hi
  have e1 := halvedL_succ n i
  have e2 := halvedL_len n i
  unfold halvedAt at e1
  by_cases hlt : i < n
  · repeat' (first | ((conv => whnf); refine And.intro ?_ ?_) | ((conv => whnf); with_reducible exact VC.mk rfl) | ((conv => whnf); exact Ok.mk) | ((conv => whnf); exact True.intro) | ((conv => whnf); refine Nx.mk ?_) | ((conv => whnf); refine Fin.mk ?_) | ((conv => whnf); intro _))
    all_goals ((try refine VC.mk ?_); (try simp only [CL.ncell, CL.cnt, Int.toNat_natCast, decide_eq_true_eq, decide_eq_false_iff_not, Bool.not_eq_true, Bool.not_false, Bool.not_true, and_self, and_true, true_and, te3b, te4b, te3s, te4s, Nat.mul_one, Nat.zero_add, List.length_cons, List.length_nil, Bool.false_eq_true, Bool.true_eq_false] at *); (try omega))
    all_goals (try (simp only [List.length_append, List.length_cons, List.length_nil]; omega))
    all_goals (refine ⟨i + 1, [], ⟨by omega, by omega⟩, ?_⟩)
    all_goals repeat' (first | ((conv => whnf); refine And.intro ?_ ?_) | ((conv => whnf); with_reducible exact VC.mk rfl) | ((conv => whnf); exact Ok.mk) | ((conv => whnf); exact True.intro) | ((conv => whnf); refine Nx.mk ?_) | ((conv => whnf); refine Fin.mk ?_) | ((conv => whnf); intro _))
    all_goals ((try refine VC.mk ?_); (try simp only [CL.ncell, CL.cnt, Int.toNat_natCast, decide_eq_true_eq, decide_eq_false_iff_not, Bool.not_eq_true, Bool.not_false, Bool.not_true, and_self, and_true, true_and, te3b, te4b, te3s, te4s, Nat.mul_one, Nat.zero_add, List.length_cons, List.length_nil, Bool.false_eq_true, Bool.true_eq_false] at *); (try omega))
    all_goals (try (rw [e1]; split <;> first | rfl | (exfalso; omega)))
  · have : n = i := by omega
    subst this
    repeat' (first | ((conv => whnf); refine And.intro ?_ ?_) | ((conv => whnf); with_reducible exact VC.mk rfl) | ((conv => whnf); exact Ok.mk) | ((conv => whnf); exact True.intro) | ((conv => whnf); refine Nx.mk ?_) | ((conv => whnf); refine Fin.mk ?_) | ((conv => whnf); intro _))
    all_goals ((try refine VC.mk ?_); (try simp only [CL.ncell, CL.cnt, Int.toNat_natCast, decide_eq_true_eq, decide_eq_false_iff_not, Bool.not_eq_true, Bool.not_false, Bool.not_true, and_self, and_true, true_and, te3b, te4b, te3s, te4s, Nat.mul_one, Nat.zero_add, List.length_cons, List.length_nil, Bool.false_eq_true, Bool.true_eq_false] at *); (try omega))
    all_goals (first | (refine Sup.of ?_; first | rfl | (simp [*, resOf]; done)) | (refine Sup.via ?_; repeat' (first | ((conv => whnf); refine And.intro ?_ ?_) | ((conv => whnf); with_reducible exact VC.mk rfl) | ((conv => whnf); exact Ok.mk) | ((conv => whnf); exact True.intro) | ((conv => whnf); refine Nx.mk ?_) | ((conv => whnf); refine Fin.mk ?_) | ((conv => whnf); intro _)); all_goals ((try refine VC.mk ?_); (try simp only [CL.ncell, CL.cnt, Int.toNat_natCast, decide_eq_true_eq, decide_eq_false_iff_not, Bool.not_eq_true, Bool.not_false, Bool.not_true, and_self, and_true, true_and, te3b, te4b, te3s, te4s, Nat.mul_one, Nat.zero_add, List.length_cons, List.length_nil, Bool.false_eq_true, Bool.true_eq_false] at *); (try omega)); all_goals (try (simp [CL.sub]; done))))
def mpErr (rows cols : List Int) : Int := if rows.length ≠ cols.length then 2 else if rows.length % 4 ≠ 0 ∨ rows.length < 4 ∨ 16 < rows.length then 3 else if halvesErr rows ≠ 0 then halvesErr rows else halvesErr cols
def mpV (rows cols : List Int) : PV := if mpErr rows cols = 0 then okGrid rows.length rows.length (mpL rows cols) else noGrid (mpErr rows cols)
theorem halvesErr_zero {l : List Int} (h : halvesErr l = 0) : ∀ k, k < l.length → 0 ≤ l.getD k 0 ∧ l.getD k 0 < l.length := by
  unfold halvesErr at h
  split at h
  · exact isPerm_bd (permErr_zero ‹_›).2
  · omega
noncomputable def cpMP : CPT := cpAdd 112 (pureCC checkHalvesP) (cpAdd 99 (pureCC mostPerfectP) cp2)
theorem cpMP_ok : CPOK Try.prog cpMP := cpAdd_ok (pureCC_ok checkHalves_ok) (cpAdd_ok (pureCC_ok mostPerfect_ok) cp2_ok)
theorem mpErr_first {rows cols : List Int} {x y : Int} (hx : x = if rows.length = cols.length then 0 else 2) (hy : y = if rows.length % 4 ≠ 0 ∨ rows.length < 4 ∨ 16 < rows.length then 3 else 0) : firstOf [x, y, halvesErr rows, halvesErr cols] = mpErr rows cols := by
  subst hx hy
  simp only [firstOf, mpErr]
  (repeat' split) <;> first | rfl | omega | (exfalso; omega) | (simp_all; done)
theorem mpErr_zero {rows cols : List Int} (h : mpErr rows cols = 0) : rows.length = cols.length ∧ rows.length ≤ 16 ∧ halvesErr rows = 0 ∧ halvesErr cols = 0 := by
  unfold mpErr at h
  split at h
  · omega
  · split at h
    · omega
    · split at h
      · exact absurd h ‹_›
      · exact ⟨by omega, by omega, by omega, h⟩
theorem mostPerf_spec (rows cols : List Int) : PSpec Try.prog 64 [.isl (.ints .i64 rows) .none, .isl (.ints .i64 cols) .none] (mpV rows cols) := by
  have ht : (rows.length : Int).tmod 4 = ((rows.length % 4 : Nat) : Int) := by rw [Int.tmod_eq_emod_of_nonneg (by omega)]; push_cast; rfl
  have hf := fun x y hx hy => @mpErr_first rows cols x y hx hy
  have hz := @mpErr_zero rows cols
  unfold mpV
  generalize mpErr rows cols = e at *
  have h1 := @halvesErr_zero rows
  have h2 := @halvesErr_zero cols
  refine pspec_of (md := 1) (rf := []) mixed tabOK cpMP_ok Try.func64 (by rfl) (by rfl) (by rfl) ?_
  repeat' (first | ((conv => whnf); refine And.intro ?_ ?_) | ((conv => whnf); with_reducible exact VC.mk rfl) | ((conv => whnf); exact Ok.mk) | ((conv => whnf); exact True.intro) | ((conv => whnf); refine Nx.mk ?_) | ((conv => whnf); refine Fin.mk ?_) | ((conv => whnf); intro _))
  all_goals ((try refine VC.mk ?_); (try simp only [CL.ncell, CL.cnt, Int.toNat_natCast, decide_eq_true_eq, decide_eq_false_iff_not, Bool.not_eq_true, Bool.not_false, Bool.not_true, and_self, and_true, true_and, te3b, te4b, te3s, te4s, Nat.mul_one, Nat.zero_add, List.length_cons, List.length_nil, Bool.false_eq_true, Bool.true_eq_false] at *); (try omega))
  all_goals (first
    | (rename_i h; rw [hf _ _ (by split <;> split <;> omega) (by (repeat' split) <;> first | rfl | omega | (exfalso; omega) | (simp_all; done))] at h ⊢; rw [if_neg h]; all_goals (refine Sup.via ?_; repeat' (first | ((conv => whnf); refine And.intro ?_ ?_) | ((conv => whnf); with_reducible exact VC.mk rfl) | ((conv => whnf); exact Ok.mk) | ((conv => whnf); exact True.intro) | ((conv => whnf); refine Nx.mk ?_) | ((conv => whnf); refine Fin.mk ?_) | ((conv => whnf); intro _)); all_goals ((try refine VC.mk ?_); (try simp only [CL.ncell, CL.cnt, Int.toNat_natCast, decide_eq_true_eq, decide_eq_false_iff_not, Bool.not_eq_true, Bool.not_false, Bool.not_true, and_self, and_true, true_and, te3b, te4b, te3s, te4s, Nat.mul_one, Nat.zero_add, List.length_cons, List.length_nil, Bool.false_eq_true, Bool.true_eq_false] at *); (try omega)); all_goals (try (simp [CL.sub]; done))))
    | (rename_i h; rw [hf _ _ (by split <;> split <;> omega) (by (repeat' split) <;> first | rfl | omega | (exfalso; omega) | (simp_all; done))] at h; have h := Decidable.not_not.1 h; obtain ⟨z1, z2, z3, z4⟩ := hz h; exact ⟨z2, z1.symm, h1 z3, by rw [z1]; exact h2 z4⟩)
    | (rename_i h; rw [hf _ _ (by split <;> split <;> omega) (by (repeat' split) <;> first | rfl | omega | (exfalso; omega) | (simp_all; done))] at h; have h := Decidable.not_not.1 h; rw [if_pos h]; all_goals (refine Sup.via ?_; repeat' (first | ((conv => whnf); refine And.intro ?_ ?_) | ((conv => whnf); with_reducible exact VC.mk rfl) | ((conv => whnf); exact Ok.mk) | ((conv => whnf); exact True.intro) | ((conv => whnf); refine Nx.mk ?_) | ((conv => whnf); refine Fin.mk ?_) | ((conv => whnf); intro _)); all_goals ((try refine VC.mk ?_); (try simp only [CL.ncell, CL.cnt, Int.toNat_natCast, decide_eq_true_eq, decide_eq_false_iff_not, Bool.not_eq_true, Bool.not_false, Bool.not_true, and_self, and_true, true_and, te3b, te4b, te3s, te4s, Nat.mul_one, Nat.zero_add, List.length_cons, List.length_nil, Bool.false_eq_true, Bool.true_eq_false] at *); (try omega)); all_goals (try (simp [CL.sub]; done))))
    | trace_state)
end Go.Eng.Ytppflbccfdbogaa
namespace Go.Eng.Ytppflbccfdbogaa
open Go.Proofs
set_option maxRecDepth 100000
set_option maxHeartbeats 0
set_option linter.unusedVariables false
set_option linter.unusedSimpArgs false
theorem madeL_flat (n : Nat) (g : Nat → Int) : madeL n (fun i j => g (n * i + j)) = (List.range (n * n)).map g := by
  unfold madeL
  exact List.map_congr_left fun k _ => by simp only [Nat.div_add_mod]
def dgA (n : Int) (l : List Int) (k : Nat) : Int := (l.getD k 0 - 1) % n
def dgB (n : Int) (l : List Int) (k : Nat) : Int := (l.getD k 0 - 1) / n
def dgC (n : Int) (a b : List Int) (k : Nat) : Int := a.getD k 0 + n * b.getD k 0 + 1
def flatL (N : Nat) (g : Nat → Int) : List Int := (List.range N).map g
def out3 (r : Int) (x : Int) : Bool := decide (x < 0 ∨ r ≤ x)
def digErr (r c : Int) (l : List Int) : Int := if sqErr r c l = 0 then (if l.any (out3 r) then 3 else 0) else sqErr r c l
theorem c108_spec (n : Nat) (c : Int) (l : List Int) (i j : Nat) (hn : 1 ≤ n ∧ n ≤ 16) (hl : l.length = n * n) (hb : ∀ x ∈ l, 1 ≤ x ∧ x ≤ 256) (hi : i < n) (hj : j < n) :
    PSpec Try.prog 108 ([] ++ [.int .i64 i, .int .i64 j] ++ [.ip (.pv [.int .i64 n, .int .i64 c, .isl (.ints .i64 l) .none]) 0, .ip (.pv [.int .i64 (n : Int)]) 0]) (.int .i64 (dgA n l (n * i + j))) := by
  have h1 := mul_bd (A := 16) (B := 16) (show 0 ≤ (n : Int) ∧ (n : Int) ≤ 16 by omega) (show 0 ≤ (i : Int) ∧ (i : Int) ≤ 16 by omega)
  have h2 := flat_idx hi hj
  have h3 := bd_of hb (k := n * i + j) (by omega)
  have h4 : (n : Int) * i + j = ((n * i + j : Nat) : Int) := by push_cast; rfl
  refine pspec_of (md := 0) (rf := []) mixed tabOK noC_ok Try.func108 (by rfl) (by rfl) (by rfl) ?_
  repeat' (first | ((conv => whnf); refine And.intro ?_ ?_) | ((conv => whnf); with_reducible exact VC.mk rfl) | ((conv => whnf); exact Ok.mk) | ((conv => whnf); exact True.intro) | ((conv => whnf); refine Nx.mk ?_) | ((conv => whnf); refine Fin.mk ?_) | ((conv => whnf); intro _))
  all_goals ((try refine VC.mk ?_); (try simp only [CL.ncell, CL.cnt, Int.toNat_natCast, decide_eq_true_eq, decide_eq_false_iff_not, Bool.not_eq_true, Bool.not_false, Bool.not_true, and_self, and_true, true_and, te3b, te4b, te3s, te4s, Nat.mul_one, Nat.zero_add, List.length_cons, List.length_nil, Bool.false_eq_true, Bool.true_eq_false] at *); (try omega))
  all_goals (try simp only [h4, Int.toNat_natCast])
  all_goals (try omega)
  all_goals exact Sup.of rfl
theorem c109_spec (n : Nat) (c : Int) (l : List Int) (i j : Nat) (hn : 1 ≤ n ∧ n ≤ 16) (hl : l.length = n * n) (hb : ∀ x ∈ l, 1 ≤ x ∧ x ≤ 256) (hi : i < n) (hj : j < n) :
    PSpec Try.prog 109 ([] ++ [.int .i64 i, .int .i64 j] ++ [.ip (.pv [.int .i64 n, .int .i64 c, .isl (.ints .i64 l) .none]) 0, .ip (.pv [.int .i64 (n : Int)]) 0]) (.int .i64 (dgB n l (n * i + j))) := by
  have h1 := mul_bd (A := 16) (B := 16) (show 0 ≤ (n : Int) ∧ (n : Int) ≤ 16 by omega) (show 0 ≤ (i : Int) ∧ (i : Int) ≤ 16 by omega)
  have h2 := flat_idx hi hj
  have h3 := bd_of hb (k := n * i + j) (by omega)
  have h4 : (n : Int) * i + j = ((n * i + j : Nat) : Int) := by push_cast; rfl
  have h5 := Int.ediv_le_self (a := l.getD (n * i + j) 0 - 1) n (by omega)
  have h6 : 0 ≤ (l.getD (n * i + j) 0 - 1) / n := Int.ediv_nonneg (by omega) (by omega)
  refine pspec_of (md := 0) (rf := []) mixed tabOK noC_ok Try.func109 (by rfl) (by rfl) (by rfl) ?_
  repeat' (first | ((conv => whnf); refine And.intro ?_ ?_) | ((conv => whnf); with_reducible exact VC.mk rfl) | ((conv => whnf); exact Ok.mk) | ((conv => whnf); exact True.intro) | ((conv => whnf); refine Nx.mk ?_) | ((conv => whnf); refine Fin.mk ?_) | ((conv => whnf); intro _))
  all_goals ((try refine VC.mk ?_); (try simp only [CL.ncell, CL.cnt, Int.toNat_natCast, decide_eq_true_eq, decide_eq_false_iff_not, Bool.not_eq_true, Bool.not_false, Bool.not_true, and_self, and_true, true_and, te3b, te4b, te3s, te4s, Nat.mul_one, Nat.zero_add, List.length_cons, List.length_nil, Bool.false_eq_true, Bool.true_eq_false] at *); (try omega))
  all_goals (try simp only [h4, Int.toNat_natCast])
  all_goals (try omega)
  all_goals exact Sup.of rfl
theorem c111_spec (n : Nat) (c c' : Int) (a b : List Int) (i j : Nat) (hn : 1 ≤ n ∧ n ≤ 16) (ha : a.length = n * n) (hb : b.length = n * n) (hab : ∀ x ∈ a, 0 ≤ x ∧ x ≤ 16) (hbb : ∀ x ∈ b, 0 ≤ x ∧ x ≤ 16) (hi : i < n) (hj : j < n) (r' : Int) :
    PSpec Try.prog 111 ([] ++ [.int .i64 i, .int .i64 j] ++ [.ip (.pv [.int .i64 n, .int .i64 c, .isl (.ints .i64 a) .none]) 0, .ip (.pv [.int .i64 (n : Int)]) 0, .ip (.pv [.int .i64 r', .int .i64 c', .isl (.ints .i64 b) .none]) 0]) (.int .i64 (dgC n a b (n * i + j))) := by
  have h1 := mul_bd (A := 16) (B := 16) (show 0 ≤ (n : Int) ∧ (n : Int) ≤ 16 by omega) (show 0 ≤ (i : Int) ∧ (i : Int) ≤ 16 by omega)
  have h2 := flat_idx hi hj
  have h3 := bd_of hab (k := n * i + j) (by omega)
  have h3' := bd_of hbb (k := n * i + j) (by omega)
  have h4 : (n : Int) * i + j = ((n * i + j : Nat) : Int) := by push_cast; rfl
  have h5 := mul_bd (A := 16) (B := 16) (show 0 ≤ (n : Int) ∧ (n : Int) ≤ 16 by omega) h3'
  refine pspec_of (md := 0) (rf := []) mixed tabOK noC_ok Try.func111 (by rfl) (by rfl) (by rfl) ?_
  repeat' (first | ((conv => whnf); refine And.intro ?_ ?_) | ((conv => whnf); with_reducible exact VC.mk rfl) | ((conv => whnf); exact Ok.mk) | ((conv => whnf); exact True.intro) | ((conv => whnf); refine Nx.mk ?_) | ((conv => whnf); refine Fin.mk ?_) | ((conv => whnf); intro _))
  all_goals ((try refine VC.mk ?_); (try simp only [CL.ncell, CL.cnt, Int.toNat_natCast, decide_eq_true_eq, decide_eq_false_iff_not, Bool.not_eq_true, Bool.not_false, Bool.not_true, and_self, and_true, true_and, te3b, te4b, te3s, te4s, Nat.mul_one, Nat.zero_add, List.length_cons, List.length_nil, Bool.false_eq_true, Bool.true_eq_false] at *); (try omega))
  all_goals (try simp only [h4, Int.toNat_natCast])
  all_goals (try omega)
  all_goals exact Sup.of rfl
theorem c142_spec (r c : Int) (l : List Int) (x : Int) : PSpec Try.prog 142 ([] ++ [.int .i64 x] ++ [.ip (.pv [.int .i64 r, .int .i64 c, .isl (.ints .i64 l) .none]) 0]) (.bp (out3 r x)) := by
  refine pspec_of (md := 0) (rf := []) mixed tabOK noC_ok Try.func142 (by rfl) (by rfl) (by rfl) ?_
  repeat' (first | ((conv => whnf); refine And.intro ?_ ?_) | ((conv => whnf); with_reducible exact VC.mk rfl) | ((conv => whnf); exact Ok.mk) | ((conv => whnf); exact True.intro) | ((conv => whnf); refine Nx.mk ?_) | ((conv => whnf); refine Fin.mk ?_) | ((conv => whnf); intro _))
  all_goals ((try refine VC.mk ?_); (try simp only [CL.ncell, CL.cnt, Int.toNat_natCast, decide_eq_true_eq, decide_eq_false_iff_not, Bool.not_eq_true, Bool.not_false, Bool.not_true, and_self, and_true, true_and, te3b, te4b, te3s, te4s, Nat.mul_one, Nat.zero_add, List.length_cons, List.length_nil, Bool.false_eq_true, Bool.true_eq_false] at *); (try omega))
  · refine sup_bp' ?_; unfold out3; rw [Bool.eq_iff_iff]; simp only [decide_eq_true_eq]; omega
  · refine sup_bool ?_; unfold out3; rw [decide_eq_true_eq]; omega
noncomputable def cpCD : CPT := cpAdd 126 (pureCC checkSquareP) (cpAdd 141 (pureCC hasFP) (cpAdd 86 (pureCC whenP) (cpAdd 87 (pureCC CheckSquareP) noC)))
theorem cpCD_ok : CPOK Try.prog cpCD := cpAdd_ok (pureCC_ok checkSquare_ok) (cpAdd_ok (pureCC_ok hasF_ok) (cpAdd_ok (pureCC_ok when_ok) (cpAdd_ok (pureCC_ok CheckSquare_ok) noC_ok)))
theorem digErr_or (r c : Int) (l : List Int) : digErr r c l = 0 ∨ digErr r c l = 2 ∨ digErr r c l = 3 := by
  unfold digErr sqErr
  (repeat' split) <;> simp
theorem checkDigits_spec (r c : Int) (l : List Int) : PSpec Try.prog 110 [gridV r c l] (.int .i64 (digErr r c l)) := by
  have hz := @sqErr_zero r c l
  unfold digErr
  refine pspec_of (md := 1) (rf := []) mixed tabOK cpCD_ok Try.func110 (by rfl) (by rfl) (by rfl) ?_
  repeat' (first | ((conv => whnf); refine And.intro ?_ ?_) | ((conv => whnf); with_reducible exact VC.mk rfl) | ((conv => whnf); exact Ok.mk) | ((conv => whnf); exact True.intro) | ((conv => whnf); refine Nx.mk ?_) | ((conv => whnf); refine Fin.mk ?_) | ((conv => whnf); intro _))
  all_goals ((try refine VC.mk ?_); (try simp only [CL.ncell, CL.cnt, Int.toNat_natCast, decide_eq_true_eq, decide_eq_false_iff_not, Bool.not_eq_true, Bool.not_false, Bool.not_true, and_self, and_true, true_and, te3b, te4b, te3s, te4s, Nat.mul_one, Nat.zero_add, List.length_cons, List.length_nil, Bool.false_eq_true, Bool.true_eq_false] at *); (try omega))
  · rw [if_neg (by omega)]; all_goals (first | (refine Sup.of ?_; first | rfl | (simp [*, resOf]; done)) | (refine Sup.via ?_; repeat' (first | ((conv => whnf); refine And.intro ?_ ?_) | ((conv => whnf); with_reducible exact VC.mk rfl) | ((conv => whnf); exact Ok.mk) | ((conv => whnf); exact True.intro) | ((conv => whnf); refine Nx.mk ?_) | ((conv => whnf); refine Fin.mk ?_) | ((conv => whnf); intro _)); all_goals ((try refine VC.mk ?_); (try simp only [CL.ncell, CL.cnt, Int.toNat_natCast, decide_eq_true_eq, decide_eq_false_iff_not, Bool.not_eq_true, Bool.not_false, Bool.not_true, and_self, and_true, true_and, te3b, te4b, te3s, te4s, Nat.mul_one, Nat.zero_add, List.length_cons, List.length_nil, Bool.false_eq_true, Bool.true_eq_false] at *); (try omega)); all_goals (try (simp [CL.sub]; done))))
  have he : sqErr r c l = 0 := by omega
  obtain ⟨z1, z2, z3, z4, z5⟩ := hz he
  · exact ⟨by omega, rfl, rfl⟩
  rw [if_pos (by omega)]
  refine ⟨out3 r, fun x hx => c142_spec r c l x, ?_⟩
  repeat' (first | ((conv => whnf); refine And.intro ?_ ?_) | ((conv => whnf); with_reducible exact VC.mk rfl) | ((conv => whnf); exact Ok.mk) | ((conv => whnf); exact True.intro) | ((conv => whnf); refine Nx.mk ?_) | ((conv => whnf); refine Fin.mk ?_) | ((conv => whnf); intro _))
  all_goals ((try refine VC.mk ?_); (try simp only [CL.ncell, CL.cnt, Int.toNat_natCast, decide_eq_true_eq, decide_eq_false_iff_not, Bool.not_eq_true, Bool.not_false, Bool.not_true, and_self, and_true, true_and, te3b, te4b, te3s, te4s, Nat.mul_one, Nat.zero_add, List.length_cons, List.length_nil, Bool.false_eq_true, Bool.true_eq_false] at *); (try omega))
  all_goals (first | (refine Sup.of ?_; first | rfl | (simp [*, resOf]; done)) | (refine Sup.via ?_; repeat' (first | ((conv => whnf); refine And.intro ?_ ?_) | ((conv => whnf); with_reducible exact VC.mk rfl) | ((conv => whnf); exact Ok.mk) | ((conv => whnf); exact True.intro) | ((conv => whnf); refine Nx.mk ?_) | ((conv => whnf); refine Fin.mk ?_) | ((conv => whnf); intro _)); all_goals ((try refine VC.mk ?_); (try simp only [CL.ncell, CL.cnt, Int.toNat_natCast, decide_eq_true_eq, decide_eq_false_iff_not, Bool.not_eq_true, Bool.not_false, Bool.not_true, and_self, and_true, true_and, te3b, te4b, te3s, te4s, Nat.mul_one, Nat.zero_add, List.length_cons, List.length_nil, Bool.false_eq_true, Bool.true_eq_false] at *); (try omega)); all_goals (try (simp [CL.sub]; done))))
def checkDigitsP : PSp := fun xs K => match xs with
  | [.agg [.int .i64 r, .int .i64 c, .isl (.ints .i64 l) .none]] => VC (True) ∧ K (.int .i64 (digErr r c l))
  | _ => False
theorem checkDigits_ok : POK Try.prog 110 checkDigitsP := by
  intro xs K h
  unfold checkDigitsP at h
  split at h
  · exact ⟨_, h.2, checkDigits_spec _ _ _⟩
  · exact h.elim
theorem any_take_succ (p : Int → Bool) (l : List Int) (i : Nat) (h : i < l.length) : (l.take (i + 1)).any p = ((l.take i).any p || p (l.getD i 0)) := by
  rw [List.take_add_one, List.any_append]
  simp [h]
theorem rCheckDigits_spec (r c : Int) (l : List Int) : PSpec Try.prog 62 [gridV r c l] (.int .i64 (digErr r c l)) := by
  have hz := @sqErr_zero r c l
  by_cases he : sqErr r c l = 0
  · obtain ⟨z1, z2, z3, z4, z5⟩ := hz he
    have hd : digErr r c l = if l.any (out3 r) then 3 else 0 := by unfold digErr; rw [if_pos he]
    rw [hd]
    refine pspec_of (md := 1) (rf := []) mixed tabOK cpCD_ok Try.func62 (by rfl) (by rfl) (by rfl) ?_
    repeat' (first | ((conv => whnf); refine And.intro ?_ ?_) | ((conv => whnf); with_reducible exact VC.mk rfl) | ((conv => whnf); exact Ok.mk) | ((conv => whnf); exact True.intro) | ((conv => whnf); refine Nx.mk ?_) | ((conv => whnf); refine Fin.mk ?_) | ((conv => whnf); intro _))
    all_goals ((try refine VC.mk ?_); (try simp only [CL.ncell, CL.cnt, Int.toNat_natCast, decide_eq_true_eq, decide_eq_false_iff_not, Bool.not_eq_true, Bool.not_false, Bool.not_true, and_self, and_true, true_and, te3b, te4b, te3s, te4s, Nat.mul_one, Nat.zero_add, List.length_cons, List.length_nil, Bool.false_eq_true, Bool.true_eq_false] at *); (try omega))
    rw [he]
    conv => whnf
    refine loop_of (X := Nat × Int) (fun x => x.1 ≤ l.length ∧ x.2 = (if (l.take x.1).any (out3 r) then 3 else 0) ∧ ((l.take x.1).any (out3 r) = true → 1 ≤ x.1 ∧ (l.take (x.1 - 1)).any (out3 r) = false)) (fun x => [(4, .int .i64 x.1), (3, .int .i64 x.2)]) (fun x => []) (fun x => l.length - x.1) (0, 0) ⟨anyB_ok, mixed, tabOK, cpCD_ok, noY_ok⟩ (by rfl) ⟨by omega, by simp, by simp⟩ ?_ ?_
    · repeat' (first | ((conv => whnf); refine And.intro ?_ ?_) | ((conv => whnf); with_reducible exact VC.mk rfl) | ((conv => whnf); exact Ok.mk) | ((conv => whnf); exact True.intro) | ((conv => whnf); refine Nx.mk ?_) | ((conv => whnf); refine Fin.mk ?_) | ((conv => whnf); intro _))
      all_goals ((try refine VC.mk ?_); (try simp only [CL.ncell, CL.cnt, Int.toNat_natCast, decide_eq_true_eq, decide_eq_false_iff_not, Bool.not_eq_true, Bool.not_false, Bool.not_true, and_self, and_true, true_and, te3b, te4b, te3s, te4s, Nat.mul_one, Nat.zero_add, List.length_cons, List.length_nil, Bool.false_eq_true, Bool.true_eq_false] at *); (try omega))
    rintro ⟨i, e⟩ ⟨hi, he2, he3⟩
    simp only at hi he2 he3
    by_cases hlt : i < l.length
    · have e1 := any_take_succ (out3 r) l i hlt
      by_cases hany : (l.take i).any (out3 r) = true
      · rw [if_pos hany] at he2
        subst he2
        have : l.any (out3 r) = true := by
          rw [List.any_eq_true] at hany ⊢
          obtain ⟨x, hx, hp⟩ := hany
          exact ⟨x, List.mem_of_mem_take hx, hp⟩
        rw [this]
        repeat' (first | ((conv => whnf); refine And.intro ?_ ?_) | ((conv => whnf); with_reducible exact VC.mk rfl) | ((conv => whnf); exact Ok.mk) | ((conv => whnf); exact True.intro) | ((conv => whnf); refine Nx.mk ?_) | ((conv => whnf); refine Fin.mk ?_) | ((conv => whnf); intro _))
        all_goals ((try refine VC.mk ?_); (try simp only [CL.ncell, CL.cnt, Int.toNat_natCast, decide_eq_true_eq, decide_eq_false_iff_not, Bool.not_eq_true, Bool.not_false, Bool.not_true, and_self, and_true, true_and, te3b, te4b, te3s, te4s, Nat.mul_one, Nat.zero_add, List.length_cons, List.length_nil, Bool.false_eq_true, Bool.true_eq_false] at *); (try omega))
        all_goals (try (exfalso; omega))
        all_goals (first | (refine Sup.of ?_; first | rfl | (simp [*, resOf]; done)) | (refine Sup.via ?_; repeat' (first | ((conv => whnf); refine And.intro ?_ ?_) | ((conv => whnf); with_reducible exact VC.mk rfl) | ((conv => whnf); exact Ok.mk) | ((conv => whnf); exact True.intro) | ((conv => whnf); refine Nx.mk ?_) | ((conv => whnf); refine Fin.mk ?_) | ((conv => whnf); intro _)); all_goals ((try refine VC.mk ?_); (try simp only [CL.ncell, CL.cnt, Int.toNat_natCast, decide_eq_true_eq, decide_eq_false_iff_not, Bool.not_eq_true, Bool.not_false, Bool.not_true, and_self, and_true, true_and, te3b, te4b, te3s, te4s, Nat.mul_one, Nat.zero_add, List.length_cons, List.length_nil, Bool.false_eq_true, Bool.true_eq_false] at *); (try omega)); all_goals (try (simp [CL.sub]; done))))
      · have hany : (l.take i).any (out3 r) = false := by simpa using hany
        rw [hany] at he2 e1
        simp only [Bool.false_or] at e1
        simp only [Bool.false_eq_true, if_false] at he2
        subst he2
        repeat' (first | ((conv => whnf); refine And.intro ?_ ?_) | ((conv => whnf); with_reducible exact VC.mk rfl) | ((conv => whnf); exact Ok.mk) | ((conv => whnf); exact True.intro) | ((conv => whnf); refine Nx.mk ?_) | ((conv => whnf); refine Fin.mk ?_) | ((conv => whnf); intro hq; (try simp only [decide_eq_true_eq, decide_eq_false_iff_not, Bool.not_eq_true, Bool.not_eq_false, Bool.not_eq_true', Bool.not_eq_false', Bool.not_true, Bool.not_false, ite_true, ite_false] at hq); (try (exfalso; first | exact absurd hq (by decide) | omega))))
        all_goals ((try refine VC.mk ?_); (try simp only [CL.ncell, CL.cnt, Int.toNat_natCast, decide_eq_true_eq, decide_eq_false_iff_not, Bool.not_eq_true, Bool.not_false, Bool.not_true, and_self, and_true, true_and, te3b, te4b, te3s, te4s, Nat.mul_one, Nat.zero_add, List.length_cons, List.length_nil, Bool.false_eq_true, Bool.true_eq_false] at *); (try omega))
        all_goals (try (exfalso; omega))
        · have hp : out3 r (l.getD i 0) = true := by unfold out3; rw [decide_eq_true_eq]; omega
          refine ⟨(i + 1, 3), [], ⟨⟨by omega, by rw [e1, hp]; rfl, fun _ => ⟨by omega, hany⟩⟩, by omega⟩, ?_⟩
          repeat' (first | ((conv => whnf); refine And.intro ?_ ?_) | ((conv => whnf); with_reducible exact VC.mk rfl) | ((conv => whnf); exact Ok.mk) | ((conv => whnf); exact True.intro) | ((conv => whnf); refine Nx.mk ?_) | ((conv => whnf); refine Fin.mk ?_) | ((conv => whnf); intro _))
          all_goals ((try refine VC.mk ?_); (try simp only [CL.ncell, CL.cnt, Int.toNat_natCast, decide_eq_true_eq, decide_eq_false_iff_not, Bool.not_eq_true, Bool.not_false, Bool.not_true, and_self, and_true, true_and, te3b, te4b, te3s, te4s, Nat.mul_one, Nat.zero_add, List.length_cons, List.length_nil, Bool.false_eq_true, Bool.true_eq_false] at *); (try omega))
        · have hp : out3 r (l.getD i 0) = false := by unfold out3; rw [decide_eq_false_iff_not]; omega
          refine ⟨(i + 1, 0), [], ⟨⟨by omega, by rw [e1, hp]; rfl, fun h => by rw [e1, hp] at h; cases h⟩, by omega⟩, ?_⟩
          repeat' (first | ((conv => whnf); refine And.intro ?_ ?_) | ((conv => whnf); with_reducible exact VC.mk rfl) | ((conv => whnf); exact Ok.mk) | ((conv => whnf); exact True.intro) | ((conv => whnf); refine Nx.mk ?_) | ((conv => whnf); refine Fin.mk ?_) | ((conv => whnf); intro _))
          all_goals ((try refine VC.mk ?_); (try simp only [CL.ncell, CL.cnt, Int.toNat_natCast, decide_eq_true_eq, decide_eq_false_iff_not, Bool.not_eq_true, Bool.not_false, Bool.not_true, and_self, and_true, true_and, te3b, te4b, te3s, te4s, Nat.mul_one, Nat.zero_add, List.length_cons, List.length_nil, Bool.false_eq_true, Bool.true_eq_false] at *); (try omega))
        · have hp : out3 r (l.getD i 0) = true := by unfold out3; rw [decide_eq_true_eq]; omega
          refine ⟨(i + 1, 3), [], ⟨⟨by omega, by rw [e1, hp]; rfl, fun _ => ⟨by omega, hany⟩⟩, by omega⟩, ?_⟩
          repeat' (first | ((conv => whnf); refine And.intro ?_ ?_) | ((conv => whnf); with_reducible exact VC.mk rfl) | ((conv => whnf); exact Ok.mk) | ((conv => whnf); exact True.intro) | ((conv => whnf); refine Nx.mk ?_) | ((conv => whnf); refine Fin.mk ?_) | ((conv => whnf); intro _))
          all_goals ((try refine VC.mk ?_); (try simp only [CL.ncell, CL.cnt, Int.toNat_natCast, decide_eq_true_eq, decide_eq_false_iff_not, Bool.not_eq_true, Bool.not_false, Bool.not_true, and_self, and_true, true_and, te3b, te4b, te3s, te4s, Nat.mul_one, Nat.zero_add, List.length_cons, List.length_nil, Bool.false_eq_true, Bool.true_eq_false] at *); (try omega))
    · have : l.length = i := by omega
      subst this
      rw [List.take_length] at he2
      subst he2
      repeat' (first | ((conv => whnf); refine And.intro ?_ ?_) | ((conv => whnf); with_reducible exact VC.mk rfl) | ((conv => whnf); exact Ok.mk) | ((conv => whnf); exact True.intro) | ((conv => whnf); refine Nx.mk ?_) | ((conv => whnf); refine Fin.mk ?_) | ((conv => whnf); intro _))
      all_goals ((try refine VC.mk ?_); (try simp only [CL.ncell, CL.cnt, Int.toNat_natCast, decide_eq_true_eq, decide_eq_false_iff_not, Bool.not_eq_true, Bool.not_false, Bool.not_true, and_self, and_true, true_and, te3b, te4b, te3s, te4s, Nat.mul_one, Nat.zero_add, List.length_cons, List.length_nil, Bool.false_eq_true, Bool.true_eq_false] at *); (try omega))
      all_goals (first | (refine Sup.of ?_; first | rfl | (simp [*, resOf]; done)) | (refine Sup.via ?_; repeat' (first | ((conv => whnf); refine And.intro ?_ ?_) | ((conv => whnf); with_reducible exact VC.mk rfl) | ((conv => whnf); exact Ok.mk) | ((conv => whnf); exact True.intro) | ((conv => whnf); refine Nx.mk ?_) | ((conv => whnf); refine Fin.mk ?_) | ((conv => whnf); intro _)); all_goals ((try refine VC.mk ?_); (try simp only [CL.ncell, CL.cnt, Int.toNat_natCast, decide_eq_true_eq, decide_eq_false_iff_not, Bool.not_eq_true, Bool.not_false, Bool.not_true, and_self, and_true, true_and, te3b, te4b, te3s, te4s, Nat.mul_one, Nat.zero_add, List.length_cons, List.length_nil, Bool.false_eq_true, Bool.true_eq_false] at *); (try omega)); all_goals (try (simp [CL.sub]; done))))
  · have hd : digErr r c l = sqErr r c l := by unfold digErr; rw [if_neg he]
    rw [hd]
    refine pspec_of (md := 1) (rf := []) mixed tabOK cpCD_ok Try.func62 (by rfl) (by rfl) (by rfl) ?_
    repeat' (first | ((conv => whnf); refine And.intro ?_ ?_) | ((conv => whnf); with_reducible exact VC.mk rfl) | ((conv => whnf); exact Ok.mk) | ((conv => whnf); exact True.intro) | ((conv => whnf); refine Nx.mk ?_) | ((conv => whnf); refine Fin.mk ?_) | ((conv => whnf); intro _))
    all_goals ((try refine VC.mk ?_); (try simp only [CL.ncell, CL.cnt, Int.toNat_natCast, decide_eq_true_eq, decide_eq_false_iff_not, Bool.not_eq_true, Bool.not_false, Bool.not_true, and_self, and_true, true_and, te3b, te4b, te3s, te4s, Nat.mul_one, Nat.zero_add, List.length_cons, List.length_nil, Bool.false_eq_true, Bool.true_eq_false] at *); (try omega))
    conv => whnf
    refine loop_of (X := Unit) (fun _ => True) (fun x => [(4, .int .i64 0), (3, .int .i64 (sqErr r c l))]) (fun x => []) (fun _ => 0) () ⟨anyB_ok, mixed, tabOK, cpCD_ok, noY_ok⟩ (by rfl) trivial ?_ ?_
    · repeat' (first | ((conv => whnf); refine And.intro ?_ ?_) | ((conv => whnf); with_reducible exact VC.mk rfl) | ((conv => whnf); exact Ok.mk) | ((conv => whnf); exact True.intro) | ((conv => whnf); refine Nx.mk ?_) | ((conv => whnf); refine Fin.mk ?_) | ((conv => whnf); intro _))
      all_goals ((try refine VC.mk ?_); (try simp only [CL.ncell, CL.cnt, Int.toNat_natCast, decide_eq_true_eq, decide_eq_false_iff_not, Bool.not_eq_true, Bool.not_false, Bool.not_true, and_self, and_true, true_and, te3b, te4b, te3s, te4s, Nat.mul_one, Nat.zero_add, List.length_cons, List.length_nil, Bool.false_eq_true, Bool.true_eq_false] at *); (try omega))
    intro x hx
    repeat' (first | ((conv => whnf); refine And.intro ?_ ?_) | ((conv => whnf); with_reducible exact VC.mk rfl) | ((conv => whnf); exact Ok.mk) | ((conv => whnf); exact True.intro) | ((conv => whnf); refine Nx.mk ?_) | ((conv => whnf); refine Fin.mk ?_) | ((conv => whnf); intro hq; (try simp only [decide_eq_true_eq, decide_eq_false_iff_not, Bool.not_eq_true, Bool.not_eq_false, Bool.not_eq_true', Bool.not_eq_false', Bool.not_true, Bool.not_false, ite_true, ite_false] at hq); (try (exfalso; first | exact absurd hq (by decide) | omega))))
    all_goals ((try refine VC.mk ?_); (try simp only [CL.ncell, CL.cnt, Int.toNat_natCast, decide_eq_true_eq, decide_eq_false_iff_not, Bool.not_eq_true, Bool.not_false, Bool.not_true, and_self, and_true, true_and, te3b, te4b, te3s, te4s, Nat.mul_one, Nat.zero_add, List.length_cons, List.length_nil, Bool.false_eq_true, Bool.true_eq_false] at *); (try omega))
    all_goals (try (exfalso; omega))
    all_goals all_goals (first | (refine Sup.of ?_; first | rfl | (simp [*, resOf]; done)) | (refine Sup.via ?_; repeat' (first | ((conv => whnf); refine And.intro ?_ ?_) | ((conv => whnf); with_reducible exact VC.mk rfl) | ((conv => whnf); exact Ok.mk) | ((conv => whnf); exact True.intro) | ((conv => whnf); refine Nx.mk ?_) | ((conv => whnf); refine Fin.mk ?_) | ((conv => whnf); intro _)); all_goals ((try refine VC.mk ?_); (try simp only [CL.ncell, CL.cnt, Int.toNat_natCast, decide_eq_true_eq, decide_eq_false_iff_not, Bool.not_eq_true, Bool.not_false, Bool.not_true, and_self, and_true, true_and, te3b, te4b, te3s, te4s, Nat.mul_one, Nat.zero_add, List.length_cons, List.length_nil, Bool.false_eq_true, Bool.true_eq_false] at *); (try omega)); all_goals (try (simp [CL.sub]; done))))
def rCheckDigitsP : PSp := fun xs K => match xs with
  | [.agg [.int .i64 r, .int .i64 c, .isl (.ints .i64 l) .none]] => VC (True) ∧ K (.int .i64 (digErr r c l))
  | _ => False
theorem rCheckDigits_ok : POK Try.prog 62 rCheckDigitsP := by
  intro xs K h
  unfold rCheckDigitsP at h
  split at h
  · exact ⟨_, h.2, rCheckDigits_spec _ _ _⟩
  · exact h.elim
end Go.Eng.Ytppflbccfdbogaa
namespace Go.Eng.Ytppflbccfdbogaa
open Go.Proofs
set_option maxRecDepth 100000
set_option maxHeartbeats 0
set_option linter.unusedVariables false
set_option linter.unusedSimpArgs false
abbrev flatN (n : Int) (g : Nat → Int) : List Int := flatL (n.toNat * n.toNat) g
def digitsV (r c : Int) (l : List Int) : PV := if normErr r c l = 0 then .tup [gridV r r (flatN r (dgA r l)), gridV r r (flatN r (dgB r l)), .int .i64 0] else .tup [gridV 0 0 [], gridV 0 0 [], .int .i64 (normErr r c l)]
noncomputable def cpDi : CPT := cpAdd 88 (pureCC checkNormalP) (cpAdd 103 (pureCC madeP) noC)
theorem cpDi_ok : CPOK Try.prog cpDi := cpAdd_ok (pureCC_ok checkNormal_ok) (cpAdd_ok (pureCC_ok made_ok) noC_ok)
theorem digits_spec (r c : Int) (l : List Int) : PSpec Try.prog 59 [gridV r c l] (digitsV r c l) := by
  unfold digitsV
  by_cases hz : normErr r c l = 0
  · rw [if_pos hz]
    have g := normG hz
    obtain ⟨n, hn⟩ : ∃ n, r.toNat = n := ⟨_, rfl⟩
    rw [hn] at g
    obtain ⟨rfl, rfl, hn1, hl, hb⟩ := g
    simp only [flatN, Int.toNat_natCast]
    have eA : ∀ h : Nat → Int, madeL n (fun i j => h (n * i + j)) = flatL (n * n) h := fun h => madeL_flat n h
    refine pspec_of (md := 1) (rf := []) mixed tabOK cpDi_ok Try.func59 (by rfl) (by rfl) (by rfl) ?_
    repeat' (first | ((conv => whnf); refine And.intro ?_ ?_) | ((conv => whnf); with_reducible exact VC.mk rfl) | ((conv => whnf); exact Ok.mk) | ((conv => whnf); exact True.intro) | ((conv => whnf); refine Nx.mk ?_) | ((conv => whnf); refine Fin.mk ?_) | ((conv => whnf); intro hq; (try simp only [decide_eq_true_eq, decide_eq_false_iff_not, Bool.not_eq_true, Bool.not_eq_false, Bool.not_eq_true', Bool.not_eq_false', Bool.not_true, Bool.not_false, ite_true, ite_false] at hq); (try (exfalso; first | exact absurd hq (by decide) | omega))))
    all_goals ((try refine VC.mk ?_); (try simp only [CL.ncell, CL.cnt, Int.toNat_natCast, decide_eq_true_eq, decide_eq_false_iff_not, Bool.not_eq_true, Bool.not_false, Bool.not_true, and_self, and_true, true_and, te3b, te4b, te3s, te4s, Nat.mul_one, Nat.zero_add, List.length_cons, List.length_nil, Bool.false_eq_true, Bool.true_eq_false] at *); (try omega))
    all_goals (try (exfalso; omega))
    refine ⟨fun i j => dgA n l (n * i + j), fun i j hi hj => c108_spec n n l i j hn1 hl hb (by omega) (by omega), ?_⟩
    repeat' (first | ((conv => whnf); refine And.intro ?_ ?_) | ((conv => whnf); with_reducible exact VC.mk rfl) | ((conv => whnf); exact Ok.mk) | ((conv => whnf); exact True.intro) | ((conv => whnf); refine Nx.mk ?_) | ((conv => whnf); refine Fin.mk ?_) | ((conv => whnf); intro _))
    all_goals ((try refine VC.mk ?_); (try simp only [CL.ncell, CL.cnt, Int.toNat_natCast, decide_eq_true_eq, decide_eq_false_iff_not, Bool.not_eq_true, Bool.not_false, Bool.not_true, and_self, and_true, true_and, te3b, te4b, te3s, te4s, Nat.mul_one, Nat.zero_add, List.length_cons, List.length_nil, Bool.false_eq_true, Bool.true_eq_false] at *); (try omega))
    refine ⟨fun i j => dgB n l (n * i + j), fun i j hi hj => c109_spec n n l i j hn1 hl hb (by omega) (by omega), ?_⟩
    repeat' (first | ((conv => whnf); refine And.intro ?_ ?_) | ((conv => whnf); with_reducible exact VC.mk rfl) | ((conv => whnf); exact Ok.mk) | ((conv => whnf); exact True.intro) | ((conv => whnf); refine Nx.mk ?_) | ((conv => whnf); refine Fin.mk ?_) | ((conv => whnf); intro _))
    all_goals ((try refine VC.mk ?_); (try simp only [CL.ncell, CL.cnt, Int.toNat_natCast, decide_eq_true_eq, decide_eq_false_iff_not, Bool.not_eq_true, Bool.not_false, Bool.not_true, and_self, and_true, true_and, te3b, te4b, te3s, te4s, Nat.mul_one, Nat.zero_add, List.length_cons, List.length_nil, Bool.false_eq_true, Bool.true_eq_false] at *); (try omega))
    rw [eA, eA]
    all_goals (refine Sup.via ?_; repeat' (first | ((conv => whnf); refine And.intro ?_ ?_) | ((conv => whnf); with_reducible exact VC.mk rfl) | ((conv => whnf); exact Ok.mk) | ((conv => whnf); exact True.intro) | ((conv => whnf); refine Nx.mk ?_) | ((conv => whnf); refine Fin.mk ?_) | ((conv => whnf); intro _)); all_goals ((try refine VC.mk ?_); (try simp only [CL.ncell, CL.cnt, Int.toNat_natCast, decide_eq_true_eq, decide_eq_false_iff_not, Bool.not_eq_true, Bool.not_false, Bool.not_true, and_self, and_true, true_and, te3b, te4b, te3s, te4s, Nat.mul_one, Nat.zero_add, List.length_cons, List.length_nil, Bool.false_eq_true, Bool.true_eq_false] at *); (try omega)); all_goals (try (simp [CL.sub]; done)))
  · rw [if_neg hz]
    refine pspec_of (md := 1) (rf := []) mixed tabOK cpDi_ok Try.func59 (by rfl) (by rfl) (by rfl) ?_
    repeat' (first | ((conv => whnf); refine And.intro ?_ ?_) | ((conv => whnf); with_reducible exact VC.mk rfl) | ((conv => whnf); exact Ok.mk) | ((conv => whnf); exact True.intro) | ((conv => whnf); refine Nx.mk ?_) | ((conv => whnf); refine Fin.mk ?_) | ((conv => whnf); intro hq; (try simp only [decide_eq_true_eq, decide_eq_false_iff_not, Bool.not_eq_true, Bool.not_eq_false, Bool.not_eq_true', Bool.not_eq_false', Bool.not_true, Bool.not_false, ite_true, ite_false] at hq); (try (exfalso; first | exact absurd hq (by decide) | omega))))
    all_goals ((try refine VC.mk ?_); (try simp only [CL.ncell, CL.cnt, Int.toNat_natCast, decide_eq_true_eq, decide_eq_false_iff_not, Bool.not_eq_true, Bool.not_false, Bool.not_true, and_self, and_true, true_and, te3b, te4b, te3s, te4s, Nat.mul_one, Nat.zero_add, List.length_cons, List.length_nil, Bool.false_eq_true, Bool.true_eq_false] at *); (try omega))
    all_goals (try (exfalso; omega))
    all_goals (refine Sup.via ?_; repeat' (first | ((conv => whnf); refine And.intro ?_ ?_) | ((conv => whnf); with_reducible exact VC.mk rfl) | ((conv => whnf); exact Ok.mk) | ((conv => whnf); exact True.intro) | ((conv => whnf); refine Nx.mk ?_) | ((conv => whnf); refine Fin.mk ?_) | ((conv => whnf); intro _)); all_goals ((try refine VC.mk ?_); (try simp only [CL.ncell, CL.cnt, Int.toNat_natCast, decide_eq_true_eq, decide_eq_false_iff_not, Bool.not_eq_true, Bool.not_false, Bool.not_true, and_self, and_true, true_and, te3b, te4b, te3s, te4s, Nat.mul_one, Nat.zero_add, List.length_cons, List.length_nil, Bool.false_eq_true, Bool.true_eq_false] at *); (try omega)); all_goals (try (simp [CL.sub]; done)))
def digitsP : PSp := fun xs K => match xs with
  | [.agg [.int .i64 r, .int .i64 c, .isl (.ints .i64 l) .none]] => VC (True) ∧ K (digitsV r c l)
  | _ => False
theorem digits_ok : POK Try.prog 59 digitsP := by
  intro xs K h
  unfold digitsP at h
  split at h
  · exact ⟨_, h.2, digits_spec _ _ _⟩
  · exact h.elim
theorem rDigits_spec (n : Nat) (c : Int) (l : List Int) (hn : 1 ≤ n ∧ n ≤ 16) (hl : l.length = n * n) (hb : ∀ x ∈ l, 1 ≤ x ∧ x ≤ 256) : PSpec Try.prog 61 [gridV n c l] (.tup [gridV n n (flatL (n * n) (dgA n l)), gridV n n (flatL (n * n) (dgB n l))]) := by
  have eN : ((n : Int) * n).toNat = n * n := by rw [← Int.natCast_mul, Int.toNat_natCast]
  have hN := mul_bd (show 0 ≤ (n : Int) ∧ (n : Int) ≤ 16 by omega) (show 0 ≤ (n : Int) ∧ (n : Int) ≤ 16 by omega)
  have hnn : ((n * n : Nat) : Int) = (n : Int) * n := by push_cast; rfl
  refine pspec_of (md := 0) (rf := []) mixed tabOK cpSq_ok Try.func61 (by rfl) (by rfl) (by rfl) ?_
  repeat' (first | ((conv => whnf); refine And.intro ?_ ?_) | ((conv => whnf); with_reducible exact VC.mk rfl) | ((conv => whnf); exact Ok.mk) | ((conv => whnf); exact True.intro) | ((conv => whnf); refine Nx.mk ?_) | ((conv => whnf); refine Fin.mk ?_) | ((conv => whnf); intro _))
  all_goals ((try refine VC.mk ?_); (try simp only [CL.ncell, CL.cnt, Int.toNat_natCast, decide_eq_true_eq, decide_eq_false_iff_not, Bool.not_eq_true, Bool.not_false, Bool.not_true, and_self, and_true, true_and, te3b, te4b, te3s, te4s, Nat.mul_one, Nat.zero_add, List.length_cons, List.length_nil, Bool.false_eq_true, Bool.true_eq_false] at *); (try omega))
  try simp only [eN]
  conv => whnf
  refine loop_of (X := Nat) (fun k => k ≤ n * n) (fun k => [(6, .int .i64 k)]) (fun k => [(3, .cells (.ints .i64 (fillG (dgA n l) (n * n) k)) false), (7, .cells (.ints .i64 (fillG (dgB n l) (n * n) k)) false)]) (fun k => n * n - k) 0 ⟨anyB_ok, mixed, tabOK, cpSq_ok, noY_ok⟩ (by rfl) (by omega) ?_ ?_
  · repeat' (first | ((conv => whnf); refine And.intro ?_ ?_) | ((conv => whnf); with_reducible exact VC.mk rfl) | ((conv => whnf); exact Ok.mk) | ((conv => whnf); exact True.intro) | ((conv => whnf); refine Nx.mk ?_) | ((conv => whnf); refine Fin.mk ?_) | ((conv => whnf); intro _))
    all_goals ((try refine VC.mk ?_); (try simp only [CL.ncell, CL.cnt, Int.toNat_natCast, decide_eq_true_eq, decide_eq_false_iff_not, Bool.not_eq_true, Bool.not_false, Bool.not_true, and_self, and_true, true_and, te3b, te4b, te3s, te4s, Nat.mul_one, Nat.zero_add, List.length_cons, List.length_nil, Bool.false_eq_true, Bool.true_eq_false] at *); (try omega))
    all_goals simp [fillG_zero]
  intro k hk
  have e1 := fillG_len (dgA n l) (n * n) k hk
  have e2 := fillG_len (dgB n l) (n * n) k hk
  by_cases hlt : k < n * n
  · have h3 := bd_of hb (k := k) (by omega)
    have h5 := Int.ediv_le_self (a := l.getD k 0 - 1) n (by omega)
    have h6 : 0 ≤ (l.getD k 0 - 1) / n := Int.ediv_nonneg (by omega) (by omega)
    repeat' (first | ((conv => whnf); refine And.intro ?_ ?_) | ((conv => whnf); with_reducible exact VC.mk rfl) | ((conv => whnf); exact Ok.mk) | ((conv => whnf); exact True.intro) | ((conv => whnf); refine Nx.mk ?_) | ((conv => whnf); refine Fin.mk ?_) | ((conv => whnf); intro hq; (try simp only [decide_eq_true_eq, decide_eq_false_iff_not, Bool.not_eq_true, Bool.not_eq_false, Bool.not_eq_true', Bool.not_eq_false', Bool.not_true, Bool.not_false, ite_true, ite_false] at hq); (try (exfalso; first | exact absurd hq (by decide) | omega))))
    all_goals ((try refine VC.mk ?_); (try simp only [CL.ncell, CL.cnt, Int.toNat_natCast, decide_eq_true_eq, decide_eq_false_iff_not, Bool.not_eq_true, Bool.not_false, Bool.not_true, and_self, and_true, true_and, te3b, te4b, te3s, te4s, Nat.mul_one, Nat.zero_add, List.length_cons, List.length_nil, Bool.false_eq_true, Bool.true_eq_false] at *); (try omega))
    all_goals (try (exfalso; omega))
    refine ⟨k + 1, [], ⟨by omega, by omega⟩, ?_⟩
    repeat' (first | ((conv => whnf); refine And.intro ?_ ?_) | ((conv => whnf); with_reducible exact VC.mk rfl) | ((conv => whnf); exact Ok.mk) | ((conv => whnf); exact True.intro) | ((conv => whnf); refine Nx.mk ?_) | ((conv => whnf); refine Fin.mk ?_) | ((conv => whnf); intro _))
    all_goals ((try refine VC.mk ?_); (try simp only [CL.ncell, CL.cnt, Int.toNat_natCast, decide_eq_true_eq, decide_eq_false_iff_not, Bool.not_eq_true, Bool.not_false, Bool.not_true, and_self, and_true, true_and, te3b, te4b, te3s, te4s, Nat.mul_one, Nat.zero_add, List.length_cons, List.length_nil, Bool.false_eq_true, Bool.true_eq_false] at *); (try omega))
    · rw [← fillG_set _ _ _ hlt]; rfl
    · rw [← fillG_set _ _ _ hlt]; rfl
  · have : n * n = k := by omega
    subst this
    repeat' (first | ((conv => whnf); refine And.intro ?_ ?_) | ((conv => whnf); with_reducible exact VC.mk rfl) | ((conv => whnf); exact Ok.mk) | ((conv => whnf); exact True.intro) | ((conv => whnf); refine Nx.mk ?_) | ((conv => whnf); refine Fin.mk ?_) | ((conv => whnf); intro hq; (try simp only [decide_eq_true_eq, decide_eq_false_iff_not, Bool.not_eq_true, Bool.not_eq_false, Bool.not_eq_true', Bool.not_eq_false', Bool.not_true, Bool.not_false, ite_true, ite_false] at hq); (try (exfalso; first | exact absurd hq (by decide) | omega))))
    all_goals ((try refine VC.mk ?_); (try simp only [CL.ncell, CL.cnt, Int.toNat_natCast, decide_eq_true_eq, decide_eq_false_iff_not, Bool.not_eq_true, Bool.not_false, Bool.not_true, and_self, and_true, true_and, te3b, te4b, te3s, te4s, Nat.mul_one, Nat.zero_add, List.length_cons, List.length_nil, Bool.false_eq_true, Bool.true_eq_false] at *); (try omega))
    all_goals (try (exfalso; omega))
    rw [fillG_all, fillG_all]
    unfold flatL
    refine Sup.of ?_
    simp [resOf, gridV, CL.sub, List.take_of_length_le]
/-- a square of digits -/
structure DigG (r c : Int) (l : List Int) (n : Nat) : Prop where
  er : r = n
  ec : c = n
  en : 1 ≤ n ∧ n ≤ 16
  el : l.length = n * n
  eb : ∀ x ∈ l, 0 ≤ x ∧ x ≤ 16
theorem digG {r c : Int} {l : List Int} (h : digErr r c l = 0) : DigG r c l r.toNat := by
  unfold digErr at h
  by_cases h1 : sqErr r c l = 0
  · rw [if_pos h1] at h
    obtain ⟨z1, z2, z3, z4, z5⟩ := sqErr_zero h1
    have h2 : l.any (out3 r) = false := by
      cases hh : l.any (out3 r) with
      | false => rfl
      | true => rw [hh] at h; simp at h
    rw [List.any_eq_false] at h2
    have : ((r.toNat * r.toNat : Nat) : Int) = r * r := by push_cast; rw [Int.toNat_of_nonneg (by omega)]
    refine ⟨by omega, by omega, by omega, by omega, fun x hx => ?_⟩
    have := h2 x hx
    unfold out3 at this
    rw [decide_eq_true_eq] at this
    omega
  · rw [if_neg h1] at h; exact absurd h h1
def frdV (n : Nat) (L : List Int) : PV := if isNorm L = true then okGrid n n L else noGrid 9
theorem normErr_flat {n : Nat} (hn : 1 ≤ n ∧ n ≤ 16) (g : Nat → Int) : normErr n n (flatL (n * n) g) = if isNorm (flatL (n * n) g) then 0 else 1 := by
  have hl : ((flatL (n * n) g).length : Int) = (n : Int) * n := by simp [flatL]
  unfold normErr
  rw [if_pos]
  unfold sqErr
  rw [if_neg (by omega)]
noncomputable def cpFd : CPT := cpAdd 110 (pureCC checkDigitsP) (cpAdd 88 (pureCC checkNormalP) (cpAdd 103 (pureCC madeP) cp2))
theorem cpFd_ok : CPOK Try.prog cpFd := cpAdd_ok (pureCC_ok checkDigits_ok) (cpAdd_ok (pureCC_ok checkNormal_ok) (cpAdd_ok (pureCC_ok made_ok) cp2_ok))
def frdErr (ra ca : Int) (a : List Int) (rb cb : Int) (b : List Int) : Int := firstOf [digErr ra ca a, digErr rb cb b, if ra ≠ rb then 2 else 0]
theorem fromDigits_err (ra ca : Int) (a : List Int) (rb cb : Int) (b : List Int) (h : frdErr ra ca a rb cb b ≠ 0) : PSpec Try.prog 60 [gridV ra ca a, gridV rb cb b] (noGrid (frdErr ra ca a rb cb b)) := by
  unfold frdErr at *
  refine pspec_of (md := 1) (rf := []) mixed tabOK cpFd_ok Try.func60 (by rfl) (by rfl) (by rfl) ?_
  repeat' (first | ((conv => whnf); refine And.intro ?_ ?_) | ((conv => whnf); with_reducible exact VC.mk rfl) | ((conv => whnf); exact Ok.mk) | ((conv => whnf); exact True.intro) | ((conv => whnf); refine Nx.mk ?_) | ((conv => whnf); refine Fin.mk ?_) | ((conv => whnf); intro hq; (try simp only [decide_eq_true_eq, decide_eq_false_iff_not, Bool.not_eq_true, Bool.not_eq_false, Bool.not_eq_true', Bool.not_eq_false', Bool.not_true, Bool.not_false, ite_true, ite_false] at hq); (try (exfalso; first | exact absurd hq (by decide) | omega))))
  all_goals ((try refine VC.mk ?_); (try simp only [CL.ncell, CL.cnt, Int.toNat_natCast, decide_eq_true_eq, decide_eq_false_iff_not, Bool.not_eq_true, Bool.not_false, Bool.not_true, and_self, and_true, true_and, te3b, te4b, te3s, te4s, Nat.mul_one, Nat.zero_add, List.length_cons, List.length_nil, Bool.false_eq_true, Bool.true_eq_false] at *); (try omega))
  all_goals (try (exfalso; omega))
  all_goals (refine Sup.via ?_; repeat' (first | ((conv => whnf); refine And.intro ?_ ?_) | ((conv => whnf); with_reducible exact VC.mk rfl) | ((conv => whnf); exact Ok.mk) | ((conv => whnf); exact True.intro) | ((conv => whnf); refine Nx.mk ?_) | ((conv => whnf); refine Fin.mk ?_) | ((conv => whnf); intro _)); all_goals ((try refine VC.mk ?_); (try simp only [CL.ncell, CL.cnt, Int.toNat_natCast, decide_eq_true_eq, decide_eq_false_iff_not, Bool.not_eq_true, Bool.not_false, Bool.not_true, and_self, and_true, true_and, te3b, te4b, te3s, te4s, Nat.mul_one, Nat.zero_add, List.length_cons, List.length_nil, Bool.false_eq_true, Bool.true_eq_false] at *); (try omega)); all_goals (try (simp [CL.sub]; done)))
theorem fromDigits_ok (n : Nat) (a b : List Int) (ha : DigG n n a n) (hb : DigG n n b n) (h : frdErr n n a n n b = 0) : PSpec Try.prog 60 [gridV n n a, gridV n n b] (frdV n (flatL (n * n) (dgC n a b))) := by
  obtain ⟨_, _, hn, hal, hab⟩ := ha
  obtain ⟨_, _, _, hbl, hbb⟩ := hb
  unfold frdErr at h
  have eA : ∀ h : Nat → Int, madeL n (fun i j => h (n * i + j)) = flatL (n * n) h := fun h => madeL_flat n h
  have hne := normErr_flat hn (dgC n a b)
  unfold frdV
  refine pspec_of (md := 1) (rf := []) mixed tabOK cpFd_ok Try.func60 (by rfl) (by rfl) (by rfl) ?_
  repeat' (first | ((conv => whnf); refine And.intro ?_ ?_) | ((conv => whnf); with_reducible exact VC.mk rfl) | ((conv => whnf); exact Ok.mk) | ((conv => whnf); exact True.intro) | ((conv => whnf); refine Nx.mk ?_) | ((conv => whnf); refine Fin.mk ?_) | ((conv => whnf); intro hq; (try simp only [decide_eq_true_eq, decide_eq_false_iff_not, Bool.not_eq_true, Bool.not_eq_false, Bool.not_eq_true', Bool.not_eq_false', Bool.not_true, Bool.not_false, ite_true, ite_false] at hq); (try (exfalso; first | exact absurd hq (by decide) | omega))))
  all_goals ((try refine VC.mk ?_); (try simp only [CL.ncell, CL.cnt, Int.toNat_natCast, decide_eq_true_eq, decide_eq_false_iff_not, Bool.not_eq_true, Bool.not_false, Bool.not_true, and_self, and_true, true_and, te3b, te4b, te3s, te4s, Nat.mul_one, Nat.zero_add, List.length_cons, List.length_nil, Bool.false_eq_true, Bool.true_eq_false] at *); (try omega))
  all_goals (try (exfalso; omega))
  refine ⟨fun i j => dgC n a b (n * i + j), fun i j hi hj => c111_spec n n n a b i j hn hal hbl hab hbb (by omega) (by omega) n, ?_⟩
  rw [eA]
  generalize flatL (n * n) (dgC n a b) = L at *
  repeat' (first | ((conv => whnf); refine And.intro ?_ ?_) | ((conv => whnf); with_reducible exact VC.mk rfl) | ((conv => whnf); exact Ok.mk) | ((conv => whnf); exact True.intro) | ((conv => whnf); refine Nx.mk ?_) | ((conv => whnf); refine Fin.mk ?_) | ((conv => whnf); intro hq; (try simp only [decide_eq_true_eq, decide_eq_false_iff_not, Bool.not_eq_true, Bool.not_eq_false, Bool.not_eq_true', Bool.not_eq_false', Bool.not_true, Bool.not_false, ite_true, ite_false] at hq); (try (exfalso; first | exact absurd hq (by decide) | omega))))
  all_goals ((try refine VC.mk ?_); (try simp only [CL.ncell, CL.cnt, Int.toNat_natCast, decide_eq_true_eq, decide_eq_false_iff_not, Bool.not_eq_true, Bool.not_false, Bool.not_true, and_self, and_true, true_and, te3b, te4b, te3s, te4s, Nat.mul_one, Nat.zero_add, List.length_cons, List.length_nil, Bool.false_eq_true, Bool.true_eq_false] at *); (try omega))
  · rw [if_neg (fun h => by rw [if_pos h] at hne; exact hq hne)]
    all_goals (refine Sup.via ?_; repeat' (first | ((conv => whnf); refine And.intro ?_ ?_) | ((conv => whnf); with_reducible exact VC.mk rfl) | ((conv => whnf); exact Ok.mk) | ((conv => whnf); exact True.intro) | ((conv => whnf); refine Nx.mk ?_) | ((conv => whnf); refine Fin.mk ?_) | ((conv => whnf); intro _)); all_goals ((try refine VC.mk ?_); (try simp only [CL.ncell, CL.cnt, Int.toNat_natCast, decide_eq_true_eq, decide_eq_false_iff_not, Bool.not_eq_true, Bool.not_false, Bool.not_true, and_self, and_true, true_and, te3b, te4b, te3s, te4s, Nat.mul_one, Nat.zero_add, List.length_cons, List.length_nil, Bool.false_eq_true, Bool.true_eq_false] at *); (try omega)); all_goals (try (simp [CL.sub]; done)))
  · rw [if_pos (Classical.byContradiction fun h => by rw [if_neg h] at hne; omega)]
    all_goals (refine Sup.via ?_; repeat' (first | ((conv => whnf); refine And.intro ?_ ?_) | ((conv => whnf); with_reducible exact VC.mk rfl) | ((conv => whnf); exact Ok.mk) | ((conv => whnf); exact True.intro) | ((conv => whnf); refine Nx.mk ?_) | ((conv => whnf); refine Fin.mk ?_) | ((conv => whnf); intro _)); all_goals ((try refine VC.mk ?_); (try simp only [CL.ncell, CL.cnt, Int.toNat_natCast, decide_eq_true_eq, decide_eq_false_iff_not, Bool.not_eq_true, Bool.not_false, Bool.not_true, and_self, and_true, true_and, te3b, te4b, te3s, te4s, Nat.mul_one, Nat.zero_add, List.length_cons, List.length_nil, Bool.false_eq_true, Bool.true_eq_false] at *); (try omega)); all_goals (try (simp [CL.sub]; done)))
noncomputable def cpFr : CPT := cpAdd 25 (viewCC IsNormalP) cpSq
theorem cpFr_ok : CPOK Try.prog cpFr := cpAdd_ok (viewCC_ok IsNormal_ok) cpSq_ok
theorem rFromDigits_ne (ra ca : Int) (a : List Int) (rb cb : Int) (b : List Int) (h : ra ≠ rb) : PSpec Try.prog 63 [gridV ra ca a, gridV rb cb b] (noGrid 2) := by
  refine pspec_of (md := 0) (rf := []) mixed tabOK cpFr_ok Try.func63 (by rfl) (by rfl) (by rfl) ?_
  repeat' (first | ((conv => whnf); refine And.intro ?_ ?_) | ((conv => whnf); with_reducible exact VC.mk rfl) | ((conv => whnf); exact Ok.mk) | ((conv => whnf); exact True.intro) | ((conv => whnf); refine Nx.mk ?_) | ((conv => whnf); refine Fin.mk ?_) | ((conv => whnf); intro hq; (try simp only [decide_eq_true_eq, decide_eq_false_iff_not, Bool.not_eq_true, Bool.not_eq_false, Bool.not_eq_true', Bool.not_eq_false', Bool.not_true, Bool.not_false, ite_true, ite_false] at hq); (try (exfalso; first | exact absurd hq (by decide) | omega))))
  all_goals ((try refine VC.mk ?_); (try simp only [CL.ncell, CL.cnt, Int.toNat_natCast, decide_eq_true_eq, decide_eq_false_iff_not, Bool.not_eq_true, Bool.not_false, Bool.not_true, and_self, and_true, true_and, te3b, te4b, te3s, te4s, Nat.mul_one, Nat.zero_add, List.length_cons, List.length_nil, Bool.false_eq_true, Bool.true_eq_false] at *); (try omega))
  all_goals (try (exfalso; omega))
  all_goals (refine Sup.via ?_; repeat' (first | ((conv => whnf); refine And.intro ?_ ?_) | ((conv => whnf); with_reducible exact VC.mk rfl) | ((conv => whnf); exact Ok.mk) | ((conv => whnf); exact True.intro) | ((conv => whnf); refine Nx.mk ?_) | ((conv => whnf); refine Fin.mk ?_) | ((conv => whnf); intro _)); all_goals ((try refine VC.mk ?_); (try simp only [CL.ncell, CL.cnt, Int.toNat_natCast, decide_eq_true_eq, decide_eq_false_iff_not, Bool.not_eq_true, Bool.not_false, Bool.not_true, and_self, and_true, true_and, te3b, te4b, te3s, te4s, Nat.mul_one, Nat.zero_add, List.length_cons, List.length_nil, Bool.false_eq_true, Bool.true_eq_false] at *); (try omega)); all_goals (try (simp [CL.sub]; done)))
theorem take_fill (g : Nat → Int) (N : Nat) : List.take (N - 0) (List.drop 0 (fillG g N N)) = flatL N g := by rw [fillG_all]; simp [flatL, List.take_of_length_le]
theorem rFromDigits_ok (n : Nat) (a b : List Int) (hn : 1 ≤ n ∧ n ≤ 16) (hal : a.length = n * n) (hbl : b.length = n * n) (hab : ∀ x ∈ a, 0 ≤ x ∧ x ≤ 16) (hbb : ∀ x ∈ b, 0 ≤ x ∧ x ≤ 16) : PSpec Try.prog 63 [gridV n n a, gridV n n b] (frdV n (flatL (n * n) (dgC n a b))) := by
  have eN : ((n : Int) * n).toNat = n * n := by rw [← Int.natCast_mul, Int.toNat_natCast]
  have hN := mul_bd (show 0 ≤ (n : Int) ∧ (n : Int) ≤ 16 by omega) (show 0 ≤ (n : Int) ∧ (n : Int) ≤ 16 by omega)
  have hnn : ((n * n : Nat) : Int) = (n : Int) * n := by push_cast; rfl
  unfold frdV
  refine pspec_of (md := 0) (rf := []) mixed tabOK cpFr_ok Try.func63 (by rfl) (by rfl) (by rfl) ?_
  repeat' (first | ((conv => whnf); refine And.intro ?_ ?_) | ((conv => whnf); with_reducible exact VC.mk rfl) | ((conv => whnf); exact Ok.mk) | ((conv => whnf); exact True.intro) | ((conv => whnf); refine Nx.mk ?_) | ((conv => whnf); refine Fin.mk ?_) | ((conv => whnf); intro hq; (try simp only [decide_eq_true_eq, decide_eq_false_iff_not, Bool.not_eq_true, Bool.not_eq_false, Bool.not_eq_true', Bool.not_eq_false', Bool.not_true, Bool.not_false, ite_true, ite_false] at hq); (try (exfalso; first | exact absurd hq (by decide) | omega))))
  all_goals ((try refine VC.mk ?_); (try simp only [CL.ncell, CL.cnt, Int.toNat_natCast, decide_eq_true_eq, decide_eq_false_iff_not, Bool.not_eq_true, Bool.not_false, Bool.not_true, and_self, and_true, true_and, te3b, te4b, te3s, te4s, Nat.mul_one, Nat.zero_add, List.length_cons, List.length_nil, Bool.false_eq_true, Bool.true_eq_false] at *); (try omega))
  all_goals (try (exfalso; omega))
  try simp only [eN]
  conv => whnf
  refine loop_of (X := Nat) (fun k => k ≤ n * n) (fun k => [(7, .int .i64 k)]) (fun k => [(3, .cells (.ints .i64 (fillG (dgC n a b) (n * n) k)) false)]) (fun k => n * n - k) 0 ⟨anyB_ok, mixed, tabOK, cpFr_ok, noY_ok⟩ (by rfl) (by omega) ?_ ?_
  · conv => whnf
    repeat' (first | ((conv => whnf); refine And.intro ?_ ?_) | ((conv => whnf); with_reducible exact VC.mk rfl) | ((conv => whnf); exact Ok.mk) | ((conv => whnf); exact True.intro) | ((conv => whnf); refine Nx.mk ?_) | ((conv => whnf); refine Fin.mk ?_) | ((conv => whnf); intro _))
    all_goals ((try refine VC.mk ?_); (try simp only [CL.ncell, CL.cnt, Int.toNat_natCast, decide_eq_true_eq, decide_eq_false_iff_not, Bool.not_eq_true, Bool.not_false, Bool.not_true, and_self, and_true, true_and, te3b, te4b, te3s, te4s, Nat.mul_one, Nat.zero_add, List.length_cons, List.length_nil, Bool.false_eq_true, Bool.true_eq_false] at *); (try omega))
    all_goals simp [fillG_zero]
  intro k hk
  have e1 := fillG_len (dgC n a b) (n * n) k hk
  by_cases hlt : k < n * n
  · have h3 := bd_of hab (k := k) (by omega)
    have h4 := bd_of hbb (k := k) (by omega)
    have h5 := mul_bd (show 0 ≤ (n : Int) ∧ (n : Int) ≤ 16 by omega) h4
    repeat' (first | ((conv => whnf); refine And.intro ?_ ?_) | ((conv => whnf); with_reducible exact VC.mk rfl) | ((conv => whnf); exact Ok.mk) | ((conv => whnf); exact True.intro) | ((conv => whnf); refine Nx.mk ?_) | ((conv => whnf); refine Fin.mk ?_) | ((conv => whnf); intro hq; (try simp only [decide_eq_true_eq, decide_eq_false_iff_not, Bool.not_eq_true, Bool.not_eq_false, Bool.not_eq_true', Bool.not_eq_false', Bool.not_true, Bool.not_false, ite_true, ite_false] at hq); (try (exfalso; first | exact absurd hq (by decide) | omega))))
    all_goals ((try refine VC.mk ?_); (try simp only [CL.ncell, CL.cnt, Int.toNat_natCast, decide_eq_true_eq, decide_eq_false_iff_not, Bool.not_eq_true, Bool.not_false, Bool.not_true, and_self, and_true, true_and, te3b, te4b, te3s, te4s, Nat.mul_one, Nat.zero_add, List.length_cons, List.length_nil, Bool.false_eq_true, Bool.true_eq_false] at *); (try omega))
    all_goals (try (exfalso; omega))
    refine ⟨k + 1, [], ⟨by omega, by omega⟩, ?_⟩
    repeat' (first | ((conv => whnf); refine And.intro ?_ ?_) | ((conv => whnf); with_reducible exact VC.mk rfl) | ((conv => whnf); exact Ok.mk) | ((conv => whnf); exact True.intro) | ((conv => whnf); refine Nx.mk ?_) | ((conv => whnf); refine Fin.mk ?_) | ((conv => whnf); intro _))
    all_goals ((try refine VC.mk ?_); (try simp only [CL.ncell, CL.cnt, Int.toNat_natCast, decide_eq_true_eq, decide_eq_false_iff_not, Bool.not_eq_true, Bool.not_false, Bool.not_true, and_self, and_true, true_and, te3b, te4b, te3s, te4s, Nat.mul_one, Nat.zero_add, List.length_cons, List.length_nil, Bool.false_eq_true, Bool.true_eq_false] at *); (try omega))
    rw [← fillG_set _ _ _ hlt]; rfl
  · have : n * n = k := by omega
    subst this
    repeat' (first | ((conv => whnf); refine And.intro ?_ ?_) | ((conv => whnf); with_reducible exact VC.mk rfl) | ((conv => whnf); exact Ok.mk) | ((conv => whnf); exact True.intro) | ((conv => whnf); refine Nx.mk ?_) | ((conv => whnf); refine Fin.mk ?_) | ((conv => whnf); intro hq; (try simp only [decide_eq_true_eq, decide_eq_false_iff_not, Bool.not_eq_true, Bool.not_eq_false, Bool.not_eq_true', Bool.not_eq_false', Bool.not_true, Bool.not_false, ite_true, ite_false] at hq); (try (exfalso; first | exact absurd hq (by decide) | omega))))
    all_goals ((try refine VC.mk ?_); (try simp only [CL.ncell, CL.cnt, Int.toNat_natCast, decide_eq_true_eq, decide_eq_false_iff_not, Bool.not_eq_true, Bool.not_false, Bool.not_true, and_self, and_true, true_and, te3b, te4b, te3s, te4s, Nat.mul_one, Nat.zero_add, List.length_cons, List.length_nil, Bool.false_eq_true, Bool.true_eq_false] at *); (try omega))
    repeat' (first | ((conv => whnf); refine And.intro ?_ ?_) | ((conv => whnf); with_reducible exact VC.mk rfl) | ((conv => whnf); exact Ok.mk) | ((conv => whnf); exact True.intro) | ((conv => whnf); refine Nx.mk ?_) | ((conv => whnf); refine Fin.mk ?_) | ((conv => whnf); intro hq; (try simp only [decide_eq_true_eq, decide_eq_false_iff_not, Bool.not_eq_true, Bool.not_eq_false, Bool.not_eq_true', Bool.not_eq_false', Bool.not_true, Bool.not_false, ite_true, ite_false] at hq); (try (exfalso; first | exact absurd hq (by decide) | omega))))
    all_goals ((try refine VC.mk ?_); (try simp only [CL.ncell, CL.cnt, Int.toNat_natCast, decide_eq_true_eq, decide_eq_false_iff_not, Bool.not_eq_true, Bool.not_false, Bool.not_true, and_self, and_true, true_and, te3b, te4b, te3s, te4s, Nat.mul_one, Nat.zero_add, List.length_cons, List.length_nil, Bool.false_eq_true, Bool.true_eq_false] at *); (try omega))
    · rw [take_fill]
      simp [flatL]
      omega
    · rename_i hq
      rw [take_fill] at hq
      rw [if_neg (by rw [hq]; decide)]
      all_goals (refine Sup.via ?_; repeat' (first | ((conv => whnf); refine And.intro ?_ ?_) | ((conv => whnf); with_reducible exact VC.mk rfl) | ((conv => whnf); exact Ok.mk) | ((conv => whnf); exact True.intro) | ((conv => whnf); refine Nx.mk ?_) | ((conv => whnf); refine Fin.mk ?_) | ((conv => whnf); intro _)); all_goals ((try refine VC.mk ?_); (try simp only [CL.ncell, CL.cnt, Int.toNat_natCast, decide_eq_true_eq, decide_eq_false_iff_not, Bool.not_eq_true, Bool.not_false, Bool.not_true, and_self, and_true, true_and, te3b, te4b, te3s, te4s, Nat.mul_one, Nat.zero_add, List.length_cons, List.length_nil, Bool.false_eq_true, Bool.true_eq_false] at *); (try omega)); all_goals (try (simp [CL.sub]; done)))
    · rename_i hq
      rw [take_fill] at hq
      rw [if_pos hq]
      refine Sup.of ?_
      have e1 : (fillG (dgC n a b) (n * n) (n * n)).length = n * n := e1
      rw [fillG_all]
      simp [resOf, gridV, CL.sub, List.take_of_length_le, flatL]
end Go.Eng.Ytppflbccfdbogaa
namespace Go.Eng.Ytppflbccfdbogaa
open Go.Proofs
set_option maxRecDepth 100000
set_option maxHeartbeats 0
set_option linter.unusedVariables false
set_option linter.unusedSimpArgs false
theorem flatL_get {N k : Nat} {g : Nat → Int} (hk : k < N) : (flatL N g).getD k 0 = g k := by
  unfold flatL
  rw [List.getD_eq_getElem?_getD, List.getElem?_map, List.getElem?_range hk]; rfl
theorem flatL_len (N : Nat) (g : Nat → Int) : (flatL N g).length = N := by simp [flatL]
theorem dig_back {n : Nat} {L : List Int} (hn : 1 ≤ n) (hl : L.length = n * n) : flatL (n * n) (dgC n (flatL (n * n) (dgA n L)) (flatL (n * n) (dgB n L))) = L := by
  refine eq_of_getD (by rw [flatL_len, hl]) fun k hk => ?_
  rw [flatL_len] at hk
  rw [flatL_get hk]
  unfold dgC
  rw [flatL_get hk, flatL_get hk]
  unfold dgA dgB
  have := Int.emod_add_mul_ediv (L.getD k 0 - 1) n
  omega
theorem digs_all {n : Nat} {L : List Int} (hn : 1 ≤ n ∧ n ≤ 16) (hl : L.length = n * n) (hN : isNorm L = true) (he : normErr n n L = 0) :
    ∃ A B : List Int, PSpec Try.prog 59 [gridV n n L] (.tup [gridV n n A, gridV n n B, .int .i64 0]) ∧ PSpec Try.prog 60 [gridV n n A, gridV n n B] (okGrid n n L) := by
  have h := digits_spec n n L
  unfold digitsV at h
  rw [if_pos he] at h
  simp only [flatN, Int.toNat_natCast] at h
  refine ⟨_, _, h, ?_⟩
  have hb := ((isNorm_iff L).1 hN).1
  rw [hl] at hb
  have nn : ((n * n : Nat) : Int) = (n : Int) * n := by push_cast; rfl
  have bA : ∀ x ∈ flatL (n * n) (dgA n L), 0 ≤ x ∧ x < n := fun x hx => by
    unfold flatL at hx
    obtain ⟨k, hk, rfl⟩ := List.mem_map.1 hx
    exact ⟨Int.emod_nonneg _ (by omega), Int.emod_lt_of_pos _ (by omega)⟩
  have bB : ∀ x ∈ flatL (n * n) (dgB n L), 0 ≤ x ∧ x < n := fun x hx => by
    unfold flatL at hx
    obtain ⟨k, hk, rfl⟩ := List.mem_map.1 hx
    have := hb k (List.mem_range.1 hk)
    exact ⟨Int.ediv_nonneg (by omega) (by omega), Int.ediv_lt_of_lt_mul (by omega) (by omega)⟩
  have eD : ∀ g : Nat → Int, (∀ x ∈ flatL (n * n) g, 0 ≤ x ∧ x < n) → digErr n n (flatL (n * n) g) = 0 ∧ DigG n n (flatL (n * n) g) n := fun g hg => by
    refine ⟨?_, rfl, rfl, hn, flatL_len _ _, fun x hx => by have := hg x hx; omega⟩
    unfold digErr
    have hs : sqErr n n (flatL (n * n) g) = 0 := by unfold sqErr; rw [if_neg]; rw [flatL_len]; omega
    rw [if_pos hs, if_neg]
    rw [List.any_eq_true]
    rintro ⟨x, hx, h⟩
    have := hg x hx
    unfold out3 at h
    rw [decide_eq_true_eq] at h
    omega
  obtain ⟨eA, gA⟩ := eD _ bA
  obtain ⟨eB, gB⟩ := eD _ bB
  have h2 := fromDigits_ok n _ _ gA gB (by unfold frdErr; rw [eA, eB, if_neg (by simp)]; rfl)
  rw [dig_back hn.1 hl] at h2
  unfold frdV at h2
  rw [if_pos hN] at h2
  exact h2
theorem gOf_le (s : ByteArray) : gOf s ≤ 3 := by unfold gOf; (repeat' split) <;> omega
theorem composite_law (ra ca : Int) (a : List Int) (rb cb : Int) (b : List Int) : PSpec Try.prog 13 [gridV ra ca a, gridV rb cb b] (.bp true) := by
  by_cases h : normErr ra ca a = 0 ∧ normErr rb cb b = 0 ∧ ra * rb ≤ 16
  · obtain ⟨ha, hb, hab⟩ := h
    have gA := normG ha
    have gB := normG hb
    obtain ⟨m, hm⟩ : ∃ m, ra.toNat = m := ⟨_, rfl⟩
    obtain ⟨n, hn⟩ : ∃ n, rb.toNat = n := ⟨_, rfl⟩
    rw [hm] at gA
    rw [hn] at gB
    obtain ⟨rfl, rfl, a3, a4, a5⟩ := gA
    obtain ⟨rfl, rfl, b3, b4, b5⟩ := gB
    have hmn0 : (m : Int) * n = ((m * n : Nat) : Int) := by push_cast; rfl
    have hmn : m * n ≤ 16 := by omega
    have hmn1 : 1 ≤ m * n := Nat.mul_pos a3.1 b3.1
    have nA := (normErr_zero ha).2
    have nB := (normErr_zero hb).2
    have h52 := product_good m n a b ha hb hmn
    have nL := prod_norm a3.1 b3.1 a4 b4 nA nB
    have lL : (prodL m n a b).length = (m * n) * (m * n) := by unfold prodL; simp [madeL]
    have hat : ∀ k, k < (m * n) * (m * n) → (prodL m n a b).getD k 0 = prodF m n a b (k / (m * n)) (k % (m * n)) := fun k hk => by
      unfold prodL madeL
      rw [List.getD_eq_getElem?_getD, List.getElem?_map, List.getElem?_range hk]; rfl
    have hgood : ∀ g : Int, g ≤ 3 → badLine m g a = none → badLine n g b = none → badLine (m * n) g (prodL m n a b) = none := fun g hg h1 h2 => by
      rw [good_iff (by omega)] at h1 h2 ⊢
      refine (prod_good a3.1 b3.1 hg h1 h2).congr fun i j hi hj => ?_
      unfold sqAt prodL
      rw [madeL_get hi hj]
    have hE : normErr (m * n : Nat) (m * n : Nat) (prodL m n a b) = 0 := by
      unfold normErr
      rw [if_pos, if_pos nL]
      unfold sqErr
      rw [if_neg]; rw [lL, ← hmn0]; push_cast; omega
    obtain ⟨A, B, h59, h60⟩ := digs_all (n := m * n) ⟨hmn1, hmn⟩ lL nL hE
    have hbd : ∀ k, k < (m * n) * (m * n) → 1 ≤ (prodL m n a b).getD k 0 ∧ (prodL m n a b).getD k 0 ≤ 256 := fun k hk => by
      have h1 := ((isNorm_iff _).1 nL).1 k (by rw [lL]; exact hk)
      have h2 := Nat.mul_le_mul hmn hmn
      rw [lL] at h1; omega
    generalize prodL m n a b = L at *
    have hmag : ∀ s : ByteArray, gOf s ≤ 3 → magB m m a m (gOf s) = true → magB n n b n (gOf s) = true → magB ((m : Int) * n) ((m : Int) * n) L ((m : Int) * n) (gOf s) = true := fun s hs h1 h2 => by
      unfold magB at *
      rw [Bool.and_eq_true, Option.isNone_iff_eq_none] at h1 h2 ⊢
      rw [hmn0, decide_eq_true_eq]
      simp only [Int.toNat_natCast] at h1 h2 ⊢
      exact ⟨by simpa using hE, hgood _ hs h1.2 h2.2⟩
    rw [← hmn0] at h52 h59 h60 hE
    have l1 : L.length ≤ 2000000 := by have := Nat.mul_le_mul hmn hmn; omega
    have l2 : a.length ≤ 2000000 := by have := Nat.mul_le_mul a3.2 a3.2; omega
    have l3 : b.length ≤ 2000000 := by have := Nat.mul_le_mul b3.2 b3.2; omega
    have hC := cpAdd_ok (pureCC_ok CheckNormal_ok) (cpAdd_ok (pureCC_ok (atC_ok (C := True) fun _ => h52)) (cpAdd_ok (pureCC_ok magG_ok) (cpAdd_ok (pureCC_ok (atC_ok (C := True) fun _ => h59)) (cpAdd_ok (pureCC_ok (atC_ok (C := True) fun _ => h60)) (cpAdd_ok (pureCC_ok sameT_ok) (cpAdd_ok (pureCC_ok awakeT_ok) noC_ok))))))
    refine pspec_of (md := 0) (rf := []) mixed tabOK hC Try.func13 (by rfl) (by rfl) (by rfl) ?_
    repeat' (first | ((conv => whnf); refine And.intro ?_ ?_) | ((conv => whnf); with_reducible exact VC.mk rfl) | ((conv => whnf); exact Ok.mk) | ((conv => whnf); exact True.intro) | ((conv => whnf); refine Nx.mk ?_) | ((conv => whnf); refine Fin.mk ?_) | ((conv => whnf); intro hq; (try simp only [decide_eq_true_eq, decide_eq_false_iff_not, Bool.not_eq_true, Bool.not_eq_false, Bool.not_eq_true', Bool.not_eq_false', Bool.not_true, Bool.not_false, ite_true, ite_false] at hq); (try (exfalso; first | exact absurd hq (by decide) | omega))))
    all_goals ((try refine VC.mk ?_); (try simp only [CL.ncell, CL.cnt, Int.toNat_natCast, decide_eq_true_eq, decide_eq_false_iff_not, Bool.not_eq_true, Bool.not_false, Bool.not_true, and_self, and_true, true_and, te3b, te4b, te3s, te4s, Nat.mul_one, Nat.zero_add, List.length_cons, List.length_nil, Bool.false_eq_true, Bool.true_eq_false] at *); (try omega))
    all_goals (try (exfalso; omega))
    clear hgood h52 h59 h60
    conv => whnf
    refine loop_of (X := Nat) (fun k => k ≤ 3) (fun k => [(40, .any), (43, .any), (63, .int .i64 k)]) (fun k => []) (fun k => 3 - k) 0 ⟨anyB_ok, mixed, tabOK, hC, noY_ok⟩ (by rfl) (by omega) ?_ ?_
    · repeat' (first | ((conv => whnf); refine And.intro ?_ ?_) | ((conv => whnf); with_reducible exact VC.mk rfl) | ((conv => whnf); exact Ok.mk) | ((conv => whnf); exact True.intro) | ((conv => whnf); refine Nx.mk ?_) | ((conv => whnf); refine Fin.mk ?_) | ((conv => whnf); intro _))
      all_goals ((try refine VC.mk ?_); (try simp only [CL.ncell, CL.cnt, Int.toNat_natCast, decide_eq_true_eq, decide_eq_false_iff_not, Bool.not_eq_true, Bool.not_false, Bool.not_true, and_self, and_true, true_and, te3b, te4b, te3s, te4s, Nat.mul_one, Nat.zero_add, List.length_cons, List.length_nil, Bool.false_eq_true, Bool.true_eq_false] at *); (try omega))
    intro k hk
    by_cases hlk : k < 3
    · repeat' (first | ((conv => whnf); refine And.intro ?_ ?_) | ((conv => whnf); with_reducible exact VC.mk rfl) | ((conv => whnf); exact Ok.mk) | ((conv => whnf); exact True.intro) | ((conv => whnf); refine Nx.mk ?_) | ((conv => whnf); refine Fin.mk ?_) | ((conv => whnf); intro hq; (try simp only [decide_eq_true_eq, decide_eq_false_iff_not, Bool.not_eq_true, Bool.not_eq_false, Bool.not_eq_true', Bool.not_eq_false', Bool.not_true, Bool.not_false, ite_true, ite_false] at hq); (try (exfalso; first | exact absurd hq (by decide) | omega))))
      all_goals ((try refine VC.mk ?_); (try simp only [CL.ncell, CL.cnt, Int.toNat_natCast, decide_eq_true_eq, decide_eq_false_iff_not, Bool.not_eq_true, Bool.not_false, Bool.not_true, and_self, and_true, true_and, te3b, te4b, te3s, te4s, Nat.mul_one, Nat.zero_add, List.length_cons, List.length_nil, Bool.false_eq_true, Bool.true_eq_false] at *); (try omega))
      all_goals (try (exfalso; rename_i q1 q2 q3; have hx := hmag _ (gOf_le _) q1 q2; exact absurd (q3.symm.trans hx) (by decide)))
      all_goals (try omega)
      all_goals (refine ⟨k + 1, [], ⟨by omega, by omega⟩, ?_⟩)
      all_goals repeat' (first | ((conv => whnf); refine And.intro ?_ ?_) | ((conv => whnf); with_reducible exact VC.mk rfl) | ((conv => whnf); exact Ok.mk) | ((conv => whnf); exact True.intro) | ((conv => whnf); refine Nx.mk ?_) | ((conv => whnf); refine Fin.mk ?_) | ((conv => whnf); intro _))
      all_goals ((try refine VC.mk ?_); (try simp only [CL.ncell, CL.cnt, Int.toNat_natCast, decide_eq_true_eq, decide_eq_false_iff_not, Bool.not_eq_true, Bool.not_false, Bool.not_true, and_self, and_true, true_and, te3b, te4b, te3s, te4s, Nat.mul_one, Nat.zero_add, List.length_cons, List.length_nil, Bool.false_eq_true, Bool.true_eq_false] at *); (try omega))
    have : 3 = k := by omega
    subst this
    clear hmag
    repeat' (first | ((conv => whnf); refine And.intro ?_ ?_) | ((conv => whnf); with_reducible exact VC.mk rfl) | ((conv => whnf); exact Ok.mk) | ((conv => whnf); exact True.intro) | ((conv => whnf); refine Nx.mk ?_) | ((conv => whnf); refine Fin.mk ?_) | ((conv => whnf); intro hq; (try simp only [decide_eq_true_eq, decide_eq_false_iff_not, Bool.not_eq_true, Bool.not_eq_false, Bool.not_eq_true', Bool.not_eq_false', Bool.not_true, Bool.not_false, ite_true, ite_false] at hq); (try (exfalso; first | exact absurd hq (by decide) | omega))))
    all_goals ((try refine VC.mk ?_); (try simp only [CL.ncell, CL.cnt, Int.toNat_natCast, decide_eq_true_eq, decide_eq_false_iff_not, Bool.not_eq_true, Bool.not_false, Bool.not_true, and_self, and_true, true_and, te3b, te4b, te3s, te4s, Nat.mul_one, Nat.zero_add, List.length_cons, List.length_nil, Bool.false_eq_true, Bool.true_eq_false] at *); (try omega))
    all_goals (try (exfalso; omega))
    conv => whnf
    have hmb : 0 ≤ (m : Int) * n ∧ (m : Int) * n ≤ 16 := by omega
    have lLi : (L.length : Int) = (((m * n) * (m * n) : Nat) : Int) := by rw [lL]
    refine loop_of (X := Nat) (fun k => k ≤ (m * n) * (m * n)) (fun k => [(40, .any), (43, .any), (63, .any), (90, .int .i64 k)]) (fun k => []) (fun k => (m * n) * (m * n) - k) 0 ⟨anyB_ok, mixed, tabOK, hC, noY_ok⟩ (by rfl) (by omega) ?_ ?_
    · repeat' (first | ((conv => whnf); refine And.intro ?_ ?_) | ((conv => whnf); with_reducible exact VC.mk rfl) | ((conv => whnf); exact Ok.mk) | ((conv => whnf); exact True.intro) | ((conv => whnf); refine Nx.mk ?_) | ((conv => whnf); refine Fin.mk ?_) | ((conv => whnf); intro _))
      all_goals ((try refine VC.mk ?_); (try simp only [CL.ncell, CL.cnt, Int.toNat_natCast, decide_eq_true_eq, decide_eq_false_iff_not, Bool.not_eq_true, Bool.not_false, Bool.not_true, and_self, and_true, true_and, te3b, te4b, te3s, te4s, Nat.mul_one, Nat.zero_add, List.length_cons, List.length_nil, Bool.false_eq_true, Bool.true_eq_false] at *); (try omega))
    intro k hk
    by_cases hlk : k < (m * n) * (m * n)
    · have v := hat k hlk
      have vb := hbd k hlk
      have q1 : (k : Int) / ((m : Int) * n) = ((k / (m * n) : Nat) : Int) := by push_cast; rfl
      have q2 : (k : Int) % ((m : Int) * n) = ((k % (m * n) : Nat) : Int) := by push_cast; rfl
      have d1 : k / (m * n) < m * n := Nat.div_lt_of_lt_mul hlk
      have d2 : k % (m * n) < m * n := Nat.mod_lt _ (by omega)
      clear hat hbd
      generalize k / (m * n) = i at *
      generalize k % (m * n) = j at *
      have P := prodI b3.1 a4 b4 a5 b5 d1 d2
      obtain ⟨e1, e2, c1, c2, c3, c4, c5, c6, c7, c8⟩ := prodR a3 b3 P d1 d2
      obtain ⟨i1, i2, v1, v2⟩ := P
      unfold prodF sqAt at v
      have la' : (a.length : Int) = (m * m : Nat) := by rw [a4]
      have lb' : (b.length : Int) = (n * n : Nat) := by rw [b4]
      clear a4 b4 a5 b5 nA nB nL ha hb hab
      repeat' (first | ((conv => whnf); refine And.intro ?_ ?_) | ((conv => whnf); with_reducible exact VC.mk rfl) | ((conv => whnf); exact Ok.mk) | ((conv => whnf); exact True.intro) | ((conv => whnf); refine Nx.mk ?_) | ((conv => whnf); refine Fin.mk ?_) | ((conv => whnf); intro hq; (try simp only [decide_eq_true_eq, decide_eq_false_iff_not, Bool.not_eq_true, Bool.not_eq_false, Bool.not_eq_true', Bool.not_eq_false', Bool.not_true, Bool.not_false, ite_true, ite_false] at hq); (try (exfalso; first | exact absurd hq (by decide) | omega))))
      all_goals ((try refine VC.mk ?_); (try simp only [CL.ncell, CL.cnt, Int.toNat_natCast, decide_eq_true_eq, decide_eq_false_iff_not, Bool.not_eq_true, Bool.not_false, Bool.not_true, and_self, and_true, true_and, te3b, te4b, te3s, te4s, Nat.mul_one, Nat.zero_add, List.length_cons, List.length_nil, Bool.false_eq_true, Bool.true_eq_false] at *); (try omega))
      all_goals (try simp only [q1, q2, e1, e2, Int.toNat_natCast] at *)
      all_goals (try omega)
      all_goals (try (exfalso; omega))
      all_goals (refine ⟨k + 1, [], ⟨by omega, by omega⟩, ?_⟩)
      all_goals repeat' (first | ((conv => whnf); refine And.intro ?_ ?_) | ((conv => whnf); with_reducible exact VC.mk rfl) | ((conv => whnf); exact Ok.mk) | ((conv => whnf); exact True.intro) | ((conv => whnf); refine Nx.mk ?_) | ((conv => whnf); refine Fin.mk ?_) | ((conv => whnf); intro _))
      all_goals ((try refine VC.mk ?_); (try simp only [CL.ncell, CL.cnt, Int.toNat_natCast, decide_eq_true_eq, decide_eq_false_iff_not, Bool.not_eq_true, Bool.not_false, Bool.not_true, and_self, and_true, true_and, te3b, te4b, te3s, te4s, Nat.mul_one, Nat.zero_add, List.length_cons, List.length_nil, Bool.false_eq_true, Bool.true_eq_false] at *); (try omega))
    have : (m * n) * (m * n) = k := by omega
    clear hat hbd
    repeat' (first | ((conv => whnf); refine And.intro ?_ ?_) | ((conv => whnf); with_reducible exact VC.mk rfl) | ((conv => whnf); exact Ok.mk) | ((conv => whnf); exact True.intro) | ((conv => whnf); refine Nx.mk ?_) | ((conv => whnf); refine Fin.mk ?_) | ((conv => whnf); intro hq; (try simp only [decide_eq_true_eq, decide_eq_false_iff_not, Bool.not_eq_true, Bool.not_eq_false, Bool.not_eq_true', Bool.not_eq_false', Bool.not_true, Bool.not_false, ite_true, ite_false] at hq); (try (exfalso; first | exact absurd hq (by decide) | omega))))
    all_goals ((try refine VC.mk ?_); (try simp only [CL.ncell, CL.cnt, Int.toNat_natCast, decide_eq_true_eq, decide_eq_false_iff_not, Bool.not_eq_true, Bool.not_false, Bool.not_true, and_self, and_true, true_and, te3b, te4b, te3s, te4s, Nat.mul_one, Nat.zero_add, List.length_cons, List.length_nil, Bool.false_eq_true, Bool.true_eq_false] at *); (try omega))
    all_goals (try (exfalso; omega))
    all_goals first | exact sup_true | skip
  · have hC := cpAdd_ok (pureCC_ok CheckNormal_ok) (cpAdd_ok (pureCC_ok awakeT_ok) noC_ok)
    have hb : normErr ra ca a = 0 → normErr rb cb b = 0 → (0 ≤ ra * rb ∧ ra * rb ≤ 256) := fun h1 h2 => by
      obtain ⟨_, _, a3, _, _⟩ := normG h1
      obtain ⟨_, _, b3, _, _⟩ := normG h2
      exact mul_bd (A := 16) (B := 16) (by omega) (by omega)
    refine pspec_of (md := 0) (rf := []) mixed tabOK hC Try.func13 (by rfl) (by rfl) (by rfl) ?_
    repeat' (first | ((conv => whnf); refine And.intro ?_ ?_) | ((conv => whnf); with_reducible exact VC.mk rfl) | ((conv => whnf); exact Ok.mk) | ((conv => whnf); exact True.intro) | ((conv => whnf); refine Nx.mk ?_) | ((conv => whnf); refine Fin.mk ?_) | ((conv => whnf); intro hq; (try simp only [decide_eq_true_eq, decide_eq_false_iff_not, Bool.not_eq_true, Bool.not_eq_false, Bool.not_eq_true', Bool.not_eq_false', Bool.not_true, Bool.not_false, ite_true, ite_false] at hq); (try (exfalso; first | exact absurd hq (by decide) | omega))))
    all_goals ((try refine VC.mk ?_); (try simp only [CL.ncell, CL.cnt, Int.toNat_natCast, decide_eq_true_eq, decide_eq_false_iff_not, Bool.not_eq_true, Bool.not_false, Bool.not_true, and_self, and_true, true_and, te3b, te4b, te3s, te4s, Nat.mul_one, Nat.zero_add, List.length_cons, List.length_nil, Bool.false_eq_true, Bool.true_eq_false] at *); (try omega))
    all_goals first | exact sup_true | (have := hb (by omega) (by omega); omega) | (exfalso; exact h ⟨by omega, by omega, by omega⟩) | skip
end Go.Eng.Ytppflbccfdbogaa
