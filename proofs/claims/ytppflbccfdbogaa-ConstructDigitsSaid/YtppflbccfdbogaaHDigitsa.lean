/-
  Contracts of functions of the program: what each returns. Their conditions stand in them.
-/
import Derived.Test.YtppflbccfdbogaaCd
namespace Go.Eng.Ytppflbccfdbogaa
open Go.Proofs Go.RowKit Go.ChangeShapes Go.WideShapes
set_option linter.unusedVariables false
section
variable {H : Type} {enc : TypeId × Value → H} {W : World}
theorem o5 : OpenC enc Try.prog W 5 [.int .u8] := openC_int Try.underlying5
theorem o93 : OpenC enc Try.prog W 93 [.int .u32] := openC_int Try.underlying93
theorem o9 : OpenC enc Try.prog W 9 [.str] := openC_str Try.underlying9
theorem o29 : OpenC enc Try.prog W 29 [.ints .i64] := openC_ints Try.underlying29 Try.underlying3 (by kernel_rfl)
theorem o43 : OpenC enc Try.prog W 43 [.int .u8, .int .u8] := openC_array (n := 2) Try.underlying43 o5 (by kernel_rfl) (by kernel_rfl)
theorem o42 : OpenC enc Try.prog W 42 [.int .i64, .int .i64, .ints .i64] :=
  openC_struct (lss := [[.int .i64], [.int .i64], [.ints .i64]]) Try.underlying42 ⟨⟨rfl, by kernel_rfl, o3⟩, ⟨rfl, by kernel_rfl, o3⟩, ⟨rfl, by kernel_rfl, o29⟩, trivial⟩ (by kernel_rfl)
theorem o37 : OpenC enc Try.prog W 37 [.str, .int .i64, .int .i64, .ints .i64, .int .i64] :=
  openC_struct (lss := [[.str], [.int .i64], [.int .i64], [.ints .i64], [.int .i64]]) Try.underlying37 ⟨⟨rfl, by kernel_rfl, o9⟩, ⟨rfl, by kernel_rfl, o3⟩, ⟨rfl, by kernel_rfl, o3⟩, ⟨rfl, by kernel_rfl, o29⟩, ⟨rfl, by kernel_rfl, o3⟩, trivial⟩ (by kernel_rfl)
end
end Go.Eng.Ytppflbccfdbogaa
namespace Go.Eng.Ytppflbccfdbogaa
open Go.Proofs
set_option maxRecDepth 100000
set_option maxHeartbeats 0
set_option linter.unusedVariables false
set_option linter.unusedSimpArgs false
theorem colL_succ' (n : Nat) (h : Nat → Int) (m : Nat) : colL n h (m + 1) = colL n h m ++ [(m : Int) * n + h m % n] := by
  simp [colL, List.range_succ, Int.mul_comm]
theorem diag_spec (n k s : Nat) (hn : 1 ≤ n ∧ n ≤ 16) (hk : k ≤ 1000) (hs : s ≤ 1000) : PSpec Try.prog 83 [.int .i64 (n : Int), .int .i64 (k : Int), .int .i64 (s : Int)] (.isl (.ints .i64 (colL n (fun i => (k : Int) + i * s) n)) .none) := by
  refine pspec_of (md := 0) (rf := []) mixed tabOK noC_ok Try.func83 (by rfl) (by rfl) (by rfl) ?_
  repeat' (first | ((conv => whnf); refine And.intro ?_ ?_) | ((conv => whnf); with_reducible exact VC.mk rfl) | ((conv => whnf); exact Ok.mk) | ((conv => whnf); exact True.intro) | ((conv => whnf); refine Nx.mk ?_) | ((conv => whnf); refine Fin.mk ?_) | ((conv => whnf); intro _))
  all_goals ((try refine VC.mk ?_); (try simp only [CL.ncell, CL.cnt, Int.toNat_natCast, decide_eq_true_eq, decide_eq_false_iff_not, Bool.not_eq_true, Bool.not_false, Bool.not_true, and_self, and_true, true_and, te3b, te4b, te3s, te4s, Nat.mul_one, Nat.zero_add, List.length_cons, List.length_nil, Bool.false_eq_true, Bool.true_eq_false] at *); (try omega))
  conv => whnf
  refine loop_of (X := Nat) (fun i => i ≤ n) (fun i => [(8, .int .i64 i), (7, .isl (.ints .i64 (colL n (fun i => (k : Int) + i * s) i)) (.own 0))]) (fun i => [(0, .tok 1 i)]) (fun i => n - i) 0 ⟨anyB_ok, mixed, tabOK, noC_ok, noY_ok⟩ (by rfl) (by omega) ?_ ?_
  · repeat' (first | ((conv => whnf); refine And.intro ?_ ?_) | ((conv => whnf); with_reducible exact VC.mk rfl) | ((conv => whnf); exact Ok.mk) | ((conv => whnf); exact True.intro) | ((conv => whnf); refine Nx.mk ?_) | ((conv => whnf); refine Fin.mk ?_) | ((conv => whnf); intro _))
    all_goals ((try refine VC.mk ?_); (try simp only [CL.ncell, CL.cnt, Int.toNat_natCast, decide_eq_true_eq, decide_eq_false_iff_not, Bool.not_eq_true, Bool.not_false, Bool.not_true, and_self, and_true, true_and, te3b, te4b, te3s, te4s, Nat.mul_one, Nat.zero_add, List.length_cons, List.length_nil, Bool.false_eq_true, Bool.true_eq_false] at *); (try omega))
  · intro i hi
    have e1 := colL_succ' n (fun i => (k : Int) + i * s) i
    have e2 := colL_len n (fun i => (k : Int) + i * s) i
    by_cases hlt : i < n
    · have h1 := mul_bd (A := 16) (B := 16) (show 0 ≤ (i : Int) ∧ (i : Int) ≤ 16 by omega) (show 0 ≤ (n : Int) ∧ (n : Int) ≤ 16 by omega)
      have h2 := mul_bd (A := 16) (B := 1000) (show 0 ≤ (i : Int) ∧ (i : Int) ≤ 16 by omega) (show 0 ≤ (s : Int) ∧ (s : Int) ≤ 1000 by omega)
      have h3 : 0 ≤ ((k : Int) + i * s) % n := Int.emod_nonneg _ (by omega)
      have h4 : ((k : Int) + i * s) % n < n := Int.emod_lt_of_pos _ (by omega)
      repeat' (first | ((conv => whnf); refine And.intro ?_ ?_) | ((conv => whnf); with_reducible exact VC.mk rfl) | ((conv => whnf); exact Ok.mk) | ((conv => whnf); exact True.intro) | ((conv => whnf); refine Nx.mk ?_) | ((conv => whnf); refine Fin.mk ?_) | ((conv => whnf); intro _))
      all_goals ((try refine VC.mk ?_); (try simp only [CL.ncell, CL.cnt, Int.toNat_natCast, decide_eq_true_eq, decide_eq_false_iff_not, Bool.not_eq_true, Bool.not_false, Bool.not_true, and_self, and_true, true_and, te3b, te4b, te3s, te4s, Nat.mul_one, Nat.zero_add, List.length_cons, List.length_nil, Bool.false_eq_true, Bool.true_eq_false] at *); (try omega))
      all_goals (try (simp only [List.length_append, List.length_cons, List.length_nil]; omega))
      refine ⟨i + 1, [], ⟨by omega, by omega⟩, ?_⟩
      repeat' (first | ((conv => whnf); refine And.intro ?_ ?_) | ((conv => whnf); with_reducible exact VC.mk rfl) | ((conv => whnf); exact Ok.mk) | ((conv => whnf); exact True.intro) | ((conv => whnf); refine Nx.mk ?_) | ((conv => whnf); refine Fin.mk ?_) | ((conv => whnf); intro _))
      all_goals ((try refine VC.mk ?_); (try simp only [CL.ncell, CL.cnt, Int.toNat_natCast, decide_eq_true_eq, decide_eq_false_iff_not, Bool.not_eq_true, Bool.not_false, Bool.not_true, and_self, and_true, true_and, te3b, te4b, te3s, te4s, Nat.mul_one, Nat.zero_add, List.length_cons, List.length_nil, Bool.false_eq_true, Bool.true_eq_false] at *); (try omega))
      all_goals (try (rw [e1]))
    · have : n = i := by omega
      subst this
      repeat' (first | ((conv => whnf); refine And.intro ?_ ?_) | ((conv => whnf); with_reducible exact VC.mk rfl) | ((conv => whnf); exact Ok.mk) | ((conv => whnf); exact True.intro) | ((conv => whnf); refine Nx.mk ?_) | ((conv => whnf); refine Fin.mk ?_) | ((conv => whnf); intro _))
      all_goals ((try refine VC.mk ?_); (try simp only [CL.ncell, CL.cnt, Int.toNat_natCast, decide_eq_true_eq, decide_eq_false_iff_not, Bool.not_eq_true, Bool.not_false, Bool.not_true, and_self, and_true, true_and, te3b, te4b, te3s, te4s, Nat.mul_one, Nat.zero_add, List.length_cons, List.length_nil, Bool.false_eq_true, Bool.true_eq_false] at *); (try omega))
      all_goals (first | (refine Sup.of ?_; first | rfl | (simp [*, resOf]; done)) | (refine Sup.via ?_; repeat' (first | ((conv => whnf); refine And.intro ?_ ?_) | ((conv => whnf); with_reducible exact VC.mk rfl) | ((conv => whnf); exact Ok.mk) | ((conv => whnf); exact True.intro) | ((conv => whnf); refine Nx.mk ?_) | ((conv => whnf); refine Fin.mk ?_) | ((conv => whnf); intro _)); all_goals ((try refine VC.mk ?_); (try simp only [CL.ncell, CL.cnt, Int.toNat_natCast, decide_eq_true_eq, decide_eq_false_iff_not, Bool.not_eq_true, Bool.not_false, Bool.not_true, and_self, and_true, true_and, te3b, te4b, te3s, te4s, Nat.mul_one, Nat.zero_add, List.length_cons, List.length_nil, Bool.false_eq_true, Bool.true_eq_false] at *); (try omega)); all_goals (try (simp [CL.sub]; done))))
theorem diag_spec' {n k s : Int} (hn : 1 ≤ n ∧ n ≤ 16) (hk : 0 ≤ k ∧ k ≤ 1000) (hs : 0 ≤ s ∧ s ≤ 1000) : PSpec Try.prog 83 [.int .i64 n, .int .i64 k, .int .i64 s] (.isl (.ints .i64 (colL n.toNat (fun i => k + i * s) n.toNat)) .none) := by
  have := diag_spec n.toNat k.toNat s.toNat (by omega) (by omega) (by omega)
  rwa [Int.toNat_of_nonneg (by omega), Int.toNat_of_nonneg (by omega), Int.toNat_of_nonneg (by omega)] at this
def diagP : PSp := fun xs K => match xs with
  | [.int .i64 n, .int .i64 k, .int .i64 s] => VC ((1 ≤ n ∧ n ≤ 16) ∧ (0 ≤ k ∧ k ≤ 1000) ∧ 0 ≤ s ∧ s ≤ 1000) ∧ K (.isl (.ints .i64 (colL n.toNat (fun i => k + i * s) n.toNat)) .none)
  | _ => False
theorem diag_ok : POK Try.prog 83 diagP := by
  intro xs K h
  unfold diagP at h
  split at h
  · exact ⟨_, h.2, diag_spec' h.1.get.1 h.1.get.2.1 h.1.get.2.2⟩
  · exact h.elim
/-! the sum of some cells -/
theorem rSum_spec (r c : Int) (cs l : List Int) (hc : ∀ x ∈ l, 0 ≤ x ∧ x < cs.length) (hl : l.length ≤ 1000000) (hb : ∀ i, i ≤ l.length → -1000000000000 ≤ sumAt cs l i ∧ sumAt cs l i ≤ 1000000000000) : PSpec Try.prog 71 [gridV r c cs, .isl (.ints .i64 l) .none] (.int .i64 (sumAt cs l l.length)) := by
  refine pspec_of (md := 0) (rf := []) mixed tabOK noC_ok Try.func71 (by rfl) (by rfl) (by rfl) ?_
  repeat' (first | ((conv => whnf); refine And.intro ?_ ?_) | ((conv => whnf); with_reducible exact VC.mk rfl) | ((conv => whnf); exact Ok.mk) | ((conv => whnf); exact True.intro) | ((conv => whnf); refine Nx.mk ?_) | ((conv => whnf); refine Fin.mk ?_) | ((conv => whnf); intro _))
  all_goals ((try refine VC.mk ?_); (try simp only [CL.ncell, CL.cnt, Int.toNat_natCast, decide_eq_true_eq, decide_eq_false_iff_not, Bool.not_eq_true, Bool.not_false, Bool.not_true, and_self, and_true, true_and, te3b, te4b, te3s, te4s, Nat.mul_one, Nat.zero_add, List.length_cons, List.length_nil, Bool.false_eq_true, Bool.true_eq_false] at *); (try omega))
  conv => whnf
  refine loop_of (X := Nat) (fun i => i ≤ l.length) (fun i => [(6, .int .i64 i), (5, .int .i64 (sumAt cs l i))]) (fun i => []) (fun i => l.length - i) 0 ⟨anyB_ok, mixed, tabOK, noC_ok, noY_ok⟩ (by rfl) (by omega) ?_ ?_
  · repeat' (first | ((conv => whnf); refine And.intro ?_ ?_) | ((conv => whnf); with_reducible exact VC.mk rfl) | ((conv => whnf); exact Ok.mk) | ((conv => whnf); exact True.intro) | ((conv => whnf); refine Nx.mk ?_) | ((conv => whnf); refine Fin.mk ?_) | ((conv => whnf); intro _))
    all_goals ((try refine VC.mk ?_); (try simp only [CL.ncell, CL.cnt, Int.toNat_natCast, decide_eq_true_eq, decide_eq_false_iff_not, Bool.not_eq_true, Bool.not_false, Bool.not_true, and_self, and_true, true_and, te3b, te4b, te3s, te4s, Nat.mul_one, Nat.zero_add, List.length_cons, List.length_nil, Bool.false_eq_true, Bool.true_eq_false] at *); (try omega))
    all_goals (try rfl)
  · intro i hi
    have e1 := hb i hi
    by_cases hlt : i < l.length
    · have e2 := sumAt_succ cs l i hlt
      have e3 := hb (i + 1) (by omega)
      have e4 := hc (l.getD i 0) (by rw [List.getD_eq_getElem?_getD, List.getElem?_eq_getElem hlt]; exact List.getElem_mem _)
      repeat' (first | ((conv => whnf); refine And.intro ?_ ?_) | ((conv => whnf); with_reducible exact VC.mk rfl) | ((conv => whnf); exact Ok.mk) | ((conv => whnf); exact True.intro) | ((conv => whnf); refine Nx.mk ?_) | ((conv => whnf); refine Fin.mk ?_) | ((conv => whnf); intro _))
      all_goals ((try refine VC.mk ?_); (try simp only [CL.ncell, CL.cnt, Int.toNat_natCast, decide_eq_true_eq, decide_eq_false_iff_not, Bool.not_eq_true, Bool.not_false, Bool.not_true, and_self, and_true, true_and, te3b, te4b, te3s, te4s, Nat.mul_one, Nat.zero_add, List.length_cons, List.length_nil, Bool.false_eq_true, Bool.true_eq_false] at *); (try omega))
      refine ⟨i + 1, [], ⟨by omega, by omega⟩, ?_⟩
      repeat' (first | ((conv => whnf); refine And.intro ?_ ?_) | ((conv => whnf); with_reducible exact VC.mk rfl) | ((conv => whnf); exact Ok.mk) | ((conv => whnf); exact True.intro) | ((conv => whnf); refine Nx.mk ?_) | ((conv => whnf); refine Fin.mk ?_) | ((conv => whnf); intro _))
      all_goals ((try refine VC.mk ?_); (try simp only [CL.ncell, CL.cnt, Int.toNat_natCast, decide_eq_true_eq, decide_eq_false_iff_not, Bool.not_eq_true, Bool.not_false, Bool.not_true, and_self, and_true, true_and, te3b, te4b, te3s, te4s, Nat.mul_one, Nat.zero_add, List.length_cons, List.length_nil, Bool.false_eq_true, Bool.true_eq_false] at *); (try omega))
      all_goals (try (rw [e2]))
    · have : l.length = i := by omega
      subst this
      repeat' (first | ((conv => whnf); refine And.intro ?_ ?_) | ((conv => whnf); with_reducible exact VC.mk rfl) | ((conv => whnf); exact Ok.mk) | ((conv => whnf); exact True.intro) | ((conv => whnf); refine Nx.mk ?_) | ((conv => whnf); refine Fin.mk ?_) | ((conv => whnf); intro _))
      all_goals ((try refine VC.mk ?_); (try simp only [CL.ncell, CL.cnt, Int.toNat_natCast, decide_eq_true_eq, decide_eq_false_iff_not, Bool.not_eq_true, Bool.not_false, Bool.not_true, and_self, and_true, true_and, te3b, te4b, te3s, te4s, Nat.mul_one, Nat.zero_add, List.length_cons, List.length_nil, Bool.false_eq_true, Bool.true_eq_false] at *); (try omega))
      all_goals (first | (refine Sup.of ?_; first | rfl | (simp [*, resOf]; done)) | (refine Sup.via ?_; repeat' (first | ((conv => whnf); refine And.intro ?_ ?_) | ((conv => whnf); with_reducible exact VC.mk rfl) | ((conv => whnf); exact Ok.mk) | ((conv => whnf); exact True.intro) | ((conv => whnf); refine Nx.mk ?_) | ((conv => whnf); refine Fin.mk ?_) | ((conv => whnf); intro _)); all_goals ((try refine VC.mk ?_); (try simp only [CL.ncell, CL.cnt, Int.toNat_natCast, decide_eq_true_eq, decide_eq_false_iff_not, Bool.not_eq_true, Bool.not_false, Bool.not_true, and_self, and_true, true_and, te3b, te4b, te3s, te4s, Nat.mul_one, Nat.zero_add, List.length_cons, List.length_nil, Bool.false_eq_true, Bool.true_eq_false] at *); (try omega)); all_goals (try (simp [CL.sub]; done))))
def rSumP : PSp := fun xs K => match xs with
  | [.agg [.int .i64 r, .int .i64 c, .isl (.ints .i64 cs) .none], .isl (.ints .i64 l) .none] => VC ((∀ x ∈ l, 0 ≤ x ∧ x < cs.length) ∧ l.length ≤ 1000000 ∧ ∀ i, i ≤ l.length → -1000000000000 ≤ sumAt cs l i ∧ sumAt cs l i ≤ 1000000000000) ∧ K (.int .i64 (sumAt cs l l.length))
  | _ => False
theorem rSum_ok : POK Try.prog 71 rSumP := by
  intro xs K h
  unfold rSumP at h
  split at h
  · exact ⟨_, h.2, rSum_spec _ _ _ _ h.1.get.1 h.1.get.2.1 h.1.get.2.2⟩
  · exact h.elim
/-! all lines -/
def gOf (s : ByteArray) : Int := if s = kSq then 0 else if s = kSemi then 1 else if s = kMag then 2 else 3
def linesTo (n m : Nat) : List (List Int) := (List.range m).map (lineAt n)
theorem linesTo_succ (n m : Nat) : linesTo n (m + 1) = linesTo n m ++ [lineAt n m] := by simp [linesTo, List.range_succ]
theorem linesTo_get (n m i : Nat) (h : i < m) : (linesTo n m).getD i [] = lineAt n i := by
  simp [linesTo, List.getD_eq_getElem?_getD, h]
theorem linesTo_len (n m : Nat) : (linesTo n m).length = m := by simp [linesTo]
theorem colL_congr {n : Nat} {h h' : Nat → Int} (e : ∀ i, i < n → h i % n = h' i % n) : colL n h n = colL n h' n := by
  unfold colL
  exact List.map_congr_left fun i hi => by rw [e i (List.mem_range.1 hi)]
theorem emod_of_sub {a b n k : Int} (h : a - b = n * k) : a % n = b % n := by
  have : a = b + n * k := by omega
  rw [this, Int.add_mul_emod_self_left]
theorem dg1 (n : Nat) : colL n (fun i => 0 + (i : Int) * 1) n = lineAt n (2 * n) := by
  rw [lineAt_d1]; exact colL_congr fun i _ => by congr 1; omega
theorem dg2 (n : Nat) : colL n (fun i => (n : Int) - 1 + (i : Int) * ((n : Int) - 1)) n = lineAt n (2 * n + 1) := by
  rw [lineAt_d2]; exact colL_congr fun i _ => emod_of_sub (k := (i : Int)) (by rw [Int.mul_sub, Int.mul_comm (n : Int) (i : Int)]; omega)
theorem dg3 (n k : Nat) (hk : 1 ≤ k ∧ k < n) : colL n (fun i => (k : Int) + (i : Int) * 1) n = lineAt n (2 * n + 1 + k) := by
  have : lineAt n (2 * n + 1 + k) = colL n (fun j => (j : Int) + (((2 * n + 1 + k : Nat) : Int) - 2 * n - 1)) n := by
    unfold lineAt; rw [if_neg (by omega), if_neg (by omega), if_neg (by omega), if_neg (by omega), if_pos (by omega)]
  rw [this]; exact colL_congr fun i _ => by congr 1; omega
theorem dg4 (n k : Nat) (hn : 1 ≤ n) (hk : k + 1 < n) : colL n (fun i => (k : Int) + (i : Int) * ((n : Int) - 1)) n = lineAt n (3 * n + 1 + k) := by
  have : lineAt n (3 * n + 1 + k) = colL n (fun j => ((3 * n + 1 + k : Nat) : Int) - 3 * n - 1 - j) n := by
    unfold lineAt; rw [if_neg (by omega), if_neg (by omega), if_neg (by omega), if_neg (by omega), if_neg (by omega)]
  rw [this]; exact colL_congr fun i _ => emod_of_sub (k := (i : Int)) (by rw [Int.mul_sub, Int.mul_comm (n : Int) (i : Int)]; push_cast; omega)
theorem linesTo_two (n : Nat) : linesTo n (n + n) ++ [colL n (fun i => 0 + (i : Int) * 1) n, colL n (fun i => (n : Int) - 1 + (i : Int) * ((n : Int) - 1)) n] = linesTo n (2 * n + 2) := by
  rw [dg1, dg2, show 2 * n + 2 = n + n + 1 + 1 by omega, linesTo_succ, linesTo_succ, show n + n + 1 = 2 * n + 1 by omega, show n + n = 2 * n by omega]
  simp
noncomputable def cpLn : CPT := cpAdd 83 (pureCC diagP) noC
theorem cpLn_ok : CPOK Try.prog cpLn := cpAdd_ok (pureCC_ok diag_ok) noC_ok
theorem Lines_spec (n : Nat) (hn : 1 ≤ n ∧ n ≤ 16) (s : ByteArray) : PSpec Try.prog 105 [.int .i64 (n : Int), .str s] (.isl (.rows .i64 (linesTo n (lineCnt n (gOf s)))) .none) := by
  refine pspec_of (md := 0) (rf := []) mixed tabOK cpLn_ok Try.func105 (by rfl) (by rfl) (by rfl) ?_
  repeat' (first | ((conv => whnf); refine And.intro ?_ ?_) | ((conv => whnf); with_reducible exact VC.mk rfl) | ((conv => whnf); exact Ok.mk) | ((conv => whnf); exact True.intro) | ((conv => whnf); refine Nx.mk ?_) | ((conv => whnf); refine Fin.mk ?_) | ((conv => whnf); intro _))
  all_goals ((try refine VC.mk ?_); (try simp only [CL.ncell, CL.cnt, Int.toNat_natCast, decide_eq_true_eq, decide_eq_false_iff_not, Bool.not_eq_true, Bool.not_false, Bool.not_true, and_self, and_true, true_and, te3b, te4b, te3s, te4s, Nat.mul_one, Nat.zero_add, List.length_cons, List.length_nil, Bool.false_eq_true, Bool.true_eq_false] at *); (try omega))
  · rename_i hs
    have : lineCnt n (gOf s) = 0 := by unfold gOf; rw [if_pos hs]; rfl
    rw [this]
    all_goals (refine Sup.via ?_; repeat' (first | ((conv => whnf); refine And.intro ?_ ?_) | ((conv => whnf); with_reducible exact VC.mk rfl) | ((conv => whnf); exact Ok.mk) | ((conv => whnf); exact True.intro) | ((conv => whnf); refine Nx.mk ?_) | ((conv => whnf); refine Fin.mk ?_) | ((conv => whnf); intro _)); all_goals ((try refine VC.mk ?_); (try simp only [CL.ncell, CL.cnt, Int.toNat_natCast, decide_eq_true_eq, decide_eq_false_iff_not, Bool.not_eq_true, Bool.not_false, Bool.not_true, and_self, and_true, true_and, te3b, te4b, te3s, te4s, Nat.mul_one, Nat.zero_add, List.length_cons, List.length_nil, Bool.false_eq_true, Bool.true_eq_false] at *); (try omega)); all_goals (try (simp [CL.sub]; done)))
    rfl
  rename_i hsq
  conv => whnf
  refine loop_of (X := Nat) (fun i => i ≤ n) (fun i => [(6, .int .i64 i), (5, .isl (.rows .i64 (linesTo n i)) (.own 0))]) (fun i => [(0, .tok 1 i)]) (fun i => n - i) 0 ⟨anyB_ok, mixed, tabOK, cpLn_ok, noY_ok⟩ (by rfl) (by omega) ?_ ?_
  · repeat' (first | ((conv => whnf); refine And.intro ?_ ?_) | ((conv => whnf); with_reducible exact VC.mk rfl) | ((conv => whnf); exact Ok.mk) | ((conv => whnf); exact True.intro) | ((conv => whnf); refine Nx.mk ?_) | ((conv => whnf); refine Fin.mk ?_) | ((conv => whnf); intro _))
    all_goals ((try refine VC.mk ?_); (try simp only [CL.ncell, CL.cnt, Int.toNat_natCast, decide_eq_true_eq, decide_eq_false_iff_not, Bool.not_eq_true, Bool.not_false, Bool.not_true, and_self, and_true, true_and, te3b, te4b, te3s, te4s, Nat.mul_one, Nat.zero_add, List.length_cons, List.length_nil, Bool.false_eq_true, Bool.true_eq_false] at *); (try omega))
  intro i hi
  by_cases hlt : i < n
  · repeat' (first | ((conv => whnf); refine And.intro ?_ ?_) | ((conv => whnf); with_reducible exact VC.mk rfl) | ((conv => whnf); exact Ok.mk) | ((conv => whnf); exact True.intro) | ((conv => whnf); refine Nx.mk ?_) | ((conv => whnf); refine Fin.mk ?_) | ((conv => whnf); intro _))
    all_goals ((try refine VC.mk ?_); (try simp only [CL.ncell, CL.cnt, Int.toNat_natCast, decide_eq_true_eq, decide_eq_false_iff_not, Bool.not_eq_true, Bool.not_false, Bool.not_true, and_self, and_true, true_and, te3b, te4b, te3s, te4s, Nat.mul_one, Nat.zero_add, List.length_cons, List.length_nil, Bool.false_eq_true, Bool.true_eq_false] at *); (try omega))
    conv => whnf
    refine loop_of (X := Nat) (fun j => j ≤ n) (fun j => [(8, .int .i64 j), (7, .isl (.ints .i64 (rowL n i j)) (.own 1))]) (fun j => [(1, .tok 1 j)]) (fun j => n - j) 0 ⟨anyB_ok, mixed, tabOK, cpLn_ok, noY_ok⟩ (by rfl) (by omega) ?_ ?_
    · repeat' (first | ((conv => whnf); refine And.intro ?_ ?_) | ((conv => whnf); with_reducible exact VC.mk rfl) | ((conv => whnf); exact Ok.mk) | ((conv => whnf); exact True.intro) | ((conv => whnf); refine Nx.mk ?_) | ((conv => whnf); refine Fin.mk ?_) | ((conv => whnf); intro _))
      all_goals ((try refine VC.mk ?_); (try simp only [CL.ncell, CL.cnt, Int.toNat_natCast, decide_eq_true_eq, decide_eq_false_iff_not, Bool.not_eq_true, Bool.not_false, Bool.not_true, and_self, and_true, true_and, te3b, te4b, te3s, te4s, Nat.mul_one, Nat.zero_add, List.length_cons, List.length_nil, Bool.false_eq_true, Bool.true_eq_false] at *); (try omega))
    intro j hj
    have e1 := rowL_succ n i j
    have e2 := rowL_len n i j
    have h1 := mul_bd (A := 16) (B := 16) (show 0 ≤ (i : Int) ∧ (i : Int) ≤ 16 by omega) (show 0 ≤ (n : Int) ∧ (n : Int) ≤ 16 by omega)
    by_cases hlj : j < n
    · repeat' (first | ((conv => whnf); refine And.intro ?_ ?_) | ((conv => whnf); with_reducible exact VC.mk rfl) | ((conv => whnf); exact Ok.mk) | ((conv => whnf); exact True.intro) | ((conv => whnf); refine Nx.mk ?_) | ((conv => whnf); refine Fin.mk ?_) | ((conv => whnf); intro _))
      all_goals ((try refine VC.mk ?_); (try simp only [CL.ncell, CL.cnt, Int.toNat_natCast, decide_eq_true_eq, decide_eq_false_iff_not, Bool.not_eq_true, Bool.not_false, Bool.not_true, and_self, and_true, true_and, te3b, te4b, te3s, te4s, Nat.mul_one, Nat.zero_add, List.length_cons, List.length_nil, Bool.false_eq_true, Bool.true_eq_false] at *); (try omega))
      all_goals (try (simp only [List.length_append, List.length_cons, List.length_nil]; omega))
      refine ⟨j + 1, [], ⟨by omega, by omega⟩, ?_⟩
      repeat' (first | ((conv => whnf); refine And.intro ?_ ?_) | ((conv => whnf); with_reducible exact VC.mk rfl) | ((conv => whnf); exact Ok.mk) | ((conv => whnf); exact True.intro) | ((conv => whnf); refine Nx.mk ?_) | ((conv => whnf); refine Fin.mk ?_) | ((conv => whnf); intro _))
      all_goals ((try refine VC.mk ?_); (try simp only [CL.ncell, CL.cnt, Int.toNat_natCast, decide_eq_true_eq, decide_eq_false_iff_not, Bool.not_eq_true, Bool.not_false, Bool.not_true, and_self, and_true, true_and, te3b, te4b, te3s, te4s, Nat.mul_one, Nat.zero_add, List.length_cons, List.length_nil, Bool.false_eq_true, Bool.true_eq_false] at *); (try omega))
      all_goals (try (rw [e1, Int.mul_comm (n : Int)]))
    · have : n = j := by omega
      subst this
      have e3 := linesTo_len n i
      have e4 := linesTo_succ n i
      rw [lineAt_row hlt] at e4
      repeat' (first | ((conv => whnf); refine And.intro ?_ ?_) | ((conv => whnf); with_reducible exact VC.mk rfl) | ((conv => whnf); exact Ok.mk) | ((conv => whnf); exact True.intro) | ((conv => whnf); refine Nx.mk ?_) | ((conv => whnf); refine Fin.mk ?_) | ((conv => whnf); intro _))
      all_goals ((try refine VC.mk ?_); (try simp only [CL.ncell, CL.cnt, Int.toNat_natCast, decide_eq_true_eq, decide_eq_false_iff_not, Bool.not_eq_true, Bool.not_false, Bool.not_true, and_self, and_true, true_and, te3b, te4b, te3s, te4s, Nat.mul_one, Nat.zero_add, List.length_cons, List.length_nil, Bool.false_eq_true, Bool.true_eq_false] at *); (try omega))
      all_goals (try (simp only [List.length_append, List.length_cons, List.length_nil]; omega))
      refine ⟨i + 1, [], ⟨by omega, by omega⟩, ?_⟩
      repeat' (first | ((conv => whnf); refine And.intro ?_ ?_) | ((conv => whnf); with_reducible exact VC.mk rfl) | ((conv => whnf); exact Ok.mk) | ((conv => whnf); exact True.intro) | ((conv => whnf); refine Nx.mk ?_) | ((conv => whnf); refine Fin.mk ?_) | ((conv => whnf); intro _))
      all_goals ((try refine VC.mk ?_); (try simp only [CL.ncell, CL.cnt, Int.toNat_natCast, decide_eq_true_eq, decide_eq_false_iff_not, Bool.not_eq_true, Bool.not_false, Bool.not_true, and_self, and_true, true_and, te3b, te4b, te3s, te4s, Nat.mul_one, Nat.zero_add, List.length_cons, List.length_nil, Bool.false_eq_true, Bool.true_eq_false] at *); (try omega))
      all_goals (try (rw [e4]))
  have : n = i := by omega
  subst this
  repeat' (first | ((conv => whnf); refine And.intro ?_ ?_) | ((conv => whnf); with_reducible exact VC.mk rfl) | ((conv => whnf); exact Ok.mk) | ((conv => whnf); exact True.intro) | ((conv => whnf); refine Nx.mk ?_) | ((conv => whnf); refine Fin.mk ?_) | ((conv => whnf); intro _))
  all_goals ((try refine VC.mk ?_); (try simp only [CL.ncell, CL.cnt, Int.toNat_natCast, decide_eq_true_eq, decide_eq_false_iff_not, Bool.not_eq_true, Bool.not_false, Bool.not_true, and_self, and_true, true_and, te3b, te4b, te3s, te4s, Nat.mul_one, Nat.zero_add, List.length_cons, List.length_nil, Bool.false_eq_true, Bool.true_eq_false] at *); (try omega))
  conv => whnf
  refine loop_of (X := Nat) (fun i => i ≤ n) (fun i => [(9, .int .i64 i), (5, .isl (.rows .i64 (linesTo n (n + i))) (.own 0))]) (fun i => [(0, .tok 1 (n + i))]) (fun i => n - i) 0 ⟨anyB_ok, mixed, tabOK, cpLn_ok, noY_ok⟩ (by rfl) (by omega) ?_ ?_
  · repeat' (first | ((conv => whnf); refine And.intro ?_ ?_) | ((conv => whnf); with_reducible exact VC.mk rfl) | ((conv => whnf); exact Ok.mk) | ((conv => whnf); exact True.intro) | ((conv => whnf); refine Nx.mk ?_) | ((conv => whnf); refine Fin.mk ?_) | ((conv => whnf); intro _))
    all_goals ((try refine VC.mk ?_); (try simp only [CL.ncell, CL.cnt, Int.toNat_natCast, decide_eq_true_eq, decide_eq_false_iff_not, Bool.not_eq_true, Bool.not_false, Bool.not_true, and_self, and_true, true_and, te3b, te4b, te3s, te4s, Nat.mul_one, Nat.zero_add, List.length_cons, List.length_nil, Bool.false_eq_true, Bool.true_eq_false] at *); (try omega))
  intro i hi
  by_cases hlt : i < n
  · repeat' (first | ((conv => whnf); refine And.intro ?_ ?_) | ((conv => whnf); with_reducible exact VC.mk rfl) | ((conv => whnf); exact Ok.mk) | ((conv => whnf); exact True.intro) | ((conv => whnf); refine Nx.mk ?_) | ((conv => whnf); refine Fin.mk ?_) | ((conv => whnf); intro _))
    all_goals ((try refine VC.mk ?_); (try simp only [CL.ncell, CL.cnt, Int.toNat_natCast, decide_eq_true_eq, decide_eq_false_iff_not, Bool.not_eq_true, Bool.not_false, Bool.not_true, and_self, and_true, true_and, te3b, te4b, te3s, te4s, Nat.mul_one, Nat.zero_add, List.length_cons, List.length_nil, Bool.false_eq_true, Bool.true_eq_false] at *); (try omega))
    conv => whnf
    refine loop_of (X := Nat) (fun j => j ≤ n) (fun j => [(11, .int .i64 j), (10, .isl (.ints .i64 (colL n (fun _ => (i : Int)) j)) (.own 1))]) (fun j => [(1, .tok 1 j)]) (fun j => n - j) 0 ⟨anyB_ok, mixed, tabOK, cpLn_ok, noY_ok⟩ (by rfl) (by omega) ?_ ?_
    · repeat' (first | ((conv => whnf); refine And.intro ?_ ?_) | ((conv => whnf); with_reducible exact VC.mk rfl) | ((conv => whnf); exact Ok.mk) | ((conv => whnf); exact True.intro) | ((conv => whnf); refine Nx.mk ?_) | ((conv => whnf); refine Fin.mk ?_) | ((conv => whnf); intro _))
      all_goals ((try refine VC.mk ?_); (try simp only [CL.ncell, CL.cnt, Int.toNat_natCast, decide_eq_true_eq, decide_eq_false_iff_not, Bool.not_eq_true, Bool.not_false, Bool.not_true, and_self, and_true, true_and, te3b, te4b, te3s, te4s, Nat.mul_one, Nat.zero_add, List.length_cons, List.length_nil, Bool.false_eq_true, Bool.true_eq_false] at *); (try omega))
    intro j hj
    have e1 := colL_succ' n (fun _ => (i : Int)) j
    rw [Int.emod_eq_of_lt (by omega) (by omega)] at e1
    have e2 := colL_len n (fun _ => (i : Int)) j
    have h1 := mul_bd (A := 16) (B := 16) (show 0 ≤ (j : Int) ∧ (j : Int) ≤ 16 by omega) (show 0 ≤ (n : Int) ∧ (n : Int) ≤ 16 by omega)
    by_cases hlj : j < n
    · repeat' (first | ((conv => whnf); refine And.intro ?_ ?_) | ((conv => whnf); with_reducible exact VC.mk rfl) | ((conv => whnf); exact Ok.mk) | ((conv => whnf); exact True.intro) | ((conv => whnf); refine Nx.mk ?_) | ((conv => whnf); refine Fin.mk ?_) | ((conv => whnf); intro _))
      all_goals ((try refine VC.mk ?_); (try simp only [CL.ncell, CL.cnt, Int.toNat_natCast, decide_eq_true_eq, decide_eq_false_iff_not, Bool.not_eq_true, Bool.not_false, Bool.not_true, and_self, and_true, true_and, te3b, te4b, te3s, te4s, Nat.mul_one, Nat.zero_add, List.length_cons, List.length_nil, Bool.false_eq_true, Bool.true_eq_false] at *); (try omega))
      all_goals (try (simp only [List.length_append, List.length_cons, List.length_nil]; omega))
      refine ⟨j + 1, [], ⟨by omega, by omega⟩, ?_⟩
      repeat' (first | ((conv => whnf); refine And.intro ?_ ?_) | ((conv => whnf); with_reducible exact VC.mk rfl) | ((conv => whnf); exact Ok.mk) | ((conv => whnf); exact True.intro) | ((conv => whnf); refine Nx.mk ?_) | ((conv => whnf); refine Fin.mk ?_) | ((conv => whnf); intro _))
      all_goals ((try refine VC.mk ?_); (try simp only [CL.ncell, CL.cnt, Int.toNat_natCast, decide_eq_true_eq, decide_eq_false_iff_not, Bool.not_eq_true, Bool.not_false, Bool.not_true, and_self, and_true, true_and, te3b, te4b, te3s, te4s, Nat.mul_one, Nat.zero_add, List.length_cons, List.length_nil, Bool.false_eq_true, Bool.true_eq_false] at *); (try omega))
      all_goals (try (rw [e1]))
    · have : n = j := by omega
      subst this
      have e3 := linesTo_len n (n + i)
      have e4 := linesTo_succ n (n + i)
      rw [lineAt_col hlt] at e4
      repeat' (first | ((conv => whnf); refine And.intro ?_ ?_) | ((conv => whnf); with_reducible exact VC.mk rfl) | ((conv => whnf); exact Ok.mk) | ((conv => whnf); exact True.intro) | ((conv => whnf); refine Nx.mk ?_) | ((conv => whnf); refine Fin.mk ?_) | ((conv => whnf); intro _))
      all_goals ((try refine VC.mk ?_); (try simp only [CL.ncell, CL.cnt, Int.toNat_natCast, decide_eq_true_eq, decide_eq_false_iff_not, Bool.not_eq_true, Bool.not_false, Bool.not_true, and_self, and_true, true_and, te3b, te4b, te3s, te4s, Nat.mul_one, Nat.zero_add, List.length_cons, List.length_nil, Bool.false_eq_true, Bool.true_eq_false] at *); (try omega))
      all_goals (try (simp only [List.length_append, List.length_cons, List.length_nil]; omega))
      refine ⟨i + 1, [], ⟨by omega, by omega⟩, ?_⟩
      repeat' (first | ((conv => whnf); refine And.intro ?_ ?_) | ((conv => whnf); with_reducible exact VC.mk rfl) | ((conv => whnf); exact Ok.mk) | ((conv => whnf); exact True.intro) | ((conv => whnf); refine Nx.mk ?_) | ((conv => whnf); refine Fin.mk ?_) | ((conv => whnf); intro _))
      all_goals ((try refine VC.mk ?_); (try simp only [CL.ncell, CL.cnt, Int.toNat_natCast, decide_eq_true_eq, decide_eq_false_iff_not, Bool.not_eq_true, Bool.not_false, Bool.not_true, and_self, and_true, true_and, te3b, te4b, te3s, te4s, Nat.mul_one, Nat.zero_add, List.length_cons, List.length_nil, Bool.false_eq_true, Bool.true_eq_false] at *); (try omega))
      all_goals (try (rw [← Nat.add_assoc, e4]))
  have : n = i := by omega
  subst this
  have e3 := linesTo_len n (n + n)
  repeat' (first | ((conv => whnf); refine And.intro ?_ ?_) | ((conv => whnf); with_reducible exact VC.mk rfl) | ((conv => whnf); exact Ok.mk) | ((conv => whnf); exact True.intro) | ((conv => whnf); refine Nx.mk ?_) | ((conv => whnf); refine Fin.mk ?_) | ((conv => whnf); intro _))
  all_goals ((try refine VC.mk ?_); (try simp only [CL.ncell, CL.cnt, Int.toNat_natCast, decide_eq_true_eq, decide_eq_false_iff_not, Bool.not_eq_true, Bool.not_false, Bool.not_true, and_self, and_true, true_and, te3b, te4b, te3s, te4s, Nat.mul_one, Nat.zero_add, List.length_cons, List.length_nil, Bool.false_eq_true, Bool.true_eq_false] at *); (try omega))
  · rename_i hs
    have : lineCnt n (gOf s) = n + n := by
      have e : gOf s = 1 := by unfold gOf; rw [if_neg hsq, if_pos hs]
      rw [e]; unfold lineCnt; rw [if_neg (by omega), if_pos (by omega)]; omega
    rw [this]
    all_goals (first | (refine Sup.of ?_; first | rfl | (simp [*, resOf]; done)) | (refine Sup.via ?_; repeat' (first | ((conv => whnf); refine And.intro ?_ ?_) | ((conv => whnf); with_reducible exact VC.mk rfl) | ((conv => whnf); exact Ok.mk) | ((conv => whnf); exact True.intro) | ((conv => whnf); refine Nx.mk ?_) | ((conv => whnf); refine Fin.mk ?_) | ((conv => whnf); intro _)); all_goals ((try refine VC.mk ?_); (try simp only [CL.ncell, CL.cnt, Int.toNat_natCast, decide_eq_true_eq, decide_eq_false_iff_not, Bool.not_eq_true, Bool.not_false, Bool.not_true, and_self, and_true, true_and, te3b, te4b, te3s, te4s, Nat.mul_one, Nat.zero_add, List.length_cons, List.length_nil, Bool.false_eq_true, Bool.true_eq_false] at *); (try omega)); all_goals (try (simp [CL.sub]; done))))
  · rename_i hs
    simp only [List.length_append, List.length_cons, List.length_nil]; omega
  · rename_i hs1 hs
    have : lineCnt n (gOf s) = 2 * n + 2 := by
      have e : gOf s = 2 := by unfold gOf; rw [if_neg hsq, if_neg hs1, if_pos hs]
      rw [e]; unfold lineCnt; rw [if_neg (by omega), if_neg (by omega), if_pos (by omega)]
    rw [this, linesTo_two]
    all_goals (first | (refine Sup.of ?_; first | rfl | (simp [*, resOf]; done)) | (refine Sup.via ?_; repeat' (first | ((conv => whnf); refine And.intro ?_ ?_) | ((conv => whnf); with_reducible exact VC.mk rfl) | ((conv => whnf); exact Ok.mk) | ((conv => whnf); exact True.intro) | ((conv => whnf); refine Nx.mk ?_) | ((conv => whnf); refine Fin.mk ?_) | ((conv => whnf); intro _)); all_goals ((try refine VC.mk ?_); (try simp only [CL.ncell, CL.cnt, Int.toNat_natCast, decide_eq_true_eq, decide_eq_false_iff_not, Bool.not_eq_true, Bool.not_false, Bool.not_true, and_self, and_true, true_and, te3b, te4b, te3s, te4s, Nat.mul_one, Nat.zero_add, List.length_cons, List.length_nil, Bool.false_eq_true, Bool.true_eq_false] at *); (try omega)); all_goals (try (simp [CL.sub]; done))))
  rename_i hs1 hs2
  have hcnt : lineCnt n (gOf s) = 4 * n := by
    have e : gOf s = 3 := by unfold gOf; rw [if_neg hsq, if_neg hs1, if_neg hs2]
    rw [e]; unfold lineCnt; rw [if_neg (by omega), if_neg (by omega), if_neg (by omega)]
  rw [hcnt]
  simp only [linesTo_two]
  have e3 := linesTo_len n (2 * n + 2)
  generalize hL0 : linesTo n (2 * n + 2) = L0 at *
  try simp only [List.length_append, List.length_cons, List.length_nil]
  conv => whnf
  refine loop_of (X := Nat) (fun k => 1 ≤ k ∧ k ≤ n) (fun k => [(12, .int .i64 k), (5, .isl (.rows .i64 (linesTo n (2 * n + 1 + k))) (.own 0))]) (fun k => [(0, .tok 1 (2 * n + 1 + k))]) (fun k => n - k) 1 ⟨anyB_ok, mixed, tabOK, cpLn_ok, noY_ok⟩ (by rfl) (by omega) ?_ ?_
  · repeat' (first | ((conv => whnf); refine And.intro ?_ ?_) | ((conv => whnf); with_reducible exact VC.mk rfl) | ((conv => whnf); exact Ok.mk) | ((conv => whnf); exact True.intro) | ((conv => whnf); refine Nx.mk ?_) | ((conv => whnf); refine Fin.mk ?_) | ((conv => whnf); intro _))
    all_goals ((try refine VC.mk ?_); (try simp only [CL.ncell, CL.cnt, Int.toNat_natCast, decide_eq_true_eq, decide_eq_false_iff_not, Bool.not_eq_true, Bool.not_false, Bool.not_true, and_self, and_true, true_and, te3b, te4b, te3s, te4s, Nat.mul_one, Nat.zero_add, List.length_cons, List.length_nil, Bool.false_eq_true, Bool.true_eq_false] at *); (try omega))
    all_goals (try (rw [← hL0]; done))
  intro k hk
  have e3 := linesTo_len n (2 * n + 1 + k)
  have e4 := linesTo_succ n (2 * n + 1 + k)
  by_cases hlt : k < n
  · rw [← dg3 n k (by omega)] at e4
    repeat' (first | ((conv => whnf); refine And.intro ?_ ?_) | ((conv => whnf); with_reducible exact VC.mk rfl) | ((conv => whnf); exact Ok.mk) | ((conv => whnf); exact True.intro) | ((conv => whnf); refine Nx.mk ?_) | ((conv => whnf); refine Fin.mk ?_) | ((conv => whnf); intro _))
    all_goals ((try refine VC.mk ?_); (try simp only [CL.ncell, CL.cnt, Int.toNat_natCast, decide_eq_true_eq, decide_eq_false_iff_not, Bool.not_eq_true, Bool.not_false, Bool.not_true, and_self, and_true, true_and, te3b, te4b, te3s, te4s, Nat.mul_one, Nat.zero_add, List.length_cons, List.length_nil, Bool.false_eq_true, Bool.true_eq_false] at *); (try omega))
    all_goals (try (simp only [List.length_append, List.length_cons, List.length_nil]; omega))
    refine ⟨k + 1, [], ⟨by omega, by omega⟩, ?_⟩
    repeat' (first | ((conv => whnf); refine And.intro ?_ ?_) | ((conv => whnf); with_reducible exact VC.mk rfl) | ((conv => whnf); exact Ok.mk) | ((conv => whnf); exact True.intro) | ((conv => whnf); refine Nx.mk ?_) | ((conv => whnf); refine Fin.mk ?_) | ((conv => whnf); intro _))
    all_goals ((try refine VC.mk ?_); (try simp only [CL.ncell, CL.cnt, Int.toNat_natCast, decide_eq_true_eq, decide_eq_false_iff_not, Bool.not_eq_true, Bool.not_false, Bool.not_true, and_self, and_true, true_and, te3b, te4b, te3s, te4s, Nat.mul_one, Nat.zero_add, List.length_cons, List.length_nil, Bool.false_eq_true, Bool.true_eq_false] at *); (try omega))
    all_goals (try (rw [← Nat.add_assoc, e4]))
  have : n = k := by omega
  subst this
  repeat' (first | ((conv => whnf); refine And.intro ?_ ?_) | ((conv => whnf); with_reducible exact VC.mk rfl) | ((conv => whnf); exact Ok.mk) | ((conv => whnf); exact True.intro) | ((conv => whnf); refine Nx.mk ?_) | ((conv => whnf); refine Fin.mk ?_) | ((conv => whnf); intro _))
  all_goals ((try refine VC.mk ?_); (try simp only [CL.ncell, CL.cnt, Int.toNat_natCast, decide_eq_true_eq, decide_eq_false_iff_not, Bool.not_eq_true, Bool.not_false, Bool.not_true, and_self, and_true, true_and, te3b, te4b, te3s, te4s, Nat.mul_one, Nat.zero_add, List.length_cons, List.length_nil, Bool.false_eq_true, Bool.true_eq_false] at *); (try omega))
  conv => whnf
  refine loop_of (X := Nat) (fun k => k + 1 ≤ n) (fun k => [(13, .int .i64 k), (5, .isl (.rows .i64 (linesTo n (3 * n + 1 + k))) (.own 0))]) (fun k => [(0, .tok 1 (3 * n + 1 + k))]) (fun k => n - k) 0 ⟨anyB_ok, mixed, tabOK, cpLn_ok, noY_ok⟩ (by rfl) (by omega) ?_ ?_
  · have : 2 * n + 1 + n = 3 * n + 1 + 0 := by omega
    rw [this]
    repeat' (first | ((conv => whnf); refine And.intro ?_ ?_) | ((conv => whnf); with_reducible exact VC.mk rfl) | ((conv => whnf); exact Ok.mk) | ((conv => whnf); exact True.intro) | ((conv => whnf); refine Nx.mk ?_) | ((conv => whnf); refine Fin.mk ?_) | ((conv => whnf); intro _))
    all_goals ((try refine VC.mk ?_); (try simp only [CL.ncell, CL.cnt, Int.toNat_natCast, decide_eq_true_eq, decide_eq_false_iff_not, Bool.not_eq_true, Bool.not_false, Bool.not_true, and_self, and_true, true_and, te3b, te4b, te3s, te4s, Nat.mul_one, Nat.zero_add, List.length_cons, List.length_nil, Bool.false_eq_true, Bool.true_eq_false] at *); (try omega))
  intro k hk
  have e3 := linesTo_len n (3 * n + 1 + k)
  have e4 := linesTo_succ n (3 * n + 1 + k)
  by_cases hlt : k + 1 < n
  · rw [← dg4 n k hn.1 hlt] at e4
    repeat' (first | ((conv => whnf); refine And.intro ?_ ?_) | ((conv => whnf); with_reducible exact VC.mk rfl) | ((conv => whnf); exact Ok.mk) | ((conv => whnf); exact True.intro) | ((conv => whnf); refine Nx.mk ?_) | ((conv => whnf); refine Fin.mk ?_) | ((conv => whnf); intro _))
    all_goals ((try refine VC.mk ?_); (try simp only [CL.ncell, CL.cnt, Int.toNat_natCast, decide_eq_true_eq, decide_eq_false_iff_not, Bool.not_eq_true, Bool.not_false, Bool.not_true, and_self, and_true, true_and, te3b, te4b, te3s, te4s, Nat.mul_one, Nat.zero_add, List.length_cons, List.length_nil, Bool.false_eq_true, Bool.true_eq_false] at *); (try omega))
    all_goals (try (simp only [List.length_append, List.length_cons, List.length_nil]; omega))
    refine ⟨k + 1, [], ⟨by omega, by omega⟩, ?_⟩
    repeat' (first | ((conv => whnf); refine And.intro ?_ ?_) | ((conv => whnf); with_reducible exact VC.mk rfl) | ((conv => whnf); exact Ok.mk) | ((conv => whnf); exact True.intro) | ((conv => whnf); refine Nx.mk ?_) | ((conv => whnf); refine Fin.mk ?_) | ((conv => whnf); intro _))
    all_goals ((try refine VC.mk ?_); (try simp only [CL.ncell, CL.cnt, Int.toNat_natCast, decide_eq_true_eq, decide_eq_false_iff_not, Bool.not_eq_true, Bool.not_false, Bool.not_true, and_self, and_true, true_and, te3b, te4b, te3s, te4s, Nat.mul_one, Nat.zero_add, List.length_cons, List.length_nil, Bool.false_eq_true, Bool.true_eq_false] at *); (try omega))
    all_goals (try (rw [← Nat.add_assoc, e4]))
  · have : 3 * n + 1 + k = 4 * n := by omega
    rw [this]
    repeat' (first | ((conv => whnf); refine And.intro ?_ ?_) | ((conv => whnf); with_reducible exact VC.mk rfl) | ((conv => whnf); exact Ok.mk) | ((conv => whnf); exact True.intro) | ((conv => whnf); refine Nx.mk ?_) | ((conv => whnf); refine Fin.mk ?_) | ((conv => whnf); intro _))
    all_goals ((try refine VC.mk ?_); (try simp only [CL.ncell, CL.cnt, Int.toNat_natCast, decide_eq_true_eq, decide_eq_false_iff_not, Bool.not_eq_true, Bool.not_false, Bool.not_true, and_self, and_true, true_and, te3b, te4b, te3s, te4s, Nat.mul_one, Nat.zero_add, List.length_cons, List.length_nil, Bool.false_eq_true, Bool.true_eq_false] at *); (try omega))
    all_goals (first | (refine Sup.of ?_; first | rfl | (simp [*, resOf]; done)) | (refine Sup.via ?_; repeat' (first | ((conv => whnf); refine And.intro ?_ ?_) | ((conv => whnf); with_reducible exact VC.mk rfl) | ((conv => whnf); exact Ok.mk) | ((conv => whnf); exact True.intro) | ((conv => whnf); refine Nx.mk ?_) | ((conv => whnf); refine Fin.mk ?_) | ((conv => whnf); intro _)); all_goals ((try refine VC.mk ?_); (try simp only [CL.ncell, CL.cnt, Int.toNat_natCast, decide_eq_true_eq, decide_eq_false_iff_not, Bool.not_eq_true, Bool.not_false, Bool.not_true, and_self, and_true, true_and, te3b, te4b, te3s, te4s, Nat.mul_one, Nat.zero_add, List.length_cons, List.length_nil, Bool.false_eq_true, Bool.true_eq_false] at *); (try omega)); all_goals (try (simp [CL.sub]; done))))
theorem Lines_spec' {n : Int} {s : ByteArray} (hn : 1 ≤ n ∧ n ≤ 16) : PSpec Try.prog 105 [.int .i64 n, .str s] (.isl (.rows .i64 (linesTo n.toNat (lineCnt n.toNat (gOf s)))) .none) := by
  have := Lines_spec n.toNat (by omega) s
  rwa [Int.toNat_of_nonneg (by omega)] at this
def LinesP : PSp := fun xs K => match xs with
  | [.int .i64 n, .str s] => VC (1 ≤ n ∧ n ≤ 16) ∧ K (.isl (.rows .i64 (linesTo n.toNat (lineCnt n.toNat (gOf s)))) .none)
  | _ => False
theorem Lines_ok : POK Try.prog 105 LinesP := by
  intro xs K h
  unfold LinesP at h
  split at h
  · exact ⟨_, h.2, Lines_spec' h.1.get⟩
  · exact h.elim
end Go.Eng.Ytppflbccfdbogaa
namespace Go.Eng.Ytppflbccfdbogaa
open Go.Proofs
set_option maxRecDepth 100000
set_option maxHeartbeats 0
set_option linter.unusedVariables false
set_option linter.unusedSimpArgs false
theorem CheckKind_spec (s : ByteArray) : PSpec Try.prog 20 [.str s] (.int .i64 (kindErr s)) := by
  refine pspec_of (md := 0) (rf := []) mixed tabOK noC_ok Try.func20 (by rfl) (by rfl) (by rfl) ?_
  repeat' (first | ((conv => whnf); refine And.intro ?_ ?_) | ((conv => whnf); with_reducible exact VC.mk rfl) | ((conv => whnf); exact Ok.mk) | ((conv => whnf); exact True.intro) | ((conv => whnf); refine Nx.mk ?_) | ((conv => whnf); refine Fin.mk ?_) | ((conv => whnf); intro _))
  all_goals ((try refine VC.mk ?_); (try simp only [CL.ncell, CL.cnt, Int.toNat_natCast, decide_eq_true_eq, decide_eq_false_iff_not, Bool.not_eq_true, Bool.not_false, Bool.not_true, and_self, and_true, true_and, te3b, te4b, te3s, te4s, Nat.mul_one, Nat.zero_add, List.length_cons, List.length_nil, Bool.false_eq_true, Bool.true_eq_false] at *); (try omega))
  all_goals (refine Sup.of ?_; simp_all [resOf, kindErr])
def CheckKindP : PSp := fun xs K => match xs with
  | [.str s] => VC (True) ∧ K (.int .i64 (kindErr s))
  | _ => False
theorem CheckKind_ok : POK Try.prog 20 CheckKindP := by
  intro xs K h
  unfold CheckKindP at h
  split at h
  · exact ⟨_, h.2, CheckKind_spec _⟩
  · exact h.elim
/-! the first line with another sum -/
theorem badLine_none {n : Nat} {g : Int} {l : List Int} (h : ∀ j, j < lineCnt n g → lineOk n l j = true) : badLine n g l = none := by
  unfold badLine
  rw [List.find?_eq_none]
  intro i hi
  simp [h i (List.mem_range.1 hi)]
theorem badLine_some {n : Nat} {g : Int} {l : List Int} {i : Nat} (hi : i < lineCnt n g) (h : ∀ j, j < i → lineOk n l j = true) (hb : lineOk n l i = false) : badLine n g l = some i := by
  unfold badLine
  rw [List.find?_range_eq_some]
  exact ⟨by simp [hb], by simpa using hi, fun j hj => by simp [h j hj]⟩
def failsV (n : Nat) (g : Int) (l : List Int) : PV := match badLine n g l with
  | some i => .tup [.isl (.ints .i64 (lineAt n i)) .none, .bp true]
  | none => .tup [.isl (.ints .i64 []) .none, .bp false]
theorem lineCnt_le (n : Nat) (g : Int) : lineCnt n g ≤ 4 * n + 2 := by unfold lineCnt; split <;> (try split) <;> (try split) <;> omega
noncomputable def cpFa : CPT := cpAdd 105 (pureCC LinesP) (cpAdd 71 (pureCC rSumP) (cpAdd 72 (pureCC ConstantP) noC))
theorem cpFa_ok : CPOK Try.prog cpFa := cpAdd_ok (pureCC_ok Lines_ok) (cpAdd_ok (pureCC_ok rSum_ok) (cpAdd_ok (pureCC_ok Constant_ok) noC_ok))
theorem Fails_spec (n : Nat) (c : Int) (l : List Int) (s : ByteArray) (hn : 1 ≤ n ∧ n ≤ 16) (hl : l.length = n * n) (hv : ∀ x ∈ l, 0 ≤ x ∧ x ≤ 1000) : PSpec Try.prog 54 [gridV n c l, .str s] (failsV n (gOf s) l) := by
  have hg : ∀ c : Int, 0 ≤ c → c < (n : Int) * n → 0 ≤ l.getD c.toNat 0 ∧ l.getD c.toNat 0 ≤ 1000 := fun c h1 h2 => by
    rw [List.getD_eq_getElem?_getD]
    cases h : l[c.toNat]? with
    | none => simp
    | some v => simpa using hv v (List.mem_of_getElem? h)
  have hll : (l.length : Int) = (n : Int) * n := by rw [hl]; push_cast; rfl
  refine pspec_of (md := 0) (rf := []) mixed tabOK cpFa_ok Try.func54 (by rfl) (by rfl) (by rfl) ?_
  repeat' (first | ((conv => whnf); refine And.intro ?_ ?_) | ((conv => whnf); with_reducible exact VC.mk rfl) | ((conv => whnf); exact Ok.mk) | ((conv => whnf); exact True.intro) | ((conv => whnf); refine Nx.mk ?_) | ((conv => whnf); refine Fin.mk ?_) | ((conv => whnf); intro _))
  all_goals ((try refine VC.mk ?_); (try simp only [CL.ncell, CL.cnt, Int.toNat_natCast, decide_eq_true_eq, decide_eq_false_iff_not, Bool.not_eq_true, Bool.not_false, Bool.not_true, and_self, and_true, true_and, te3b, te4b, te3s, te4s, Nat.mul_one, Nat.zero_add, List.length_cons, List.length_nil, Bool.false_eq_true, Bool.true_eq_false] at *); (try omega))
  generalize hcnt : lineCnt n (gOf s) = cnt at *
  conv => whnf
  refine loop_of (X := Nat) (fun i => i ≤ cnt ∧ ∀ j, j < i → lineOk n l j = true) (fun i => [(7, .int .i64 i)]) (fun i => []) (fun i => cnt - i) 0 ⟨anyB_ok, mixed, tabOK, cpFa_ok, noY_ok⟩ (by rfl) ⟨by omega, fun j hj => by omega⟩ ?_ ?_
  · repeat' (first | ((conv => whnf); refine And.intro ?_ ?_) | ((conv => whnf); with_reducible exact VC.mk rfl) | ((conv => whnf); exact Ok.mk) | ((conv => whnf); exact True.intro) | ((conv => whnf); refine Nx.mk ?_) | ((conv => whnf); refine Fin.mk ?_) | ((conv => whnf); intro _))
    all_goals ((try refine VC.mk ?_); (try simp only [CL.ncell, CL.cnt, Int.toNat_natCast, decide_eq_true_eq, decide_eq_false_iff_not, Bool.not_eq_true, Bool.not_false, Bool.not_true, and_self, and_true, true_and, te3b, te4b, te3s, te4s, Nat.mul_one, Nat.zero_add, List.length_cons, List.length_nil, Bool.false_eq_true, Bool.true_eq_false] at *); (try omega))
  rintro i ⟨hi, hok⟩
  have e1 := linesTo_len n cnt
  by_cases hlt : i < cnt
  · have e2 := linesTo_get n cnt i hlt
    have hm := fun c hc => lineAt_mem (n := n) (i := i) c hc
    have e3 := lineAt_len n i
    have hb := sumAt_bd l (lineAt n i) (fun c hc => hg c (hm c hc).1 (hm c hc).2)
    have hc4 := lineCnt_le n (gOf s)
    repeat' (first | ((conv => whnf); refine And.intro ?_ ?_) | ((conv => whnf); with_reducible exact VC.mk rfl) | ((conv => whnf); exact Ok.mk) | ((conv => whnf); exact True.intro) | ((conv => whnf); refine Nx.mk ?_) | ((conv => whnf); refine Fin.mk ?_) | ((conv => whnf); intro _))
    all_goals ((try refine VC.mk ?_); (try simp only [CL.ncell, CL.cnt, Int.toNat_natCast, decide_eq_true_eq, decide_eq_false_iff_not, Bool.not_eq_true, Bool.not_false, Bool.not_true, and_self, and_true, true_and, te3b, te4b, te3s, te4s, Nat.mul_one, Nat.zero_add, List.length_cons, List.length_nil, Bool.false_eq_true, Bool.true_eq_false] at *); (try omega))
    all_goals (try simp only [e2] at *)
    · refine ⟨fun x hx => by have := hm x hx; omega, by omega, fun j hj => ?_⟩
      have := hb j hj
      rw [e3] at hj
      omega
    · rename_i hbad
      have : failsV n (gOf s) l = .tup [.isl (.ints .i64 (lineAt n i)) .none, .bp true] := by
        unfold failsV
        rw [badLine_some (i := i) (by omega) hok (by unfold lineOk lineSum; rw [e3] at hbad; simpa using hbad)]
      rw [this]
      all_goals (refine Sup.via ?_; repeat' (first | ((conv => whnf); refine And.intro ?_ ?_) | ((conv => whnf); with_reducible exact VC.mk rfl) | ((conv => whnf); exact Ok.mk) | ((conv => whnf); exact True.intro) | ((conv => whnf); refine Nx.mk ?_) | ((conv => whnf); refine Fin.mk ?_) | ((conv => whnf); intro _)); all_goals ((try refine VC.mk ?_); (try simp only [CL.ncell, CL.cnt, Int.toNat_natCast, decide_eq_true_eq, decide_eq_false_iff_not, Bool.not_eq_true, Bool.not_false, Bool.not_true, and_self, and_true, true_and, te3b, te4b, te3s, te4s, Nat.mul_one, Nat.zero_add, List.length_cons, List.length_nil, Bool.false_eq_true, Bool.true_eq_false] at *); (try omega)); all_goals (try (simp [CL.sub]; done)))
    · rename_i hgood
      refine ⟨i + 1, [], ⟨⟨by omega, fun j hj => ?_⟩, by omega⟩, ?_⟩
      · by_cases e : j = i
        · subst e; unfold lineOk lineSum; rw [e3] at hgood; simpa using hgood
        · exact hok j (by omega)
      · repeat' (first | ((conv => whnf); refine And.intro ?_ ?_) | ((conv => whnf); with_reducible exact VC.mk rfl) | ((conv => whnf); exact Ok.mk) | ((conv => whnf); exact True.intro) | ((conv => whnf); refine Nx.mk ?_) | ((conv => whnf); refine Fin.mk ?_) | ((conv => whnf); intro _))
        all_goals ((try refine VC.mk ?_); (try simp only [CL.ncell, CL.cnt, Int.toNat_natCast, decide_eq_true_eq, decide_eq_false_iff_not, Bool.not_eq_true, Bool.not_false, Bool.not_true, and_self, and_true, true_and, te3b, te4b, te3s, te4s, Nat.mul_one, Nat.zero_add, List.length_cons, List.length_nil, Bool.false_eq_true, Bool.true_eq_false] at *); (try omega))
  · have : cnt = i := by omega
    subst this
    have : failsV n (gOf s) l = .tup [.isl (.ints .i64 []) .none, .bp false] := by unfold failsV; rw [badLine_none (by rw [hcnt]; exact hok)]
    rw [this]
    repeat' (first | ((conv => whnf); refine And.intro ?_ ?_) | ((conv => whnf); with_reducible exact VC.mk rfl) | ((conv => whnf); exact Ok.mk) | ((conv => whnf); exact True.intro) | ((conv => whnf); refine Nx.mk ?_) | ((conv => whnf); refine Fin.mk ?_) | ((conv => whnf); intro _))
    all_goals ((try refine VC.mk ?_); (try simp only [CL.ncell, CL.cnt, Int.toNat_natCast, decide_eq_true_eq, decide_eq_false_iff_not, Bool.not_eq_true, Bool.not_false, Bool.not_true, and_self, and_true, true_and, te3b, te4b, te3s, te4s, Nat.mul_one, Nat.zero_add, List.length_cons, List.length_nil, Bool.false_eq_true, Bool.true_eq_false] at *); (try omega))
    all_goals (first | (refine Sup.of ?_; first | rfl | (simp [*, resOf]; done)) | (refine Sup.via ?_; repeat' (first | ((conv => whnf); refine And.intro ?_ ?_) | ((conv => whnf); with_reducible exact VC.mk rfl) | ((conv => whnf); exact Ok.mk) | ((conv => whnf); exact True.intro) | ((conv => whnf); refine Nx.mk ?_) | ((conv => whnf); refine Fin.mk ?_) | ((conv => whnf); intro _)); all_goals ((try refine VC.mk ?_); (try simp only [CL.ncell, CL.cnt, Int.toNat_natCast, decide_eq_true_eq, decide_eq_false_iff_not, Bool.not_eq_true, Bool.not_false, Bool.not_true, and_self, and_true, true_and, te3b, te4b, te3s, te4s, Nat.mul_one, Nat.zero_add, List.length_cons, List.length_nil, Bool.false_eq_true, Bool.true_eq_false] at *); (try omega)); all_goals (try (simp [CL.sub]; done))))
/-! refusals -/
def failsL (n : Nat) (g : Int) (l : List Int) : List Int := match badLine n g l with | some i => lineAt n i | none => []
theorem failsV_eq (n : Nat) (g : Int) (l : List Int) : failsV n g l = .tup [.isl (.ints .i64 (failsL n g l)) .none, .bp (badLine n g l).isSome] := by
  unfold failsV failsL; cases badLine n g l <;> rfl
def refuseR (n : Nat) (c : Nat → Nat) (g : Int) : PV := match meetOf c (n * n) with
  | some y => .tup [refV kMeet ((gAt c (n * n) y).getD (c y) 0) ((y : Int) + 1) [] 0, .bp true]
  | none => match badLine n g (gAt c (n * n) (n * n)) with
    | some i => .tup [refV kSum 0 0 (lineAt n i) (lineSum n (gAt c (n * n) (n * n)) i), .bp true]
    | none => .tup [refV kNo 0 0 [] 0, .bp false]
theorem rRefuse_spec (n : Nat) (s0 s1 x0 x1 b0 b1 : Int) (s : ByteArray) (hn : 1 ≤ n ∧ n ≤ 16) (h : ∀ x ∈ [s0, s1, x0, x1, b0, b1], -999999999 ≤ x ∧ x ≤ 999999999) :
    PSpec Try.prog 22 [stepV n s0 s1 x0 x1 b0 b1, .str s] (refuseR n (cellS n s0 s1 x0 x1 b0 b1) (gOf s)) := by
  have hM := rMeet_spec n s0 s1 x0 x1 b0 b1 (by omega) h
  have hU := rUniform_spec n s0 s1 x0 x1 b0 b1 (by omega) h
  have eN : ((n : Int) * n).toNat = n * n := by rw [← Int.natCast_mul, Int.toNat_natCast]
  rw [eN] at hM hU
  generalize cellS n s0 s1 x0 x1 b0 b1 = c at *
  have hb := mul_bd (show 0 ≤ (n : Int) ∧ (n : Int) ≤ 16 by omega) (show 0 ≤ (n : Int) ∧ (n : Int) ≤ 16 by omega)
  have hnn : ((n * n : Nat) : Int) = (n : Int) * n := by push_cast; rfl
  have hgl := gAt_len c (n * n) (n * n)
  have hgv : ∀ x ∈ gAt c (n * n) (n * n), 0 ≤ x ∧ x ≤ 1000 := fun x hx => by
    have h1 := gAt_nonneg c _ _ x hx
    have h2 := gAt_le c _ _ x hx
    omega
  have hF := Fails_spec n n (gAt c (n * n) (n * n)) s hn hgl hgv
  unfold refuseR
  unfold meetV at hM
  generalize gAt c (n * n) (n * n) = l at *
  cases hm : meetOf c (n * n) with
  | some y =>
    rw [hm] at hM
    have hC := cpAdd_ok (pureCC_ok (atC_ok (C := True) fun _ => hM)) noC_ok
    refine pspec_of (md := 1) (rf := []) mixed tabOK hC Try.func22 (by rfl) (by rfl) (by rfl) ?_
    repeat' (first | ((conv => whnf); refine And.intro ?_ ?_) | ((conv => whnf); with_reducible exact VC.mk rfl) | ((conv => whnf); exact Ok.mk) | ((conv => whnf); exact True.intro) | ((conv => whnf); refine Nx.mk ?_) | ((conv => whnf); refine Fin.mk ?_) | ((conv => whnf); intro _))
    all_goals ((try refine VC.mk ?_); (try simp only [CL.ncell, CL.cnt, Int.toNat_natCast, decide_eq_true_eq, decide_eq_false_iff_not, Bool.not_eq_true, Bool.not_false, Bool.not_true, and_self, and_true, true_and, te3b, te4b, te3s, te4s, Nat.mul_one, Nat.zero_add, List.length_cons, List.length_nil, Bool.false_eq_true, Bool.true_eq_false] at *); (try omega))
    all_goals (refine Sup.via ?_; repeat' (first | ((conv => whnf); refine And.intro ?_ ?_) | ((conv => whnf); with_reducible exact VC.mk rfl) | ((conv => whnf); exact Ok.mk) | ((conv => whnf); exact True.intro) | ((conv => whnf); refine Nx.mk ?_) | ((conv => whnf); refine Fin.mk ?_) | ((conv => whnf); intro _)); all_goals ((try refine VC.mk ?_); (try simp only [CL.ncell, CL.cnt, Int.toNat_natCast, decide_eq_true_eq, decide_eq_false_iff_not, Bool.not_eq_true, Bool.not_false, Bool.not_true, and_self, and_true, true_and, te3b, te4b, te3s, te4s, Nat.mul_one, Nat.zero_add, List.length_cons, List.length_nil, Bool.false_eq_true, Bool.true_eq_false] at *); (try omega)); all_goals (try (simp [CL.sub]; done)))
  | none =>
    rw [hm] at hM
    rw [failsV_eq] at hF
    cases hb : badLine n (gOf s) l with
    | none =>
      rw [hb] at hF
      have hC := cpAdd_ok (pureCC_ok (atC_ok (C := True) fun _ => hM)) (cpAdd_ok (pureCC_ok (atC_ok (C := True) fun _ => hU)) (cpAdd_ok (pureCC_ok (atC_ok (C := True) fun _ => hF)) noC_ok))
      refine pspec_of (md := 1) (rf := []) mixed tabOK hC Try.func22 (by rfl) (by rfl) (by rfl) ?_
      repeat' (first | ((conv => whnf); refine And.intro ?_ ?_) | ((conv => whnf); with_reducible exact VC.mk rfl) | ((conv => whnf); exact Ok.mk) | ((conv => whnf); exact True.intro) | ((conv => whnf); refine Nx.mk ?_) | ((conv => whnf); refine Fin.mk ?_) | ((conv => whnf); intro _))
      all_goals ((try refine VC.mk ?_); (try simp only [CL.ncell, CL.cnt, Int.toNat_natCast, decide_eq_true_eq, decide_eq_false_iff_not, Bool.not_eq_true, Bool.not_false, Bool.not_true, and_self, and_true, true_and, te3b, te4b, te3s, te4s, Nat.mul_one, Nat.zero_add, List.length_cons, List.length_nil, Bool.false_eq_true, Bool.true_eq_false] at *); (try omega))
      all_goals (try (exfalso; simp_all; done))
      all_goals (refine Sup.via ?_; repeat' (first | ((conv => whnf); refine And.intro ?_ ?_) | ((conv => whnf); with_reducible exact VC.mk rfl) | ((conv => whnf); exact Ok.mk) | ((conv => whnf); exact True.intro) | ((conv => whnf); refine Nx.mk ?_) | ((conv => whnf); refine Fin.mk ?_) | ((conv => whnf); intro _)); all_goals ((try refine VC.mk ?_); (try simp only [CL.ncell, CL.cnt, Int.toNat_natCast, decide_eq_true_eq, decide_eq_false_iff_not, Bool.not_eq_true, Bool.not_false, Bool.not_true, and_self, and_true, true_and, te3b, te4b, te3s, te4s, Nat.mul_one, Nat.zero_add, List.length_cons, List.length_nil, Bool.false_eq_true, Bool.true_eq_false] at *); (try omega)); all_goals (try (simp [CL.sub]; done)))
    | some i =>
      rw [hb] at hF
      have hi : i < lineCnt n (gOf s) := by
        unfold badLine at hb
        have := List.mem_of_find?_eq_some hb
        simpa using this
      have hL : failsL n (gOf s) l = lineAt n i := by unfold failsL; rw [hb]
      rw [hL] at hF
      have hm := fun c hc => lineAt_mem (n := n) (i := i) c hc
      have e3 := lineAt_len n i
      have hg : ∀ c : Int, 0 ≤ c → c < (n : Int) * n → 0 ≤ l.getD c.toNat 0 ∧ l.getD c.toNat 0 ≤ 1000 := fun c h1 h2 => by
        rw [List.getD_eq_getElem?_getD]
        cases h : l[c.toNat]? with
        | none => simp
        | some v => simpa using hgv v (List.mem_of_getElem? h)
      have hbd := sumAt_bd l (lineAt n i) (fun c hc => hg c (hm c hc).1 (hm c hc).2)
      have hS := rSum_spec n n l (lineAt n i) (fun x hx => by have := hm x hx; omega) (by omega) (fun j hj => by have := hbd j hj; omega)
      have hC := cpAdd_ok (pureCC_ok (atC_ok (C := True) fun _ => hM)) (cpAdd_ok (pureCC_ok (atC_ok (C := True) fun _ => hU)) (cpAdd_ok (pureCC_ok (atC_ok (C := True) fun _ => hF)) (cpAdd_ok (pureCC_ok (atC_ok (C := True) fun _ => hS)) noC_ok)))
      refine pspec_of (md := 1) (rf := []) mixed tabOK hC Try.func22 (by rfl) (by rfl) (by rfl) ?_
      repeat' (first | ((conv => whnf); refine And.intro ?_ ?_) | ((conv => whnf); with_reducible exact VC.mk rfl) | ((conv => whnf); exact Ok.mk) | ((conv => whnf); exact True.intro) | ((conv => whnf); refine Nx.mk ?_) | ((conv => whnf); refine Fin.mk ?_) | ((conv => whnf); intro _))
      all_goals ((try refine VC.mk ?_); (try simp only [CL.ncell, CL.cnt, Int.toNat_natCast, decide_eq_true_eq, decide_eq_false_iff_not, Bool.not_eq_true, Bool.not_false, Bool.not_true, and_self, and_true, true_and, te3b, te4b, te3s, te4s, Nat.mul_one, Nat.zero_add, List.length_cons, List.length_nil, Bool.false_eq_true, Bool.true_eq_false] at *); (try omega))
      all_goals (try (exfalso; simp_all; done))
      rw [e3]
      unfold lineSum
      all_goals (refine Sup.via ?_; repeat' (first | ((conv => whnf); refine And.intro ?_ ?_) | ((conv => whnf); with_reducible exact VC.mk rfl) | ((conv => whnf); exact Ok.mk) | ((conv => whnf); exact True.intro) | ((conv => whnf); refine Nx.mk ?_) | ((conv => whnf); refine Fin.mk ?_) | ((conv => whnf); intro _)); all_goals ((try refine VC.mk ?_); (try simp only [CL.ncell, CL.cnt, Int.toNat_natCast, decide_eq_true_eq, decide_eq_false_iff_not, Bool.not_eq_true, Bool.not_false, Bool.not_true, and_self, and_true, true_and, te3b, te4b, te3s, te4s, Nat.mul_one, Nat.zero_add, List.length_cons, List.length_nil, Bool.false_eq_true, Bool.true_eq_false] at *); (try omega)); all_goals (try (simp [CL.sub]; done)))
end Go.Eng.Ytppflbccfdbogaa
namespace Go.Eng.Ytppflbccfdbogaa
open Go.Proofs
set_option maxRecDepth 100000
set_option maxHeartbeats 0
set_option linter.unusedVariables false
set_option linter.unusedSimpArgs false
def evenB (d x : Int) : Bool := decide (2 * (x % d) = d - 1)
theorem all_take_succ (p : Int → Bool) (l : List Int) (i : Nat) (h : i < l.length) : (l.take (i + 1)).all p = ((l.take i).all p && p (l.getD i 0)) := by
  rw [List.take_add_one, List.all_append]
  simp [h]
theorem balanced_spec (l : List Int) (d : Int) (hd : 1 ≤ d ∧ d ≤ 1000) (hl : ∀ x ∈ l, 0 ≤ x ∧ x ≤ 1000) (hn : l.length ≤ 100000) : PSpec Try.prog 125 [.isl (.ints .i64 l) .none, .int .i64 d] (.bp (l.all (evenB d))) := by
  refine pspec_of (md := 0) (rf := []) mixed tabOK noC_ok Try.func125 (by rfl) (by rfl) (by rfl) ?_
  repeat' (first | ((conv => whnf); refine And.intro ?_ ?_) | ((conv => whnf); with_reducible exact VC.mk rfl) | ((conv => whnf); exact Ok.mk) | ((conv => whnf); exact True.intro) | ((conv => whnf); refine Nx.mk ?_) | ((conv => whnf); refine Fin.mk ?_) | ((conv => whnf); intro _))
  all_goals ((try refine VC.mk ?_); (try simp only [CL.ncell, CL.cnt, Int.toNat_natCast, decide_eq_true_eq, decide_eq_false_iff_not, Bool.not_eq_true, Bool.not_false, Bool.not_true, and_self, and_true, true_and, te3b, te4b, te3s, te4s, Nat.mul_one, Nat.zero_add, List.length_cons, List.length_nil, Bool.false_eq_true, Bool.true_eq_false] at *); (try omega))
  conv => whnf
  refine loop_of (X := Nat) (fun i => i ≤ l.length ∧ (l.take i).all (evenB d) = true) (fun i => [(5, .int .i64 i)]) (fun i => []) (fun i => l.length - i) 0 ⟨anyB_ok, mixed, tabOK, noC_ok, noY_ok⟩ (by rfl) ⟨by omega, by simp⟩ ?_ ?_
  · repeat' (first | ((conv => whnf); refine And.intro ?_ ?_) | ((conv => whnf); with_reducible exact VC.mk rfl) | ((conv => whnf); exact Ok.mk) | ((conv => whnf); exact True.intro) | ((conv => whnf); refine Nx.mk ?_) | ((conv => whnf); refine Fin.mk ?_) | ((conv => whnf); intro _))
    all_goals ((try refine VC.mk ?_); (try simp only [CL.ncell, CL.cnt, Int.toNat_natCast, decide_eq_true_eq, decide_eq_false_iff_not, Bool.not_eq_true, Bool.not_false, Bool.not_true, and_self, and_true, true_and, te3b, te4b, te3s, te4s, Nat.mul_one, Nat.zero_add, List.length_cons, List.length_nil, Bool.false_eq_true, Bool.true_eq_false] at *); (try omega))
  rintro i ⟨hi, hok⟩
  by_cases hlt : i < l.length
  · have hx := hl (l.getD i 0) (by rw [List.getD_eq_getElem?_getD, List.getElem?_eq_getElem hlt]; exact List.getElem_mem _)
    have hm1 : 0 ≤ l.getD i 0 % d := Int.emod_nonneg _ (by omega)
    have hm2 : l.getD i 0 % d < d := Int.emod_lt_of_pos _ (by omega)
    have e1 := all_take_succ (evenB d) l i hlt
    repeat' (first | ((conv => whnf); refine And.intro ?_ ?_) | ((conv => whnf); with_reducible exact VC.mk rfl) | ((conv => whnf); exact Ok.mk) | ((conv => whnf); exact True.intro) | ((conv => whnf); refine Nx.mk ?_) | ((conv => whnf); refine Fin.mk ?_) | ((conv => whnf); intro _))
    all_goals ((try refine VC.mk ?_); (try simp only [CL.ncell, CL.cnt, Int.toNat_natCast, decide_eq_true_eq, decide_eq_false_iff_not, Bool.not_eq_true, Bool.not_false, Bool.not_true, and_self, and_true, true_and, te3b, te4b, te3s, te4s, Nat.mul_one, Nat.zero_add, List.length_cons, List.length_nil, Bool.false_eq_true, Bool.true_eq_false] at *); (try omega))
    · rename_i hb
      have : l.all (evenB d) = false := by
        rw [List.all_eq_false]
        exact ⟨l.getD i 0, by rw [List.getD_eq_getElem?_getD, List.getElem?_eq_getElem hlt]; exact List.getElem_mem _, by unfold evenB; simpa using hb⟩
      rw [this]; all_goals (first | (refine Sup.of ?_; first | rfl | (simp [*, resOf]; done)) | (refine Sup.via ?_; repeat' (first | ((conv => whnf); refine And.intro ?_ ?_) | ((conv => whnf); with_reducible exact VC.mk rfl) | ((conv => whnf); exact Ok.mk) | ((conv => whnf); exact True.intro) | ((conv => whnf); refine Nx.mk ?_) | ((conv => whnf); refine Fin.mk ?_) | ((conv => whnf); intro _)); all_goals ((try refine VC.mk ?_); (try simp only [CL.ncell, CL.cnt, Int.toNat_natCast, decide_eq_true_eq, decide_eq_false_iff_not, Bool.not_eq_true, Bool.not_false, Bool.not_true, and_self, and_true, true_and, te3b, te4b, te3s, te4s, Nat.mul_one, Nat.zero_add, List.length_cons, List.length_nil, Bool.false_eq_true, Bool.true_eq_false] at *); (try omega)); all_goals (try (simp [CL.sub]; done))))
    · rename_i hb
      refine ⟨i + 1, [], ⟨⟨by omega, by rw [e1, hok]; unfold evenB; simpa using hb⟩, by omega⟩, ?_⟩
      repeat' (first | ((conv => whnf); refine And.intro ?_ ?_) | ((conv => whnf); with_reducible exact VC.mk rfl) | ((conv => whnf); exact Ok.mk) | ((conv => whnf); exact True.intro) | ((conv => whnf); refine Nx.mk ?_) | ((conv => whnf); refine Fin.mk ?_) | ((conv => whnf); intro _))
      all_goals ((try refine VC.mk ?_); (try simp only [CL.ncell, CL.cnt, Int.toNat_natCast, decide_eq_true_eq, decide_eq_false_iff_not, Bool.not_eq_true, Bool.not_false, Bool.not_true, and_self, and_true, true_and, te3b, te4b, te3s, te4s, Nat.mul_one, Nat.zero_add, List.length_cons, List.length_nil, Bool.false_eq_true, Bool.true_eq_false] at *); (try omega))
  · have : l.length = i := by omega
    subst this
    rw [List.take_length] at hok
    rw [hok]
    repeat' (first | ((conv => whnf); refine And.intro ?_ ?_) | ((conv => whnf); with_reducible exact VC.mk rfl) | ((conv => whnf); exact Ok.mk) | ((conv => whnf); exact True.intro) | ((conv => whnf); refine Nx.mk ?_) | ((conv => whnf); refine Fin.mk ?_) | ((conv => whnf); intro _))
    all_goals ((try refine VC.mk ?_); (try simp only [CL.ncell, CL.cnt, Int.toNat_natCast, decide_eq_true_eq, decide_eq_false_iff_not, Bool.not_eq_true, Bool.not_false, Bool.not_true, and_self, and_true, true_and, te3b, te4b, te3s, te4s, Nat.mul_one, Nat.zero_add, List.length_cons, List.length_nil, Bool.false_eq_true, Bool.true_eq_false] at *); (try omega))
    all_goals (first | (refine Sup.of ?_; first | rfl | (simp [*, resOf]; done)) | (refine Sup.via ?_; repeat' (first | ((conv => whnf); refine And.intro ?_ ?_) | ((conv => whnf); with_reducible exact VC.mk rfl) | ((conv => whnf); exact Ok.mk) | ((conv => whnf); exact True.intro) | ((conv => whnf); refine Nx.mk ?_) | ((conv => whnf); refine Fin.mk ?_) | ((conv => whnf); intro _)); all_goals ((try refine VC.mk ?_); (try simp only [CL.ncell, CL.cnt, Int.toNat_natCast, decide_eq_true_eq, decide_eq_false_iff_not, Bool.not_eq_true, Bool.not_false, Bool.not_true, and_self, and_true, true_and, te3b, te4b, te3s, te4s, Nat.mul_one, Nat.zero_add, List.length_cons, List.length_nil, Bool.false_eq_true, Bool.true_eq_false] at *); (try omega)); all_goals (try (simp [CL.sub]; done))))
def balancedP : PSp := fun xs K => match xs with
  | [.isl (.ints .i64 l) .none, .int .i64 d] => VC ((1 ≤ d ∧ d ≤ 1000) ∧ (∀ x ∈ l, 0 ≤ x ∧ x ≤ 1000) ∧ l.length ≤ 100000) ∧ K (.bp (l.all (evenB d)))
  | _ => False
theorem balanced_ok : POK Try.prog 125 balancedP := by
  intro xs K h
  unfold balancedP at h
  split at h
  · exact ⟨_, h.2, balanced_spec _ _ h.1.get.1 h.1.get.2.1 h.1.get.2.2⟩
  · exact h.elim
theorem sup_bool {b c : Bool} (h : c = b) : Sup (resOf [PV.bool b]) (.bp c) := by subst h; exact ⟨fun h => by cases h; exact .bp _ _⟩
theorem sup_bp' {b c : Bool} (h : c = b) : Sup (resOf [PV.bp b]) (.bp c) := by subst h; exact ⟨fun h => h⟩
def digA (n : Int) (cs : List Int) (c : Int) : Int := (cs.getD c.toNat 0 - 1) % n
def digB (n : Int) (cs : List Int) (c : Int) : Int := (cs.getD c.toNat 0 - 1) / n
def lvlB (n : Int) (cs l : List Int) (u v : Int) : Bool := (l.map (digA n cs)).all (evenB (gcdN n v)) && (l.map (digB n cs)).all (evenB (gcdN n u))
noncomputable def cpLv : CPT := cpAdd 80 (pureCC ModP) (cpAdd 124 (pureCC GcdP) (cpAdd 125 (pureCC balancedP) noC))
theorem cpLv_ok : CPOK Try.prog cpLv := cpAdd_ok (pureCC_ok Mod_ok) (cpAdd_ok (pureCC_ok Gcd_ok) (cpAdd_ok (pureCC_ok balanced_ok) noC_ok))
theorem map_take_succ {f : Int → Int} {l : List Int} {i : Nat} (h : i < l.length) : (l.take (i + 1)).map f = (l.take i).map f ++ [f (l.getD i 0)] := by
  rw [List.take_add_one, List.map_append]
  simp [h]
theorem level_spec (n s0 s1 x0 x1 b0 b1 r c u v : Int) (cs l : List Int) (hn : 1 ≤ n ∧ n ≤ 16) (hu : -1000 ≤ u ∧ u ≤ 1000) (hv : -1000 ≤ v ∧ v ≤ 1000) (hl : ∀ x ∈ l, (0 ≤ x ∧ x < cs.length) ∧ 1 ≤ cs.getD x.toNat 0 ∧ cs.getD x.toNat 0 ≤ 256) (hll : l.length ≤ 1000) :
    PSpec Try.prog 82 [stepV n s0 s1 x0 x1 b0 b1, gridV r c cs, .isl (.ints .i64 l) .none, .int .i64 u, .int .i64 v] (.bp (lvlB n cs l u v)) := by
  have g1 := @gcdN_bd n v hn
  have g2 := @gcdN_bd n u hn
  have m1 : 0 ≤ v % n ∧ v % n < n := ⟨Int.emod_nonneg _ (by omega), Int.emod_lt_of_pos _ (by omega)⟩
  have m2 : 0 ≤ u % n ∧ u % n < n := ⟨Int.emod_nonneg _ (by omega), Int.emod_lt_of_pos _ (by omega)⟩
  have q1 : ((Int.gcd (v % n) n : Nat) : Int) = gcdN n v := rfl
  have q2 : ((Int.gcd (u % n) n : Nat) : Int) = gcdN n u := rfl
  refine pspec_of (md := 0) (rf := []) mixed tabOK cpLv_ok Try.func82 (by rfl) (by rfl) (by rfl) ?_
  repeat' (first | ((conv => whnf); refine And.intro ?_ ?_) | ((conv => whnf); with_reducible exact VC.mk rfl) | ((conv => whnf); exact Ok.mk) | ((conv => whnf); exact True.intro) | ((conv => whnf); refine Nx.mk ?_) | ((conv => whnf); refine Fin.mk ?_) | ((conv => whnf); intro _))
  all_goals ((try refine VC.mk ?_); (try simp only [CL.ncell, CL.cnt, Int.toNat_natCast, decide_eq_true_eq, decide_eq_false_iff_not, Bool.not_eq_true, Bool.not_false, Bool.not_true, and_self, and_true, true_and, te3b, te4b, te3s, te4s, Nat.mul_one, Nat.zero_add, List.length_cons, List.length_nil, Bool.false_eq_true, Bool.true_eq_false] at *); (try omega))
  simp only [q1, q2]
  conv => whnf
  refine loop_of (X := Nat) (fun i => i ≤ l.length) (fun i => [(15, .int .i64 i), (13, .isl (.ints .i64 ((l.take i).map (digA n cs))) (.own 2)), (14, .isl (.ints .i64 ((l.take i).map (digB n cs))) (.own 3))]) (fun i => [(2, .tok 1 i), (3, .tok 1 i)]) (fun i => l.length - i) 0 ⟨anyB_ok, mixed, tabOK, cpLv_ok, noY_ok⟩ (by rfl) (by omega) ?_ ?_
  · repeat' (first | ((conv => whnf); refine And.intro ?_ ?_) | ((conv => whnf); with_reducible exact VC.mk rfl) | ((conv => whnf); exact Ok.mk) | ((conv => whnf); exact True.intro) | ((conv => whnf); refine Nx.mk ?_) | ((conv => whnf); refine Fin.mk ?_) | ((conv => whnf); intro _))
    all_goals ((try refine VC.mk ?_); (try simp only [CL.ncell, CL.cnt, Int.toNat_natCast, decide_eq_true_eq, decide_eq_false_iff_not, Bool.not_eq_true, Bool.not_false, Bool.not_true, and_self, and_true, true_and, te3b, te4b, te3s, te4s, Nat.mul_one, Nat.zero_add, List.length_cons, List.length_nil, Bool.false_eq_true, Bool.true_eq_false] at *); (try omega))
    all_goals (try (simp; done))
  intro i hi
  have e2 : ((l.take i).map (digA n cs)).length = i := by simp; omega
  have e3 : ((l.take i).map (digB n cs)).length = i := by simp; omega
  by_cases hlt : i < l.length
  · have hx := hl (l.getD i 0) (by rw [List.getD_eq_getElem?_getD, List.getElem?_eq_getElem hlt]; exact List.getElem_mem _)
    have e4 := map_take_succ (f := digA n cs) hlt
    have e5 := map_take_succ (f := digB n cs) hlt
    have h4 : 0 ≤ (cs.getD (l.getD i 0).toNat 0 - 1) / n := Int.ediv_nonneg (by omega) (by omega)
    have h5 := Int.ediv_le_self (a := cs.getD (l.getD i 0).toNat 0 - 1) n (by omega)
    repeat' (first | ((conv => whnf); refine And.intro ?_ ?_) | ((conv => whnf); with_reducible exact VC.mk rfl) | ((conv => whnf); exact Ok.mk) | ((conv => whnf); exact True.intro) | ((conv => whnf); refine Nx.mk ?_) | ((conv => whnf); refine Fin.mk ?_) | ((conv => whnf); intro _))
    all_goals ((try refine VC.mk ?_); (try simp only [CL.ncell, CL.cnt, Int.toNat_natCast, decide_eq_true_eq, decide_eq_false_iff_not, Bool.not_eq_true, Bool.not_false, Bool.not_true, and_self, and_true, true_and, te3b, te4b, te3s, te4s, Nat.mul_one, Nat.zero_add, List.length_cons, List.length_nil, Bool.false_eq_true, Bool.true_eq_false] at *); (try omega))
    all_goals (try (simp only [List.length_append, List.length_cons, List.length_nil]; omega))
    refine ⟨i + 1, [], ⟨by omega, by omega⟩, ?_⟩
    repeat' (first | ((conv => whnf); refine And.intro ?_ ?_) | ((conv => whnf); with_reducible exact VC.mk rfl) | ((conv => whnf); exact Ok.mk) | ((conv => whnf); exact True.intro) | ((conv => whnf); refine Nx.mk ?_) | ((conv => whnf); refine Fin.mk ?_) | ((conv => whnf); intro _))
    all_goals ((try refine VC.mk ?_); (try simp only [CL.ncell, CL.cnt, Int.toNat_natCast, decide_eq_true_eq, decide_eq_false_iff_not, Bool.not_eq_true, Bool.not_false, Bool.not_true, and_self, and_true, true_and, te3b, te4b, te3s, te4s, Nat.mul_one, Nat.zero_add, List.length_cons, List.length_nil, Bool.false_eq_true, Bool.true_eq_false] at *); (try omega))
    all_goals first | (rw [e4]; rfl) | (rw [e5]; rfl)
  · have : l.length = i := by omega
    subst this
    rw [List.take_length] at e2 e3
    simp only [List.take_length]
    have k1 : ∀ x ∈ l.map (digA n cs), 0 ≤ x ∧ x ≤ 1000 := fun x hx => by
      obtain ⟨y, hy, rfl⟩ := List.mem_map.1 hx
      have h6 := hl y hy
      have h7 : 0 ≤ (cs.getD y.toNat 0 - 1) % n := Int.emod_nonneg _ (by omega)
      have h8 : (cs.getD y.toNat 0 - 1) % n < n := Int.emod_lt_of_pos _ (by omega)
      unfold digA; omega
    have k2 : ∀ x ∈ l.map (digB n cs), 0 ≤ x ∧ x ≤ 1000 := fun x hx => by
      obtain ⟨y, hy, rfl⟩ := List.mem_map.1 hx
      have h6 := hl y hy
      have h7 : 0 ≤ (cs.getD y.toNat 0 - 1) / n := Int.ediv_nonneg (by omega) (by omega)
      have h8 := Int.ediv_le_self (a := cs.getD y.toNat 0 - 1) n (by omega)
      unfold digB; omega
    unfold lvlB
    repeat' (first | ((conv => whnf); refine And.intro ?_ ?_) | ((conv => whnf); with_reducible exact VC.mk rfl) | ((conv => whnf); exact Ok.mk) | ((conv => whnf); exact True.intro) | ((conv => whnf); refine Nx.mk ?_) | ((conv => whnf); refine Fin.mk ?_) | ((conv => whnf); intro _))
    all_goals ((try refine VC.mk ?_); (try simp only [CL.ncell, CL.cnt, Int.toNat_natCast, decide_eq_true_eq, decide_eq_false_iff_not, Bool.not_eq_true, Bool.not_false, Bool.not_true, and_self, and_true, true_and, te3b, te4b, te3s, te4s, Nat.mul_one, Nat.zero_add, List.length_cons, List.length_nil, Bool.false_eq_true, Bool.true_eq_false] at *); (try omega))
    · exact ⟨by omega, k1, by omega⟩
    · exact ⟨by omega, k2, by omega⟩
    · rename_i _ h; refine sup_bp' ?_; simp_all
    · rename_i h; refine sup_bool ?_; rw [h]; rfl
def levelP : PSp := fun xs K => match xs with
  | [.agg [.int .i64 n, .int .i64 s0, .int .i64 s1, .int .i64 x0, .int .i64 x1, .int .i64 b0, .int .i64 b1], .agg [.int .i64 r, .int .i64 c, .isl (.ints .i64 cs) .none], .isl (.ints .i64 l) .none, .int .i64 u, .int .i64 v] => VC ((1 ≤ n ∧ n ≤ 16) ∧ (-1000 ≤ u ∧ u ≤ 1000) ∧ (-1000 ≤ v ∧ v ≤ 1000) ∧ (∀ x ∈ l, (0 ≤ x ∧ x < cs.length) ∧ 1 ≤ cs.getD x.toNat 0 ∧ cs.getD x.toNat 0 ≤ 256) ∧ l.length ≤ 1000) ∧ K (.bp (lvlB n cs l u v))
  | _ => False
theorem level_ok : POK Try.prog 82 levelP := by
  intro xs K h
  unfold levelP at h
  split at h
  · exact ⟨_, h.2, level_spec _ _ _ _ _ _ _ _ _ _ _ _ _ h.1.get.1 h.1.get.2.1 h.1.get.2.2.1 h.1.get.2.2.2.1 h.1.get.2.2.2.2⟩
  · exact h.elim
/-! Admits -/
def rMagB (n s0 s1 x0 x1 b0 b1 : Int) : Bool := isSemi n x0 x1 b0 b1 && (lvlB n (sqL n s0 s1 x0 x1 b0 b1) (colL n.toNat (fun i => 0 + (i : Int) * 1) n.toNat) (x0 - x1) (b0 - b1) && lvlB n (sqL n s0 s1 x0 x1 b0 b1) (colL n.toNat (fun i => n - 1 + (i : Int) * (n - 1)) n.toNat) (x0 + x1) (b0 + b1))
def rAdmB (n s0 s1 x0 x1 b0 b1 : Int) (s : ByteArray) : Bool :=
  if s = kSq then isSq n (x0 % n) (x1 % n) (b0 % n) (b1 % n) else if s = kSemi then isSemi n (x0 % n) (x1 % n) (b0 % n) (b1 % n) else if s = kMag then rMagB n (s0 % n) (s1 % n) (x0 % n) (x1 % n) (b0 % n) (b1 % n)
  else isPan n (x0 % n) (x1 % n) (b0 % n) (b1 % n)
noncomputable def cpAd : CPT := cpAdd 80 (pureCC ModP) (cpAdd 81 (pureCC primeP) (cpAdd 50 (pureCC rUniformP) (cpAdd 83 (pureCC diagP) (cpAdd 82 (pureCC levelP) noC))))
theorem cpAd_ok : CPOK Try.prog cpAd := cpAdd_ok (pureCC_ok Mod_ok) (cpAdd_ok (pureCC_ok prime_ok) (cpAdd_ok (pureCC_ok rUniform_ok) (cpAdd_ok (pureCC_ok diag_ok) (cpAdd_ok (pureCC_ok level_ok) noC_ok))))
theorem rAdmits_spec (n s0 s1 x0 x1 b0 b1 : Int) (s : ByteArray) (hn : 1 ≤ n ∧ n ≤ 16) (h : ∀ x ∈ [s0, s1, x0, x1, b0, b1], -999999999 ≤ x ∧ x ≤ 999999999) (hk : kindErr s = 0) :
    PSpec Try.prog 23 [stepV n s0 s1 x0 x1 b0 b1, .str s] (.bp (rAdmB n s0 s1 x0 x1 b0 b1 s)) := by
  have hh := h
  simp only [List.mem_cons, List.not_mem_nil, or_false, forall_eq_or_imp, forall_eq] at h
  obtain ⟨h1, h2, h3, h4, h5, h6⟩ := h
  have md : ∀ y : Int, 0 ≤ y % n ∧ y % n < n := fun y => ⟨Int.emod_nonneg _ (by omega), Int.emod_lt_of_pos _ (by omega)⟩
  have a1 := md x0
  have a2 := md x1
  have a3 := md b0
  have a4 := md b1
  have m1 := mul_bd (A := 16) (B := 16) (show 0 ≤ x0 % n ∧ x0 % n ≤ 16 by omega) (show 0 ≤ b1 % n ∧ b1 % n ≤ 16 by omega)
  have m2 := mul_bd (A := 16) (B := 16) (show 0 ≤ x1 % n ∧ x1 % n ≤ 16 by omega) (show 0 ≤ b0 % n ∧ b0 % n ≤ 16 by omega)
  have hks : s = kSq ∨ s = kSemi ∨ s = kMag ∨ s = kPan := by
    unfold kindErr at hk
    split at hk
    · assumption
    · omega
  have q : ∀ y : Int, decide (Int.gcd (y % n) n = 1) = coprime n y := fun y => rfl
  have hnn := mul_bd (show 0 ≤ n ∧ n ≤ 16 by omega) (show 0 ≤ n ∧ n ≤ 16 by omega)
  obtain ⟨L, hL⟩ : ∃ L, gAt (cellS n s0 s1 x0 x1 b0 b1) (n * n).toNat (n * n).toNat = L := ⟨_, rfl⟩
  have hL2 : sqL n (s0 % n) (s1 % n) (x0 % n) (x1 % n) (b0 % n) (b1 % n) = L := hL
  have hLl : (L.length : Int) = n * n := by rw [← hL, gAt_len]; omega
  have hfull : coprime n (x0 % n * (b1 % n) - x1 % n * (b0 % n)) = true → ∀ k : Int, 0 ≤ k → k < n * n → 1 ≤ L.getD k.toNat 0 ∧ L.getD k.toNat 0 ≤ 256 := fun hsq k k1 k2 => by
    have hm := meet_none (s0 := s0 % n) (s1 := s1 % n) hn.1 (show isSq n (x0 % n) (x1 % n) (b0 % n) (b1 % n) = true from hsq)
    obtain ⟨i, q1, q2, q3⟩ := gAt_full (fun i _ => cellN_lt (s0 := s0 % n) (s1 := s1 % n) (x0 := x0 % n) (x1 := x1 % n) (b0 := b0 % n) (b1 := b1 % n) hn.1 i) (meetOf_inj (fun i _ => cellN_lt hn.1 i) hm) k.toNat (by omega)
    rw [← hL]
    have q3 : (gAt (cellS n s0 s1 x0 x1 b0 b1) (n * n).toNat (n * n).toNat).getD k.toNat 0 = (i : Int) + 1 := q3
    rw [q3]; omega
  have hcol : ∀ h : Nat → Int, (!coprime n (x0 % n * (b1 % n) - x1 % n * (b0 % n))) = false → (∀ x ∈ colL n.toNat h n.toNat, (0 ≤ x ∧ x < L.length) ∧ 1 ≤ L.getD x.toNat 0 ∧ L.getD x.toNat 0 ≤ 256) ∧ (colL n.toNat h n.toNat).length ≤ 1000 := fun h hc => by
    refine ⟨fun x hx => ?_, by rw [colL_len]; omega⟩
    have h1 := colL_mem x hx
    rw [Int.toNat_of_nonneg (by omega)] at h1
    exact ⟨by omega, hfull (by simpa using hc) x h1.1 h1.2⟩
  generalize hres : rAdmB n s0 s1 x0 x1 b0 b1 s = res
  unfold rAdmB rMagB at hres
  rw [hL2] at hres
  refine pspec_of (md := 1) (rf := []) mixed tabOK cpAd_ok Try.func23 (by rfl) (by rfl) (by rfl) ?_
  repeat' (first | ((conv => whnf); refine And.intro ?_ ?_) | ((conv => whnf); with_reducible exact VC.mk rfl) | ((conv => whnf); exact Ok.mk) | ((conv => whnf); exact True.intro) | ((conv => whnf); refine Nx.mk ?_) | ((conv => whnf); refine Fin.mk ?_) | ((conv => whnf); intro _))
  all_goals ((try refine VC.mk ?_); (try simp only [CL.ncell, CL.cnt, Int.toNat_natCast, decide_eq_true_eq, decide_eq_false_iff_not, Bool.not_eq_true, Bool.not_false, Bool.not_true, and_self, and_true, true_and, te3b, te4b, te3s, te4s, Nat.mul_one, Nat.zero_add, List.length_cons, List.length_nil, Bool.false_eq_true, Bool.true_eq_false] at *); (try omega))
  all_goals (try (first | refine sup_bool ?_ | refine sup_bp' ?_))
  all_goals (try simp only [hL])
  all_goals (try exact ⟨hn, by omega, by omega, hcol _ (by assumption)⟩)
  all_goals (try exact ⟨hn, hh⟩)
  all_goals (rw [← hres]; clear hcol hfull hL2 hLl; subst hL; rcases hks with rfl | rfl | rfl | rfl <;> simp_all [isSemi, isSq, isPan, coprime, kSq, kSemi, kMag, kPan])
/-! the program's condition is the reference's -/
theorem even_iff (d x : Int) : evenB d x = true ↔ ¬ d % 2 = 0 ∧ x % d = (d - 1) / 2 := by
  unfold evenB
  rw [decide_eq_true_eq]
  omega
theorem lvl_bal {n : Int} (hn : 1 ≤ n) (cs : List Int) (f : Nat → Int) (u v : Int) :
    lvlB n cs ((List.range n.toNat).map f) u v = balB n (fun i => cs.getD (f i).toNat 0) u v := by
  have hr : (List.range n.toNat).all (fun _ => false) = false := by
    obtain ⟨m, hm⟩ : ∃ m, n.toNat = m + 1 := ⟨n.toNat - 1, by omega⟩
    rw [hm, List.range_succ_eq_map]; rfl
  unfold lvlB balB
  simp only [List.map_map, List.all_map]
  rw [Bool.eq_iff_iff]
  simp only [Bool.and_eq_true, List.all_eq_true, List.mem_range, Function.comp, even_iff, Bool.not_eq_true', decide_eq_false_iff_not, balAt, decide_eq_true_eq, digA, digB]
  constructor
  · rintro ⟨h1, h2⟩
    exact ⟨⟨(h1 0 (by omega)).1, (h2 0 (by omega)).1⟩, fun i hi => ⟨(h1 i hi).2, (h2 i hi).2⟩⟩
  · rintro ⟨⟨h1, h2⟩, h3⟩
    exact ⟨fun i hi => ⟨h1, (h3 i hi).1⟩, fun i hi => ⟨h2, (h3 i hi).2⟩⟩
theorem balB_congr {n : Int} {h h' : Nat → Int} (e : ∀ i : Nat, (i : Int) < n → h i = h' i) (u v : Int) : balB n h u v = balB n h' u v := by
  unfold balB
  congr 1
  rw [Bool.eq_iff_iff]
  simp only [List.all_eq_true, List.mem_range, balAt]
  constructor
  · intro h1 i hi; rw [← e i (by omega)]; exact h1 i hi
  · intro h1 i hi; rw [e i (by omega)]; exact h1 i hi
theorem mag_eq {n : Int} (hn : 1 ≤ n) (s0 s1 x0 x1 b0 b1 : Int) : rMagB n s0 s1 x0 x1 b0 b1 = isMag n s0 s1 x0 x1 b0 b1 := by
  unfold rMagB isMag
  congr 1
  unfold colL
  rw [lvl_bal hn, lvl_bal hn]
  congr 1
  · refine balB_congr (fun i hi => ?_) _ _
    unfold mainAt
    show (sqL n s0 s1 x0 x1 b0 b1).getD ((n.toNat : Int) * i + (0 + (i : Int) * 1) % (n.toNat : Int)).toNat 0 = _
    rw [Int.toNat_of_nonneg (by omega), Int.emod_eq_of_lt (by omega) (by omega)]
    congr 2; omega
  · refine balB_congr (fun i hi => ?_) _ _
    unfold antiAt
    rw [Int.toNat_of_nonneg (by omega), emod_of_sub (a := n - 1 + (i : Int) * (n - 1)) (b := n - 1 - i) (k := (i : Int)) (by rw [Int.mul_sub, Int.mul_comm n (i : Int)]; omega), Int.emod_eq_of_lt (by omega) (by omega)]
    congr 2; omega
theorem adm_eq {n : Int} (hn : 1 ≤ n) (s0 s1 x0 x1 b0 b1 : Int) (s : ByteArray) : rAdmB n s0 s1 x0 x1 b0 b1 s = admB n s0 s1 x0 x1 b0 b1 s := by
  unfold rAdmB admB; rw [mag_eq hn]
end Go.Eng.Ytppflbccfdbogaa
namespace Go.Eng.Ytppflbccfdbogaa
open Go.Proofs
set_option maxRecDepth 100000
set_option maxHeartbeats 0
set_option linter.unusedVariables false
set_option linter.unusedSimpArgs false
noncomputable def cpUn : CPT := cpAdd 50 (pureCC rUniformP) noC
theorem cpUn_ok : CPOK Try.prog cpUn := cpAdd_ok (pureCC_ok rUniform_ok) noC_ok
noncomputable def cpSq : CPT := cpAdd 100 (lendCC [] emptyL) noC
theorem cpSq_ok : CPOK Try.prog cpSq := cpAdd_ok (lendCC_ok [] SquareL_ok) noC_ok
theorem rSiamese_spec (n : Int) (hn : 1 ≤ n ∧ n ≤ 16) : PSpec Try.prog 37 [.int .i64 n] (gridV n n (siaL n)) := by
  refine pspec_of (md := 0) (rf := []) mixed tabOK cpUn_ok Try.func37 (by rfl) (by rfl) (by rfl) ?_
  repeat' (first | ((conv => whnf); refine And.intro ?_ ?_) | ((conv => whnf); with_reducible exact VC.mk rfl) | ((conv => whnf); exact Ok.mk) | ((conv => whnf); exact True.intro) | ((conv => whnf); refine Nx.mk ?_) | ((conv => whnf); refine Fin.mk ?_) | ((conv => whnf); intro _))
  all_goals ((try refine VC.mk ?_); (try simp only [CL.ncell, CL.cnt, Int.toNat_natCast, decide_eq_true_eq, decide_eq_false_iff_not, Bool.not_eq_true, Bool.not_false, Bool.not_true, and_self, and_true, true_and, te3b, te4b, te3s, te4s, Nat.mul_one, Nat.zero_add, List.length_cons, List.length_nil, Bool.false_eq_true, Bool.true_eq_false] at *); (try omega))
  · exact ⟨hn, by simp only [List.mem_cons, List.not_mem_nil, or_false, forall_eq_or_imp, forall_eq]; omega⟩
  · exact Sup.of rfl
theorem rDouble_spec (n : Nat) (hn : 1 ≤ n ∧ n ≤ 16) : PSpec Try.prog 38 [.int .i64 (n : Int)] (gridV n n (madeL n (dblF n))) := by
  have eN : ((n : Int) * n).toNat = n * n := by rw [← Int.natCast_mul, Int.toNat_natCast]
  have hbd : ∀ i j : Nat, i < n → j < n → n * i + j < n * n := fun i j hi hj => by
    have := Nat.mul_le_mul_left n (show i + 1 ≤ n by omega)
    rw [Nat.mul_add] at this; omega
  have hix : ∀ i j : Nat, ((n : Int) * i + j) = ((n * i + j : Nat) : Int) := fun i j => by push_cast; rfl
  have hix' : ∀ i j : Nat, ((i : Int) * n + j) = ((n * i + j : Nat) : Int) := fun i j => by push_cast; rw [Int.mul_comm]
  obtain ⟨g, hgd⟩ : ∃ g : Nat → Int, g = fun k => dblF n (k / n) (k % n) := ⟨_, rfl⟩
  have hg : ∀ i j : Nat, j < n → dblF n i j = g (n * i + j) := fun i j hj => by
    have h1 : (n * i + j) / n = i := by rw [Nat.mul_add_div (by omega), Nat.div_eq_of_lt hj]; simp
    have h2 : (n * i + j) % n = j := by rw [Nat.mul_add_mod, Nat.mod_eq_of_lt hj]
    simp only [hgd, h1, h2]
  have hNN : (n : Int) * n ≤ 1000000 := (mul_bd (show 0 ≤ (n : Int) ∧ (n : Int) ≤ 1000 by omega) (show 0 ≤ (n : Int) ∧ (n : Int) ≤ 1000 by omega)).2
  have hNN' : ((n * n : Nat) : Int) ≤ 1000000 := by rw [Int.natCast_mul]; exact hNN
  refine pspec_of (md := 0) (rf := []) mixed tabOK cpSq_ok Try.func38 (by rfl) (by rfl) (by rfl) ?_
  repeat' (first | ((conv => whnf); refine And.intro ?_ ?_) | ((conv => whnf); with_reducible exact VC.mk rfl) | ((conv => whnf); exact Ok.mk) | ((conv => whnf); exact True.intro) | ((conv => whnf); refine Nx.mk ?_) | ((conv => whnf); refine Fin.mk ?_) | ((conv => whnf); intro _))
  all_goals ((try refine VC.mk ?_); (try simp only [CL.ncell, CL.cnt, Int.toNat_natCast, decide_eq_true_eq, decide_eq_false_iff_not, Bool.not_eq_true, Bool.not_false, Bool.not_true, and_self, and_true, true_and, te3b, te4b, te3s, te4s, Nat.mul_one, Nat.zero_add, List.length_cons, List.length_nil, Bool.false_eq_true, Bool.true_eq_false] at *); (try omega))
  simp only [eN]
  conv => whnf
  refine loop_of (X := Nat) (fun i => i ≤ n) (fun i => [(4, .int .i64 i)]) (fun i => [(1, .cells (.ints .i64 (fillG g (n * n) (n * i))) false)]) (fun i => n - i) 0 ⟨anyB_ok, mixed, tabOK, cpSq_ok, noY_ok⟩ (by rfl) (by omega) ?_ ?_
  · repeat' (first | ((conv => whnf); refine And.intro ?_ ?_) | ((conv => whnf); with_reducible exact VC.mk rfl) | ((conv => whnf); exact Ok.mk) | ((conv => whnf); exact True.intro) | ((conv => whnf); refine Nx.mk ?_) | ((conv => whnf); refine Fin.mk ?_) | ((conv => whnf); intro _))
    all_goals ((try refine VC.mk ?_); (try simp only [CL.ncell, CL.cnt, Int.toNat_natCast, decide_eq_true_eq, decide_eq_false_iff_not, Bool.not_eq_true, Bool.not_false, Bool.not_true, and_self, and_true, true_and, te3b, te4b, te3s, te4s, Nat.mul_one, Nat.zero_add, List.length_cons, List.length_nil, Bool.false_eq_true, Bool.true_eq_false] at *); (try omega))
    all_goals simp [fillG_zero]
  intro i hi
  by_cases hlt : i < n
  · repeat' (first | ((conv => whnf); refine And.intro ?_ ?_) | ((conv => whnf); with_reducible exact VC.mk rfl) | ((conv => whnf); exact Ok.mk) | ((conv => whnf); exact True.intro) | ((conv => whnf); refine Nx.mk ?_) | ((conv => whnf); refine Fin.mk ?_) | ((conv => whnf); intro _))
    all_goals ((try refine VC.mk ?_); (try simp only [CL.ncell, CL.cnt, Int.toNat_natCast, decide_eq_true_eq, decide_eq_false_iff_not, Bool.not_eq_true, Bool.not_false, Bool.not_true, and_self, and_true, true_and, te3b, te4b, te3s, te4s, Nat.mul_one, Nat.zero_add, List.length_cons, List.length_nil, Bool.false_eq_true, Bool.true_eq_false] at *); (try omega))
    conv => whnf
    refine loop_of (X := Nat) (fun j => j ≤ n) (fun j => [(5, .int .i64 j)]) (fun j => [(1, .cells (.ints .i64 (fillG g (n * n) (n * i + j))) false)]) (fun j => n - j) 0 ⟨anyB_ok, mixed, tabOK, cpSq_ok, noY_ok⟩ (by rfl) (by omega) ?_ ?_
    · repeat' (first | ((conv => whnf); refine And.intro ?_ ?_) | ((conv => whnf); with_reducible exact VC.mk rfl) | ((conv => whnf); exact Ok.mk) | ((conv => whnf); exact True.intro) | ((conv => whnf); refine Nx.mk ?_) | ((conv => whnf); refine Fin.mk ?_) | ((conv => whnf); intro _))
      all_goals ((try refine VC.mk ?_); (try simp only [CL.ncell, CL.cnt, Int.toNat_natCast, decide_eq_true_eq, decide_eq_false_iff_not, Bool.not_eq_true, Bool.not_false, Bool.not_true, and_self, and_true, true_and, te3b, te4b, te3s, te4s, Nat.mul_one, Nat.zero_add, List.length_cons, List.length_nil, Bool.false_eq_true, Bool.true_eq_false] at *); (try omega))
      all_goals simp
    intro j hj
    by_cases hlj : j < n
    · have := hbd i j hlt hlj
      have e1 := hix i j
      have e2 := fillG_len g (n * n) (n * i + j) (by omega)
      have e3 := hg i j hlj
      unfold dblF at e3
      have h1 := mul_bd (A := 16) (B := 16) (show 0 ≤ (n : Int) ∧ (n : Int) ≤ 16 by omega) (show 0 ≤ (i : Int) ∧ (i : Int) ≤ 16 by omega)
      repeat' (first | ((conv => whnf); refine And.intro ?_ ?_) | ((conv => whnf); with_reducible exact VC.mk rfl) | ((conv => whnf); exact Ok.mk) | ((conv => whnf); exact True.intro) | ((conv => whnf); refine Nx.mk ?_) | ((conv => whnf); refine Fin.mk ?_) | ((conv => whnf); intro _))
      all_goals ((try refine VC.mk ?_); (try simp only [CL.ncell, CL.cnt, Int.toNat_natCast, decide_eq_true_eq, decide_eq_false_iff_not, Bool.not_eq_true, Bool.not_false, Bool.not_true, and_self, and_true, true_and, te3b, te4b, te3s, te4s, Nat.mul_one, Nat.zero_add, List.length_cons, List.length_nil, Bool.false_eq_true, Bool.true_eq_false] at *); (try omega))
      all_goals (refine ⟨j + 1, [], ⟨by omega, by omega⟩, ?_⟩)
      all_goals repeat' (first | ((conv => whnf); refine And.intro ?_ ?_) | ((conv => whnf); with_reducible exact VC.mk rfl) | ((conv => whnf); exact Ok.mk) | ((conv => whnf); exact True.intro) | ((conv => whnf); refine Nx.mk ?_) | ((conv => whnf); refine Fin.mk ?_) | ((conv => whnf); intro _))
      all_goals ((try refine VC.mk ?_); (try simp only [CL.ncell, CL.cnt, Int.toNat_natCast, decide_eq_true_eq, decide_eq_false_iff_not, Bool.not_eq_true, Bool.not_false, Bool.not_true, and_self, and_true, true_and, te3b, te4b, te3s, te4s, Nat.mul_one, Nat.zero_add, List.length_cons, List.length_nil, Bool.false_eq_true, Bool.true_eq_false] at *); (try omega))
      all_goals (rw [e1, Int.toNat_natCast, show n * i + (j + 1) = n * i + j + 1 from rfl, ← fillG_set g (n * n) (n * i + j) (by omega), ← e3]; split <;> first | rfl | (exfalso; omega))
    · have : n = j := by omega
      subst this
      repeat' (first | ((conv => whnf); refine And.intro ?_ ?_) | ((conv => whnf); with_reducible exact VC.mk rfl) | ((conv => whnf); exact Ok.mk) | ((conv => whnf); exact True.intro) | ((conv => whnf); refine Nx.mk ?_) | ((conv => whnf); refine Fin.mk ?_) | ((conv => whnf); intro _))
      all_goals ((try refine VC.mk ?_); (try simp only [CL.ncell, CL.cnt, Int.toNat_natCast, decide_eq_true_eq, decide_eq_false_iff_not, Bool.not_eq_true, Bool.not_false, Bool.not_true, and_self, and_true, true_and, te3b, te4b, te3s, te4s, Nat.mul_one, Nat.zero_add, List.length_cons, List.length_nil, Bool.false_eq_true, Bool.true_eq_false] at *); (try omega))
      refine ⟨i + 1, [], ⟨by omega, by omega⟩, ?_⟩
      repeat' (first | ((conv => whnf); refine And.intro ?_ ?_) | ((conv => whnf); with_reducible exact VC.mk rfl) | ((conv => whnf); exact Ok.mk) | ((conv => whnf); exact True.intro) | ((conv => whnf); refine Nx.mk ?_) | ((conv => whnf); refine Fin.mk ?_) | ((conv => whnf); intro _))
      all_goals ((try refine VC.mk ?_); (try simp only [CL.ncell, CL.cnt, Int.toNat_natCast, decide_eq_true_eq, decide_eq_false_iff_not, Bool.not_eq_true, Bool.not_false, Bool.not_true, and_self, and_true, true_and, te3b, te4b, te3s, te4s, Nat.mul_one, Nat.zero_add, List.length_cons, List.length_nil, Bool.false_eq_true, Bool.true_eq_false] at *); (try omega))
  · have : n = i := by omega
    subst this
    repeat' (first | ((conv => whnf); refine And.intro ?_ ?_) | ((conv => whnf); with_reducible exact VC.mk rfl) | ((conv => whnf); exact Ok.mk) | ((conv => whnf); exact True.intro) | ((conv => whnf); refine Nx.mk ?_) | ((conv => whnf); refine Fin.mk ?_) | ((conv => whnf); intro _))
    all_goals ((try refine VC.mk ?_); (try simp only [CL.ncell, CL.cnt, Int.toNat_natCast, decide_eq_true_eq, decide_eq_false_iff_not, Bool.not_eq_true, Bool.not_false, Bool.not_true, and_self, and_true, true_and, te3b, te4b, te3s, te4s, Nat.mul_one, Nat.zero_add, List.length_cons, List.length_nil, Bool.false_eq_true, Bool.true_eq_false] at *); (try omega))
    · rw [fillG_len _ _ _ (Nat.le_refl _)]; exact Nat.le_refl _
    rw [fillG_all]
    refine Sup.via ?_
    repeat' (first | ((conv => whnf); refine And.intro ?_ ?_) | ((conv => whnf); with_reducible exact VC.mk rfl) | ((conv => whnf); exact Ok.mk) | ((conv => whnf); exact True.intro) | ((conv => whnf); refine Nx.mk ?_) | ((conv => whnf); refine Fin.mk ?_) | ((conv => whnf); intro _))
    all_goals ((try refine VC.mk ?_); (try simp only [CL.ncell, CL.cnt, Int.toNat_natCast, decide_eq_true_eq, decide_eq_false_iff_not, Bool.not_eq_true, Bool.not_false, Bool.not_true, and_self, and_true, true_and, te3b, te4b, te3s, te4s, Nat.mul_one, Nat.zero_add, List.length_cons, List.length_nil, Bool.false_eq_true, Bool.true_eq_false] at *); (try omega))
    simp [CL.sub, madeL, hgd, List.take_of_length_le]
theorem rHalved_spec (n : Nat) (hn : n ≤ 16) : PSpec Try.prog 44 [.int .i64 (n : Int)] (.isl (.ints .i64 (halvedL n n)) .none) := by
  refine pspec_of (md := 0) (rf := []) mixed tabOK noC_ok Try.func44 (by rfl) (by rfl) (by rfl) ?_
  repeat' (first | ((conv => whnf); refine And.intro ?_ ?_) | ((conv => whnf); with_reducible exact VC.mk rfl) | ((conv => whnf); exact Ok.mk) | ((conv => whnf); exact True.intro) | ((conv => whnf); refine Nx.mk ?_) | ((conv => whnf); refine Fin.mk ?_) | ((conv => whnf); intro _))
  all_goals ((try refine VC.mk ?_); (try simp only [CL.ncell, CL.cnt, Int.toNat_natCast, decide_eq_true_eq, decide_eq_false_iff_not, Bool.not_eq_true, Bool.not_false, Bool.not_true, and_self, and_true, true_and, te3b, te4b, te3s, te4s, Nat.mul_one, Nat.zero_add, List.length_cons, List.length_nil, Bool.false_eq_true, Bool.true_eq_false] at *); (try omega))
  conv => whnf
  refine loop_of (X := Nat) (fun i => i ≤ n) (fun i => [(4, .int .i64 i), (3, .isl (.ints .i64 (halvedL n i)) (.own 0))]) (fun i => [(0, .tok 1 i)]) (fun i => n - i) 0 ⟨anyB_ok, mixed, tabOK, noC_ok, noY_ok⟩ (by rfl) (by omega) ?_ ?_
  · repeat' (first | ((conv => whnf); refine And.intro ?_ ?_) | ((conv => whnf); with_reducible exact VC.mk rfl) | ((conv => whnf); exact Ok.mk) | ((conv => whnf); exact True.intro) | ((conv => whnf); refine Nx.mk ?_) | ((conv => whnf); refine Fin.mk ?_) | ((conv => whnf); intro _))
    all_goals ((try refine VC.mk ?_); (try simp only [CL.ncell, CL.cnt, Int.toNat_natCast, decide_eq_true_eq, decide_eq_false_iff_not, Bool.not_eq_true, Bool.not_false, Bool.not_true, and_self, and_true, true_and, te3b, te4b, te3s, te4s, Nat.mul_one, Nat.zero_add, List.length_cons, List.length_nil, Bool.false_eq_true, Bool.true_eq_false] at *); (try omega))
  intro i hi
  have e1 := halvedL_succ n i
  have e2 := halvedL_len n i
  unfold halvedAt at e1
  by_cases hlt : i < n
  · repeat' (first | ((conv => whnf); refine And.intro ?_ ?_) | ((conv => whnf); with_reducible exact VC.mk rfl) | ((conv => whnf); exact Ok.mk) | ((conv => whnf); exact True.intro) | ((conv => whnf); refine Nx.mk ?_) | ((conv => whnf); refine Fin.mk ?_) | ((conv => whnf); intro _))
    all_goals ((try refine VC.mk ?_); (try simp only [CL.ncell, CL.cnt, Int.toNat_natCast, decide_eq_true_eq, decide_eq_false_iff_not, Bool.not_eq_true, Bool.not_false, Bool.not_true, and_self, and_true, true_and, te3b, te4b, te3s, te4s, Nat.mul_one, Nat.zero_add, List.length_cons, List.length_nil, Bool.false_eq_true, Bool.true_eq_false] at *); (try omega))
    all_goals (try (simp only [List.length_append, List.length_cons, List.length_nil]; omega))
    all_goals (refine ⟨i + 1, [], ⟨by omega, by omega⟩, ?_⟩)
    all_goals repeat' (first | ((conv => whnf); refine And.intro ?_ ?_) | ((conv => whnf); with_reducible exact VC.mk rfl) | ((conv => whnf); exact Ok.mk) | ((conv => whnf); exact True.intro) | ((conv => whnf); refine Nx.mk ?_) | ((conv => whnf); refine Fin.mk ?_) | ((conv => whnf); intro _))
    all_goals ((try refine VC.mk ?_); (try simp only [CL.ncell, CL.cnt, Int.toNat_natCast, decide_eq_true_eq, decide_eq_false_iff_not, Bool.not_eq_true, Bool.not_false, Bool.not_true, and_self, and_true, true_and, te3b, te4b, te3s, te4s, Nat.mul_one, Nat.zero_add, List.length_cons, List.length_nil, Bool.false_eq_true, Bool.true_eq_false] at *); (try omega))
    all_goals (try (rw [e1]; split <;> first | rfl | (exfalso; omega)))
  · have : n = i := by omega
    subst this
    repeat' (first | ((conv => whnf); refine And.intro ?_ ?_) | ((conv => whnf); with_reducible exact VC.mk rfl) | ((conv => whnf); exact Ok.mk) | ((conv => whnf); exact True.intro) | ((conv => whnf); refine Nx.mk ?_) | ((conv => whnf); refine Fin.mk ?_) | ((conv => whnf); intro _))
    all_goals ((try refine VC.mk ?_); (try simp only [CL.ncell, CL.cnt, Int.toNat_natCast, decide_eq_true_eq, decide_eq_false_iff_not, Bool.not_eq_true, Bool.not_false, Bool.not_true, and_self, and_true, true_and, te3b, te4b, te3s, te4s, Nat.mul_one, Nat.zero_add, List.length_cons, List.length_nil, Bool.false_eq_true, Bool.true_eq_false] at *); (try omega))
    all_goals (first | (refine Sup.of ?_; first | rfl | (simp [*, resOf]; done)) | (refine Sup.via ?_; repeat' (first | ((conv => whnf); refine And.intro ?_ ?_) | ((conv => whnf); with_reducible exact VC.mk rfl) | ((conv => whnf); exact Ok.mk) | ((conv => whnf); exact True.intro) | ((conv => whnf); refine Nx.mk ?_) | ((conv => whnf); refine Fin.mk ?_) | ((conv => whnf); intro _)); all_goals ((try refine VC.mk ?_); (try simp only [CL.ncell, CL.cnt, Int.toNat_natCast, decide_eq_true_eq, decide_eq_false_iff_not, Bool.not_eq_true, Bool.not_false, Bool.not_true, and_self, and_true, true_and, te3b, te4b, te3s, te4s, Nat.mul_one, Nat.zero_add, List.length_cons, List.length_nil, Bool.false_eq_true, Bool.true_eq_false] at *); (try omega)); all_goals (try (simp [CL.sub]; done))))
def mpErr (rows cols : List Int) : Int := if rows.length ≠ cols.length then 2 else if rows.length % 4 ≠ 0 ∨ rows.length < 4 ∨ 16 < rows.length then 3 else if halvesErr rows ≠ 0 then halvesErr rows else halvesErr cols
def mpV (rows cols : List Int) : PV := if mpErr rows cols = 0 then okGrid rows.length rows.length (mpL rows cols) else noGrid (mpErr rows cols)
theorem halvesErr_zero {l : List Int} (h : halvesErr l = 0) : ∀ k, k < l.length → 0 ≤ l.getD k 0 ∧ l.getD k 0 < l.length := by
  unfold halvesErr at h
  split at h
  · exact isPerm_bd (permErr_zero ‹_›).2
  · omega
noncomputable def cpMP : CPT := cpAdd 112 (pureCC checkHalvesP) (cpAdd 99 (pureCC mostPerfectP) cp2)
theorem cpMP_ok : CPOK Try.prog cpMP := cpAdd_ok (pureCC_ok checkHalves_ok) (cpAdd_ok (pureCC_ok mostPerfect_ok) cp2_ok)
theorem mpErr_first {rows cols : List Int} {x y : Int} (hx : x = if rows.length = cols.length then 0 else 2) (hy : y = if rows.length % 4 ≠ 0 ∨ rows.length < 4 ∨ 16 < rows.length then 3 else 0) : firstOf [x, y, halvesErr rows, halvesErr cols] = mpErr rows cols := by
  subst hx hy
  simp only [firstOf, mpErr]
  (repeat' split) <;> first | rfl | omega | (exfalso; omega) | (simp_all; done)
theorem mpErr_zero {rows cols : List Int} (h : mpErr rows cols = 0) : rows.length = cols.length ∧ rows.length ≤ 16 ∧ halvesErr rows = 0 ∧ halvesErr cols = 0 := by
  unfold mpErr at h
  split at h
  · omega
  · split at h
    · omega
    · split at h
      · exact absurd h ‹_›
      · exact ⟨by omega, by omega, by omega, h⟩
theorem mostPerf_spec (rows cols : List Int) : PSpec Try.prog 64 [.isl (.ints .i64 rows) .none, .isl (.ints .i64 cols) .none] (mpV rows cols) := by
  have ht : (rows.length : Int).tmod 4 = ((rows.length % 4 : Nat) : Int) := by rw [Int.tmod_eq_emod_of_nonneg (by omega)]; push_cast; rfl
  have hf := fun x y hx hy => @mpErr_first rows cols x y hx hy
  have hz := @mpErr_zero rows cols
  unfold mpV
  generalize mpErr rows cols = e at *
  have h1 := @halvesErr_zero rows
  have h2 := @halvesErr_zero cols
  refine pspec_of (md := 1) (rf := []) mixed tabOK cpMP_ok Try.func64 (by rfl) (by rfl) (by rfl) ?_
  repeat' (first | ((conv => whnf); refine And.intro ?_ ?_) | ((conv => whnf); with_reducible exact VC.mk rfl) | ((conv => whnf); exact Ok.mk) | ((conv => whnf); exact True.intro) | ((conv => whnf); refine Nx.mk ?_) | ((conv => whnf); refine Fin.mk ?_) | ((conv => whnf); intro _))
  all_goals ((try refine VC.mk ?_); (try simp only [CL.ncell, CL.cnt, Int.toNat_natCast, decide_eq_true_eq, decide_eq_false_iff_not, Bool.not_eq_true, Bool.not_false, Bool.not_true, and_self, and_true, true_and, te3b, te4b, te3s, te4s, Nat.mul_one, Nat.zero_add, List.length_cons, List.length_nil, Bool.false_eq_true, Bool.true_eq_false] at *); (try omega))
  all_goals (first
    | (rename_i h; rw [hf _ _ (by split <;> split <;> omega) (by (repeat' split) <;> first | rfl | omega | (exfalso; omega) | (simp_all; done))] at h ⊢; rw [if_neg h]; all_goals (refine Sup.via ?_; repeat' (first | ((conv => whnf); refine And.intro ?_ ?_) | ((conv => whnf); with_reducible exact VC.mk rfl) | ((conv => whnf); exact Ok.mk) | ((conv => whnf); exact True.intro) | ((conv => whnf); refine Nx.mk ?_) | ((conv => whnf); refine Fin.mk ?_) | ((conv => whnf); intro _)); all_goals ((try refine VC.mk ?_); (try simp only [CL.ncell, CL.cnt, Int.toNat_natCast, decide_eq_true_eq, decide_eq_false_iff_not, Bool.not_eq_true, Bool.not_false, Bool.not_true, and_self, and_true, true_and, te3b, te4b, te3s, te4s, Nat.mul_one, Nat.zero_add, List.length_cons, List.length_nil, Bool.false_eq_true, Bool.true_eq_false] at *); (try omega)); all_goals (try (simp [CL.sub]; done))))
    | (rename_i h; rw [hf _ _ (by split <;> split <;> omega) (by (repeat' split) <;> first | rfl | omega | (exfalso; omega) | (simp_all; done))] at h; have h := Decidable.not_not.1 h; obtain ⟨z1, z2, z3, z4⟩ := hz h; exact ⟨z2, z1.symm, h1 z3, by rw [z1]; exact h2 z4⟩)
    | (rename_i h; rw [hf _ _ (by split <;> split <;> omega) (by (repeat' split) <;> first | rfl | omega | (exfalso; omega) | (simp_all; done))] at h; have h := Decidable.not_not.1 h; rw [if_pos h]; all_goals (refine Sup.via ?_; repeat' (first | ((conv => whnf); refine And.intro ?_ ?_) | ((conv => whnf); with_reducible exact VC.mk rfl) | ((conv => whnf); exact Ok.mk) | ((conv => whnf); exact True.intro) | ((conv => whnf); refine Nx.mk ?_) | ((conv => whnf); refine Fin.mk ?_) | ((conv => whnf); intro _)); all_goals ((try refine VC.mk ?_); (try simp only [CL.ncell, CL.cnt, Int.toNat_natCast, decide_eq_true_eq, decide_eq_false_iff_not, Bool.not_eq_true, Bool.not_false, Bool.not_true, and_self, and_true, true_and, te3b, te4b, te3s, te4s, Nat.mul_one, Nat.zero_add, List.length_cons, List.length_nil, Bool.false_eq_true, Bool.true_eq_false] at *); (try omega)); all_goals (try (simp [CL.sub]; done))))
    | trace_state)
end Go.Eng.Ytppflbccfdbogaa
namespace Go.Eng.Ytppflbccfdbogaa
open Go.Proofs
set_option maxRecDepth 100000
set_option maxHeartbeats 0
set_option linter.unusedVariables false
set_option linter.unusedSimpArgs false
noncomputable def cpRM : CPT := cpAdd 113 (pureCC CheckHalvesP) (cpAdd 100 (lendCC [] emptyL) noC)
theorem cpRM_ok : CPOK Try.prog cpRM := cpAdd_ok (pureCC_ok CheckHalves_ok) (cpAdd_ok (lendCC_ok [] SquareL_ok) noC_ok)
theorem rMost_spec (rows cols : List Int) : PSpec Try.prog 65 [.isl (.ints .i64 rows) .none, .isl (.ints .i64 cols) .none] (mpV rows cols) := by
  have ht : (rows.length : Int).tmod 4 = ((rows.length % 4 : Nat) : Int) := by rw [Int.tmod_eq_emod_of_nonneg (by omega)]; push_cast; rfl
  by_cases hz : mpErr rows cols = 0
  · obtain ⟨z1, z2, z3, z4⟩ := mpErr_zero hz
    have hm : ¬ (rows.length % 4 ≠ 0 ∨ rows.length < 4 ∨ 16 < rows.length) := by
      intro h; unfold mpErr at hz; rw [if_neg (by omega), if_pos h] at hz; omega
    unfold mpV
    rw [if_pos hz]
    have h1 := halvesErr_zero z3
    have h2 := halvesErr_zero z4
    obtain ⟨n, hn⟩ : ∃ n, rows.length = n := ⟨_, rfl⟩
    have hc : cols.length = n := by omega
    unfold mpL
    rw [hn] at h1 hm z2 ⊢
    rw [hc] at h2
    have eN : ((n : Int) * n).toNat = n * n := by rw [← Int.natCast_mul, Int.toNat_natCast]
    have hbd : ∀ i j : Nat, i < n → j < n → n * i + j < n * n := fun i j hi hj => by
      have := Nat.mul_le_mul_left n (show i + 1 ≤ n by omega)
      rw [Nat.mul_add] at this; omega
    have hix : ∀ i j : Nat, ((n : Int) * i + j) = ((n * i + j : Nat) : Int) := fun i j => by push_cast; rfl
    have hix' : ∀ i j : Nat, ((i : Int) * n + j) = ((n * i + j : Nat) : Int) := fun i j => by push_cast; rw [Int.mul_comm]
    obtain ⟨g, hgd⟩ : ∃ g : Nat → Int, g = fun k => (mpF n rows cols) (k / n) (k % n) := ⟨_, rfl⟩
    have hg : ∀ i j : Nat, j < n → (mpF n rows cols) i j = g (n * i + j) := fun i j hj => by
      have h1 : (n * i + j) / n = i := by rw [Nat.mul_add_div (by omega), Nat.div_eq_of_lt hj]; simp
      have h2 : (n * i + j) % n = j := by rw [Nat.mul_add_mod, Nat.mod_eq_of_lt hj]
      simp only [hgd, h1, h2]
    have hNN : (n : Int) * n ≤ 1000000 := (mul_bd (show 0 ≤ (n : Int) ∧ (n : Int) ≤ 1000 by omega) (show 0 ≤ (n : Int) ∧ (n : Int) ≤ 1000 by omega)).2
    have hNN' : ((n * n : Nat) : Int) ≤ 1000000 := by rw [Int.natCast_mul]; exact hNN
    refine pspec_of (md := 0) (rf := []) mixed tabOK cpRM_ok Try.func65 (by rfl) (by rfl) (by rfl) ?_
    repeat' (first | ((conv => whnf); refine And.intro ?_ ?_) | ((conv => whnf); with_reducible exact VC.mk rfl) | ((conv => whnf); exact Ok.mk) | ((conv => whnf); exact True.intro) | ((conv => whnf); refine Nx.mk ?_) | ((conv => whnf); refine Fin.mk ?_) | ((conv => whnf); intro _))
    all_goals ((try refine VC.mk ?_); (try simp only [CL.ncell, CL.cnt, Int.toNat_natCast, decide_eq_true_eq, decide_eq_false_iff_not, Bool.not_eq_true, Bool.not_false, Bool.not_true, and_self, and_true, true_and, te3b, te4b, te3s, te4s, Nat.mul_one, Nat.zero_add, List.length_cons, List.length_nil, Bool.false_eq_true, Bool.true_eq_false] at *); (try omega))
    all_goals (try (exfalso; omega))
    rw [hn]
    try simp only [eN]
    conv => whnf
    refine loop_of (X := Nat) (fun i => i ≤ n) (fun i => [(9, .int .i64 i)]) (fun i => [(9, .cells (.ints .i64 (fillG g (n * n) (n * i))) false)]) (fun i => n - i) 0 ⟨anyB_ok, mixed, tabOK, cpRM_ok, noY_ok⟩ (by rfl) (by omega) ?_ ?_
    · repeat' (first | ((conv => whnf); refine And.intro ?_ ?_) | ((conv => whnf); with_reducible exact VC.mk rfl) | ((conv => whnf); exact Ok.mk) | ((conv => whnf); exact True.intro) | ((conv => whnf); refine Nx.mk ?_) | ((conv => whnf); refine Fin.mk ?_) | ((conv => whnf); intro _))
      all_goals ((try refine VC.mk ?_); (try simp only [CL.ncell, CL.cnt, Int.toNat_natCast, decide_eq_true_eq, decide_eq_false_iff_not, Bool.not_eq_true, Bool.not_false, Bool.not_true, and_self, and_true, true_and, te3b, te4b, te3s, te4s, Nat.mul_one, Nat.zero_add, List.length_cons, List.length_nil, Bool.false_eq_true, Bool.true_eq_false] at *); (try omega))
      all_goals simp [fillG_zero]
    intro i hi
    by_cases hlt : i < n
    · have b1 := h1 i hlt
      repeat' (first | ((conv => whnf); refine And.intro ?_ ?_) | ((conv => whnf); with_reducible exact VC.mk rfl) | ((conv => whnf); exact Ok.mk) | ((conv => whnf); exact True.intro) | ((conv => whnf); refine Nx.mk ?_) | ((conv => whnf); refine Fin.mk ?_) | ((conv => whnf); intro _))
      all_goals ((try refine VC.mk ?_); (try simp only [CL.ncell, CL.cnt, Int.toNat_natCast, decide_eq_true_eq, decide_eq_false_iff_not, Bool.not_eq_true, Bool.not_false, Bool.not_true, and_self, and_true, true_and, te3b, te4b, te3s, te4s, Nat.mul_one, Nat.zero_add, List.length_cons, List.length_nil, Bool.false_eq_true, Bool.true_eq_false] at *); (try omega))
      conv => whnf
      refine loop_of (X := Nat) (fun j => j ≤ n) (fun j => [(10, .int .i64 j)]) (fun j => [(9, .cells (.ints .i64 (fillG g (n * n) (n * i + j))) false)]) (fun j => n - j) 0 ⟨anyB_ok, mixed, tabOK, cpRM_ok, noY_ok⟩ (by rfl) (by omega) ?_ ?_
      · repeat' (first | ((conv => whnf); refine And.intro ?_ ?_) | ((conv => whnf); with_reducible exact VC.mk rfl) | ((conv => whnf); exact Ok.mk) | ((conv => whnf); exact True.intro) | ((conv => whnf); refine Nx.mk ?_) | ((conv => whnf); refine Fin.mk ?_) | ((conv => whnf); intro _))
        all_goals ((try refine VC.mk ?_); (try simp only [CL.ncell, CL.cnt, Int.toNat_natCast, decide_eq_true_eq, decide_eq_false_iff_not, Bool.not_eq_true, Bool.not_false, Bool.not_true, and_self, and_true, true_and, te3b, te4b, te3s, te4s, Nat.mul_one, Nat.zero_add, List.length_cons, List.length_nil, Bool.false_eq_true, Bool.true_eq_false] at *); (try omega))
        all_goals simp
      intro j hj
      by_cases hlj : j < n
      · have := hbd i j hlt hlj
        have b2 := h2 j hlj
        have e1 := hix' i j
        have e2 := fillG_len g (n * n) (n * i + j) (by omega)
        have e3 := hg i j hlj
        unfold mpF at e3
        have d1 : turned n (rows.getD i 0) j = if (j : Int) % 2 = 1 then (n : Int) - 1 - rows.getD i 0 else rows.getD i 0 := rfl
        have d2 : turned n (cols.getD j 0) i = if (i : Int) % 2 = 1 then (n : Int) - 1 - cols.getD j 0 else cols.getD j 0 := rfl
        rw [d1, d2] at e3
        have k1 := mul_bd (A := 16) (B := 16) (show 0 ≤ (n : Int) ∧ (n : Int) ≤ 16 by omega) (show 0 ≤ (i : Int) ∧ (i : Int) ≤ 16 by omega)
        have k1' := mul_bd (A := 16) (B := 16) (show 0 ≤ (i : Int) ∧ (i : Int) ≤ 16 by omega) (show 0 ≤ (n : Int) ∧ (n : Int) ≤ 16 by omega)
        have k2 := mul_bd (A := 16) (B := 16) (show 0 ≤ (n : Int) ∧ (n : Int) ≤ 16 by omega) (show 0 ≤ cols.getD j 0 ∧ cols.getD j 0 ≤ 16 by omega)
        have k3 := mul_bd (A := 16) (B := 16) (show 0 ≤ (n : Int) ∧ (n : Int) ≤ 16 by omega) (show 0 ≤ (n : Int) - 1 - cols.getD j 0 ∧ (n : Int) - 1 - cols.getD j 0 ≤ 16 by omega)
        repeat' (first | ((conv => whnf); refine And.intro ?_ ?_) | ((conv => whnf); with_reducible exact VC.mk rfl) | ((conv => whnf); exact Ok.mk) | ((conv => whnf); exact True.intro) | ((conv => whnf); refine Nx.mk ?_) | ((conv => whnf); refine Fin.mk ?_) | ((conv => whnf); intro _))
        all_goals ((try refine VC.mk ?_); (try simp only [CL.ncell, CL.cnt, Int.toNat_natCast, decide_eq_true_eq, decide_eq_false_iff_not, Bool.not_eq_true, Bool.not_false, Bool.not_true, and_self, and_true, true_and, te3b, te4b, te3s, te4s, Nat.mul_one, Nat.zero_add, List.length_cons, List.length_nil, Bool.false_eq_true, Bool.true_eq_false] at *); (try omega))
        all_goals (refine ⟨j + 1, [], ⟨by omega, by omega⟩, ?_⟩)
        all_goals repeat' (first | ((conv => whnf); refine And.intro ?_ ?_) | ((conv => whnf); with_reducible exact VC.mk rfl) | ((conv => whnf); exact Ok.mk) | ((conv => whnf); exact True.intro) | ((conv => whnf); refine Nx.mk ?_) | ((conv => whnf); refine Fin.mk ?_) | ((conv => whnf); intro _))
        all_goals ((try refine VC.mk ?_); (try simp only [CL.ncell, CL.cnt, Int.toNat_natCast, decide_eq_true_eq, decide_eq_false_iff_not, Bool.not_eq_true, Bool.not_false, Bool.not_true, and_self, and_true, true_and, te3b, te4b, te3s, te4s, Nat.mul_one, Nat.zero_add, List.length_cons, List.length_nil, Bool.false_eq_true, Bool.true_eq_false] at *); (try omega))
        all_goals (rw [e1, Int.toNat_natCast, show n * i + (j + 1) = n * i + j + 1 from rfl, ← fillG_set g (n * n) (n * i + j) (by omega), ← e3])
        all_goals ((repeat' split) <;> first | rfl | (exfalso; omega))
      · have : n = j := by omega
        subst this
        repeat' (first | ((conv => whnf); refine And.intro ?_ ?_) | ((conv => whnf); with_reducible exact VC.mk rfl) | ((conv => whnf); exact Ok.mk) | ((conv => whnf); exact True.intro) | ((conv => whnf); refine Nx.mk ?_) | ((conv => whnf); refine Fin.mk ?_) | ((conv => whnf); intro _))
        all_goals ((try refine VC.mk ?_); (try simp only [CL.ncell, CL.cnt, Int.toNat_natCast, decide_eq_true_eq, decide_eq_false_iff_not, Bool.not_eq_true, Bool.not_false, Bool.not_true, and_self, and_true, true_and, te3b, te4b, te3s, te4s, Nat.mul_one, Nat.zero_add, List.length_cons, List.length_nil, Bool.false_eq_true, Bool.true_eq_false] at *); (try omega))
        refine ⟨i + 1, [], ⟨by omega, by omega⟩, ?_⟩
        repeat' (first | ((conv => whnf); refine And.intro ?_ ?_) | ((conv => whnf); with_reducible exact VC.mk rfl) | ((conv => whnf); exact Ok.mk) | ((conv => whnf); exact True.intro) | ((conv => whnf); refine Nx.mk ?_) | ((conv => whnf); refine Fin.mk ?_) | ((conv => whnf); intro _))
        all_goals ((try refine VC.mk ?_); (try simp only [CL.ncell, CL.cnt, Int.toNat_natCast, decide_eq_true_eq, decide_eq_false_iff_not, Bool.not_eq_true, Bool.not_false, Bool.not_true, and_self, and_true, true_and, te3b, te4b, te3s, te4s, Nat.mul_one, Nat.zero_add, List.length_cons, List.length_nil, Bool.false_eq_true, Bool.true_eq_false] at *); (try omega))
    · have : n = i := by omega
      subst this
      repeat' (first | ((conv => whnf); refine And.intro ?_ ?_) | ((conv => whnf); with_reducible exact VC.mk rfl) | ((conv => whnf); exact Ok.mk) | ((conv => whnf); exact True.intro) | ((conv => whnf); refine Nx.mk ?_) | ((conv => whnf); refine Fin.mk ?_) | ((conv => whnf); intro _))
      all_goals ((try refine VC.mk ?_); (try simp only [CL.ncell, CL.cnt, Int.toNat_natCast, decide_eq_true_eq, decide_eq_false_iff_not, Bool.not_eq_true, Bool.not_false, Bool.not_true, and_self, and_true, true_and, te3b, te4b, te3s, te4s, Nat.mul_one, Nat.zero_add, List.length_cons, List.length_nil, Bool.false_eq_true, Bool.true_eq_false] at *); (try omega))
      · rw [fillG_len _ _ _ (Nat.le_refl _)]; exact Nat.le_refl _
      rw [fillG_all]
      refine Sup.via ?_
      repeat' (first | ((conv => whnf); refine And.intro ?_ ?_) | ((conv => whnf); with_reducible exact VC.mk rfl) | ((conv => whnf); exact Ok.mk) | ((conv => whnf); exact True.intro) | ((conv => whnf); refine Nx.mk ?_) | ((conv => whnf); refine Fin.mk ?_) | ((conv => whnf); intro _))
      all_goals ((try refine VC.mk ?_); (try simp only [CL.ncell, CL.cnt, Int.toNat_natCast, decide_eq_true_eq, decide_eq_false_iff_not, Bool.not_eq_true, Bool.not_false, Bool.not_true, and_self, and_true, true_and, te3b, te4b, te3s, te4s, Nat.mul_one, Nat.zero_add, List.length_cons, List.length_nil, Bool.false_eq_true, Bool.true_eq_false] at *); (try omega))
      simp [CL.sub, madeL, hgd, List.take_of_length_le]
  · have hv : mpV rows cols = noGrid (mpErr rows cols) := by unfold mpV; rw [if_neg hz]
    rw [hv]
    unfold mpErr at hz ⊢
    by_cases c1 : rows.length ≠ cols.length
    · rw [if_pos c1]
      refine pspec_of (md := 0) (rf := []) mixed tabOK cpRM_ok Try.func65 (by rfl) (by rfl) (by rfl) ?_
      repeat' (first | ((conv => whnf); refine And.intro ?_ ?_) | ((conv => whnf); with_reducible exact VC.mk rfl) | ((conv => whnf); exact Ok.mk) | ((conv => whnf); exact True.intro) | ((conv => whnf); refine Nx.mk ?_) | ((conv => whnf); refine Fin.mk ?_) | ((conv => whnf); intro _))
      all_goals ((try refine VC.mk ?_); (try simp only [CL.ncell, CL.cnt, Int.toNat_natCast, decide_eq_true_eq, decide_eq_false_iff_not, Bool.not_eq_true, Bool.not_false, Bool.not_true, and_self, and_true, true_and, te3b, te4b, te3s, te4s, Nat.mul_one, Nat.zero_add, List.length_cons, List.length_nil, Bool.false_eq_true, Bool.true_eq_false] at *); (try omega))
      all_goals (try (exfalso; omega))
      all_goals (refine Sup.via ?_; repeat' (first | ((conv => whnf); refine And.intro ?_ ?_) | ((conv => whnf); with_reducible exact VC.mk rfl) | ((conv => whnf); exact Ok.mk) | ((conv => whnf); exact True.intro) | ((conv => whnf); refine Nx.mk ?_) | ((conv => whnf); refine Fin.mk ?_) | ((conv => whnf); intro _)); all_goals ((try refine VC.mk ?_); (try simp only [CL.ncell, CL.cnt, Int.toNat_natCast, decide_eq_true_eq, decide_eq_false_iff_not, Bool.not_eq_true, Bool.not_false, Bool.not_true, and_self, and_true, true_and, te3b, te4b, te3s, te4s, Nat.mul_one, Nat.zero_add, List.length_cons, List.length_nil, Bool.false_eq_true, Bool.true_eq_false] at *); (try omega)); all_goals (try (simp [CL.sub]; done)))
    rw [if_neg c1] at hz ⊢
    by_cases c2 : rows.length % 4 ≠ 0 ∨ rows.length < 4 ∨ 16 < rows.length
    · rw [if_pos c2]
      refine pspec_of (md := 0) (rf := []) mixed tabOK cpRM_ok Try.func65 (by rfl) (by rfl) (by rfl) ?_
      repeat' (first | ((conv => whnf); refine And.intro ?_ ?_) | ((conv => whnf); with_reducible exact VC.mk rfl) | ((conv => whnf); exact Ok.mk) | ((conv => whnf); exact True.intro) | ((conv => whnf); refine Nx.mk ?_) | ((conv => whnf); refine Fin.mk ?_) | ((conv => whnf); intro _))
      all_goals ((try refine VC.mk ?_); (try simp only [CL.ncell, CL.cnt, Int.toNat_natCast, decide_eq_true_eq, decide_eq_false_iff_not, Bool.not_eq_true, Bool.not_false, Bool.not_true, and_self, and_true, true_and, te3b, te4b, te3s, te4s, Nat.mul_one, Nat.zero_add, List.length_cons, List.length_nil, Bool.false_eq_true, Bool.true_eq_false] at *); (try omega))
      all_goals (try (exfalso; omega))
      all_goals all_goals (refine Sup.via ?_; repeat' (first | ((conv => whnf); refine And.intro ?_ ?_) | ((conv => whnf); with_reducible exact VC.mk rfl) | ((conv => whnf); exact Ok.mk) | ((conv => whnf); exact True.intro) | ((conv => whnf); refine Nx.mk ?_) | ((conv => whnf); refine Fin.mk ?_) | ((conv => whnf); intro _)); all_goals ((try refine VC.mk ?_); (try simp only [CL.ncell, CL.cnt, Int.toNat_natCast, decide_eq_true_eq, decide_eq_false_iff_not, Bool.not_eq_true, Bool.not_false, Bool.not_true, and_self, and_true, true_and, te3b, te4b, te3s, te4s, Nat.mul_one, Nat.zero_add, List.length_cons, List.length_nil, Bool.false_eq_true, Bool.true_eq_false] at *); (try omega)); all_goals (try (simp [CL.sub]; done)))
    rw [if_neg c2] at hz ⊢
    have k5 : 0 ≤ (rows.length : Int) * rows.length ∧ (rows.length : Int) * rows.length ≤ 256 := mul_bd (A := 16) (B := 16) (by omega) (by omega)
    by_cases c3 : halvesErr rows ≠ 0
    · rw [if_pos c3]
      refine pspec_of (md := 0) (rf := []) mixed tabOK cpRM_ok Try.func65 (by rfl) (by rfl) (by rfl) ?_
      repeat' (first | ((conv => whnf); refine And.intro ?_ ?_) | ((conv => whnf); with_reducible exact VC.mk rfl) | ((conv => whnf); exact Ok.mk) | ((conv => whnf); exact True.intro) | ((conv => whnf); refine Nx.mk ?_) | ((conv => whnf); refine Fin.mk ?_) | ((conv => whnf); intro _))
      all_goals ((try refine VC.mk ?_); (try simp only [CL.ncell, CL.cnt, Int.toNat_natCast, decide_eq_true_eq, decide_eq_false_iff_not, Bool.not_eq_true, Bool.not_false, Bool.not_true, and_self, and_true, true_and, te3b, te4b, te3s, te4s, Nat.mul_one, Nat.zero_add, List.length_cons, List.length_nil, Bool.false_eq_true, Bool.true_eq_false] at *); (try omega))
      all_goals (try (exfalso; omega))
      all_goals all_goals (refine Sup.via ?_; repeat' (first | ((conv => whnf); refine And.intro ?_ ?_) | ((conv => whnf); with_reducible exact VC.mk rfl) | ((conv => whnf); exact Ok.mk) | ((conv => whnf); exact True.intro) | ((conv => whnf); refine Nx.mk ?_) | ((conv => whnf); refine Fin.mk ?_) | ((conv => whnf); intro _)); all_goals ((try refine VC.mk ?_); (try simp only [CL.ncell, CL.cnt, Int.toNat_natCast, decide_eq_true_eq, decide_eq_false_iff_not, Bool.not_eq_true, Bool.not_false, Bool.not_true, and_self, and_true, true_and, te3b, te4b, te3s, te4s, Nat.mul_one, Nat.zero_add, List.length_cons, List.length_nil, Bool.false_eq_true, Bool.true_eq_false] at *); (try omega)); all_goals (try (simp [CL.sub]; done)))
    rw [if_neg c3] at hz ⊢
    refine pspec_of (md := 0) (rf := []) mixed tabOK cpRM_ok Try.func65 (by rfl) (by rfl) (by rfl) ?_
    repeat' (first | ((conv => whnf); refine And.intro ?_ ?_) | ((conv => whnf); with_reducible exact VC.mk rfl) | ((conv => whnf); exact Ok.mk) | ((conv => whnf); exact True.intro) | ((conv => whnf); refine Nx.mk ?_) | ((conv => whnf); refine Fin.mk ?_) | ((conv => whnf); intro _))
    all_goals ((try refine VC.mk ?_); (try simp only [CL.ncell, CL.cnt, Int.toNat_natCast, decide_eq_true_eq, decide_eq_false_iff_not, Bool.not_eq_true, Bool.not_false, Bool.not_true, and_self, and_true, true_and, te3b, te4b, te3s, te4s, Nat.mul_one, Nat.zero_add, List.length_cons, List.length_nil, Bool.false_eq_true, Bool.true_eq_false] at *); (try omega))
    all_goals (try (exfalso; omega))
    all_goals all_goals (refine Sup.via ?_; repeat' (first | ((conv => whnf); refine And.intro ?_ ?_) | ((conv => whnf); with_reducible exact VC.mk rfl) | ((conv => whnf); exact Ok.mk) | ((conv => whnf); exact True.intro) | ((conv => whnf); refine Nx.mk ?_) | ((conv => whnf); refine Fin.mk ?_) | ((conv => whnf); intro _)); all_goals ((try refine VC.mk ?_); (try simp only [CL.ncell, CL.cnt, Int.toNat_natCast, decide_eq_true_eq, decide_eq_false_iff_not, Bool.not_eq_true, Bool.not_false, Bool.not_true, and_self, and_true, true_and, te3b, te4b, te3s, te4s, Nat.mul_one, Nat.zero_add, List.length_cons, List.length_nil, Bool.false_eq_true, Bool.true_eq_false] at *); (try omega)); all_goals (try (simp [CL.sub]; done)))
def rMostP : PSp := fun xs K => match xs with
  | [.isl (.ints .i64 rows) .none, .isl (.ints .i64 cols) .none] => VC (True) ∧ K (mpV rows cols)
  | _ => False
theorem rMost_ok : POK Try.prog 65 rMostP := by
  intro xs K h
  unfold rMostP at h
  split at h
  · exact ⟨_, h.2, rMost_spec _ _⟩
  · exact h.elim
end Go.Eng.Ytppflbccfdbogaa
namespace Go.Eng.Ytppflbccfdbogaa
open Go.Proofs
set_option maxRecDepth 100000
set_option maxHeartbeats 0
set_option linter.unusedVariables false
set_option linter.unusedSimpArgs false
def quadStep (n m : Nat) (s : List Int) (l : List Int) (k : Nat) : List Int :=
  (((l.set (k / m * n + k % m) (s.getD k 0)).set ((k / m + m) * n + k % m + m) (s.getD k 0 + (m : Int) * m)).set (k / m * n + k % m + m) (s.getD k 0 + 2 * (m : Int) * m)).set ((k / m + m) * n + k % m) (s.getD k 0 + 3 * (m : Int) * m)
def quadAt (n m : Nat) (s : List Int) (t : Nat) : List Int := (List.range t).foldl (quadStep n m s) (List.replicate (n * n) 0)
theorem quadAt_succ (n m : Nat) (s : List Int) (t : Nat) : quadAt n m s (t + 1) = quadStep n m s (quadAt n m s t) t := by simp [quadAt, List.range_succ]
theorem quadAt_len (n m : Nat) (s : List Int) : ∀ t, (quadAt n m s t).length = n * n := by
  intro t
  induction t with
  | zero => simp [quadAt]
  | succ t ih => rw [quadAt_succ]; simp [quadStep, ih]
theorem quad_eq {m : Nat} (h : m = 3 ∨ m = 5 ∨ m = 7) : quadAt (2 * m) m (siaL m) (m * m) = madeL (2 * m) (sglF m (siaL m)) := by
  rcases h with rfl | rfl | rfl <;> decide +kernel
def rSiaP : PSp := fun xs K => match xs with
  | [.int .i64 n] => VC (1 ≤ n ∧ n ≤ 16) ∧ K (gridV n n (siaL n))
  | _ => False
theorem rSia_ok : POK Try.prog 37 rSiaP := by
  intro xs K h
  unfold rSiaP at h
  split at h
  · exact ⟨_, h.2, rSiamese_spec _ h.1.get⟩
  · exact h.elim
noncomputable def cpSg : CPT := cpAdd 37 (pureCC rSiaP) (cpAdd 100 (lendCC [] emptyL) noC)
theorem cpSg_ok : CPOK Try.prog cpSg := cpAdd_ok (pureCC_ok rSia_ok) (cpAdd_ok (lendCC_ok [] SquareL_ok) noC_ok)
theorem rSgl_spec (m : Nat) (hm : m = 3 ∨ m = 5 ∨ m = 7) : PSpec Try.prog 39 [.int .i64 ((2 * m : Nat) : Int)] (gridV ((2 * m : Nat) : Int) ((2 * m : Nat) : Int) (sglL m)) := by
  have hq := quad_eq hm
  have hsl := siaL_len m
  have hsb := siaL_bd m (by omega)
  have hmb : 3 ≤ m ∧ m ≤ 8 := by omega
  unfold sglL
  rw [← hq]
  obtain ⟨n, hn⟩ : ∃ n, n = 2 * m := ⟨_, rfl⟩
  have hd : (n : Int) / 2 = m := by omega
  have hd4 : ((n : Int) - 2) / 4 = (((m - 1) / 2 : Nat) : Int) := by omega
  have h2mm : 2 * m * m = n * m := by rw [hn]
  rw [h2mm]
  rw [← hn]
  generalize hk : (m - 1) / 2 = kk at *
  have hkb : kk ≤ 3 := by omega
  clear hq
  have hM := mul_bd (show 0 ≤ (m : Int) ∧ (m : Int) ≤ 8 by omega) (show 0 ≤ (m : Int) ∧ (m : Int) ≤ 8 by omega)
  have hN := mul_bd (show 0 ≤ (n : Int) ∧ (n : Int) ≤ 16 by omega) (show 0 ≤ (n : Int) ∧ (n : Int) ≤ 16 by omega)
  have hnm : ((n * n : Nat) : Int) = (n : Int) * n := by push_cast; rfl
  have hmm : ((m * m : Nat) : Int) = (m : Int) * m := by push_cast; rfl
  have eN : ((n : Int) * n).toNat = n * n := by rw [← Int.natCast_mul, Int.toNat_natCast]
  have h2 : (2 : Int) * m * m = 2 * (m * m) := by rw [Int.mul_assoc]
  have h3 : (3 : Int) * m * m = 3 * (m * m) := by rw [Int.mul_assoc]
  obtain ⟨s, hs⟩ : ∃ s, siaL m = s := ⟨_, rfl⟩
  rw [hs] at hsl hsb ⊢
  refine pspec_of (md := 0) (rf := []) mixed tabOK cpSg_ok Try.func39 (by rfl) (by rfl) (by rfl) ?_
  repeat' (first | ((conv => whnf); refine And.intro ?_ ?_) | ((conv => whnf); with_reducible exact VC.mk rfl) | ((conv => whnf); exact Ok.mk) | ((conv => whnf); exact True.intro) | ((conv => whnf); refine Nx.mk ?_) | ((conv => whnf); refine Fin.mk ?_) | ((conv => whnf); intro _))
  all_goals ((try refine VC.mk ?_); (try simp only [CL.ncell, CL.cnt, Int.toNat_natCast, decide_eq_true_eq, decide_eq_false_iff_not, Bool.not_eq_true, Bool.not_false, Bool.not_true, and_self, and_true, true_and, te3b, te4b, te3s, te4s, Nat.mul_one, Nat.zero_add, List.length_cons, List.length_nil, Bool.false_eq_true, Bool.true_eq_false] at *); (try omega))
  simp only [hd, hd4, hs, eN]
  conv => whnf
  refine loop_of (X := Nat) (fun i => i ≤ m) (fun i => [(7, .int .i64 i)]) (fun i => [(5, .cells (.ints .i64 (quadAt n m s (m * i))) false)]) (fun i => m - i) 0 ⟨anyB_ok, mixed, tabOK, cpSg_ok, noY_ok⟩ (by rfl) (by omega) ?_ ?_
  · repeat' (first | ((conv => whnf); refine And.intro ?_ ?_) | ((conv => whnf); with_reducible exact VC.mk rfl) | ((conv => whnf); exact Ok.mk) | ((conv => whnf); exact True.intro) | ((conv => whnf); refine Nx.mk ?_) | ((conv => whnf); refine Fin.mk ?_) | ((conv => whnf); intro _))
    all_goals ((try refine VC.mk ?_); (try simp only [CL.ncell, CL.cnt, Int.toNat_natCast, decide_eq_true_eq, decide_eq_false_iff_not, Bool.not_eq_true, Bool.not_false, Bool.not_true, and_self, and_true, true_and, te3b, te4b, te3s, te4s, Nat.mul_one, Nat.zero_add, List.length_cons, List.length_nil, Bool.false_eq_true, Bool.true_eq_false] at *); (try omega))
    all_goals (try rfl)
  intro i hi
  by_cases hlt : i < m
  · repeat' (first | ((conv => whnf); refine And.intro ?_ ?_) | ((conv => whnf); with_reducible exact VC.mk rfl) | ((conv => whnf); exact Ok.mk) | ((conv => whnf); exact True.intro) | ((conv => whnf); refine Nx.mk ?_) | ((conv => whnf); refine Fin.mk ?_) | ((conv => whnf); intro _))
    all_goals ((try refine VC.mk ?_); (try simp only [CL.ncell, CL.cnt, Int.toNat_natCast, decide_eq_true_eq, decide_eq_false_iff_not, Bool.not_eq_true, Bool.not_false, Bool.not_true, and_self, and_true, true_and, te3b, te4b, te3s, te4s, Nat.mul_one, Nat.zero_add, List.length_cons, List.length_nil, Bool.false_eq_true, Bool.true_eq_false] at *); (try omega))
    conv => whnf
    refine loop_of (X := Nat) (fun j => j ≤ m) (fun j => [(8, .int .i64 j)]) (fun j => [(5, .cells (.ints .i64 (quadAt n m s (m * i + j))) false)]) (fun j => m - j) 0 ⟨anyB_ok, mixed, tabOK, cpSg_ok, noY_ok⟩ (by rfl) (by omega) ?_ ?_
    · repeat' (first | ((conv => whnf); refine And.intro ?_ ?_) | ((conv => whnf); with_reducible exact VC.mk rfl) | ((conv => whnf); exact Ok.mk) | ((conv => whnf); exact True.intro) | ((conv => whnf); refine Nx.mk ?_) | ((conv => whnf); refine Fin.mk ?_) | ((conv => whnf); intro _))
      all_goals ((try refine VC.mk ?_); (try simp only [CL.ncell, CL.cnt, Int.toNat_natCast, decide_eq_true_eq, decide_eq_false_iff_not, Bool.not_eq_true, Bool.not_false, Bool.not_true, and_self, and_true, true_and, te3b, te4b, te3s, te4s, Nat.mul_one, Nat.zero_add, List.length_cons, List.length_nil, Bool.false_eq_true, Bool.true_eq_false] at *); (try omega))
    intro j hj
    by_cases hlj : j < m
    · have k1 : (m * i + j) / m = i := by rw [Nat.mul_add_div (by omega), Nat.div_eq_of_lt hlj]; omega
      have k2 : (m * i + j) % m = j := by rw [Nat.mul_add_mod, Nat.mod_eq_of_lt hlj]
      have e1 := quadAt_succ n m s (m * i + j)
      unfold quadStep at e1
      rw [k1, k2] at e1
      have e2 := quadAt_len n m s (m * i + j)
      have b0 : m * i + j < m * m := by have := Nat.mul_le_mul_left m (show i + 1 ≤ m by omega); rw [Nat.mul_add] at this; omega
      have b1 := hsb _ b0
      have b2 : (i + m) * n + j + m < n * n := by have := Nat.mul_le_mul_right n (show i + m + 1 ≤ n by omega); rw [Nat.add_mul] at this; omega
      have b3 : i * n + m * n = (i + m) * n := by rw [Nat.add_mul]
      have b4 : 0 ≤ (i : Int) * m ∧ (i : Int) * m ≤ 64 := mul_bd (A := 8) (B := 8) (by omega) (by omega)
      have b5 : 0 ≤ (i : Int) * n ∧ (i : Int) * n ≤ 128 := mul_bd (A := 8) (B := 16) (by omega) (by omega)
      have b6 : 0 ≤ ((i : Int) + m) * n ∧ ((i : Int) + m) * n ≤ 256 := mul_bd (A := 16) (B := 16) (by omega) (by omega)
      have i1 : (i : Int) * m + j = ((m * i + j : Nat) : Int) := by push_cast; rw [Int.mul_comm]
      have i2 : (i : Int) * n + j = ((i * n + j : Nat) : Int) := by push_cast; rfl
      have i3 : ((i : Int) + m) * n + j = (((i + m) * n + j : Nat) : Int) := by push_cast; rfl
      have i4 : (((i * n + j : Nat) : Int) + m) = ((i * n + j + m : Nat) : Int) := by push_cast; rfl
      have i5 : ((((i + m) * n + j : Nat) : Int) + m) = (((i + m) * n + j + m : Nat) : Int) := by push_cast; rfl
      repeat' (first | ((conv => whnf); refine And.intro ?_ ?_) | ((conv => whnf); with_reducible exact VC.mk rfl) | ((conv => whnf); exact Ok.mk) | ((conv => whnf); exact True.intro) | ((conv => whnf); refine Nx.mk ?_) | ((conv => whnf); refine Fin.mk ?_) | ((conv => whnf); intro _))
      all_goals ((try refine VC.mk ?_); (try simp only [CL.ncell, CL.cnt, Int.toNat_natCast, decide_eq_true_eq, decide_eq_false_iff_not, Bool.not_eq_true, Bool.not_false, Bool.not_true, and_self, and_true, true_and, te3b, te4b, te3s, te4s, Nat.mul_one, Nat.zero_add, List.length_cons, List.length_nil, Bool.false_eq_true, Bool.true_eq_false] at *); (try omega))
      all_goals (try simp only [i1, i2, i3, i4, i5, Int.toNat_natCast, List.length_set] at *)
      all_goals (try omega)
      all_goals (refine ⟨j + 1, [], ⟨by omega, by omega⟩, ?_⟩)
      all_goals repeat' (first | ((conv => whnf); refine And.intro ?_ ?_) | ((conv => whnf); with_reducible exact VC.mk rfl) | ((conv => whnf); exact Ok.mk) | ((conv => whnf); exact True.intro) | ((conv => whnf); refine Nx.mk ?_) | ((conv => whnf); refine Fin.mk ?_) | ((conv => whnf); intro _))
      all_goals ((try refine VC.mk ?_); (try simp only [CL.ncell, CL.cnt, Int.toNat_natCast, decide_eq_true_eq, decide_eq_false_iff_not, Bool.not_eq_true, Bool.not_false, Bool.not_true, and_self, and_true, true_and, te3b, te4b, te3s, te4s, Nat.mul_one, Nat.zero_add, List.length_cons, List.length_nil, Bool.false_eq_true, Bool.true_eq_false] at *); (try omega))
      all_goals (rw [show m * i + (j + 1) = m * i + j + 1 from rfl, e1])
    · have : m = j := by omega
      subst this
      repeat' (first | ((conv => whnf); refine And.intro ?_ ?_) | ((conv => whnf); with_reducible exact VC.mk rfl) | ((conv => whnf); exact Ok.mk) | ((conv => whnf); exact True.intro) | ((conv => whnf); refine Nx.mk ?_) | ((conv => whnf); refine Fin.mk ?_) | ((conv => whnf); intro _))
      all_goals ((try refine VC.mk ?_); (try simp only [CL.ncell, CL.cnt, Int.toNat_natCast, decide_eq_true_eq, decide_eq_false_iff_not, Bool.not_eq_true, Bool.not_false, Bool.not_true, and_self, and_true, true_and, te3b, te4b, te3s, te4s, Nat.mul_one, Nat.zero_add, List.length_cons, List.length_nil, Bool.false_eq_true, Bool.true_eq_false] at *); (try omega))
      refine ⟨i + 1, [], ⟨by omega, by omega⟩, ?_⟩
      repeat' (first | ((conv => whnf); refine And.intro ?_ ?_) | ((conv => whnf); with_reducible exact VC.mk rfl) | ((conv => whnf); exact Ok.mk) | ((conv => whnf); exact True.intro) | ((conv => whnf); refine Nx.mk ?_) | ((conv => whnf); refine Fin.mk ?_) | ((conv => whnf); intro _))
      all_goals ((try refine VC.mk ?_); (try simp only [CL.ncell, CL.cnt, Int.toNat_natCast, decide_eq_true_eq, decide_eq_false_iff_not, Bool.not_eq_true, Bool.not_false, Bool.not_true, and_self, and_true, true_and, te3b, te4b, te3s, te4s, Nat.mul_one, Nat.zero_add, List.length_cons, List.length_nil, Bool.false_eq_true, Bool.true_eq_false] at *); (try omega))
  have : m = i := by omega
  subst this
  repeat' (first | ((conv => whnf); refine And.intro ?_ ?_) | ((conv => whnf); with_reducible exact VC.mk rfl) | ((conv => whnf); exact Ok.mk) | ((conv => whnf); exact True.intro) | ((conv => whnf); refine Nx.mk ?_) | ((conv => whnf); refine Fin.mk ?_) | ((conv => whnf); intro _))
  all_goals ((try refine VC.mk ?_); (try simp only [CL.ncell, CL.cnt, Int.toNat_natCast, decide_eq_true_eq, decide_eq_false_iff_not, Bool.not_eq_true, Bool.not_false, Bool.not_true, and_self, and_true, true_and, te3b, te4b, te3s, te4s, Nat.mul_one, Nat.zero_add, List.length_cons, List.length_nil, Bool.false_eq_true, Bool.true_eq_false] at *); (try omega))
  generalize hl0 : quadAt n m s (m * m) = l0 at *
  have hlen : l0.length = n * n := by rw [← hl0]; exact quadAt_len _ _ _ _
  clear hl0
  have hix : ∀ i j : Nat, i < m → j < n → (n * i + j + n * m < n * n) ∧ (0 ≤ (i : Int) * n ∧ (i : Int) * n ≤ 256) ∧ (0 ≤ ((i : Int) + m) * n ∧ ((i : Int) + m) * n ≤ 256) := fun i j hi hj => by
    have a := Nat.mul_le_mul_left n (show i + 1 + m ≤ n by omega)
    rw [Nat.mul_add, Nat.mul_add] at a
    exact ⟨by omega, mul_bd (A := 16) (B := 16) (by omega) (by omega), mul_bd (A := 16) (B := 16) (by omega) (by omega)⟩
  have hdm : ∀ i j : Nat, j < n → (n * i + j) / n = i ∧ (n * i + j) % n = j := fun i j hj => by
    rw [Nat.mul_add_div (by omega), Nat.div_eq_of_lt hj, Nat.mul_add_mod, Nat.mod_eq_of_lt hj]; exact ⟨by omega, rfl⟩
  conv => whnf
  refine loop_of (X := Nat) (fun i => i ≤ m) (fun i => [(10, .int .i64 i)]) (fun i => [(5, .cells (.ints .i64 (swAt kk n m l0 (n * i))) false)]) (fun i => m - i) 0 ⟨anyB_ok, mixed, tabOK, cpSg_ok, noY_ok⟩ (by rfl) (by omega) ?_ ?_
  · repeat' (first | ((conv => whnf); refine And.intro ?_ ?_) | ((conv => whnf); with_reducible exact VC.mk rfl) | ((conv => whnf); exact Ok.mk) | ((conv => whnf); exact True.intro) | ((conv => whnf); refine Nx.mk ?_) | ((conv => whnf); refine Fin.mk ?_) | ((conv => whnf); intro _))
    all_goals ((try refine VC.mk ?_); (try simp only [CL.ncell, CL.cnt, Int.toNat_natCast, decide_eq_true_eq, decide_eq_false_iff_not, Bool.not_eq_true, Bool.not_false, Bool.not_true, and_self, and_true, true_and, te3b, te4b, te3s, te4s, Nat.mul_one, Nat.zero_add, List.length_cons, List.length_nil, Bool.false_eq_true, Bool.true_eq_false] at *); (try omega))
    all_goals (try rfl)
  intro i hi
  by_cases hlt : i < m
  · repeat' (first | ((conv => whnf); refine And.intro ?_ ?_) | ((conv => whnf); with_reducible exact VC.mk rfl) | ((conv => whnf); exact Ok.mk) | ((conv => whnf); exact True.intro) | ((conv => whnf); refine Nx.mk ?_) | ((conv => whnf); refine Fin.mk ?_) | ((conv => whnf); intro _))
    all_goals ((try refine VC.mk ?_); (try simp only [CL.ncell, CL.cnt, Int.toNat_natCast, decide_eq_true_eq, decide_eq_false_iff_not, Bool.not_eq_true, Bool.not_false, Bool.not_true, and_self, and_true, true_and, te3b, te4b, te3s, te4s, Nat.mul_one, Nat.zero_add, List.length_cons, List.length_nil, Bool.false_eq_true, Bool.true_eq_false] at *); (try omega))
    conv => whnf
    refine loop_of (X := Nat) (fun j => j ≤ n) (fun j => [(11, .int .i64 j)]) (fun j => [(5, .cells (.ints .i64 (swAt kk n m l0 (n * i + j))) false)]) (fun j => n - j) 0 ⟨anyB_ok, mixed, tabOK, cpSg_ok, noY_ok⟩ (by rfl) (by omega) ?_ ?_
    · repeat' (first | ((conv => whnf); refine And.intro ?_ ?_) | ((conv => whnf); with_reducible exact VC.mk rfl) | ((conv => whnf); exact Ok.mk) | ((conv => whnf); exact True.intro) | ((conv => whnf); refine Nx.mk ?_) | ((conv => whnf); refine Fin.mk ?_) | ((conv => whnf); intro _))
      all_goals ((try refine VC.mk ?_); (try simp only [CL.ncell, CL.cnt, Int.toNat_natCast, decide_eq_true_eq, decide_eq_false_iff_not, Bool.not_eq_true, Bool.not_false, Bool.not_true, and_self, and_true, true_and, te3b, te4b, te3s, te4s, Nat.mul_one, Nat.zero_add, List.length_cons, List.length_nil, Bool.false_eq_true, Bool.true_eq_false] at *); (try omega))
    intro j hj
    by_cases hlj : j < n
    · have hx := hix i j hlt hlj
      have e1 := swAt_succ kk n m l0 (n * i + j)
      rw [(hdm i j hlj).1, (hdm i j hlj).2] at e1
      have e2 : (i : Int) * n + j = ((n * i + j : Nat) : Int) := by push_cast; rw [Int.mul_comm]
      have e3 : ((i : Int) + m) * n + j = ((n * i + j + n * m : Nat) : Int) := by push_cast; rw [Int.add_mul, Int.mul_comm (i : Int), Int.mul_comm (m : Int)]; omega
      have hls := swAt_len kk n m l0 (n * i + j)
      repeat' (first | ((conv => whnf); refine And.intro ?_ ?_) | ((conv => whnf); with_reducible exact VC.mk rfl) | ((conv => whnf); exact Ok.mk) | ((conv => whnf); exact True.intro) | ((conv => whnf); refine Nx.mk ?_) | ((conv => whnf); refine Fin.mk ?_) | ((conv => whnf); intro _))
      all_goals ((try refine VC.mk ?_); (try simp only [CL.ncell, CL.cnt, Int.toNat_natCast, decide_eq_true_eq, decide_eq_false_iff_not, Bool.not_eq_true, Bool.not_false, Bool.not_true, and_self, and_true, true_and, te3b, te4b, te3s, te4s, Nat.mul_one, Nat.zero_add, List.length_cons, List.length_nil, Bool.false_eq_true, Bool.true_eq_false] at *); (try omega))
      all_goals (try simp only [e2, e3, Int.toNat_natCast, List.length_set] at *)
      all_goals (try omega)
      all_goals (refine ⟨j + 1, [], ⟨by omega, by omega⟩, ?_⟩)
      all_goals repeat' (first | ((conv => whnf); refine And.intro ?_ ?_) | ((conv => whnf); with_reducible exact VC.mk rfl) | ((conv => whnf); exact Ok.mk) | ((conv => whnf); exact True.intro) | ((conv => whnf); refine Nx.mk ?_) | ((conv => whnf); refine Fin.mk ?_) | ((conv => whnf); intro _))
      all_goals ((try refine VC.mk ?_); (try simp only [CL.ncell, CL.cnt, Int.toNat_natCast, decide_eq_true_eq, decide_eq_false_iff_not, Bool.not_eq_true, Bool.not_false, Bool.not_true, and_self, and_true, true_and, te3b, te4b, te3s, te4s, Nat.mul_one, Nat.zero_add, List.length_cons, List.length_nil, Bool.false_eq_true, Bool.true_eq_false] at *); (try omega))
      all_goals (rw [show n * i + (j + 1) = n * i + j + 1 from rfl, e1]; split <;> first | rfl | (exfalso; simp_all [exB] <;> omega))
    · have : n = j := by omega
      subst this
      repeat' (first | ((conv => whnf); refine And.intro ?_ ?_) | ((conv => whnf); with_reducible exact VC.mk rfl) | ((conv => whnf); exact Ok.mk) | ((conv => whnf); exact True.intro) | ((conv => whnf); refine Nx.mk ?_) | ((conv => whnf); refine Fin.mk ?_) | ((conv => whnf); intro _))
      all_goals ((try refine VC.mk ?_); (try simp only [CL.ncell, CL.cnt, Int.toNat_natCast, decide_eq_true_eq, decide_eq_false_iff_not, Bool.not_eq_true, Bool.not_false, Bool.not_true, and_self, and_true, true_and, te3b, te4b, te3s, te4s, Nat.mul_one, Nat.zero_add, List.length_cons, List.length_nil, Bool.false_eq_true, Bool.true_eq_false] at *); (try omega))
      refine ⟨i + 1, [], ⟨by omega, by omega⟩, ?_⟩
      repeat' (first | ((conv => whnf); refine And.intro ?_ ?_) | ((conv => whnf); with_reducible exact VC.mk rfl) | ((conv => whnf); exact Ok.mk) | ((conv => whnf); exact True.intro) | ((conv => whnf); refine Nx.mk ?_) | ((conv => whnf); refine Fin.mk ?_) | ((conv => whnf); intro _))
      all_goals ((try refine VC.mk ?_); (try simp only [CL.ncell, CL.cnt, Int.toNat_natCast, decide_eq_true_eq, decide_eq_false_iff_not, Bool.not_eq_true, Bool.not_false, Bool.not_true, and_self, and_true, true_and, te3b, te4b, te3s, te4s, Nat.mul_one, Nat.zero_add, List.length_cons, List.length_nil, Bool.false_eq_true, Bool.true_eq_false] at *); (try omega))
  · have : m = i := by omega
    subst this
    repeat' (first | ((conv => whnf); refine And.intro ?_ ?_) | ((conv => whnf); with_reducible exact VC.mk rfl) | ((conv => whnf); exact Ok.mk) | ((conv => whnf); exact True.intro) | ((conv => whnf); refine Nx.mk ?_) | ((conv => whnf); refine Fin.mk ?_) | ((conv => whnf); intro _))
    all_goals ((try refine VC.mk ?_); (try simp only [CL.ncell, CL.cnt, Int.toNat_natCast, decide_eq_true_eq, decide_eq_false_iff_not, Bool.not_eq_true, Bool.not_false, Bool.not_true, and_self, and_true, true_and, te3b, te4b, te3s, te4s, Nat.mul_one, Nat.zero_add, List.length_cons, List.length_nil, Bool.false_eq_true, Bool.true_eq_false] at *); (try omega))
    all_goals (try (rw [swAt_len]; omega))
    have h6 : (swAt kk n m l0 (n * m)).length = n * n := by rw [swAt_len, hlen]
    refine Sup.of ?_
    generalize swAt kk n m l0 (n * m) = ll at *
    rw [← h6]
    simp [resOf, gridV, CL.sub]
end Go.Eng.Ytppflbccfdbogaa
namespace Go.Eng.Ytppflbccfdbogaa
open Go.Proofs
set_option maxRecDepth 100000
set_option maxHeartbeats 0
set_option linter.unusedVariables false
set_option linter.unusedSimpArgs false
def magV (n : Int) : PV := if n = 2 then noGrid 7 else if n % 2 = 1 then okGrid n n (siaL n) else if n % 4 = 0 then okGrid n n (dblL n) else okGrid n n (sglL (n / 2).toNat)
def panV (n : Int) : PV := if n % 2 = 1 ∧ n % 3 ≠ 0 then okGrid n n (panL n) else if n % 4 = 0 then okGrid n n (panM n) else noGrid 7
theorem rDbl' {n : Int} (hn : 1 ≤ n ∧ n ≤ 16) : PSpec Try.prog 38 [.int .i64 n] (gridV n n (dblL n)) := by
  have := rDouble_spec n.toNat (by omega)
  rw [Int.toNat_of_nonneg (by omega)] at this
  exact this
theorem rSgl' {n : Int} (h : n % 4 = 2 ∧ 6 ≤ n ∧ n ≤ 16) : PSpec Try.prog 39 [.int .i64 n] (gridV n n (sglL (n / 2).toNat)) := by
  have := rSgl_spec (n / 2).toNat (by omega)
  rw [show ((2 * (n / 2).toNat : Nat) : Int) = n by omega] at this
  exact this
def rDblP : PSp := fun xs K => match xs with
  | [.int .i64 n] => VC (1 ≤ n ∧ n ≤ 16) ∧ K (gridV n n (dblL n))
  | _ => False
theorem rDbl_ok : POK Try.prog 38 rDblP := by
  intro xs K h
  unfold rDblP at h
  split at h
  · exact ⟨_, h.2, rDbl' h.1.get⟩
  · exact h.elim
def rSglP : PSp := fun xs K => match xs with
  | [.int .i64 n] => VC (n % 4 = 2 ∧ 6 ≤ n ∧ n ≤ 16) ∧ K (gridV n n (sglL (n / 2).toNat))
  | _ => False
theorem rSgl_ok : POK Try.prog 39 rSglP := by
  intro xs K h
  unfold rSglP at h
  split at h
  · exact ⟨_, h.2, rSgl' h.1.get⟩
  · exact h.elim
noncomputable def cpMa : CPT := cpAdd 37 (pureCC rSiaP) (cpAdd 38 (pureCC rDblP) (cpAdd 39 (pureCC rSglP) noC))
theorem cpMa_ok : CPOK Try.prog cpMa := cpAdd_ok (pureCC_ok rSia_ok) (cpAdd_ok (pureCC_ok rDbl_ok) (cpAdd_ok (pureCC_ok rSgl_ok) noC_ok))
theorem rMagic_spec (n : Int) (hn : 1 ≤ n ∧ n ≤ 16) : PSpec Try.prog 40 [.int .i64 n] (magV n) := by
  unfold magV
  generalize hz : (if n = 2 then noGrid 7 else if n % 2 = 1 then okGrid n n (siaL n) else if n % 4 = 0 then okGrid n n (dblL n) else okGrid n n (sglL (n / 2).toNat)) = z
  refine pspec_of (md := 0) (rf := []) mixed tabOK cpMa_ok Try.func40 (by rfl) (by rfl) (by rfl) ?_
  repeat' (first | ((conv => whnf); refine And.intro ?_ ?_) | ((conv => whnf); with_reducible exact VC.mk rfl) | ((conv => whnf); exact Ok.mk) | ((conv => whnf); exact True.intro) | ((conv => whnf); refine Nx.mk ?_) | ((conv => whnf); refine Fin.mk ?_) | ((conv => whnf); intro _))
  all_goals ((try refine VC.mk ?_); (try simp only [CL.ncell, CL.cnt, Int.toNat_natCast, decide_eq_true_eq, decide_eq_false_iff_not, Bool.not_eq_true, Bool.not_false, Bool.not_true, and_self, and_true, true_and, te3b, te4b, te3s, te4s, Nat.mul_one, Nat.zero_add, List.length_cons, List.length_nil, Bool.false_eq_true, Bool.true_eq_false] at *); (try omega))
  · rw [← hz, if_pos (by omega)]; all_goals (refine Sup.via ?_; repeat' (first | ((conv => whnf); refine And.intro ?_ ?_) | ((conv => whnf); with_reducible exact VC.mk rfl) | ((conv => whnf); exact Ok.mk) | ((conv => whnf); exact True.intro) | ((conv => whnf); refine Nx.mk ?_) | ((conv => whnf); refine Fin.mk ?_) | ((conv => whnf); intro _)); all_goals ((try refine VC.mk ?_); (try simp only [CL.ncell, CL.cnt, Int.toNat_natCast, decide_eq_true_eq, decide_eq_false_iff_not, Bool.not_eq_true, Bool.not_false, Bool.not_true, and_self, and_true, true_and, te3b, te4b, te3s, te4s, Nat.mul_one, Nat.zero_add, List.length_cons, List.length_nil, Bool.false_eq_true, Bool.true_eq_false] at *); (try omega)); all_goals (try (simp [CL.sub]; done)))
  · rw [← hz, if_neg (by omega), if_pos (by omega)]; all_goals (refine Sup.via ?_; repeat' (first | ((conv => whnf); refine And.intro ?_ ?_) | ((conv => whnf); with_reducible exact VC.mk rfl) | ((conv => whnf); exact Ok.mk) | ((conv => whnf); exact True.intro) | ((conv => whnf); refine Nx.mk ?_) | ((conv => whnf); refine Fin.mk ?_) | ((conv => whnf); intro _)); all_goals ((try refine VC.mk ?_); (try simp only [CL.ncell, CL.cnt, Int.toNat_natCast, decide_eq_true_eq, decide_eq_false_iff_not, Bool.not_eq_true, Bool.not_false, Bool.not_true, and_self, and_true, true_and, te3b, te4b, te3s, te4s, Nat.mul_one, Nat.zero_add, List.length_cons, List.length_nil, Bool.false_eq_true, Bool.true_eq_false] at *); (try omega)); all_goals (try (simp [CL.sub]; done)))
  · rw [← hz, if_neg (by omega), if_neg (by omega), if_pos (by omega)]; all_goals (refine Sup.via ?_; repeat' (first | ((conv => whnf); refine And.intro ?_ ?_) | ((conv => whnf); with_reducible exact VC.mk rfl) | ((conv => whnf); exact Ok.mk) | ((conv => whnf); exact True.intro) | ((conv => whnf); refine Nx.mk ?_) | ((conv => whnf); refine Fin.mk ?_) | ((conv => whnf); intro _)); all_goals ((try refine VC.mk ?_); (try simp only [CL.ncell, CL.cnt, Int.toNat_natCast, decide_eq_true_eq, decide_eq_false_iff_not, Bool.not_eq_true, Bool.not_false, Bool.not_true, and_self, and_true, true_and, te3b, te4b, te3s, te4s, Nat.mul_one, Nat.zero_add, List.length_cons, List.length_nil, Bool.false_eq_true, Bool.true_eq_false] at *); (try omega)); all_goals (try (simp [CL.sub]; done)))
  · rw [← hz, if_neg (by omega), if_neg (by omega), if_neg (by omega)]; all_goals (refine Sup.via ?_; repeat' (first | ((conv => whnf); refine And.intro ?_ ?_) | ((conv => whnf); with_reducible exact VC.mk rfl) | ((conv => whnf); exact Ok.mk) | ((conv => whnf); exact True.intro) | ((conv => whnf); refine Nx.mk ?_) | ((conv => whnf); refine Fin.mk ?_) | ((conv => whnf); intro _)); all_goals ((try refine VC.mk ?_); (try simp only [CL.ncell, CL.cnt, Int.toNat_natCast, decide_eq_true_eq, decide_eq_false_iff_not, Bool.not_eq_true, Bool.not_false, Bool.not_true, and_self, and_true, true_and, te3b, te4b, te3s, te4s, Nat.mul_one, Nat.zero_add, List.length_cons, List.length_nil, Bool.false_eq_true, Bool.true_eq_false] at *); (try omega)); all_goals (try (simp [CL.sub]; done)))
theorem rHalved' {n : Int} (hn : 1 ≤ n ∧ n ≤ 16) : PSpec Try.prog 44 [.int .i64 n] (.isl (.ints .i64 (halvedL n n.toNat)) .none) := by
  have := rHalved_spec n.toNat (by omega)
  rw [Int.toNat_of_nonneg (by omega)] at this
  exact this
def rHalvedQP : PSp := fun xs K => match xs with
  | [.int .i64 n] => VC (1 ≤ n ∧ n ≤ 16) ∧ K (.isl (.ints .i64 (halvedL n n.toNat)) .none)
  | _ => False
theorem rHalvedQ_ok : POK Try.prog 44 rHalvedQP := by
  intro xs K h
  unfold rHalvedQP at h
  split at h
  · exact ⟨_, h.2, rHalved' h.1.get⟩
  · exact h.elim
theorem mp_halved {n : Int} (hn : 1 ≤ n ∧ n ≤ 16) (h : n % 4 = 0) : mpV (halvedL n n.toNat) (halvedL n n.toNat) = okGrid n n (panM n) := by
  have : n = 4 ∨ n = 8 ∨ n = 12 ∨ n = 16 := by omega
  have he : mpErr (halvedL n n.toNat) (halvedL n n.toNat) = 0 := by rcases this with rfl | rfl | rfl | rfl <;> decide +kernel
  have hl : ((halvedL n n.toNat).length : Int) = n := by rw [halvedL_len]; omega
  unfold mpV panM
  rw [if_pos he, hl]
noncomputable def cpPa : CPT := cpAdd 50 (pureCC rUniformP) (cpAdd 44 (pureCC rHalvedQP) (cpAdd 65 (pureCC rMostP) noC))
theorem cpPa_ok : CPOK Try.prog cpPa := cpAdd_ok (pureCC_ok rUniform_ok) (cpAdd_ok (pureCC_ok rHalvedQ_ok) (cpAdd_ok (pureCC_ok rMost_ok) noC_ok))
theorem rPan_spec (n : Int) (hn : 1 ≤ n ∧ n ≤ 16) : PSpec Try.prog 41 [.int .i64 n] (panV n) := by
  unfold panV
  have hmp := @mp_halved n hn
  generalize hz : (if n % 2 = 1 ∧ n % 3 ≠ 0 then okGrid n n (panL n) else if n % 4 = 0 then okGrid n n (panM n) else noGrid 7) = z
  by_cases c1 : n % 2 = 1 ∧ n % 3 ≠ 0
  · rw [if_pos c1] at hz; subst hz
    refine pspec_of (md := 0) (rf := []) mixed tabOK cpPa_ok Try.func41 (by rfl) (by rfl) (by rfl) ?_
    repeat' (first | ((conv => whnf); refine And.intro ?_ ?_) | ((conv => whnf); with_reducible exact VC.mk rfl) | ((conv => whnf); exact Ok.mk) | ((conv => whnf); exact True.intro) | ((conv => whnf); refine Nx.mk ?_) | ((conv => whnf); refine Fin.mk ?_) | ((conv => whnf); intro _))
    all_goals ((try refine VC.mk ?_); (try simp only [CL.ncell, CL.cnt, Int.toNat_natCast, decide_eq_true_eq, decide_eq_false_iff_not, Bool.not_eq_true, Bool.not_false, Bool.not_true, and_self, and_true, true_and, te3b, te4b, te3s, te4s, Nat.mul_one, Nat.zero_add, List.length_cons, List.length_nil, Bool.false_eq_true, Bool.true_eq_false] at *); (try omega))
    all_goals (try (exfalso; omega))
    · exact ⟨hn, by simp only [List.mem_cons, List.not_mem_nil, or_false, forall_eq_or_imp, forall_eq]; omega⟩
    all_goals all_goals (refine Sup.via ?_; repeat' (first | ((conv => whnf); refine And.intro ?_ ?_) | ((conv => whnf); with_reducible exact VC.mk rfl) | ((conv => whnf); exact Ok.mk) | ((conv => whnf); exact True.intro) | ((conv => whnf); refine Nx.mk ?_) | ((conv => whnf); refine Fin.mk ?_) | ((conv => whnf); intro _)); all_goals ((try refine VC.mk ?_); (try simp only [CL.ncell, CL.cnt, Int.toNat_natCast, decide_eq_true_eq, decide_eq_false_iff_not, Bool.not_eq_true, Bool.not_false, Bool.not_true, and_self, and_true, true_and, te3b, te4b, te3s, te4s, Nat.mul_one, Nat.zero_add, List.length_cons, List.length_nil, Bool.false_eq_true, Bool.true_eq_false] at *); (try omega)); all_goals (try (simp [CL.sub]; done)))
    all_goals (try rfl)
  rw [if_neg c1] at hz
  by_cases c2 : n % 4 = 0
  · rw [if_pos c2] at hz; subst hz
    have hM := rMost_spec (halvedL n n.toNat) (halvedL n n.toNat)
    rw [hmp c2] at hM
    have hC := cpAdd_ok (pureCC_ok rHalvedQ_ok) (cpAdd_ok (pureCC_ok (atC_ok (C := True) fun _ => hM)) noC_ok)
    refine pspec_of (md := 0) (rf := []) mixed tabOK hC Try.func41 (by rfl) (by rfl) (by rfl) ?_
    repeat' (first | ((conv => whnf); refine And.intro ?_ ?_) | ((conv => whnf); with_reducible exact VC.mk rfl) | ((conv => whnf); exact Ok.mk) | ((conv => whnf); exact True.intro) | ((conv => whnf); refine Nx.mk ?_) | ((conv => whnf); refine Fin.mk ?_) | ((conv => whnf); intro _))
    all_goals ((try refine VC.mk ?_); (try simp only [CL.ncell, CL.cnt, Int.toNat_natCast, decide_eq_true_eq, decide_eq_false_iff_not, Bool.not_eq_true, Bool.not_false, Bool.not_true, and_self, and_true, true_and, te3b, te4b, te3s, te4s, Nat.mul_one, Nat.zero_add, List.length_cons, List.length_nil, Bool.false_eq_true, Bool.true_eq_false] at *); (try omega))
    all_goals (try (exfalso; omega))
    all_goals all_goals (refine Sup.via ?_; repeat' (first | ((conv => whnf); refine And.intro ?_ ?_) | ((conv => whnf); with_reducible exact VC.mk rfl) | ((conv => whnf); exact Ok.mk) | ((conv => whnf); exact True.intro) | ((conv => whnf); refine Nx.mk ?_) | ((conv => whnf); refine Fin.mk ?_) | ((conv => whnf); intro _)); all_goals ((try refine VC.mk ?_); (try simp only [CL.ncell, CL.cnt, Int.toNat_natCast, decide_eq_true_eq, decide_eq_false_iff_not, Bool.not_eq_true, Bool.not_false, Bool.not_true, and_self, and_true, true_and, te3b, te4b, te3s, te4s, Nat.mul_one, Nat.zero_add, List.length_cons, List.length_nil, Bool.false_eq_true, Bool.true_eq_false] at *); (try omega)); all_goals (try (simp [CL.sub]; done)))
    all_goals (try rfl)
  · rw [if_neg c2] at hz; subst hz
    refine pspec_of (md := 0) (rf := []) mixed tabOK noC_ok Try.func41 (by rfl) (by rfl) (by rfl) ?_
    repeat' (first | ((conv => whnf); refine And.intro ?_ ?_) | ((conv => whnf); with_reducible exact VC.mk rfl) | ((conv => whnf); exact Ok.mk) | ((conv => whnf); exact True.intro) | ((conv => whnf); refine Nx.mk ?_) | ((conv => whnf); refine Fin.mk ?_) | ((conv => whnf); intro _))
    all_goals ((try refine VC.mk ?_); (try simp only [CL.ncell, CL.cnt, Int.toNat_natCast, decide_eq_true_eq, decide_eq_false_iff_not, Bool.not_eq_true, Bool.not_false, Bool.not_true, and_self, and_true, true_and, te3b, te4b, te3s, te4s, Nat.mul_one, Nat.zero_add, List.length_cons, List.length_nil, Bool.false_eq_true, Bool.true_eq_false] at *); (try omega))
    all_goals (try (exfalso; omega))
    all_goals all_goals (refine Sup.via ?_; repeat' (first | ((conv => whnf); refine And.intro ?_ ?_) | ((conv => whnf); with_reducible exact VC.mk rfl) | ((conv => whnf); exact Ok.mk) | ((conv => whnf); exact True.intro) | ((conv => whnf); refine Nx.mk ?_) | ((conv => whnf); refine Fin.mk ?_) | ((conv => whnf); intro _)); all_goals ((try refine VC.mk ?_); (try simp only [CL.ncell, CL.cnt, Int.toNat_natCast, decide_eq_true_eq, decide_eq_false_iff_not, Bool.not_eq_true, Bool.not_false, Bool.not_true, and_self, and_true, true_and, te3b, te4b, te3s, te4s, Nat.mul_one, Nat.zero_add, List.length_cons, List.length_nil, Bool.false_eq_true, Bool.true_eq_false] at *); (try omega)); all_goals (try (simp [CL.sub]; done)))
    all_goals (try rfl)
end Go.Eng.Ytppflbccfdbogaa
namespace Go.Eng.Ytppflbccfdbogaa
open Go.Proofs
set_option maxRecDepth 100000
set_option maxHeartbeats 0
set_option linter.unusedVariables false
set_option linter.unusedSimpArgs false
theorem mod4_spec (a : Int) : PSpec Try.prog 96 [.int .i64 a, .int .i64 4] (.int .i64 (a % 4)) := by
  have h1 : -4 < a.tmod 4 := by have := Int.lt_tmod_of_pos a (show (0 : Int) < 4 by decide); omega
  have h2 : a.tmod 4 < 4 := Int.tmod_lt_of_pos a (by decide)
  have h3 : (a.tmod 4 + 4).tmod 4 = a % 4 := by
    rw [Int.tmod_eq_emod_of_nonneg (by omega), Int.add_emod_right]
    have := Int.mul_tdiv_add_tmod a 4
    omega
  refine pspec_of (md := 1) (rf := []) mixed tabOK noC_ok Try.func96 (by rfl) (by rfl) (by rfl) ?_
  repeat' (first | ((conv => whnf); refine And.intro ?_ ?_) | ((conv => whnf); with_reducible exact VC.mk rfl) | ((conv => whnf); exact Ok.mk) | ((conv => whnf); exact True.intro) | ((conv => whnf); refine Nx.mk ?_) | ((conv => whnf); refine Fin.mk ?_) | ((conv => whnf); intro _))
  all_goals ((try refine VC.mk ?_); (try simp only [CL.ncell, CL.cnt, Int.toNat_natCast, decide_eq_true_eq, decide_eq_false_iff_not, Bool.not_eq_true, Bool.not_false, Bool.not_true, and_self, and_true, true_and, te3b, te4b, te3s, te4s, Nat.mul_one, Nat.zero_add, List.length_cons, List.length_nil, Bool.false_eq_true, Bool.true_eq_false] at *); (try omega))
  rw [h3]; exact Sup.of rfl
def cMagV (n : Int) : PV := if n < 1 ∨ 16 < n then noGrid 3 else magV n
theorem magic_spec' (n : Int) : PSpec Try.prog 32 [.int .i64 n] (cMagV n) := by
  have hM := mod4_spec n
  have hcase : n % 4 = 0 ∨ n % 4 = 1 ∨ n % 4 = 2 ∨ n % 4 = 3 := by omega
  generalize hz : cMagV n = z
  unfold cMagV magV at hz
  rcases hcase with h | h | h | h
  · rw [h] at hM
    have hC := cpAdd_ok (pureCC_ok (atC_ok (C := True) fun _ => hM)) (cpAdd_ok (pureCC_ok orderly_pok) noC_ok)
    refine pspec_of (md := 1) (rf := []) mixed tabOK hC Try.func32 (by rfl) (by rfl) (by rfl) ?_
    repeat' (first | ((conv => whnf); refine And.intro ?_ ?_) | ((conv => whnf); with_reducible exact VC.mk rfl) | ((conv => whnf); exact Ok.mk) | ((conv => whnf); exact True.intro) | ((conv => whnf); refine Nx.mk ?_) | ((conv => whnf); refine Fin.mk ?_) | ((conv => whnf); intro _))
    all_goals ((try refine VC.mk ?_); (try simp only [CL.ncell, CL.cnt, Int.toNat_natCast, decide_eq_true_eq, decide_eq_false_iff_not, Bool.not_eq_true, Bool.not_false, Bool.not_true, and_self, and_true, true_and, te3b, te4b, te3s, te4s, Nat.mul_one, Nat.zero_add, List.length_cons, List.length_nil, Bool.false_eq_true, Bool.true_eq_false] at *); (try omega))
    · rw [← hz, if_pos ‹_›]; all_goals (refine Sup.via ?_; repeat' (first | ((conv => whnf); refine And.intro ?_ ?_) | ((conv => whnf); with_reducible exact VC.mk rfl) | ((conv => whnf); exact Ok.mk) | ((conv => whnf); exact True.intro) | ((conv => whnf); refine Nx.mk ?_) | ((conv => whnf); refine Fin.mk ?_) | ((conv => whnf); intro _)); all_goals ((try refine VC.mk ?_); (try simp only [CL.ncell, CL.cnt, Int.toNat_natCast, decide_eq_true_eq, decide_eq_false_iff_not, Bool.not_eq_true, Bool.not_false, Bool.not_true, and_self, and_true, true_and, te3b, te4b, te3s, te4s, Nat.mul_one, Nat.zero_add, List.length_cons, List.length_nil, Bool.false_eq_true, Bool.true_eq_false] at *); (try omega)); all_goals (try (simp [CL.sub]; done)))
    · refine ⟨n, n, dblL n, cDbl_spec n (by omega), ?_⟩
      repeat' (first | ((conv => whnf); refine And.intro ?_ ?_) | ((conv => whnf); with_reducible exact VC.mk rfl) | ((conv => whnf); exact Ok.mk) | ((conv => whnf); exact True.intro) | ((conv => whnf); refine Nx.mk ?_) | ((conv => whnf); refine Fin.mk ?_) | ((conv => whnf); intro _))
      all_goals ((try refine VC.mk ?_); (try simp only [CL.ncell, CL.cnt, Int.toNat_natCast, decide_eq_true_eq, decide_eq_false_iff_not, Bool.not_eq_true, Bool.not_false, Bool.not_true, and_self, and_true, true_and, te3b, te4b, te3s, te4s, Nat.mul_one, Nat.zero_add, List.length_cons, List.length_nil, Bool.false_eq_true, Bool.true_eq_false] at *); (try omega))
      rw [← hz, if_neg ‹_›, if_neg (by omega), if_neg (by omega), if_pos (by omega)]
      all_goals (refine Sup.via ?_; repeat' (first | ((conv => whnf); refine And.intro ?_ ?_) | ((conv => whnf); with_reducible exact VC.mk rfl) | ((conv => whnf); exact Ok.mk) | ((conv => whnf); exact True.intro) | ((conv => whnf); refine Nx.mk ?_) | ((conv => whnf); refine Fin.mk ?_) | ((conv => whnf); intro _)); all_goals ((try refine VC.mk ?_); (try simp only [CL.ncell, CL.cnt, Int.toNat_natCast, decide_eq_true_eq, decide_eq_false_iff_not, Bool.not_eq_true, Bool.not_false, Bool.not_true, and_self, and_true, true_and, te3b, te4b, te3s, te4s, Nat.mul_one, Nat.zero_add, List.length_cons, List.length_nil, Bool.false_eq_true, Bool.true_eq_false] at *); (try omega)); all_goals (try (simp [CL.sub]; done)))
  · rw [h] at hM
    have hC := cpAdd_ok (pureCC_ok (atC_ok (C := True) fun _ => hM)) (cpAdd_ok (pureCC_ok orderly_pok) noC_ok)
    refine pspec_of (md := 1) (rf := []) mixed tabOK hC Try.func32 (by rfl) (by rfl) (by rfl) ?_
    repeat' (first | ((conv => whnf); refine And.intro ?_ ?_) | ((conv => whnf); with_reducible exact VC.mk rfl) | ((conv => whnf); exact Ok.mk) | ((conv => whnf); exact True.intro) | ((conv => whnf); refine Nx.mk ?_) | ((conv => whnf); refine Fin.mk ?_) | ((conv => whnf); intro _))
    all_goals ((try refine VC.mk ?_); (try simp only [CL.ncell, CL.cnt, Int.toNat_natCast, decide_eq_true_eq, decide_eq_false_iff_not, Bool.not_eq_true, Bool.not_false, Bool.not_true, and_self, and_true, true_and, te3b, te4b, te3s, te4s, Nat.mul_one, Nat.zero_add, List.length_cons, List.length_nil, Bool.false_eq_true, Bool.true_eq_false] at *); (try omega))
    · rw [← hz, if_pos ‹_›]; all_goals (refine Sup.via ?_; repeat' (first | ((conv => whnf); refine And.intro ?_ ?_) | ((conv => whnf); with_reducible exact VC.mk rfl) | ((conv => whnf); exact Ok.mk) | ((conv => whnf); exact True.intro) | ((conv => whnf); refine Nx.mk ?_) | ((conv => whnf); refine Fin.mk ?_) | ((conv => whnf); intro _)); all_goals ((try refine VC.mk ?_); (try simp only [CL.ncell, CL.cnt, Int.toNat_natCast, decide_eq_true_eq, decide_eq_false_iff_not, Bool.not_eq_true, Bool.not_false, Bool.not_true, and_self, and_true, true_and, te3b, te4b, te3s, te4s, Nat.mul_one, Nat.zero_add, List.length_cons, List.length_nil, Bool.false_eq_true, Bool.true_eq_false] at *); (try omega)); all_goals (try (simp [CL.sub]; done)))
    · refine ⟨n, n, siaL n, cSia_spec n (by omega), ?_⟩
      repeat' (first | ((conv => whnf); refine And.intro ?_ ?_) | ((conv => whnf); with_reducible exact VC.mk rfl) | ((conv => whnf); exact Ok.mk) | ((conv => whnf); exact True.intro) | ((conv => whnf); refine Nx.mk ?_) | ((conv => whnf); refine Fin.mk ?_) | ((conv => whnf); intro _))
      all_goals ((try refine VC.mk ?_); (try simp only [CL.ncell, CL.cnt, Int.toNat_natCast, decide_eq_true_eq, decide_eq_false_iff_not, Bool.not_eq_true, Bool.not_false, Bool.not_true, and_self, and_true, true_and, te3b, te4b, te3s, te4s, Nat.mul_one, Nat.zero_add, List.length_cons, List.length_nil, Bool.false_eq_true, Bool.true_eq_false] at *); (try omega))
      rw [← hz, if_neg ‹_›, if_neg (by omega), if_pos (by omega)]
      all_goals (refine Sup.via ?_; repeat' (first | ((conv => whnf); refine And.intro ?_ ?_) | ((conv => whnf); with_reducible exact VC.mk rfl) | ((conv => whnf); exact Ok.mk) | ((conv => whnf); exact True.intro) | ((conv => whnf); refine Nx.mk ?_) | ((conv => whnf); refine Fin.mk ?_) | ((conv => whnf); intro _)); all_goals ((try refine VC.mk ?_); (try simp only [CL.ncell, CL.cnt, Int.toNat_natCast, decide_eq_true_eq, decide_eq_false_iff_not, Bool.not_eq_true, Bool.not_false, Bool.not_true, and_self, and_true, true_and, te3b, te4b, te3s, te4s, Nat.mul_one, Nat.zero_add, List.length_cons, List.length_nil, Bool.false_eq_true, Bool.true_eq_false] at *); (try omega)); all_goals (try (simp [CL.sub]; done)))
  · rw [h] at hM
    have hC := cpAdd_ok (pureCC_ok (atC_ok (C := True) fun _ => hM)) (cpAdd_ok (pureCC_ok orderly_pok) noC_ok)
    refine pspec_of (md := 1) (rf := []) mixed tabOK hC Try.func32 (by rfl) (by rfl) (by rfl) ?_
    repeat' (first | ((conv => whnf); refine And.intro ?_ ?_) | ((conv => whnf); with_reducible exact VC.mk rfl) | ((conv => whnf); exact Ok.mk) | ((conv => whnf); exact True.intro) | ((conv => whnf); refine Nx.mk ?_) | ((conv => whnf); refine Fin.mk ?_) | ((conv => whnf); intro _))
    all_goals ((try refine VC.mk ?_); (try simp only [CL.ncell, CL.cnt, Int.toNat_natCast, decide_eq_true_eq, decide_eq_false_iff_not, Bool.not_eq_true, Bool.not_false, Bool.not_true, and_self, and_true, true_and, te3b, te4b, te3s, te4s, Nat.mul_one, Nat.zero_add, List.length_cons, List.length_nil, Bool.false_eq_true, Bool.true_eq_false] at *); (try omega))
    · rw [← hz, if_pos ‹_›]; all_goals (refine Sup.via ?_; repeat' (first | ((conv => whnf); refine And.intro ?_ ?_) | ((conv => whnf); with_reducible exact VC.mk rfl) | ((conv => whnf); exact Ok.mk) | ((conv => whnf); exact True.intro) | ((conv => whnf); refine Nx.mk ?_) | ((conv => whnf); refine Fin.mk ?_) | ((conv => whnf); intro _)); all_goals ((try refine VC.mk ?_); (try simp only [CL.ncell, CL.cnt, Int.toNat_natCast, decide_eq_true_eq, decide_eq_false_iff_not, Bool.not_eq_true, Bool.not_false, Bool.not_true, and_self, and_true, true_and, te3b, te4b, te3s, te4s, Nat.mul_one, Nat.zero_add, List.length_cons, List.length_nil, Bool.false_eq_true, Bool.true_eq_false] at *); (try omega)); all_goals (try (simp [CL.sub]; done)))
    · rw [← hz, if_neg ‹_›, if_pos (by omega)]; all_goals (refine Sup.via ?_; repeat' (first | ((conv => whnf); refine And.intro ?_ ?_) | ((conv => whnf); with_reducible exact VC.mk rfl) | ((conv => whnf); exact Ok.mk) | ((conv => whnf); exact True.intro) | ((conv => whnf); refine Nx.mk ?_) | ((conv => whnf); refine Fin.mk ?_) | ((conv => whnf); intro _)); all_goals ((try refine VC.mk ?_); (try simp only [CL.ncell, CL.cnt, Int.toNat_natCast, decide_eq_true_eq, decide_eq_false_iff_not, Bool.not_eq_true, Bool.not_false, Bool.not_true, and_self, and_true, true_and, te3b, te4b, te3s, te4s, Nat.mul_one, Nat.zero_add, List.length_cons, List.length_nil, Bool.false_eq_true, Bool.true_eq_false] at *); (try omega)); all_goals (try (simp [CL.sub]; done)))
    · refine ⟨n, n, sglL (n / 2).toNat, cSglP_pspec (by omega), ?_⟩
      repeat' (first | ((conv => whnf); refine And.intro ?_ ?_) | ((conv => whnf); with_reducible exact VC.mk rfl) | ((conv => whnf); exact Ok.mk) | ((conv => whnf); exact True.intro) | ((conv => whnf); refine Nx.mk ?_) | ((conv => whnf); refine Fin.mk ?_) | ((conv => whnf); intro _))
      all_goals ((try refine VC.mk ?_); (try simp only [CL.ncell, CL.cnt, Int.toNat_natCast, decide_eq_true_eq, decide_eq_false_iff_not, Bool.not_eq_true, Bool.not_false, Bool.not_true, and_self, and_true, true_and, te3b, te4b, te3s, te4s, Nat.mul_one, Nat.zero_add, List.length_cons, List.length_nil, Bool.false_eq_true, Bool.true_eq_false] at *); (try omega))
      rw [← hz, if_neg ‹_›, if_neg (by omega), if_neg (by omega), if_neg (by omega)]
      all_goals (refine Sup.via ?_; repeat' (first | ((conv => whnf); refine And.intro ?_ ?_) | ((conv => whnf); with_reducible exact VC.mk rfl) | ((conv => whnf); exact Ok.mk) | ((conv => whnf); exact True.intro) | ((conv => whnf); refine Nx.mk ?_) | ((conv => whnf); refine Fin.mk ?_) | ((conv => whnf); intro _)); all_goals ((try refine VC.mk ?_); (try simp only [CL.ncell, CL.cnt, Int.toNat_natCast, decide_eq_true_eq, decide_eq_false_iff_not, Bool.not_eq_true, Bool.not_false, Bool.not_true, and_self, and_true, true_and, te3b, te4b, te3s, te4s, Nat.mul_one, Nat.zero_add, List.length_cons, List.length_nil, Bool.false_eq_true, Bool.true_eq_false] at *); (try omega)); all_goals (try (simp [CL.sub]; done)))
  · rw [h] at hM
    have hC := cpAdd_ok (pureCC_ok (atC_ok (C := True) fun _ => hM)) (cpAdd_ok (pureCC_ok orderly_pok) noC_ok)
    refine pspec_of (md := 1) (rf := []) mixed tabOK hC Try.func32 (by rfl) (by rfl) (by rfl) ?_
    repeat' (first | ((conv => whnf); refine And.intro ?_ ?_) | ((conv => whnf); with_reducible exact VC.mk rfl) | ((conv => whnf); exact Ok.mk) | ((conv => whnf); exact True.intro) | ((conv => whnf); refine Nx.mk ?_) | ((conv => whnf); refine Fin.mk ?_) | ((conv => whnf); intro _))
    all_goals ((try refine VC.mk ?_); (try simp only [CL.ncell, CL.cnt, Int.toNat_natCast, decide_eq_true_eq, decide_eq_false_iff_not, Bool.not_eq_true, Bool.not_false, Bool.not_true, and_self, and_true, true_and, te3b, te4b, te3s, te4s, Nat.mul_one, Nat.zero_add, List.length_cons, List.length_nil, Bool.false_eq_true, Bool.true_eq_false] at *); (try omega))
    · rw [← hz, if_pos ‹_›]; all_goals (refine Sup.via ?_; repeat' (first | ((conv => whnf); refine And.intro ?_ ?_) | ((conv => whnf); with_reducible exact VC.mk rfl) | ((conv => whnf); exact Ok.mk) | ((conv => whnf); exact True.intro) | ((conv => whnf); refine Nx.mk ?_) | ((conv => whnf); refine Fin.mk ?_) | ((conv => whnf); intro _)); all_goals ((try refine VC.mk ?_); (try simp only [CL.ncell, CL.cnt, Int.toNat_natCast, decide_eq_true_eq, decide_eq_false_iff_not, Bool.not_eq_true, Bool.not_false, Bool.not_true, and_self, and_true, true_and, te3b, te4b, te3s, te4s, Nat.mul_one, Nat.zero_add, List.length_cons, List.length_nil, Bool.false_eq_true, Bool.true_eq_false] at *); (try omega)); all_goals (try (simp [CL.sub]; done)))
    · refine ⟨n, n, siaL n, cSia_spec n (by omega), ?_⟩
      repeat' (first | ((conv => whnf); refine And.intro ?_ ?_) | ((conv => whnf); with_reducible exact VC.mk rfl) | ((conv => whnf); exact Ok.mk) | ((conv => whnf); exact True.intro) | ((conv => whnf); refine Nx.mk ?_) | ((conv => whnf); refine Fin.mk ?_) | ((conv => whnf); intro _))
      all_goals ((try refine VC.mk ?_); (try simp only [CL.ncell, CL.cnt, Int.toNat_natCast, decide_eq_true_eq, decide_eq_false_iff_not, Bool.not_eq_true, Bool.not_false, Bool.not_true, and_self, and_true, true_and, te3b, te4b, te3s, te4s, Nat.mul_one, Nat.zero_add, List.length_cons, List.length_nil, Bool.false_eq_true, Bool.true_eq_false] at *); (try omega))
      rw [← hz, if_neg ‹_›, if_neg (by omega), if_pos (by omega)]
      all_goals (refine Sup.via ?_; repeat' (first | ((conv => whnf); refine And.intro ?_ ?_) | ((conv => whnf); with_reducible exact VC.mk rfl) | ((conv => whnf); exact Ok.mk) | ((conv => whnf); exact True.intro) | ((conv => whnf); refine Nx.mk ?_) | ((conv => whnf); refine Fin.mk ?_) | ((conv => whnf); intro _)); all_goals ((try refine VC.mk ?_); (try simp only [CL.ncell, CL.cnt, Int.toNat_natCast, decide_eq_true_eq, decide_eq_false_iff_not, Bool.not_eq_true, Bool.not_false, Bool.not_true, and_self, and_true, true_and, te3b, te4b, te3s, te4s, Nat.mul_one, Nat.zero_add, List.length_cons, List.length_nil, Bool.false_eq_true, Bool.true_eq_false] at *); (try omega)); all_goals (try (simp [CL.sub]; done)))
/-! the values of the orders -/
theorem uniL_len {n s0 s1 x0 x1 b0 b1 : Int} (hn : 1 ≤ n ∧ n ≤ 16) : (uniL n s0 s1 x0 x1 b0 b1).length ≤ 256 := by
  have := mul_bd (show 0 ≤ n ∧ n ≤ 16 by omega) (show 0 ≤ n ∧ n ≤ 16 by omega)
  unfold uniL; rw [gAt_len]; omega
theorem madeL_le {n : Nat} (hn : n ≤ 16) (h : Nat → Nat → Int) : (madeL n h).length ≤ 256 := by
  have := Nat.mul_le_mul hn hn
  simp [madeL]; omega
/-- a result as the law looks at it -/
def IsRes (v : PV) (bad : Int) (r c : Int) (l : List Int) : Prop := ∃ (r0 c0 : Int) (l0 : List Int) (e : Int), v = .tup [gridV r0 c0 l0, .int .i64 e] ∧ l0.length ≤ 2000000 ∧ MadeOK r0 c0 l0 e r c l bad
theorem isRes_no {bad r c : Int} {l : List Int} (h : bad ≠ 0) : IsRes (noGrid bad) bad r c l := ⟨0, 0, [], bad, rfl, by simp, .inl ⟨h, rfl, rfl, rfl, rfl⟩⟩
theorem isRes_ok {r c : Int} {l : List Int} (h : l.length ≤ 256) : IsRes (okGrid r c l) 0 r c l := ⟨r, c, l, 0, rfl, by omega, .inr ⟨rfl, rfl, rfl, rfl, rfl⟩⟩
theorem gridOr_res {n : Int} {h : Prop} [Decidable h] {l : List Int} (hl : 1 ≤ n ∧ n ≤ 16 → h → l.length ≤ 256) : IsRes (gridOr n h l) (if n < 1 ∨ 16 < n then 3 else if h then 0 else 7) n n l := by
  unfold gridOr
  by_cases h1 : n < 1 ∨ 16 < n
  · rw [if_pos h1, if_pos h1]; exact isRes_no (by decide)
  · rw [if_neg h1, if_neg h1]
    by_cases h2 : h
    · rw [if_pos h2, if_pos h2]; exact isRes_ok (hl (by omega) h2)
    · rw [if_neg h2, if_neg h2]; exact isRes_no (by decide)
end Go.Eng.Ytppflbccfdbogaa
namespace Go.Eng.Ytppflbccfdbogaa
open Go.Proofs
set_option maxRecDepth 100000
set_option maxHeartbeats 0
set_option linter.unusedVariables false
set_option linter.unusedSimpArgs false
theorem madeL_flat (n : Nat) (g : Nat → Int) : madeL n (fun i j => g (n * i + j)) = (List.range (n * n)).map g := by
  unfold madeL
  exact List.map_congr_left fun k _ => by simp only [Nat.div_add_mod]
def dgA (n : Int) (l : List Int) (k : Nat) : Int := (l.getD k 0 - 1) % n
def dgB (n : Int) (l : List Int) (k : Nat) : Int := (l.getD k 0 - 1) / n
def dgC (n : Int) (a b : List Int) (k : Nat) : Int := a.getD k 0 + n * b.getD k 0 + 1
def flatL (N : Nat) (g : Nat → Int) : List Int := (List.range N).map g
def out3 (r : Int) (x : Int) : Bool := decide (x < 0 ∨ r ≤ x)
def digErr (r c : Int) (l : List Int) : Int := if sqErr r c l = 0 then (if l.any (out3 r) then 3 else 0) else sqErr r c l
theorem bd_of {l : List Int} {lo hi : Int} (h : ∀ x ∈ l, lo ≤ x ∧ x ≤ hi) {k : Nat} (hk : k < l.length) : lo ≤ l.getD k 0 ∧ l.getD k 0 ≤ hi := by
  rw [List.getD_eq_getElem?_getD, List.getElem?_eq_getElem hk]
  exact h _ (List.getElem_mem _)
theorem flat_idx {n i j : Nat} (hi : i < n) (hj : j < n) : n * i + j < n * n := by
  have := Nat.mul_le_mul_left n (show i + 1 ≤ n by omega)
  rw [Nat.mul_add] at this; omega
theorem c108_spec (n : Nat) (c : Int) (l : List Int) (i j : Nat) (hn : 1 ≤ n ∧ n ≤ 16) (hl : l.length = n * n) (hb : ∀ x ∈ l, 1 ≤ x ∧ x ≤ 256) (hi : i < n) (hj : j < n) :
    PSpec Try.prog 108 ([] ++ [.int .i64 i, .int .i64 j] ++ [.ip (.pv [.int .i64 n, .int .i64 c, .isl (.ints .i64 l) .none]) 0, .ip (.pv [.int .i64 (n : Int)]) 0]) (.int .i64 (dgA n l (n * i + j))) := by
  have h1 := mul_bd (A := 16) (B := 16) (show 0 ≤ (n : Int) ∧ (n : Int) ≤ 16 by omega) (show 0 ≤ (i : Int) ∧ (i : Int) ≤ 16 by omega)
  have h2 := flat_idx hi hj
  have h3 := bd_of hb (k := n * i + j) (by omega)
  have h4 : (n : Int) * i + j = ((n * i + j : Nat) : Int) := by push_cast; rfl
  refine pspec_of (md := 0) (rf := []) mixed tabOK noC_ok Try.func108 (by rfl) (by rfl) (by rfl) ?_
  repeat' (first | ((conv => whnf); refine And.intro ?_ ?_) | ((conv => whnf); with_reducible exact VC.mk rfl) | ((conv => whnf); exact Ok.mk) | ((conv => whnf); exact True.intro) | ((conv => whnf); refine Nx.mk ?_) | ((conv => whnf); refine Fin.mk ?_) | ((conv => whnf); intro _))
  all_goals ((try refine VC.mk ?_); (try simp only [CL.ncell, CL.cnt, Int.toNat_natCast, decide_eq_true_eq, decide_eq_false_iff_not, Bool.not_eq_true, Bool.not_false, Bool.not_true, and_self, and_true, true_and, te3b, te4b, te3s, te4s, Nat.mul_one, Nat.zero_add, List.length_cons, List.length_nil, Bool.false_eq_true, Bool.true_eq_false] at *); (try omega))
  all_goals (try simp only [h4, Int.toNat_natCast])
  all_goals (try omega)
  all_goals exact Sup.of rfl
theorem c109_spec (n : Nat) (c : Int) (l : List Int) (i j : Nat) (hn : 1 ≤ n ∧ n ≤ 16) (hl : l.length = n * n) (hb : ∀ x ∈ l, 1 ≤ x ∧ x ≤ 256) (hi : i < n) (hj : j < n) :
    PSpec Try.prog 109 ([] ++ [.int .i64 i, .int .i64 j] ++ [.ip (.pv [.int .i64 n, .int .i64 c, .isl (.ints .i64 l) .none]) 0, .ip (.pv [.int .i64 (n : Int)]) 0]) (.int .i64 (dgB n l (n * i + j))) := by
  have h1 := mul_bd (A := 16) (B := 16) (show 0 ≤ (n : Int) ∧ (n : Int) ≤ 16 by omega) (show 0 ≤ (i : Int) ∧ (i : Int) ≤ 16 by omega)
  have h2 := flat_idx hi hj
  have h3 := bd_of hb (k := n * i + j) (by omega)
  have h4 : (n : Int) * i + j = ((n * i + j : Nat) : Int) := by push_cast; rfl
  have h5 := Int.ediv_le_self (a := l.getD (n * i + j) 0 - 1) n (by omega)
  have h6 : 0 ≤ (l.getD (n * i + j) 0 - 1) / n := Int.ediv_nonneg (by omega) (by omega)
  refine pspec_of (md := 0) (rf := []) mixed tabOK noC_ok Try.func109 (by rfl) (by rfl) (by rfl) ?_
  repeat' (first | ((conv => whnf); refine And.intro ?_ ?_) | ((conv => whnf); with_reducible exact VC.mk rfl) | ((conv => whnf); exact Ok.mk) | ((conv => whnf); exact True.intro) | ((conv => whnf); refine Nx.mk ?_) | ((conv => whnf); refine Fin.mk ?_) | ((conv => whnf); intro _))
  all_goals ((try refine VC.mk ?_); (try simp only [CL.ncell, CL.cnt, Int.toNat_natCast, decide_eq_true_eq, decide_eq_false_iff_not, Bool.not_eq_true, Bool.not_false, Bool.not_true, and_self, and_true, true_and, te3b, te4b, te3s, te4s, Nat.mul_one, Nat.zero_add, List.length_cons, List.length_nil, Bool.false_eq_true, Bool.true_eq_false] at *); (try omega))
  all_goals (try simp only [h4, Int.toNat_natCast])
  all_goals (try omega)
  all_goals exact Sup.of rfl
theorem c111_spec (n : Nat) (c c' : Int) (a b : List Int) (i j : Nat) (hn : 1 ≤ n ∧ n ≤ 16) (ha : a.length = n * n) (hb : b.length = n * n) (hab : ∀ x ∈ a, 0 ≤ x ∧ x ≤ 16) (hbb : ∀ x ∈ b, 0 ≤ x ∧ x ≤ 16) (hi : i < n) (hj : j < n) (r' : Int) :
    PSpec Try.prog 111 ([] ++ [.int .i64 i, .int .i64 j] ++ [.ip (.pv [.int .i64 n, .int .i64 c, .isl (.ints .i64 a) .none]) 0, .ip (.pv [.int .i64 (n : Int)]) 0, .ip (.pv [.int .i64 r', .int .i64 c', .isl (.ints .i64 b) .none]) 0]) (.int .i64 (dgC n a b (n * i + j))) := by
  have h1 := mul_bd (A := 16) (B := 16) (show 0 ≤ (n : Int) ∧ (n : Int) ≤ 16 by omega) (show 0 ≤ (i : Int) ∧ (i : Int) ≤ 16 by omega)
  have h2 := flat_idx hi hj
  have h3 := bd_of hab (k := n * i + j) (by omega)
  have h3' := bd_of hbb (k := n * i + j) (by omega)
  have h4 : (n : Int) * i + j = ((n * i + j : Nat) : Int) := by push_cast; rfl
  have h5 := mul_bd (A := 16) (B := 16) (show 0 ≤ (n : Int) ∧ (n : Int) ≤ 16 by omega) h3'
  refine pspec_of (md := 0) (rf := []) mixed tabOK noC_ok Try.func111 (by rfl) (by rfl) (by rfl) ?_
  repeat' (first | ((conv => whnf); refine And.intro ?_ ?_) | ((conv => whnf); with_reducible exact VC.mk rfl) | ((conv => whnf); exact Ok.mk) | ((conv => whnf); exact True.intro) | ((conv => whnf); refine Nx.mk ?_) | ((conv => whnf); refine Fin.mk ?_) | ((conv => whnf); intro _))
  all_goals ((try refine VC.mk ?_); (try simp only [CL.ncell, CL.cnt, Int.toNat_natCast, decide_eq_true_eq, decide_eq_false_iff_not, Bool.not_eq_true, Bool.not_false, Bool.not_true, and_self, and_true, true_and, te3b, te4b, te3s, te4s, Nat.mul_one, Nat.zero_add, List.length_cons, List.length_nil, Bool.false_eq_true, Bool.true_eq_false] at *); (try omega))
  all_goals (try simp only [h4, Int.toNat_natCast])
  all_goals (try omega)
  all_goals exact Sup.of rfl
theorem c142_spec (r c : Int) (l : List Int) (x : Int) : PSpec Try.prog 142 ([] ++ [.int .i64 x] ++ [.ip (.pv [.int .i64 r, .int .i64 c, .isl (.ints .i64 l) .none]) 0]) (.bp (out3 r x)) := by
  refine pspec_of (md := 0) (rf := []) mixed tabOK noC_ok Try.func142 (by rfl) (by rfl) (by rfl) ?_
  repeat' (first | ((conv => whnf); refine And.intro ?_ ?_) | ((conv => whnf); with_reducible exact VC.mk rfl) | ((conv => whnf); exact Ok.mk) | ((conv => whnf); exact True.intro) | ((conv => whnf); refine Nx.mk ?_) | ((conv => whnf); refine Fin.mk ?_) | ((conv => whnf); intro _))
  all_goals ((try refine VC.mk ?_); (try simp only [CL.ncell, CL.cnt, Int.toNat_natCast, decide_eq_true_eq, decide_eq_false_iff_not, Bool.not_eq_true, Bool.not_false, Bool.not_true, and_self, and_true, true_and, te3b, te4b, te3s, te4s, Nat.mul_one, Nat.zero_add, List.length_cons, List.length_nil, Bool.false_eq_true, Bool.true_eq_false] at *); (try omega))
  · refine sup_bp' ?_; unfold out3; rw [Bool.eq_iff_iff]; simp only [decide_eq_true_eq]; omega
  · refine sup_bool ?_; unfold out3; rw [decide_eq_true_eq]; omega
noncomputable def cpCD : CPT := cpAdd 126 (pureCC checkSquareP) (cpAdd 141 (pureCC hasFP) (cpAdd 86 (pureCC whenP) (cpAdd 87 (pureCC CheckSquareP) noC)))
theorem cpCD_ok : CPOK Try.prog cpCD := cpAdd_ok (pureCC_ok checkSquare_ok) (cpAdd_ok (pureCC_ok hasF_ok) (cpAdd_ok (pureCC_ok when_ok) (cpAdd_ok (pureCC_ok CheckSquare_ok) noC_ok)))
theorem digErr_or (r c : Int) (l : List Int) : digErr r c l = 0 ∨ digErr r c l = 2 ∨ digErr r c l = 3 := by
  unfold digErr sqErr
  (repeat' split) <;> simp
theorem checkDigits_spec (r c : Int) (l : List Int) : PSpec Try.prog 110 [gridV r c l] (.int .i64 (digErr r c l)) := by
  have hz := @sqErr_zero r c l
  unfold digErr
  refine pspec_of (md := 1) (rf := []) mixed tabOK cpCD_ok Try.func110 (by rfl) (by rfl) (by rfl) ?_
  repeat' (first | ((conv => whnf); refine And.intro ?_ ?_) | ((conv => whnf); with_reducible exact VC.mk rfl) | ((conv => whnf); exact Ok.mk) | ((conv => whnf); exact True.intro) | ((conv => whnf); refine Nx.mk ?_) | ((conv => whnf); refine Fin.mk ?_) | ((conv => whnf); intro _))
  all_goals ((try refine VC.mk ?_); (try simp only [CL.ncell, CL.cnt, Int.toNat_natCast, decide_eq_true_eq, decide_eq_false_iff_not, Bool.not_eq_true, Bool.not_false, Bool.not_true, and_self, and_true, true_and, te3b, te4b, te3s, te4s, Nat.mul_one, Nat.zero_add, List.length_cons, List.length_nil, Bool.false_eq_true, Bool.true_eq_false] at *); (try omega))
  · rw [if_neg (by omega)]; all_goals (first | (refine Sup.of ?_; first | rfl | (simp [*, resOf]; done)) | (refine Sup.via ?_; repeat' (first | ((conv => whnf); refine And.intro ?_ ?_) | ((conv => whnf); with_reducible exact VC.mk rfl) | ((conv => whnf); exact Ok.mk) | ((conv => whnf); exact True.intro) | ((conv => whnf); refine Nx.mk ?_) | ((conv => whnf); refine Fin.mk ?_) | ((conv => whnf); intro _)); all_goals ((try refine VC.mk ?_); (try simp only [CL.ncell, CL.cnt, Int.toNat_natCast, decide_eq_true_eq, decide_eq_false_iff_not, Bool.not_eq_true, Bool.not_false, Bool.not_true, and_self, and_true, true_and, te3b, te4b, te3s, te4s, Nat.mul_one, Nat.zero_add, List.length_cons, List.length_nil, Bool.false_eq_true, Bool.true_eq_false] at *); (try omega)); all_goals (try (simp [CL.sub]; done))))
  have he : sqErr r c l = 0 := by omega
  obtain ⟨z1, z2, z3, z4, z5⟩ := hz he
  · exact ⟨by omega, rfl, rfl⟩
  rw [if_pos (by omega)]
  refine ⟨out3 r, fun x hx => c142_spec r c l x, ?_⟩
  repeat' (first | ((conv => whnf); refine And.intro ?_ ?_) | ((conv => whnf); with_reducible exact VC.mk rfl) | ((conv => whnf); exact Ok.mk) | ((conv => whnf); exact True.intro) | ((conv => whnf); refine Nx.mk ?_) | ((conv => whnf); refine Fin.mk ?_) | ((conv => whnf); intro _))
  all_goals ((try refine VC.mk ?_); (try simp only [CL.ncell, CL.cnt, Int.toNat_natCast, decide_eq_true_eq, decide_eq_false_iff_not, Bool.not_eq_true, Bool.not_false, Bool.not_true, and_self, and_true, true_and, te3b, te4b, te3s, te4s, Nat.mul_one, Nat.zero_add, List.length_cons, List.length_nil, Bool.false_eq_true, Bool.true_eq_false] at *); (try omega))
  all_goals (first | (refine Sup.of ?_; first | rfl | (simp [*, resOf]; done)) | (refine Sup.via ?_; repeat' (first | ((conv => whnf); refine And.intro ?_ ?_) | ((conv => whnf); with_reducible exact VC.mk rfl) | ((conv => whnf); exact Ok.mk) | ((conv => whnf); exact True.intro) | ((conv => whnf); refine Nx.mk ?_) | ((conv => whnf); refine Fin.mk ?_) | ((conv => whnf); intro _)); all_goals ((try refine VC.mk ?_); (try simp only [CL.ncell, CL.cnt, Int.toNat_natCast, decide_eq_true_eq, decide_eq_false_iff_not, Bool.not_eq_true, Bool.not_false, Bool.not_true, and_self, and_true, true_and, te3b, te4b, te3s, te4s, Nat.mul_one, Nat.zero_add, List.length_cons, List.length_nil, Bool.false_eq_true, Bool.true_eq_false] at *); (try omega)); all_goals (try (simp [CL.sub]; done))))
def checkDigitsP : PSp := fun xs K => match xs with
  | [.agg [.int .i64 r, .int .i64 c, .isl (.ints .i64 l) .none]] => VC (True) ∧ K (.int .i64 (digErr r c l))
  | _ => False
theorem checkDigits_ok : POK Try.prog 110 checkDigitsP := by
  intro xs K h
  unfold checkDigitsP at h
  split at h
  · exact ⟨_, h.2, checkDigits_spec _ _ _⟩
  · exact h.elim
theorem any_take_succ (p : Int → Bool) (l : List Int) (i : Nat) (h : i < l.length) : (l.take (i + 1)).any p = ((l.take i).any p || p (l.getD i 0)) := by
  rw [List.take_add_one, List.any_append]
  simp [h]
theorem rCheckDigits_spec (r c : Int) (l : List Int) : PSpec Try.prog 62 [gridV r c l] (.int .i64 (digErr r c l)) := by
  have hz := @sqErr_zero r c l
  by_cases he : sqErr r c l = 0
  · obtain ⟨z1, z2, z3, z4, z5⟩ := hz he
    have hd : digErr r c l = if l.any (out3 r) then 3 else 0 := by unfold digErr; rw [if_pos he]
    rw [hd]
    refine pspec_of (md := 1) (rf := []) mixed tabOK cpCD_ok Try.func62 (by rfl) (by rfl) (by rfl) ?_
    repeat' (first | ((conv => whnf); refine And.intro ?_ ?_) | ((conv => whnf); with_reducible exact VC.mk rfl) | ((conv => whnf); exact Ok.mk) | ((conv => whnf); exact True.intro) | ((conv => whnf); refine Nx.mk ?_) | ((conv => whnf); refine Fin.mk ?_) | ((conv => whnf); intro _))
    all_goals ((try refine VC.mk ?_); (try simp only [CL.ncell, CL.cnt, Int.toNat_natCast, decide_eq_true_eq, decide_eq_false_iff_not, Bool.not_eq_true, Bool.not_false, Bool.not_true, and_self, and_true, true_and, te3b, te4b, te3s, te4s, Nat.mul_one, Nat.zero_add, List.length_cons, List.length_nil, Bool.false_eq_true, Bool.true_eq_false] at *); (try omega))
    rw [he]
    conv => whnf
    refine loop_of (X := Nat × Int) (fun x => x.1 ≤ l.length ∧ x.2 = (if (l.take x.1).any (out3 r) then 3 else 0) ∧ ((l.take x.1).any (out3 r) = true → 1 ≤ x.1 ∧ (l.take (x.1 - 1)).any (out3 r) = false)) (fun x => [(4, .int .i64 x.1), (3, .int .i64 x.2)]) (fun x => []) (fun x => l.length - x.1) (0, 0) ⟨anyB_ok, mixed, tabOK, cpCD_ok, noY_ok⟩ (by rfl) ⟨by omega, by simp, by simp⟩ ?_ ?_
    · repeat' (first | ((conv => whnf); refine And.intro ?_ ?_) | ((conv => whnf); with_reducible exact VC.mk rfl) | ((conv => whnf); exact Ok.mk) | ((conv => whnf); exact True.intro) | ((conv => whnf); refine Nx.mk ?_) | ((conv => whnf); refine Fin.mk ?_) | ((conv => whnf); intro _))
      all_goals ((try refine VC.mk ?_); (try simp only [CL.ncell, CL.cnt, Int.toNat_natCast, decide_eq_true_eq, decide_eq_false_iff_not, Bool.not_eq_true, Bool.not_false, Bool.not_true, and_self, and_true, true_and, te3b, te4b, te3s, te4s, Nat.mul_one, Nat.zero_add, List.length_cons, List.length_nil, Bool.false_eq_true, Bool.true_eq_false] at *); (try omega))
    rintro ⟨i, e⟩ ⟨hi, he2, he3⟩
    simp only at hi he2 he3
    by_cases hlt : i < l.length
    · have e1 := any_take_succ (out3 r) l i hlt
      by_cases hany : (l.take i).any (out3 r) = true
      · rw [if_pos hany] at he2
        subst he2
        have : l.any (out3 r) = true := by
          rw [List.any_eq_true] at hany ⊢
          obtain ⟨x, hx, hp⟩ := hany
          exact ⟨x, List.mem_of_mem_take hx, hp⟩
        rw [this]
        repeat' (first | ((conv => whnf); refine And.intro ?_ ?_) | ((conv => whnf); with_reducible exact VC.mk rfl) | ((conv => whnf); exact Ok.mk) | ((conv => whnf); exact True.intro) | ((conv => whnf); refine Nx.mk ?_) | ((conv => whnf); refine Fin.mk ?_) | ((conv => whnf); intro _))
        all_goals ((try refine VC.mk ?_); (try simp only [CL.ncell, CL.cnt, Int.toNat_natCast, decide_eq_true_eq, decide_eq_false_iff_not, Bool.not_eq_true, Bool.not_false, Bool.not_true, and_self, and_true, true_and, te3b, te4b, te3s, te4s, Nat.mul_one, Nat.zero_add, List.length_cons, List.length_nil, Bool.false_eq_true, Bool.true_eq_false] at *); (try omega))
        all_goals (try (exfalso; omega))
        all_goals (first | (refine Sup.of ?_; first | rfl | (simp [*, resOf]; done)) | (refine Sup.via ?_; repeat' (first | ((conv => whnf); refine And.intro ?_ ?_) | ((conv => whnf); with_reducible exact VC.mk rfl) | ((conv => whnf); exact Ok.mk) | ((conv => whnf); exact True.intro) | ((conv => whnf); refine Nx.mk ?_) | ((conv => whnf); refine Fin.mk ?_) | ((conv => whnf); intro _)); all_goals ((try refine VC.mk ?_); (try simp only [CL.ncell, CL.cnt, Int.toNat_natCast, decide_eq_true_eq, decide_eq_false_iff_not, Bool.not_eq_true, Bool.not_false, Bool.not_true, and_self, and_true, true_and, te3b, te4b, te3s, te4s, Nat.mul_one, Nat.zero_add, List.length_cons, List.length_nil, Bool.false_eq_true, Bool.true_eq_false] at *); (try omega)); all_goals (try (simp [CL.sub]; done))))
      · have hany : (l.take i).any (out3 r) = false := by simpa using hany
        rw [hany] at he2 e1
        simp only [Bool.false_or] at e1
        simp only [Bool.false_eq_true, if_false] at he2
        subst he2
        repeat' (first | ((conv => whnf); refine And.intro ?_ ?_) | ((conv => whnf); with_reducible exact VC.mk rfl) | ((conv => whnf); exact Ok.mk) | ((conv => whnf); exact True.intro) | ((conv => whnf); refine Nx.mk ?_) | ((conv => whnf); refine Fin.mk ?_) | ((conv => whnf); intro hq; (try simp only [decide_eq_true_eq, decide_eq_false_iff_not, Bool.not_eq_true, Bool.not_eq_false, Bool.not_eq_true', Bool.not_eq_false', ite_true, ite_false] at hq); (try (exfalso; first | exact absurd hq (by decide) | omega))))
        all_goals ((try refine VC.mk ?_); (try simp only [CL.ncell, CL.cnt, Int.toNat_natCast, decide_eq_true_eq, decide_eq_false_iff_not, Bool.not_eq_true, Bool.not_false, Bool.not_true, and_self, and_true, true_and, te3b, te4b, te3s, te4s, Nat.mul_one, Nat.zero_add, List.length_cons, List.length_nil, Bool.false_eq_true, Bool.true_eq_false] at *); (try omega))
        all_goals (try (exfalso; omega))
        · have hp : out3 r (l.getD i 0) = true := by unfold out3; rw [decide_eq_true_eq]; omega
          refine ⟨(i + 1, 3), [], ⟨⟨by omega, by rw [e1, hp]; rfl, fun _ => ⟨by omega, hany⟩⟩, by omega⟩, ?_⟩
          repeat' (first | ((conv => whnf); refine And.intro ?_ ?_) | ((conv => whnf); with_reducible exact VC.mk rfl) | ((conv => whnf); exact Ok.mk) | ((conv => whnf); exact True.intro) | ((conv => whnf); refine Nx.mk ?_) | ((conv => whnf); refine Fin.mk ?_) | ((conv => whnf); intro _))
          all_goals ((try refine VC.mk ?_); (try simp only [CL.ncell, CL.cnt, Int.toNat_natCast, decide_eq_true_eq, decide_eq_false_iff_not, Bool.not_eq_true, Bool.not_false, Bool.not_true, and_self, and_true, true_and, te3b, te4b, te3s, te4s, Nat.mul_one, Nat.zero_add, List.length_cons, List.length_nil, Bool.false_eq_true, Bool.true_eq_false] at *); (try omega))
        · have hp : out3 r (l.getD i 0) = false := by unfold out3; rw [decide_eq_false_iff_not]; omega
          refine ⟨(i + 1, 0), [], ⟨⟨by omega, by rw [e1, hp]; rfl, fun h => by rw [e1, hp] at h; cases h⟩, by omega⟩, ?_⟩
          repeat' (first | ((conv => whnf); refine And.intro ?_ ?_) | ((conv => whnf); with_reducible exact VC.mk rfl) | ((conv => whnf); exact Ok.mk) | ((conv => whnf); exact True.intro) | ((conv => whnf); refine Nx.mk ?_) | ((conv => whnf); refine Fin.mk ?_) | ((conv => whnf); intro _))
          all_goals ((try refine VC.mk ?_); (try simp only [CL.ncell, CL.cnt, Int.toNat_natCast, decide_eq_true_eq, decide_eq_false_iff_not, Bool.not_eq_true, Bool.not_false, Bool.not_true, and_self, and_true, true_and, te3b, te4b, te3s, te4s, Nat.mul_one, Nat.zero_add, List.length_cons, List.length_nil, Bool.false_eq_true, Bool.true_eq_false] at *); (try omega))
        · have hp : out3 r (l.getD i 0) = true := by unfold out3; rw [decide_eq_true_eq]; omega
          refine ⟨(i + 1, 3), [], ⟨⟨by omega, by rw [e1, hp]; rfl, fun _ => ⟨by omega, hany⟩⟩, by omega⟩, ?_⟩
          repeat' (first | ((conv => whnf); refine And.intro ?_ ?_) | ((conv => whnf); with_reducible exact VC.mk rfl) | ((conv => whnf); exact Ok.mk) | ((conv => whnf); exact True.intro) | ((conv => whnf); refine Nx.mk ?_) | ((conv => whnf); refine Fin.mk ?_) | ((conv => whnf); intro _))
          all_goals ((try refine VC.mk ?_); (try simp only [CL.ncell, CL.cnt, Int.toNat_natCast, decide_eq_true_eq, decide_eq_false_iff_not, Bool.not_eq_true, Bool.not_false, Bool.not_true, and_self, and_true, true_and, te3b, te4b, te3s, te4s, Nat.mul_one, Nat.zero_add, List.length_cons, List.length_nil, Bool.false_eq_true, Bool.true_eq_false] at *); (try omega))
    · have : l.length = i := by omega
      subst this
      rw [List.take_length] at he2
      subst he2
      repeat' (first | ((conv => whnf); refine And.intro ?_ ?_) | ((conv => whnf); with_reducible exact VC.mk rfl) | ((conv => whnf); exact Ok.mk) | ((conv => whnf); exact True.intro) | ((conv => whnf); refine Nx.mk ?_) | ((conv => whnf); refine Fin.mk ?_) | ((conv => whnf); intro _))
      all_goals ((try refine VC.mk ?_); (try simp only [CL.ncell, CL.cnt, Int.toNat_natCast, decide_eq_true_eq, decide_eq_false_iff_not, Bool.not_eq_true, Bool.not_false, Bool.not_true, and_self, and_true, true_and, te3b, te4b, te3s, te4s, Nat.mul_one, Nat.zero_add, List.length_cons, List.length_nil, Bool.false_eq_true, Bool.true_eq_false] at *); (try omega))
      all_goals (first | (refine Sup.of ?_; first | rfl | (simp [*, resOf]; done)) | (refine Sup.via ?_; repeat' (first | ((conv => whnf); refine And.intro ?_ ?_) | ((conv => whnf); with_reducible exact VC.mk rfl) | ((conv => whnf); exact Ok.mk) | ((conv => whnf); exact True.intro) | ((conv => whnf); refine Nx.mk ?_) | ((conv => whnf); refine Fin.mk ?_) | ((conv => whnf); intro _)); all_goals ((try refine VC.mk ?_); (try simp only [CL.ncell, CL.cnt, Int.toNat_natCast, decide_eq_true_eq, decide_eq_false_iff_not, Bool.not_eq_true, Bool.not_false, Bool.not_true, and_self, and_true, true_and, te3b, te4b, te3s, te4s, Nat.mul_one, Nat.zero_add, List.length_cons, List.length_nil, Bool.false_eq_true, Bool.true_eq_false] at *); (try omega)); all_goals (try (simp [CL.sub]; done))))
  · have hd : digErr r c l = sqErr r c l := by unfold digErr; rw [if_neg he]
    rw [hd]
    refine pspec_of (md := 1) (rf := []) mixed tabOK cpCD_ok Try.func62 (by rfl) (by rfl) (by rfl) ?_
    repeat' (first | ((conv => whnf); refine And.intro ?_ ?_) | ((conv => whnf); with_reducible exact VC.mk rfl) | ((conv => whnf); exact Ok.mk) | ((conv => whnf); exact True.intro) | ((conv => whnf); refine Nx.mk ?_) | ((conv => whnf); refine Fin.mk ?_) | ((conv => whnf); intro _))
    all_goals ((try refine VC.mk ?_); (try simp only [CL.ncell, CL.cnt, Int.toNat_natCast, decide_eq_true_eq, decide_eq_false_iff_not, Bool.not_eq_true, Bool.not_false, Bool.not_true, and_self, and_true, true_and, te3b, te4b, te3s, te4s, Nat.mul_one, Nat.zero_add, List.length_cons, List.length_nil, Bool.false_eq_true, Bool.true_eq_false] at *); (try omega))
    conv => whnf
    refine loop_of (X := Unit) (fun _ => True) (fun x => [(4, .int .i64 0), (3, .int .i64 (sqErr r c l))]) (fun x => []) (fun _ => 0) () ⟨anyB_ok, mixed, tabOK, cpCD_ok, noY_ok⟩ (by rfl) trivial ?_ ?_
    · repeat' (first | ((conv => whnf); refine And.intro ?_ ?_) | ((conv => whnf); with_reducible exact VC.mk rfl) | ((conv => whnf); exact Ok.mk) | ((conv => whnf); exact True.intro) | ((conv => whnf); refine Nx.mk ?_) | ((conv => whnf); refine Fin.mk ?_) | ((conv => whnf); intro _))
      all_goals ((try refine VC.mk ?_); (try simp only [CL.ncell, CL.cnt, Int.toNat_natCast, decide_eq_true_eq, decide_eq_false_iff_not, Bool.not_eq_true, Bool.not_false, Bool.not_true, and_self, and_true, true_and, te3b, te4b, te3s, te4s, Nat.mul_one, Nat.zero_add, List.length_cons, List.length_nil, Bool.false_eq_true, Bool.true_eq_false] at *); (try omega))
    intro x hx
    repeat' (first | ((conv => whnf); refine And.intro ?_ ?_) | ((conv => whnf); with_reducible exact VC.mk rfl) | ((conv => whnf); exact Ok.mk) | ((conv => whnf); exact True.intro) | ((conv => whnf); refine Nx.mk ?_) | ((conv => whnf); refine Fin.mk ?_) | ((conv => whnf); intro hq; (try simp only [decide_eq_true_eq, decide_eq_false_iff_not, Bool.not_eq_true, Bool.not_eq_false, Bool.not_eq_true', Bool.not_eq_false', ite_true, ite_false] at hq); (try (exfalso; first | exact absurd hq (by decide) | omega))))
    all_goals ((try refine VC.mk ?_); (try simp only [CL.ncell, CL.cnt, Int.toNat_natCast, decide_eq_true_eq, decide_eq_false_iff_not, Bool.not_eq_true, Bool.not_false, Bool.not_true, and_self, and_true, true_and, te3b, te4b, te3s, te4s, Nat.mul_one, Nat.zero_add, List.length_cons, List.length_nil, Bool.false_eq_true, Bool.true_eq_false] at *); (try omega))
    all_goals (try (exfalso; omega))
    all_goals all_goals (first | (refine Sup.of ?_; first | rfl | (simp [*, resOf]; done)) | (refine Sup.via ?_; repeat' (first | ((conv => whnf); refine And.intro ?_ ?_) | ((conv => whnf); with_reducible exact VC.mk rfl) | ((conv => whnf); exact Ok.mk) | ((conv => whnf); exact True.intro) | ((conv => whnf); refine Nx.mk ?_) | ((conv => whnf); refine Fin.mk ?_) | ((conv => whnf); intro _)); all_goals ((try refine VC.mk ?_); (try simp only [CL.ncell, CL.cnt, Int.toNat_natCast, decide_eq_true_eq, decide_eq_false_iff_not, Bool.not_eq_true, Bool.not_false, Bool.not_true, and_self, and_true, true_and, te3b, te4b, te3s, te4s, Nat.mul_one, Nat.zero_add, List.length_cons, List.length_nil, Bool.false_eq_true, Bool.true_eq_false] at *); (try omega)); all_goals (try (simp [CL.sub]; done))))
def rCheckDigitsP : PSp := fun xs K => match xs with
  | [.agg [.int .i64 r, .int .i64 c, .isl (.ints .i64 l) .none]] => VC (True) ∧ K (.int .i64 (digErr r c l))
  | _ => False
theorem rCheckDigits_ok : POK Try.prog 62 rCheckDigitsP := by
  intro xs K h
  unfold rCheckDigitsP at h
  split at h
  · exact ⟨_, h.2, rCheckDigits_spec _ _ _⟩
  · exact h.elim
end Go.Eng.Ytppflbccfdbogaa
namespace Go.Eng.Ytppflbccfdbogaa
open Go.Proofs
set_option maxRecDepth 100000
set_option maxHeartbeats 0
set_option linter.unusedVariables false
set_option linter.unusedSimpArgs false
abbrev flatN (n : Int) (g : Nat → Int) : List Int := flatL (n.toNat * n.toNat) g
/-- a normal square -/
structure NormG (r c : Int) (l : List Int) (n : Nat) : Prop where
  er : r = n
  ec : c = n
  en : 1 ≤ n ∧ n ≤ 16
  el : l.length = n * n
  eb : ∀ x ∈ l, 1 ≤ x ∧ x ≤ 256
theorem normG {r c : Int} {l : List Int} (h : normErr r c l = 0) : NormG r c l r.toNat := by
  obtain ⟨h1, h2⟩ := normErr_zero h
  obtain ⟨z1, z2, z3, z4, z5⟩ := sqErr_zero h1
  have hb := isNorm_bd h2
  refine ⟨by omega, by omega, by omega, ?_, fun x hx => by have := hb x hx; omega⟩
  have : ((r.toNat * r.toNat : Nat) : Int) = r * r := by push_cast; rw [Int.toNat_of_nonneg (by omega)]
  omega
def digitsV (r c : Int) (l : List Int) : PV := if normErr r c l = 0 then .tup [gridV r r (flatN r (dgA r l)), gridV r r (flatN r (dgB r l)), .int .i64 0] else .tup [gridV 0 0 [], gridV 0 0 [], .int .i64 (normErr r c l)]
noncomputable def cpDi : CPT := cpAdd 88 (pureCC checkNormalP) (cpAdd 103 (pureCC madeP) noC)
theorem cpDi_ok : CPOK Try.prog cpDi := cpAdd_ok (pureCC_ok checkNormal_ok) (cpAdd_ok (pureCC_ok made_ok) noC_ok)
theorem digits_spec (r c : Int) (l : List Int) : PSpec Try.prog 59 [gridV r c l] (digitsV r c l) := by
  unfold digitsV
  by_cases hz : normErr r c l = 0
  · rw [if_pos hz]
    have g := normG hz
    obtain ⟨n, hn⟩ : ∃ n, r.toNat = n := ⟨_, rfl⟩
    rw [hn] at g
    obtain ⟨rfl, rfl, hn1, hl, hb⟩ := g
    simp only [flatN, Int.toNat_natCast]
    have eA : ∀ h : Nat → Int, madeL n (fun i j => h (n * i + j)) = flatL (n * n) h := fun h => madeL_flat n h
    refine pspec_of (md := 1) (rf := []) mixed tabOK cpDi_ok Try.func59 (by rfl) (by rfl) (by rfl) ?_
    repeat' (first | ((conv => whnf); refine And.intro ?_ ?_) | ((conv => whnf); with_reducible exact VC.mk rfl) | ((conv => whnf); exact Ok.mk) | ((conv => whnf); exact True.intro) | ((conv => whnf); refine Nx.mk ?_) | ((conv => whnf); refine Fin.mk ?_) | ((conv => whnf); intro hq; (try simp only [decide_eq_true_eq, decide_eq_false_iff_not, Bool.not_eq_true, Bool.not_eq_false, Bool.not_eq_true', Bool.not_eq_false', ite_true, ite_false] at hq); (try (exfalso; first | exact absurd hq (by decide) | omega))))
    all_goals ((try refine VC.mk ?_); (try simp only [CL.ncell, CL.cnt, Int.toNat_natCast, decide_eq_true_eq, decide_eq_false_iff_not, Bool.not_eq_true, Bool.not_false, Bool.not_true, and_self, and_true, true_and, te3b, te4b, te3s, te4s, Nat.mul_one, Nat.zero_add, List.length_cons, List.length_nil, Bool.false_eq_true, Bool.true_eq_false] at *); (try omega))
    all_goals (try (exfalso; omega))
    refine ⟨fun i j => dgA n l (n * i + j), fun i j hi hj => c108_spec n n l i j hn1 hl hb (by omega) (by omega), ?_⟩
    repeat' (first | ((conv => whnf); refine And.intro ?_ ?_) | ((conv => whnf); with_reducible exact VC.mk rfl) | ((conv => whnf); exact Ok.mk) | ((conv => whnf); exact True.intro) | ((conv => whnf); refine Nx.mk ?_) | ((conv => whnf); refine Fin.mk ?_) | ((conv => whnf); intro _))
    all_goals ((try refine VC.mk ?_); (try simp only [CL.ncell, CL.cnt, Int.toNat_natCast, decide_eq_true_eq, decide_eq_false_iff_not, Bool.not_eq_true, Bool.not_false, Bool.not_true, and_self, and_true, true_and, te3b, te4b, te3s, te4s, Nat.mul_one, Nat.zero_add, List.length_cons, List.length_nil, Bool.false_eq_true, Bool.true_eq_false] at *); (try omega))
    refine ⟨fun i j => dgB n l (n * i + j), fun i j hi hj => c109_spec n n l i j hn1 hl hb (by omega) (by omega), ?_⟩
    repeat' (first | ((conv => whnf); refine And.intro ?_ ?_) | ((conv => whnf); with_reducible exact VC.mk rfl) | ((conv => whnf); exact Ok.mk) | ((conv => whnf); exact True.intro) | ((conv => whnf); refine Nx.mk ?_) | ((conv => whnf); refine Fin.mk ?_) | ((conv => whnf); intro _))
    all_goals ((try refine VC.mk ?_); (try simp only [CL.ncell, CL.cnt, Int.toNat_natCast, decide_eq_true_eq, decide_eq_false_iff_not, Bool.not_eq_true, Bool.not_false, Bool.not_true, and_self, and_true, true_and, te3b, te4b, te3s, te4s, Nat.mul_one, Nat.zero_add, List.length_cons, List.length_nil, Bool.false_eq_true, Bool.true_eq_false] at *); (try omega))
    rw [eA, eA]
    all_goals (refine Sup.via ?_; repeat' (first | ((conv => whnf); refine And.intro ?_ ?_) | ((conv => whnf); with_reducible exact VC.mk rfl) | ((conv => whnf); exact Ok.mk) | ((conv => whnf); exact True.intro) | ((conv => whnf); refine Nx.mk ?_) | ((conv => whnf); refine Fin.mk ?_) | ((conv => whnf); intro _)); all_goals ((try refine VC.mk ?_); (try simp only [CL.ncell, CL.cnt, Int.toNat_natCast, decide_eq_true_eq, decide_eq_false_iff_not, Bool.not_eq_true, Bool.not_false, Bool.not_true, and_self, and_true, true_and, te3b, te4b, te3s, te4s, Nat.mul_one, Nat.zero_add, List.length_cons, List.length_nil, Bool.false_eq_true, Bool.true_eq_false] at *); (try omega)); all_goals (try (simp [CL.sub]; done)))
  · rw [if_neg hz]
    refine pspec_of (md := 1) (rf := []) mixed tabOK cpDi_ok Try.func59 (by rfl) (by rfl) (by rfl) ?_
    repeat' (first | ((conv => whnf); refine And.intro ?_ ?_) | ((conv => whnf); with_reducible exact VC.mk rfl) | ((conv => whnf); exact Ok.mk) | ((conv => whnf); exact True.intro) | ((conv => whnf); refine Nx.mk ?_) | ((conv => whnf); refine Fin.mk ?_) | ((conv => whnf); intro hq; (try simp only [decide_eq_true_eq, decide_eq_false_iff_not, Bool.not_eq_true, Bool.not_eq_false, Bool.not_eq_true', Bool.not_eq_false', ite_true, ite_false] at hq); (try (exfalso; first | exact absurd hq (by decide) | omega))))
    all_goals ((try refine VC.mk ?_); (try simp only [CL.ncell, CL.cnt, Int.toNat_natCast, decide_eq_true_eq, decide_eq_false_iff_not, Bool.not_eq_true, Bool.not_false, Bool.not_true, and_self, and_true, true_and, te3b, te4b, te3s, te4s, Nat.mul_one, Nat.zero_add, List.length_cons, List.length_nil, Bool.false_eq_true, Bool.true_eq_false] at *); (try omega))
    all_goals (try (exfalso; omega))
    all_goals (refine Sup.via ?_; repeat' (first | ((conv => whnf); refine And.intro ?_ ?_) | ((conv => whnf); with_reducible exact VC.mk rfl) | ((conv => whnf); exact Ok.mk) | ((conv => whnf); exact True.intro) | ((conv => whnf); refine Nx.mk ?_) | ((conv => whnf); refine Fin.mk ?_) | ((conv => whnf); intro _)); all_goals ((try refine VC.mk ?_); (try simp only [CL.ncell, CL.cnt, Int.toNat_natCast, decide_eq_true_eq, decide_eq_false_iff_not, Bool.not_eq_true, Bool.not_false, Bool.not_true, and_self, and_true, true_and, te3b, te4b, te3s, te4s, Nat.mul_one, Nat.zero_add, List.length_cons, List.length_nil, Bool.false_eq_true, Bool.true_eq_false] at *); (try omega)); all_goals (try (simp [CL.sub]; done)))
def digitsP : PSp := fun xs K => match xs with
  | [.agg [.int .i64 r, .int .i64 c, .isl (.ints .i64 l) .none]] => VC (True) ∧ K (digitsV r c l)
  | _ => False
theorem digits_ok : POK Try.prog 59 digitsP := by
  intro xs K h
  unfold digitsP at h
  split at h
  · exact ⟨_, h.2, digits_spec _ _ _⟩
  · exact h.elim
theorem rDigits_spec (n : Nat) (c : Int) (l : List Int) (hn : 1 ≤ n ∧ n ≤ 16) (hl : l.length = n * n) (hb : ∀ x ∈ l, 1 ≤ x ∧ x ≤ 256) : PSpec Try.prog 61 [gridV n c l] (.tup [gridV n n (flatL (n * n) (dgA n l)), gridV n n (flatL (n * n) (dgB n l))]) := by
  have eN : ((n : Int) * n).toNat = n * n := by rw [← Int.natCast_mul, Int.toNat_natCast]
  have hN := mul_bd (show 0 ≤ (n : Int) ∧ (n : Int) ≤ 16 by omega) (show 0 ≤ (n : Int) ∧ (n : Int) ≤ 16 by omega)
  have hnn : ((n * n : Nat) : Int) = (n : Int) * n := by push_cast; rfl
  refine pspec_of (md := 0) (rf := []) mixed tabOK cpSq_ok Try.func61 (by rfl) (by rfl) (by rfl) ?_
  repeat' (first | ((conv => whnf); refine And.intro ?_ ?_) | ((conv => whnf); with_reducible exact VC.mk rfl) | ((conv => whnf); exact Ok.mk) | ((conv => whnf); exact True.intro) | ((conv => whnf); refine Nx.mk ?_) | ((conv => whnf); refine Fin.mk ?_) | ((conv => whnf); intro _))
  all_goals ((try refine VC.mk ?_); (try simp only [CL.ncell, CL.cnt, Int.toNat_natCast, decide_eq_true_eq, decide_eq_false_iff_not, Bool.not_eq_true, Bool.not_false, Bool.not_true, and_self, and_true, true_and, te3b, te4b, te3s, te4s, Nat.mul_one, Nat.zero_add, List.length_cons, List.length_nil, Bool.false_eq_true, Bool.true_eq_false] at *); (try omega))
  try simp only [eN]
  conv => whnf
  refine loop_of (X := Nat) (fun k => k ≤ n * n) (fun k => [(6, .int .i64 k)]) (fun k => [(3, .cells (.ints .i64 (fillG (dgA n l) (n * n) k)) false), (7, .cells (.ints .i64 (fillG (dgB n l) (n * n) k)) false)]) (fun k => n * n - k) 0 ⟨anyB_ok, mixed, tabOK, cpSq_ok, noY_ok⟩ (by rfl) (by omega) ?_ ?_
  · repeat' (first | ((conv => whnf); refine And.intro ?_ ?_) | ((conv => whnf); with_reducible exact VC.mk rfl) | ((conv => whnf); exact Ok.mk) | ((conv => whnf); exact True.intro) | ((conv => whnf); refine Nx.mk ?_) | ((conv => whnf); refine Fin.mk ?_) | ((conv => whnf); intro _))
    all_goals ((try refine VC.mk ?_); (try simp only [CL.ncell, CL.cnt, Int.toNat_natCast, decide_eq_true_eq, decide_eq_false_iff_not, Bool.not_eq_true, Bool.not_false, Bool.not_true, and_self, and_true, true_and, te3b, te4b, te3s, te4s, Nat.mul_one, Nat.zero_add, List.length_cons, List.length_nil, Bool.false_eq_true, Bool.true_eq_false] at *); (try omega))
    all_goals simp [fillG_zero]
  intro k hk
  have e1 := fillG_len (dgA n l) (n * n) k hk
  have e2 := fillG_len (dgB n l) (n * n) k hk
  by_cases hlt : k < n * n
  · have h3 := bd_of hb (k := k) (by omega)
    have h5 := Int.ediv_le_self (a := l.getD k 0 - 1) n (by omega)
    have h6 : 0 ≤ (l.getD k 0 - 1) / n := Int.ediv_nonneg (by omega) (by omega)
    repeat' (first | ((conv => whnf); refine And.intro ?_ ?_) | ((conv => whnf); with_reducible exact VC.mk rfl) | ((conv => whnf); exact Ok.mk) | ((conv => whnf); exact True.intro) | ((conv => whnf); refine Nx.mk ?_) | ((conv => whnf); refine Fin.mk ?_) | ((conv => whnf); intro hq; (try simp only [decide_eq_true_eq, decide_eq_false_iff_not, Bool.not_eq_true, Bool.not_eq_false, Bool.not_eq_true', Bool.not_eq_false', ite_true, ite_false] at hq); (try (exfalso; first | exact absurd hq (by decide) | omega))))
    all_goals ((try refine VC.mk ?_); (try simp only [CL.ncell, CL.cnt, Int.toNat_natCast, decide_eq_true_eq, decide_eq_false_iff_not, Bool.not_eq_true, Bool.not_false, Bool.not_true, and_self, and_true, true_and, te3b, te4b, te3s, te4s, Nat.mul_one, Nat.zero_add, List.length_cons, List.length_nil, Bool.false_eq_true, Bool.true_eq_false] at *); (try omega))
    all_goals (try (exfalso; omega))
    refine ⟨k + 1, [], ⟨by omega, by omega⟩, ?_⟩
    repeat' (first | ((conv => whnf); refine And.intro ?_ ?_) | ((conv => whnf); with_reducible exact VC.mk rfl) | ((conv => whnf); exact Ok.mk) | ((conv => whnf); exact True.intro) | ((conv => whnf); refine Nx.mk ?_) | ((conv => whnf); refine Fin.mk ?_) | ((conv => whnf); intro _))
    all_goals ((try refine VC.mk ?_); (try simp only [CL.ncell, CL.cnt, Int.toNat_natCast, decide_eq_true_eq, decide_eq_false_iff_not, Bool.not_eq_true, Bool.not_false, Bool.not_true, and_self, and_true, true_and, te3b, te4b, te3s, te4s, Nat.mul_one, Nat.zero_add, List.length_cons, List.length_nil, Bool.false_eq_true, Bool.true_eq_false] at *); (try omega))
    · rw [← fillG_set _ _ _ hlt]; rfl
    · rw [← fillG_set _ _ _ hlt]; rfl
  · have : n * n = k := by omega
    subst this
    repeat' (first | ((conv => whnf); refine And.intro ?_ ?_) | ((conv => whnf); with_reducible exact VC.mk rfl) | ((conv => whnf); exact Ok.mk) | ((conv => whnf); exact True.intro) | ((conv => whnf); refine Nx.mk ?_) | ((conv => whnf); refine Fin.mk ?_) | ((conv => whnf); intro hq; (try simp only [decide_eq_true_eq, decide_eq_false_iff_not, Bool.not_eq_true, Bool.not_eq_false, Bool.not_eq_true', Bool.not_eq_false', ite_true, ite_false] at hq); (try (exfalso; first | exact absurd hq (by decide) | omega))))
    all_goals ((try refine VC.mk ?_); (try simp only [CL.ncell, CL.cnt, Int.toNat_natCast, decide_eq_true_eq, decide_eq_false_iff_not, Bool.not_eq_true, Bool.not_false, Bool.not_true, and_self, and_true, true_and, te3b, te4b, te3s, te4s, Nat.mul_one, Nat.zero_add, List.length_cons, List.length_nil, Bool.false_eq_true, Bool.true_eq_false] at *); (try omega))
    all_goals (try (exfalso; omega))
    rw [fillG_all, fillG_all]
    unfold flatL
    refine Sup.of ?_
    simp [resOf, gridV, CL.sub, List.take_of_length_le]
/-- a square of digits -/
structure DigG (r c : Int) (l : List Int) (n : Nat) : Prop where
  er : r = n
  ec : c = n
  en : 1 ≤ n ∧ n ≤ 16
  el : l.length = n * n
  eb : ∀ x ∈ l, 0 ≤ x ∧ x ≤ 16
theorem digG {r c : Int} {l : List Int} (h : digErr r c l = 0) : DigG r c l r.toNat := by
  unfold digErr at h
  by_cases h1 : sqErr r c l = 0
  · rw [if_pos h1] at h
    obtain ⟨z1, z2, z3, z4, z5⟩ := sqErr_zero h1
    have h2 : l.any (out3 r) = false := by
      cases hh : l.any (out3 r) with
      | false => rfl
      | true => rw [hh] at h; simp at h
    rw [List.any_eq_false] at h2
    have : ((r.toNat * r.toNat : Nat) : Int) = r * r := by push_cast; rw [Int.toNat_of_nonneg (by omega)]
    refine ⟨by omega, by omega, by omega, by omega, fun x hx => ?_⟩
    have := h2 x hx
    unfold out3 at this
    rw [decide_eq_true_eq] at this
    omega
  · rw [if_neg h1] at h; exact absurd h h1
def frdV (n : Nat) (L : List Int) : PV := if isNorm L = true then okGrid n n L else noGrid 9
theorem normErr_flat {n : Nat} (hn : 1 ≤ n ∧ n ≤ 16) (g : Nat → Int) : normErr n n (flatL (n * n) g) = if isNorm (flatL (n * n) g) then 0 else 1 := by
  have hl : ((flatL (n * n) g).length : Int) = (n : Int) * n := by simp [flatL]
  unfold normErr
  rw [if_pos]
  unfold sqErr
  rw [if_neg (by omega)]
noncomputable def cpFd : CPT := cpAdd 110 (pureCC checkDigitsP) (cpAdd 88 (pureCC checkNormalP) (cpAdd 103 (pureCC madeP) cp2))
theorem cpFd_ok : CPOK Try.prog cpFd := cpAdd_ok (pureCC_ok checkDigits_ok) (cpAdd_ok (pureCC_ok checkNormal_ok) (cpAdd_ok (pureCC_ok made_ok) cp2_ok))
def frdErr (ra ca : Int) (a : List Int) (rb cb : Int) (b : List Int) : Int := firstOf [digErr ra ca a, digErr rb cb b, if ra ≠ rb then 2 else 0]
theorem fromDigits_err (ra ca : Int) (a : List Int) (rb cb : Int) (b : List Int) (h : frdErr ra ca a rb cb b ≠ 0) : PSpec Try.prog 60 [gridV ra ca a, gridV rb cb b] (noGrid (frdErr ra ca a rb cb b)) := by
  unfold frdErr at *
  refine pspec_of (md := 1) (rf := []) mixed tabOK cpFd_ok Try.func60 (by rfl) (by rfl) (by rfl) ?_
  repeat' (first | ((conv => whnf); refine And.intro ?_ ?_) | ((conv => whnf); with_reducible exact VC.mk rfl) | ((conv => whnf); exact Ok.mk) | ((conv => whnf); exact True.intro) | ((conv => whnf); refine Nx.mk ?_) | ((conv => whnf); refine Fin.mk ?_) | ((conv => whnf); intro hq; (try simp only [decide_eq_true_eq, decide_eq_false_iff_not, Bool.not_eq_true, Bool.not_eq_false, Bool.not_eq_true', Bool.not_eq_false', ite_true, ite_false] at hq); (try (exfalso; first | exact absurd hq (by decide) | omega))))
  all_goals ((try refine VC.mk ?_); (try simp only [CL.ncell, CL.cnt, Int.toNat_natCast, decide_eq_true_eq, decide_eq_false_iff_not, Bool.not_eq_true, Bool.not_false, Bool.not_true, and_self, and_true, true_and, te3b, te4b, te3s, te4s, Nat.mul_one, Nat.zero_add, List.length_cons, List.length_nil, Bool.false_eq_true, Bool.true_eq_false] at *); (try omega))
  all_goals (try (exfalso; omega))
  all_goals (refine Sup.via ?_; repeat' (first | ((conv => whnf); refine And.intro ?_ ?_) | ((conv => whnf); with_reducible exact VC.mk rfl) | ((conv => whnf); exact Ok.mk) | ((conv => whnf); exact True.intro) | ((conv => whnf); refine Nx.mk ?_) | ((conv => whnf); refine Fin.mk ?_) | ((conv => whnf); intro _)); all_goals ((try refine VC.mk ?_); (try simp only [CL.ncell, CL.cnt, Int.toNat_natCast, decide_eq_true_eq, decide_eq_false_iff_not, Bool.not_eq_true, Bool.not_false, Bool.not_true, and_self, and_true, true_and, te3b, te4b, te3s, te4s, Nat.mul_one, Nat.zero_add, List.length_cons, List.length_nil, Bool.false_eq_true, Bool.true_eq_false] at *); (try omega)); all_goals (try (simp [CL.sub]; done)))
theorem fromDigits_ok (n : Nat) (a b : List Int) (ha : DigG n n a n) (hb : DigG n n b n) (h : frdErr n n a n n b = 0) : PSpec Try.prog 60 [gridV n n a, gridV n n b] (frdV n (flatL (n * n) (dgC n a b))) := by
  obtain ⟨_, _, hn, hal, hab⟩ := ha
  obtain ⟨_, _, _, hbl, hbb⟩ := hb
  unfold frdErr at h
  have eA : ∀ h : Nat → Int, madeL n (fun i j => h (n * i + j)) = flatL (n * n) h := fun h => madeL_flat n h
  have hne := normErr_flat hn (dgC n a b)
  unfold frdV
  refine pspec_of (md := 1) (rf := []) mixed tabOK cpFd_ok Try.func60 (by rfl) (by rfl) (by rfl) ?_
  repeat' (first | ((conv => whnf); refine And.intro ?_ ?_) | ((conv => whnf); with_reducible exact VC.mk rfl) | ((conv => whnf); exact Ok.mk) | ((conv => whnf); exact True.intro) | ((conv => whnf); refine Nx.mk ?_) | ((conv => whnf); refine Fin.mk ?_) | ((conv => whnf); intro hq; (try simp only [decide_eq_true_eq, decide_eq_false_iff_not, Bool.not_eq_true, Bool.not_eq_false, Bool.not_eq_true', Bool.not_eq_false', ite_true, ite_false] at hq); (try (exfalso; first | exact absurd hq (by decide) | omega))))
  all_goals ((try refine VC.mk ?_); (try simp only [CL.ncell, CL.cnt, Int.toNat_natCast, decide_eq_true_eq, decide_eq_false_iff_not, Bool.not_eq_true, Bool.not_false, Bool.not_true, and_self, and_true, true_and, te3b, te4b, te3s, te4s, Nat.mul_one, Nat.zero_add, List.length_cons, List.length_nil, Bool.false_eq_true, Bool.true_eq_false] at *); (try omega))
  all_goals (try (exfalso; omega))
  refine ⟨fun i j => dgC n a b (n * i + j), fun i j hi hj => c111_spec n n n a b i j hn hal hbl hab hbb (by omega) (by omega) n, ?_⟩
  rw [eA]
  generalize flatL (n * n) (dgC n a b) = L at *
  repeat' (first | ((conv => whnf); refine And.intro ?_ ?_) | ((conv => whnf); with_reducible exact VC.mk rfl) | ((conv => whnf); exact Ok.mk) | ((conv => whnf); exact True.intro) | ((conv => whnf); refine Nx.mk ?_) | ((conv => whnf); refine Fin.mk ?_) | ((conv => whnf); intro hq; (try simp only [decide_eq_true_eq, decide_eq_false_iff_not, Bool.not_eq_true, Bool.not_eq_false, Bool.not_eq_true', Bool.not_eq_false', ite_true, ite_false] at hq); (try (exfalso; first | exact absurd hq (by decide) | omega))))
  all_goals ((try refine VC.mk ?_); (try simp only [CL.ncell, CL.cnt, Int.toNat_natCast, decide_eq_true_eq, decide_eq_false_iff_not, Bool.not_eq_true, Bool.not_false, Bool.not_true, and_self, and_true, true_and, te3b, te4b, te3s, te4s, Nat.mul_one, Nat.zero_add, List.length_cons, List.length_nil, Bool.false_eq_true, Bool.true_eq_false] at *); (try omega))
  · rw [if_neg (fun h => by rw [if_pos h] at hne; exact hq hne)]
    all_goals (refine Sup.via ?_; repeat' (first | ((conv => whnf); refine And.intro ?_ ?_) | ((conv => whnf); with_reducible exact VC.mk rfl) | ((conv => whnf); exact Ok.mk) | ((conv => whnf); exact True.intro) | ((conv => whnf); refine Nx.mk ?_) | ((conv => whnf); refine Fin.mk ?_) | ((conv => whnf); intro _)); all_goals ((try refine VC.mk ?_); (try simp only [CL.ncell, CL.cnt, Int.toNat_natCast, decide_eq_true_eq, decide_eq_false_iff_not, Bool.not_eq_true, Bool.not_false, Bool.not_true, and_self, and_true, true_and, te3b, te4b, te3s, te4s, Nat.mul_one, Nat.zero_add, List.length_cons, List.length_nil, Bool.false_eq_true, Bool.true_eq_false] at *); (try omega)); all_goals (try (simp [CL.sub]; done)))
  · rw [if_pos (Classical.byContradiction fun h => by rw [if_neg h] at hne; omega)]
    all_goals (refine Sup.via ?_; repeat' (first | ((conv => whnf); refine And.intro ?_ ?_) | ((conv => whnf); with_reducible exact VC.mk rfl) | ((conv => whnf); exact Ok.mk) | ((conv => whnf); exact True.intro) | ((conv => whnf); refine Nx.mk ?_) | ((conv => whnf); refine Fin.mk ?_) | ((conv => whnf); intro _)); all_goals ((try refine VC.mk ?_); (try simp only [CL.ncell, CL.cnt, Int.toNat_natCast, decide_eq_true_eq, decide_eq_false_iff_not, Bool.not_eq_true, Bool.not_false, Bool.not_true, and_self, and_true, true_and, te3b, te4b, te3s, te4s, Nat.mul_one, Nat.zero_add, List.length_cons, List.length_nil, Bool.false_eq_true, Bool.true_eq_false] at *); (try omega)); all_goals (try (simp [CL.sub]; done)))
noncomputable def cpFr : CPT := cpAdd 25 (viewCC IsNormalP) cpSq
theorem cpFr_ok : CPOK Try.prog cpFr := cpAdd_ok (viewCC_ok IsNormal_ok) cpSq_ok
theorem rFromDigits_ne (ra ca : Int) (a : List Int) (rb cb : Int) (b : List Int) (h : ra ≠ rb) : PSpec Try.prog 63 [gridV ra ca a, gridV rb cb b] (noGrid 2) := by
  refine pspec_of (md := 0) (rf := []) mixed tabOK cpFr_ok Try.func63 (by rfl) (by rfl) (by rfl) ?_
  repeat' (first | ((conv => whnf); refine And.intro ?_ ?_) | ((conv => whnf); with_reducible exact VC.mk rfl) | ((conv => whnf); exact Ok.mk) | ((conv => whnf); exact True.intro) | ((conv => whnf); refine Nx.mk ?_) | ((conv => whnf); refine Fin.mk ?_) | ((conv => whnf); intro hq; (try simp only [decide_eq_true_eq, decide_eq_false_iff_not, Bool.not_eq_true, Bool.not_eq_false, Bool.not_eq_true', Bool.not_eq_false', ite_true, ite_false] at hq); (try (exfalso; first | exact absurd hq (by decide) | omega))))
  all_goals ((try refine VC.mk ?_); (try simp only [CL.ncell, CL.cnt, Int.toNat_natCast, decide_eq_true_eq, decide_eq_false_iff_not, Bool.not_eq_true, Bool.not_false, Bool.not_true, and_self, and_true, true_and, te3b, te4b, te3s, te4s, Nat.mul_one, Nat.zero_add, List.length_cons, List.length_nil, Bool.false_eq_true, Bool.true_eq_false] at *); (try omega))
  all_goals (try (exfalso; omega))
  all_goals (refine Sup.via ?_; repeat' (first | ((conv => whnf); refine And.intro ?_ ?_) | ((conv => whnf); with_reducible exact VC.mk rfl) | ((conv => whnf); exact Ok.mk) | ((conv => whnf); exact True.intro) | ((conv => whnf); refine Nx.mk ?_) | ((conv => whnf); refine Fin.mk ?_) | ((conv => whnf); intro _)); all_goals ((try refine VC.mk ?_); (try simp only [CL.ncell, CL.cnt, Int.toNat_natCast, decide_eq_true_eq, decide_eq_false_iff_not, Bool.not_eq_true, Bool.not_false, Bool.not_true, and_self, and_true, true_and, te3b, te4b, te3s, te4s, Nat.mul_one, Nat.zero_add, List.length_cons, List.length_nil, Bool.false_eq_true, Bool.true_eq_false] at *); (try omega)); all_goals (try (simp [CL.sub]; done)))
theorem take_fill (g : Nat → Int) (N : Nat) : List.take (N - 0) (List.drop 0 (fillG g N N)) = flatL N g := by rw [fillG_all]; simp [flatL, List.take_of_length_le]
theorem rFromDigits_ok (n : Nat) (a b : List Int) (hn : 1 ≤ n ∧ n ≤ 16) (hal : a.length = n * n) (hbl : b.length = n * n) (hab : ∀ x ∈ a, 0 ≤ x ∧ x ≤ 16) (hbb : ∀ x ∈ b, 0 ≤ x ∧ x ≤ 16) : PSpec Try.prog 63 [gridV n n a, gridV n n b] (frdV n (flatL (n * n) (dgC n a b))) := by
  have eN : ((n : Int) * n).toNat = n * n := by rw [← Int.natCast_mul, Int.toNat_natCast]
  have hN := mul_bd (show 0 ≤ (n : Int) ∧ (n : Int) ≤ 16 by omega) (show 0 ≤ (n : Int) ∧ (n : Int) ≤ 16 by omega)
  have hnn : ((n * n : Nat) : Int) = (n : Int) * n := by push_cast; rfl
  unfold frdV
  refine pspec_of (md := 0) (rf := []) mixed tabOK cpFr_ok Try.func63 (by rfl) (by rfl) (by rfl) ?_
  repeat' (first | ((conv => whnf); refine And.intro ?_ ?_) | ((conv => whnf); with_reducible exact VC.mk rfl) | ((conv => whnf); exact Ok.mk) | ((conv => whnf); exact True.intro) | ((conv => whnf); refine Nx.mk ?_) | ((conv => whnf); refine Fin.mk ?_) | ((conv => whnf); intro hq; (try simp only [decide_eq_true_eq, decide_eq_false_iff_not, Bool.not_eq_true, Bool.not_eq_false, Bool.not_eq_true', Bool.not_eq_false', ite_true, ite_false] at hq); (try (exfalso; first | exact absurd hq (by decide) | omega))))
  all_goals ((try refine VC.mk ?_); (try simp only [CL.ncell, CL.cnt, Int.toNat_natCast, decide_eq_true_eq, decide_eq_false_iff_not, Bool.not_eq_true, Bool.not_false, Bool.not_true, and_self, and_true, true_and, te3b, te4b, te3s, te4s, Nat.mul_one, Nat.zero_add, List.length_cons, List.length_nil, Bool.false_eq_true, Bool.true_eq_false] at *); (try omega))
  all_goals (try (exfalso; omega))
  try simp only [eN]
  conv => whnf
  refine loop_of (X := Nat) (fun k => k ≤ n * n) (fun k => [(7, .int .i64 k)]) (fun k => [(3, .cells (.ints .i64 (fillG (dgC n a b) (n * n) k)) false)]) (fun k => n * n - k) 0 ⟨anyB_ok, mixed, tabOK, cpFr_ok, noY_ok⟩ (by rfl) (by omega) ?_ ?_
  · conv => whnf
    repeat' (first | ((conv => whnf); refine And.intro ?_ ?_) | ((conv => whnf); with_reducible exact VC.mk rfl) | ((conv => whnf); exact Ok.mk) | ((conv => whnf); exact True.intro) | ((conv => whnf); refine Nx.mk ?_) | ((conv => whnf); refine Fin.mk ?_) | ((conv => whnf); intro _))
    all_goals ((try refine VC.mk ?_); (try simp only [CL.ncell, CL.cnt, Int.toNat_natCast, decide_eq_true_eq, decide_eq_false_iff_not, Bool.not_eq_true, Bool.not_false, Bool.not_true, and_self, and_true, true_and, te3b, te4b, te3s, te4s, Nat.mul_one, Nat.zero_add, List.length_cons, List.length_nil, Bool.false_eq_true, Bool.true_eq_false] at *); (try omega))
    all_goals simp [fillG_zero]
  intro k hk
  have e1 := fillG_len (dgC n a b) (n * n) k hk
  by_cases hlt : k < n * n
  · have h3 := bd_of hab (k := k) (by omega)
    have h4 := bd_of hbb (k := k) (by omega)
    have h5 := mul_bd (show 0 ≤ (n : Int) ∧ (n : Int) ≤ 16 by omega) h4
    repeat' (first | ((conv => whnf); refine And.intro ?_ ?_) | ((conv => whnf); with_reducible exact VC.mk rfl) | ((conv => whnf); exact Ok.mk) | ((conv => whnf); exact True.intro) | ((conv => whnf); refine Nx.mk ?_) | ((conv => whnf); refine Fin.mk ?_) | ((conv => whnf); intro hq; (try simp only [decide_eq_true_eq, decide_eq_false_iff_not, Bool.not_eq_true, Bool.not_eq_false, Bool.not_eq_true', Bool.not_eq_false', ite_true, ite_false] at hq); (try (exfalso; first | exact absurd hq (by decide) | omega))))
    all_goals ((try refine VC.mk ?_); (try simp only [CL.ncell, CL.cnt, Int.toNat_natCast, decide_eq_true_eq, decide_eq_false_iff_not, Bool.not_eq_true, Bool.not_false, Bool.not_true, and_self, and_true, true_and, te3b, te4b, te3s, te4s, Nat.mul_one, Nat.zero_add, List.length_cons, List.length_nil, Bool.false_eq_true, Bool.true_eq_false] at *); (try omega))
    all_goals (try (exfalso; omega))
    refine ⟨k + 1, [], ⟨by omega, by omega⟩, ?_⟩
    repeat' (first | ((conv => whnf); refine And.intro ?_ ?_) | ((conv => whnf); with_reducible exact VC.mk rfl) | ((conv => whnf); exact Ok.mk) | ((conv => whnf); exact True.intro) | ((conv => whnf); refine Nx.mk ?_) | ((conv => whnf); refine Fin.mk ?_) | ((conv => whnf); intro _))
    all_goals ((try refine VC.mk ?_); (try simp only [CL.ncell, CL.cnt, Int.toNat_natCast, decide_eq_true_eq, decide_eq_false_iff_not, Bool.not_eq_true, Bool.not_false, Bool.not_true, and_self, and_true, true_and, te3b, te4b, te3s, te4s, Nat.mul_one, Nat.zero_add, List.length_cons, List.length_nil, Bool.false_eq_true, Bool.true_eq_false] at *); (try omega))
    rw [← fillG_set _ _ _ hlt]; rfl
  · have : n * n = k := by omega
    subst this
    repeat' (first | ((conv => whnf); refine And.intro ?_ ?_) | ((conv => whnf); with_reducible exact VC.mk rfl) | ((conv => whnf); exact Ok.mk) | ((conv => whnf); exact True.intro) | ((conv => whnf); refine Nx.mk ?_) | ((conv => whnf); refine Fin.mk ?_) | ((conv => whnf); intro hq; (try simp only [decide_eq_true_eq, decide_eq_false_iff_not, Bool.not_eq_true, Bool.not_eq_false, Bool.not_eq_true', Bool.not_eq_false', ite_true, ite_false] at hq); (try (exfalso; first | exact absurd hq (by decide) | omega))))
    all_goals ((try refine VC.mk ?_); (try simp only [CL.ncell, CL.cnt, Int.toNat_natCast, decide_eq_true_eq, decide_eq_false_iff_not, Bool.not_eq_true, Bool.not_false, Bool.not_true, and_self, and_true, true_and, te3b, te4b, te3s, te4s, Nat.mul_one, Nat.zero_add, List.length_cons, List.length_nil, Bool.false_eq_true, Bool.true_eq_false] at *); (try omega))
    repeat' (first | ((conv => whnf); refine And.intro ?_ ?_) | ((conv => whnf); with_reducible exact VC.mk rfl) | ((conv => whnf); exact Ok.mk) | ((conv => whnf); exact True.intro) | ((conv => whnf); refine Nx.mk ?_) | ((conv => whnf); refine Fin.mk ?_) | ((conv => whnf); intro hq; (try simp only [decide_eq_true_eq, decide_eq_false_iff_not, Bool.not_eq_true, Bool.not_eq_false, Bool.not_eq_true', Bool.not_eq_false', ite_true, ite_false] at hq); (try (exfalso; first | exact absurd hq (by decide) | omega))))
    all_goals ((try refine VC.mk ?_); (try simp only [CL.ncell, CL.cnt, Int.toNat_natCast, decide_eq_true_eq, decide_eq_false_iff_not, Bool.not_eq_true, Bool.not_false, Bool.not_true, and_self, and_true, true_and, te3b, te4b, te3s, te4s, Nat.mul_one, Nat.zero_add, List.length_cons, List.length_nil, Bool.false_eq_true, Bool.true_eq_false] at *); (try omega))
    · rw [take_fill]
      simp [flatL]
      omega
    · rename_i hq
      rw [take_fill] at hq
      rw [if_neg (by rw [hq]; decide)]
      all_goals (refine Sup.via ?_; repeat' (first | ((conv => whnf); refine And.intro ?_ ?_) | ((conv => whnf); with_reducible exact VC.mk rfl) | ((conv => whnf); exact Ok.mk) | ((conv => whnf); exact True.intro) | ((conv => whnf); refine Nx.mk ?_) | ((conv => whnf); refine Fin.mk ?_) | ((conv => whnf); intro _)); all_goals ((try refine VC.mk ?_); (try simp only [CL.ncell, CL.cnt, Int.toNat_natCast, decide_eq_true_eq, decide_eq_false_iff_not, Bool.not_eq_true, Bool.not_false, Bool.not_true, and_self, and_true, true_and, te3b, te4b, te3s, te4s, Nat.mul_one, Nat.zero_add, List.length_cons, List.length_nil, Bool.false_eq_true, Bool.true_eq_false] at *); (try omega)); all_goals (try (simp [CL.sub]; done)))
    · rename_i hq
      rw [take_fill] at hq
      rw [if_pos hq]
      refine Sup.of ?_
      have e1 : (fillG (dgC n a b) (n * n) (n * n)).length = n * n := e1
      rw [fillG_all]
      simp [resOf, gridV, CL.sub, List.take_of_length_le, flatL]
end Go.Eng.Ytppflbccfdbogaa
namespace Go.Eng.Ytppflbccfdbogaa
open Go.Proofs
set_option maxRecDepth 100000
set_option maxHeartbeats 0
set_option linter.unusedVariables false
set_option linter.unusedSimpArgs false
theorem flatL_le {n : Nat} (hn : n ≤ 16) (g : Nat → Int) : (flatL (n * n) g).length ≤ 2000000 := by
  have := Nat.mul_le_mul hn hn
  simp [flatL]; omega
theorem digits_facts (r c : Int) (l : List Int) : ∃ (r1 c1 : Int) (l1 : List Int) (r2 c2 : Int) (l2 : List Int) (e : Int),
    PSpec Try.prog 59 [gridV r c l] (.tup [gridV r1 c1 l1, gridV r2 c2 l2, .int .i64 e]) ∧ l1.length ≤ 2000000 ∧ l2.length ≤ 2000000 ∧
    (normErr r c l = 0 → ∃ (n m : Int) (a b : List Int), PSpec Try.prog 61 [gridV r c l] (.tup [gridV n n a, gridV m m b]) ∧ MadeOK r1 c1 l1 e n n a 0 ∧ MadeOK r2 c2 l2 e m m b 0) ∧
    (normErr r c l ≠ 0 → ∀ x y z, MadeOK r1 c1 l1 e x y z (normErr r c l) ∧ MadeOK r2 c2 l2 e x y z (normErr r c l)) := by
  have h := digits_spec r c l
  unfold digitsV at h
  by_cases hz : normErr r c l = 0
  · rw [if_pos hz] at h
    obtain ⟨e1, e2, e3, e4, e5⟩ := normG hz
    have h2 := rDigits_spec r.toNat c l e3 e4 e5
    rw [← e1] at h2
    exact ⟨_, _, _, _, _, _, _, h, flatL_le e3.2 _, flatL_le e3.2 _, fun _ => ⟨_, _, _, _, h2, .inr ⟨rfl, rfl, rfl, rfl, rfl⟩, .inr ⟨rfl, rfl, rfl, rfl, rfl⟩⟩, fun hh => absurd hz hh⟩
  · rw [if_neg hz] at h
    exact ⟨_, _, _, _, _, _, _, h, by simp, by simp, fun hh => absurd hh hz, fun _ x y z => ⟨.inl ⟨hz, rfl, rfl, rfl, rfl⟩, .inl ⟨hz, rfl, rfl, rfl, rfl⟩⟩⟩
def digs2 (ra ca : Int) (a : List Int) (rb cb : Int) (b : List Int) : Int := if digErr ra ca a = 0 then digErr rb cb b else digErr ra ca a
theorem from_facts (ra ca : Int) (a : List Int) (rb cb : Int) (b : List Int) : ∃ (r1 c1 : Int) (l1 : List Int) (e : Int),
    PSpec Try.prog 60 [gridV ra ca a, gridV rb cb b] (.tup [gridV r1 c1 l1, .int .i64 e]) ∧ l1.length ≤ 2000000 ∧
    (digs2 ra ca a rb cb b = 0 → ∃ (r2 c2 : Int) (l2 : List Int) (e2 : Int), PSpec Try.prog 63 [gridV ra ca a, gridV rb cb b] (.tup [gridV r2 c2 l2, .int .i64 e2]) ∧ MadeOK r1 c1 l1 e r2 c2 l2 e2) ∧
    (digs2 ra ca a rb cb b ≠ 0 → ∀ x y z, MadeOK r1 c1 l1 e x y z (digs2 ra ca a rb cb b)) := by
  by_cases hz : frdErr ra ca a rb cb b = 0
  · have hz' := hz
    unfold frdErr firstOf firstOf firstOf at hz
    have hA : digErr ra ca a = 0 := by split at hz <;> assumption
    have hB : digErr rb cb b = 0 := by rw [if_pos hA] at hz; split at hz <;> assumption
    have hN : ra = rb := by
      rw [if_pos hA, if_pos hB] at hz
      by_cases h : ra = rb
      · exact h
      · rw [if_pos h] at hz; simp at hz
    have gA := digG hA
    have gB := digG hB
    subst hN
    obtain ⟨n, hn⟩ : ∃ n, ra.toNat = n := ⟨_, rfl⟩
    rw [hn] at gA gB
    obtain ⟨rfl, rfl, e3, e4, e5⟩ := gA
    obtain ⟨_, rfl, f3, f4, f5⟩ := gB
    have h1 := fromDigits_ok n a b ⟨rfl, rfl, e3, e4, e5⟩ ⟨rfl, rfl, f3, f4, f5⟩ hz'
    have h2 := rFromDigits_ok n a b e3 e4 f4 e5 f5
    have hg : digs2 n n a n n b = 0 := by unfold digs2; rw [if_pos hA, hB]
    unfold frdV at h1 h2
    by_cases hq : isNorm (flatL (n * n) (dgC n a b)) = true
    · rw [if_pos hq] at h1 h2
      exact ⟨_, _, _, _, h1, flatL_le e3.2 _, fun _ => ⟨_, _, _, _, h2, .inr ⟨rfl, rfl, rfl, rfl, rfl⟩⟩, fun hh => absurd hg hh⟩
    · rw [if_neg hq] at h1 h2
      exact ⟨_, _, _, _, h1, by simp, fun _ => ⟨_, _, _, _, h2, .inl ⟨by decide, rfl, rfl, rfl, rfl⟩⟩, fun hh => absurd hg hh⟩
  · have h1 := fromDigits_err ra ca a rb cb b hz
    refine ⟨_, _, _, _, h1, by simp, fun hg => ?_, fun hg x y z => .inl ⟨hg, rfl, rfl, rfl, ?_⟩⟩
    · unfold digs2 at hg
      have hA : digErr ra ca a = 0 := by split at hg <;> assumption
      have hB : digErr rb cb b = 0 := by rw [if_pos hA] at hg; exact hg
      unfold frdErr firstOf firstOf firstOf firstOf at hz ⊢
      rw [if_pos hA, if_pos hB] at hz ⊢
      by_cases h : ra = rb
      · exact absurd (by simp [h]) hz
      · exact ⟨_, _, _, _, rFromDigits_ne ra ca a rb cb b h, .inl ⟨by decide, rfl, rfl, rfl, by rw [if_pos h]; rfl⟩⟩
    · unfold digs2 at hg ⊢
      unfold frdErr firstOf firstOf firstOf
      by_cases hA : digErr ra ca a = 0
      · rw [if_pos hA] at hg ⊢
        rw [if_pos hA, if_neg hg]
      · rw [if_neg hA, if_neg hA]
theorem digits_law (ra ca : Int) (a : List Int) (rb cb : Int) (b : List Int) (rc cc : Int) (c : List Int) : PSpec Try.prog 10 [gridV ra ca a, gridV rb cb b, gridV rc cc c] (.bp true) := by
  obtain ⟨r1, c1, l1, r2, c2, l2, e, h1, k1, k2, y1, n1⟩ := digits_facts ra ca a
  obtain ⟨r3, c3, l3, e3, h3, k3, y3, n3⟩ := from_facts rb cb b rc cc c
  unfold digs2 at y3 n3
  by_cases hz : normErr ra ca a = 0
  · obtain ⟨n, m, p, q, h4, m1, m2⟩ := y1 hz
    clear n1 y1
    by_cases hg : digErr rb cb b = 0 ∧ digErr rc cc c = 0
    · obtain ⟨g1, g2⟩ := hg
      obtain ⟨r5, c5, l5, e5, h5, m3⟩ := y3 (by rw [if_pos g1, g2])
      clear n3 y3
      have hC := cpAdd_ok (pureCC_ok (atC_ok (C := True) fun _ => h1)) (cpAdd_ok (pureCC_ok (atC_ok (C := True) fun _ => h3)) (cpAdd_ok (pureCC_ok (atC_ok (C := True) fun _ => h4)) (cpAdd_ok (pureCC_ok (atC_ok (C := True) fun _ => h5)) (cpAdd_ok (pureCC_ok great_ok) (cpAdd_ok (pureCC_ok CheckNormal_ok) (cpAdd_ok (pureCC_ok rCheckDigits_ok) (cpAdd_ok (pureCC_ok madeT_ok) (cpAdd_ok (pureCC_ok awakeT_ok) noC_ok))))))))
      refine pspec_of (md := 1) (rf := []) mixed tabOK hC Try.func10 (by rfl) (by rfl) (by rfl) ?_
      repeat' (first | ((conv => whnf); refine And.intro ?_ ?_) | ((conv => whnf); with_reducible exact VC.mk rfl) | ((conv => whnf); exact Ok.mk) | ((conv => whnf); exact True.intro) | ((conv => whnf); refine Nx.mk ?_) | ((conv => whnf); refine Fin.mk ?_) | ((conv => whnf); intro hq; (try simp only [decide_eq_true_eq, decide_eq_false_iff_not, Bool.not_eq_true, Bool.not_eq_false, Bool.not_eq_true', Bool.not_eq_false', ite_true, ite_false] at hq); (try (exfalso; first | exact absurd hq (by decide) | omega))))
      all_goals ((try refine VC.mk ?_); (try simp only [CL.ncell, CL.cnt, Int.toNat_natCast, decide_eq_true_eq, decide_eq_false_iff_not, Bool.not_eq_true, Bool.not_false, Bool.not_true, and_self, and_true, true_and, te3b, te4b, te3s, te4s, Nat.mul_one, Nat.zero_add, List.length_cons, List.length_nil, Bool.false_eq_true, Bool.true_eq_false] at *); (try omega))
      all_goals first | exact sup_true | exact m1 | exact m2 | exact m3 | (rw [hz]; first | exact m1 | exact m2) | trace_state
    · have hC := cpAdd_ok (pureCC_ok (atC_ok (C := True) fun _ => h1)) (cpAdd_ok (pureCC_ok (atC_ok (C := True) fun _ => h3)) (cpAdd_ok (pureCC_ok (atC_ok (C := True) fun _ => h4)) (cpAdd_ok (pureCC_ok great_ok) (cpAdd_ok (pureCC_ok CheckNormal_ok) (cpAdd_ok (pureCC_ok rCheckDigits_ok) (cpAdd_ok (pureCC_ok madeT_ok) (cpAdd_ok (pureCC_ok awakeT_ok) noC_ok)))))))
      clear y3
      by_cases g1 : digErr rb cb b = 0
      · have g2 : digErr rc cc c ≠ 0 := fun h => hg ⟨g1, h⟩
        rw [if_pos g1] at n3
        have n4 := n3 g2
        clear n3 hg
        refine pspec_of (md := 1) (rf := []) mixed tabOK hC Try.func10 (by rfl) (by rfl) (by rfl) ?_
        repeat' (first | ((conv => whnf); refine And.intro ?_ ?_) | ((conv => whnf); with_reducible exact VC.mk rfl) | ((conv => whnf); exact Ok.mk) | ((conv => whnf); exact True.intro) | ((conv => whnf); refine Nx.mk ?_) | ((conv => whnf); refine Fin.mk ?_) | ((conv => whnf); intro hq; (try simp only [decide_eq_true_eq, decide_eq_false_iff_not, Bool.not_eq_true, Bool.not_eq_false, Bool.not_eq_true', Bool.not_eq_false', ite_true, ite_false] at hq); (try (exfalso; first | exact absurd hq (by decide) | omega))))
        all_goals ((try refine VC.mk ?_); (try simp only [CL.ncell, CL.cnt, Int.toNat_natCast, decide_eq_true_eq, decide_eq_false_iff_not, Bool.not_eq_true, Bool.not_false, Bool.not_true, and_self, and_true, true_and, te3b, te4b, te3s, te4s, Nat.mul_one, Nat.zero_add, List.length_cons, List.length_nil, Bool.false_eq_true, Bool.true_eq_false] at *); (try omega))
        all_goals first | exact sup_true | exact m1 | exact m2 | exact n4 _ _ _ | (rw [hz]; first | exact m1 | exact m2) | trace_state
      · rw [if_neg g1] at n3
        have n4 := n3 g1
        clear n3 hg
        refine pspec_of (md := 1) (rf := []) mixed tabOK hC Try.func10 (by rfl) (by rfl) (by rfl) ?_
        repeat' (first | ((conv => whnf); refine And.intro ?_ ?_) | ((conv => whnf); with_reducible exact VC.mk rfl) | ((conv => whnf); exact Ok.mk) | ((conv => whnf); exact True.intro) | ((conv => whnf); refine Nx.mk ?_) | ((conv => whnf); refine Fin.mk ?_) | ((conv => whnf); intro hq; (try simp only [decide_eq_true_eq, decide_eq_false_iff_not, Bool.not_eq_true, Bool.not_eq_false, Bool.not_eq_true', Bool.not_eq_false', ite_true, ite_false] at hq); (try (exfalso; first | exact absurd hq (by decide) | omega))))
        all_goals ((try refine VC.mk ?_); (try simp only [CL.ncell, CL.cnt, Int.toNat_natCast, decide_eq_true_eq, decide_eq_false_iff_not, Bool.not_eq_true, Bool.not_false, Bool.not_true, and_self, and_true, true_and, te3b, te4b, te3s, te4s, Nat.mul_one, Nat.zero_add, List.length_cons, List.length_nil, Bool.false_eq_true, Bool.true_eq_false] at *); (try omega))
        all_goals first | exact sup_true | exact m1 | exact m2 | exact n4 _ _ _ | (rw [hz]; first | exact m1 | exact m2) | trace_state
  · have m12 := n1 hz
    clear n1 y1
    by_cases hg : digErr rb cb b = 0 ∧ digErr rc cc c = 0
    · obtain ⟨g1, g2⟩ := hg
      obtain ⟨r5, c5, l5, e5, h5, m3⟩ := y3 (by rw [if_pos g1, g2])
      clear n3 y3
      have hC := cpAdd_ok (pureCC_ok (atC_ok (C := True) fun _ => h1)) (cpAdd_ok (pureCC_ok (atC_ok (C := True) fun _ => h3)) (cpAdd_ok (pureCC_ok (atC_ok (C := True) fun _ => h5)) (cpAdd_ok (pureCC_ok great_ok) (cpAdd_ok (pureCC_ok CheckNormal_ok) (cpAdd_ok (pureCC_ok rCheckDigits_ok) (cpAdd_ok (pureCC_ok madeT_ok) (cpAdd_ok (pureCC_ok awakeT_ok) noC_ok)))))))
      refine pspec_of (md := 1) (rf := []) mixed tabOK hC Try.func10 (by rfl) (by rfl) (by rfl) ?_
      repeat' (first | ((conv => whnf); refine And.intro ?_ ?_) | ((conv => whnf); with_reducible exact VC.mk rfl) | ((conv => whnf); exact Ok.mk) | ((conv => whnf); exact True.intro) | ((conv => whnf); refine Nx.mk ?_) | ((conv => whnf); refine Fin.mk ?_) | ((conv => whnf); intro hq; (try simp only [decide_eq_true_eq, decide_eq_false_iff_not, Bool.not_eq_true, Bool.not_eq_false, Bool.not_eq_true', Bool.not_eq_false', ite_true, ite_false] at hq); (try (exfalso; first | exact absurd hq (by decide) | omega))))
      all_goals ((try refine VC.mk ?_); (try simp only [CL.ncell, CL.cnt, Int.toNat_natCast, decide_eq_true_eq, decide_eq_false_iff_not, Bool.not_eq_true, Bool.not_false, Bool.not_true, and_self, and_true, true_and, te3b, te4b, te3s, te4s, Nat.mul_one, Nat.zero_add, List.length_cons, List.length_nil, Bool.false_eq_true, Bool.true_eq_false] at *); (try omega))
      all_goals first | exact sup_true | exact m3 | exact (m12 _ _ _).1 | exact (m12 _ _ _).2 | trace_state
    · have hC := cpAdd_ok (pureCC_ok (atC_ok (C := True) fun _ => h1)) (cpAdd_ok (pureCC_ok (atC_ok (C := True) fun _ => h3)) (cpAdd_ok (pureCC_ok great_ok) (cpAdd_ok (pureCC_ok CheckNormal_ok) (cpAdd_ok (pureCC_ok rCheckDigits_ok) (cpAdd_ok (pureCC_ok madeT_ok) (cpAdd_ok (pureCC_ok awakeT_ok) noC_ok))))))
      clear y3
      by_cases g1 : digErr rb cb b = 0
      · have g2 : digErr rc cc c ≠ 0 := fun h => hg ⟨g1, h⟩
        rw [if_pos g1] at n3
        have n4 := n3 g2
        clear n3 hg
        refine pspec_of (md := 1) (rf := []) mixed tabOK hC Try.func10 (by rfl) (by rfl) (by rfl) ?_
        repeat' (first | ((conv => whnf); refine And.intro ?_ ?_) | ((conv => whnf); with_reducible exact VC.mk rfl) | ((conv => whnf); exact Ok.mk) | ((conv => whnf); exact True.intro) | ((conv => whnf); refine Nx.mk ?_) | ((conv => whnf); refine Fin.mk ?_) | ((conv => whnf); intro hq; (try simp only [decide_eq_true_eq, decide_eq_false_iff_not, Bool.not_eq_true, Bool.not_eq_false, Bool.not_eq_true', Bool.not_eq_false', ite_true, ite_false] at hq); (try (exfalso; first | exact absurd hq (by decide) | omega))))
        all_goals ((try refine VC.mk ?_); (try simp only [CL.ncell, CL.cnt, Int.toNat_natCast, decide_eq_true_eq, decide_eq_false_iff_not, Bool.not_eq_true, Bool.not_false, Bool.not_true, and_self, and_true, true_and, te3b, te4b, te3s, te4s, Nat.mul_one, Nat.zero_add, List.length_cons, List.length_nil, Bool.false_eq_true, Bool.true_eq_false] at *); (try omega))
        all_goals first | exact sup_true | exact n4 _ _ _ | exact (m12 _ _ _).1 | exact (m12 _ _ _).2 | trace_state
      · rw [if_neg g1] at n3
        have n4 := n3 g1
        clear n3 hg
        refine pspec_of (md := 1) (rf := []) mixed tabOK hC Try.func10 (by rfl) (by rfl) (by rfl) ?_
        repeat' (first | ((conv => whnf); refine And.intro ?_ ?_) | ((conv => whnf); with_reducible exact VC.mk rfl) | ((conv => whnf); exact Ok.mk) | ((conv => whnf); exact True.intro) | ((conv => whnf); refine Nx.mk ?_) | ((conv => whnf); refine Fin.mk ?_) | ((conv => whnf); intro hq; (try simp only [decide_eq_true_eq, decide_eq_false_iff_not, Bool.not_eq_true, Bool.not_eq_false, Bool.not_eq_true', Bool.not_eq_false', ite_true, ite_false] at hq); (try (exfalso; first | exact absurd hq (by decide) | omega))))
        all_goals ((try refine VC.mk ?_); (try simp only [CL.ncell, CL.cnt, Int.toNat_natCast, decide_eq_true_eq, decide_eq_false_iff_not, Bool.not_eq_true, Bool.not_false, Bool.not_true, and_self, and_true, true_and, te3b, te4b, te3s, te4s, Nat.mul_one, Nat.zero_add, List.length_cons, List.length_nil, Bool.false_eq_true, Bool.true_eq_false] at *); (try omega))
        all_goals first | exact sup_true | exact n4 _ _ _ | exact (m12 _ _ _).1 | exact (m12 _ _ _).2 | trace_state
end Go.Eng.Ytppflbccfdbogaa
