/-
  Contracts of functions of the program: what each returns. Their conditions stand in them.
-/
import Derived.Test.YtppflbccfdbogaaCd
namespace Go.Eng.Ytppflbccfdbogaa
open Go.Proofs Go.RowKit Go.ChangeShapes Go.WideShapes
set_option linter.unusedVariables false
section
variable {H : Type} {enc : TypeId × Value → H} {W : World}
theorem o5 : OpenC enc Try.prog W 5 [.int .u8] := openC_int Try.underlying5
theorem o93 : OpenC enc Try.prog W 93 [.int .u32] := openC_int Try.underlying93
theorem o9 : OpenC enc Try.prog W 9 [.str] := openC_str Try.underlying9
theorem o29 : OpenC enc Try.prog W 29 [.ints .i64] := openC_ints Try.underlying29 Try.underlying3 (by kernel_rfl)
theorem o43 : OpenC enc Try.prog W 43 [.int .u8, .int .u8] := openC_array (n := 2) Try.underlying43 o5 (by kernel_rfl) (by kernel_rfl)
theorem o42 : OpenC enc Try.prog W 42 [.int .i64, .int .i64, .ints .i64] :=
  openC_struct (lss := [[.int .i64], [.int .i64], [.ints .i64]]) Try.underlying42 ⟨⟨rfl, by kernel_rfl, o3⟩, ⟨rfl, by kernel_rfl, o3⟩, ⟨rfl, by kernel_rfl, o29⟩, trivial⟩ (by kernel_rfl)
theorem o37 : OpenC enc Try.prog W 37 [.str, .int .i64, .int .i64, .ints .i64, .int .i64] :=
  openC_struct (lss := [[.str], [.int .i64], [.int .i64], [.ints .i64], [.int .i64]]) Try.underlying37 ⟨⟨rfl, by kernel_rfl, o9⟩, ⟨rfl, by kernel_rfl, o3⟩, ⟨rfl, by kernel_rfl, o3⟩, ⟨rfl, by kernel_rfl, o29⟩, ⟨rfl, by kernel_rfl, o3⟩, trivial⟩ (by kernel_rfl)
end
end Go.Eng.Ytppflbccfdbogaa
namespace Go.Eng.Ytppflbccfdbogaa
open Go.Proofs
set_option maxRecDepth 100000
set_option maxHeartbeats 0
set_option linter.unusedVariables false
set_option linter.unusedSimpArgs false
theorem colL_succ' (n : Nat) (h : Nat → Int) (m : Nat) : colL n h (m + 1) = colL n h m ++ [(m : Int) * n + h m % n] := by
  simp [colL, List.range_succ, Int.mul_comm]
theorem diag_spec (n k s : Nat) (hn : 1 ≤ n ∧ n ≤ 16) (hk : k ≤ 1000) (hs : s ≤ 1000) : PSpec Try.prog 83 [.int .i64 (n : Int), .int .i64 (k : Int), .int .i64 (s : Int)] (.isl (.ints .i64 (colL n (fun i => (k : Int) + i * s) n)) .none) := by
  refine pspec_of (md := 0) (rf := []) mixed tabOK noC_ok Try.func83 (by rfl) (by rfl) (by rfl) ?_
  repeat' (first | ((conv => whnf); refine And.intro ?_ ?_) | ((conv => whnf); with_reducible exact VC.mk rfl) | ((conv => whnf); exact Ok.mk) | ((conv => whnf); exact True.intro) | ((conv => whnf); refine Nx.mk ?_) | ((conv => whnf); refine Fin.mk ?_) | ((conv => whnf); intro _))
  all_goals ((try refine VC.mk ?_); (try simp only [CL.ncell, CL.cnt, Int.toNat_natCast, decide_eq_true_eq, decide_eq_false_iff_not, Bool.not_eq_true, Bool.not_false, Bool.not_true, and_self, and_true, true_and, te3b, te4b, te3s, te4s, Nat.mul_one, Nat.zero_add, List.length_cons, List.length_nil, Bool.false_eq_true, Bool.true_eq_false] at *); (try omega))
  conv => whnf
  refine loop_of (X := Nat) (fun i => i ≤ n) (fun i => [(8, .int .i64 i), (7, .isl (.ints .i64 (colL n (fun i => (k : Int) + i * s) i)) (.own 0))]) (fun i => [(0, .tok 1 i)]) (fun i => n - i) 0 ⟨anyB_ok, mixed, tabOK, noC_ok, noY_ok⟩ (by rfl) (by omega) ?_ ?_
  · repeat' (first | ((conv => whnf); refine And.intro ?_ ?_) | ((conv => whnf); with_reducible exact VC.mk rfl) | ((conv => whnf); exact Ok.mk) | ((conv => whnf); exact True.intro) | ((conv => whnf); refine Nx.mk ?_) | ((conv => whnf); refine Fin.mk ?_) | ((conv => whnf); intro _))
    all_goals ((try refine VC.mk ?_); (try simp only [CL.ncell, CL.cnt, Int.toNat_natCast, decide_eq_true_eq, decide_eq_false_iff_not, Bool.not_eq_true, Bool.not_false, Bool.not_true, and_self, and_true, true_and, te3b, te4b, te3s, te4s, Nat.mul_one, Nat.zero_add, List.length_cons, List.length_nil, Bool.false_eq_true, Bool.true_eq_false] at *); (try omega))
  · intro i hi
    have e1 := colL_succ' n (fun i => (k : Int) + i * s) i
    have e2 := colL_len n (fun i => (k : Int) + i * s) i
    by_cases hlt : i < n
    · have h1 := mul_bd (A := 16) (B := 16) (show 0 ≤ (i : Int) ∧ (i : Int) ≤ 16 by omega) (show 0 ≤ (n : Int) ∧ (n : Int) ≤ 16 by omega)
      have h2 := mul_bd (A := 16) (B := 1000) (show 0 ≤ (i : Int) ∧ (i : Int) ≤ 16 by omega) (show 0 ≤ (s : Int) ∧ (s : Int) ≤ 1000 by omega)
      have h3 : 0 ≤ ((k : Int) + i * s) % n := Int.emod_nonneg _ (by omega)
      have h4 : ((k : Int) + i * s) % n < n := Int.emod_lt_of_pos _ (by omega)
      repeat' (first | ((conv => whnf); refine And.intro ?_ ?_) | ((conv => whnf); with_reducible exact VC.mk rfl) | ((conv => whnf); exact Ok.mk) | ((conv => whnf); exact True.intro) | ((conv => whnf); refine Nx.mk ?_) | ((conv => whnf); refine Fin.mk ?_) | ((conv => whnf); intro _))
      all_goals ((try refine VC.mk ?_); (try simp only [CL.ncell, CL.cnt, Int.toNat_natCast, decide_eq_true_eq, decide_eq_false_iff_not, Bool.not_eq_true, Bool.not_false, Bool.not_true, and_self, and_true, true_and, te3b, te4b, te3s, te4s, Nat.mul_one, Nat.zero_add, List.length_cons, List.length_nil, Bool.false_eq_true, Bool.true_eq_false] at *); (try omega))
      all_goals (try (simp only [List.length_append, List.length_cons, List.length_nil]; omega))
      refine ⟨i + 1, [], ⟨by omega, by omega⟩, ?_⟩
      repeat' (first | ((conv => whnf); refine And.intro ?_ ?_) | ((conv => whnf); with_reducible exact VC.mk rfl) | ((conv => whnf); exact Ok.mk) | ((conv => whnf); exact True.intro) | ((conv => whnf); refine Nx.mk ?_) | ((conv => whnf); refine Fin.mk ?_) | ((conv => whnf); intro _))
      all_goals ((try refine VC.mk ?_); (try simp only [CL.ncell, CL.cnt, Int.toNat_natCast, decide_eq_true_eq, decide_eq_false_iff_not, Bool.not_eq_true, Bool.not_false, Bool.not_true, and_self, and_true, true_and, te3b, te4b, te3s, te4s, Nat.mul_one, Nat.zero_add, List.length_cons, List.length_nil, Bool.false_eq_true, Bool.true_eq_false] at *); (try omega))
      all_goals (try (rw [e1]))
    · have : n = i := by omega
      subst this
      repeat' (first | ((conv => whnf); refine And.intro ?_ ?_) | ((conv => whnf); with_reducible exact VC.mk rfl) | ((conv => whnf); exact Ok.mk) | ((conv => whnf); exact True.intro) | ((conv => whnf); refine Nx.mk ?_) | ((conv => whnf); refine Fin.mk ?_) | ((conv => whnf); intro _))
      all_goals ((try refine VC.mk ?_); (try simp only [CL.ncell, CL.cnt, Int.toNat_natCast, decide_eq_true_eq, decide_eq_false_iff_not, Bool.not_eq_true, Bool.not_false, Bool.not_true, and_self, and_true, true_and, te3b, te4b, te3s, te4s, Nat.mul_one, Nat.zero_add, List.length_cons, List.length_nil, Bool.false_eq_true, Bool.true_eq_false] at *); (try omega))
      all_goals (first | (refine Sup.of ?_; first | rfl | (simp [*, resOf]; done)) | (refine Sup.via ?_; repeat' (first | ((conv => whnf); refine And.intro ?_ ?_) | ((conv => whnf); with_reducible exact VC.mk rfl) | ((conv => whnf); exact Ok.mk) | ((conv => whnf); exact True.intro) | ((conv => whnf); refine Nx.mk ?_) | ((conv => whnf); refine Fin.mk ?_) | ((conv => whnf); intro _)); all_goals ((try refine VC.mk ?_); (try simp only [CL.ncell, CL.cnt, Int.toNat_natCast, decide_eq_true_eq, decide_eq_false_iff_not, Bool.not_eq_true, Bool.not_false, Bool.not_true, and_self, and_true, true_and, te3b, te4b, te3s, te4s, Nat.mul_one, Nat.zero_add, List.length_cons, List.length_nil, Bool.false_eq_true, Bool.true_eq_false] at *); (try omega)); all_goals (try (simp [CL.sub]; done))))
theorem diag_spec' {n k s : Int} (hn : 1 ≤ n ∧ n ≤ 16) (hk : 0 ≤ k ∧ k ≤ 1000) (hs : 0 ≤ s ∧ s ≤ 1000) : PSpec Try.prog 83 [.int .i64 n, .int .i64 k, .int .i64 s] (.isl (.ints .i64 (colL n.toNat (fun i => k + i * s) n.toNat)) .none) := by
  have := diag_spec n.toNat k.toNat s.toNat (by omega) (by omega) (by omega)
  rwa [Int.toNat_of_nonneg (by omega), Int.toNat_of_nonneg (by omega), Int.toNat_of_nonneg (by omega)] at this
def diagP : PSp := fun xs K => match xs with
  | [.int .i64 n, .int .i64 k, .int .i64 s] => VC ((1 ≤ n ∧ n ≤ 16) ∧ (0 ≤ k ∧ k ≤ 1000) ∧ 0 ≤ s ∧ s ≤ 1000) ∧ K (.isl (.ints .i64 (colL n.toNat (fun i => k + i * s) n.toNat)) .none)
  | _ => False
theorem diag_ok : POK Try.prog 83 diagP := by
  intro xs K h
  unfold diagP at h
  split at h
  · exact ⟨_, h.2, diag_spec' h.1.get.1 h.1.get.2.1 h.1.get.2.2⟩
  · exact h.elim
/-! the sum of some cells -/
theorem rSum_spec (r c : Int) (cs l : List Int) (hc : ∀ x ∈ l, 0 ≤ x ∧ x < cs.length) (hl : l.length ≤ 1000000) (hb : ∀ i, i ≤ l.length → -1000000000000 ≤ sumAt cs l i ∧ sumAt cs l i ≤ 1000000000000) : PSpec Try.prog 71 [gridV r c cs, .isl (.ints .i64 l) .none] (.int .i64 (sumAt cs l l.length)) := by
  refine pspec_of (md := 0) (rf := []) mixed tabOK noC_ok Try.func71 (by rfl) (by rfl) (by rfl) ?_
  repeat' (first | ((conv => whnf); refine And.intro ?_ ?_) | ((conv => whnf); with_reducible exact VC.mk rfl) | ((conv => whnf); exact Ok.mk) | ((conv => whnf); exact True.intro) | ((conv => whnf); refine Nx.mk ?_) | ((conv => whnf); refine Fin.mk ?_) | ((conv => whnf); intro _))
  all_goals ((try refine VC.mk ?_); (try simp only [CL.ncell, CL.cnt, Int.toNat_natCast, decide_eq_true_eq, decide_eq_false_iff_not, Bool.not_eq_true, Bool.not_false, Bool.not_true, and_self, and_true, true_and, te3b, te4b, te3s, te4s, Nat.mul_one, Nat.zero_add, List.length_cons, List.length_nil, Bool.false_eq_true, Bool.true_eq_false] at *); (try omega))
  conv => whnf
  refine loop_of (X := Nat) (fun i => i ≤ l.length) (fun i => [(6, .int .i64 i), (5, .int .i64 (sumAt cs l i))]) (fun i => []) (fun i => l.length - i) 0 ⟨anyB_ok, mixed, tabOK, noC_ok, noY_ok⟩ (by rfl) (by omega) ?_ ?_
  · repeat' (first | ((conv => whnf); refine And.intro ?_ ?_) | ((conv => whnf); with_reducible exact VC.mk rfl) | ((conv => whnf); exact Ok.mk) | ((conv => whnf); exact True.intro) | ((conv => whnf); refine Nx.mk ?_) | ((conv => whnf); refine Fin.mk ?_) | ((conv => whnf); intro _))
    all_goals ((try refine VC.mk ?_); (try simp only [CL.ncell, CL.cnt, Int.toNat_natCast, decide_eq_true_eq, decide_eq_false_iff_not, Bool.not_eq_true, Bool.not_false, Bool.not_true, and_self, and_true, true_and, te3b, te4b, te3s, te4s, Nat.mul_one, Nat.zero_add, List.length_cons, List.length_nil, Bool.false_eq_true, Bool.true_eq_false] at *); (try omega))
    all_goals (try rfl)
  · intro i hi
    have e1 := hb i hi
    by_cases hlt : i < l.length
    · have e2 := sumAt_succ cs l i hlt
      have e3 := hb (i + 1) (by omega)
      have e4 := hc (l.getD i 0) (by rw [List.getD_eq_getElem?_getD, List.getElem?_eq_getElem hlt]; exact List.getElem_mem _)
      repeat' (first | ((conv => whnf); refine And.intro ?_ ?_) | ((conv => whnf); with_reducible exact VC.mk rfl) | ((conv => whnf); exact Ok.mk) | ((conv => whnf); exact True.intro) | ((conv => whnf); refine Nx.mk ?_) | ((conv => whnf); refine Fin.mk ?_) | ((conv => whnf); intro _))
      all_goals ((try refine VC.mk ?_); (try simp only [CL.ncell, CL.cnt, Int.toNat_natCast, decide_eq_true_eq, decide_eq_false_iff_not, Bool.not_eq_true, Bool.not_false, Bool.not_true, and_self, and_true, true_and, te3b, te4b, te3s, te4s, Nat.mul_one, Nat.zero_add, List.length_cons, List.length_nil, Bool.false_eq_true, Bool.true_eq_false] at *); (try omega))
      refine ⟨i + 1, [], ⟨by omega, by omega⟩, ?_⟩
      repeat' (first | ((conv => whnf); refine And.intro ?_ ?_) | ((conv => whnf); with_reducible exact VC.mk rfl) | ((conv => whnf); exact Ok.mk) | ((conv => whnf); exact True.intro) | ((conv => whnf); refine Nx.mk ?_) | ((conv => whnf); refine Fin.mk ?_) | ((conv => whnf); intro _))
      all_goals ((try refine VC.mk ?_); (try simp only [CL.ncell, CL.cnt, Int.toNat_natCast, decide_eq_true_eq, decide_eq_false_iff_not, Bool.not_eq_true, Bool.not_false, Bool.not_true, and_self, and_true, true_and, te3b, te4b, te3s, te4s, Nat.mul_one, Nat.zero_add, List.length_cons, List.length_nil, Bool.false_eq_true, Bool.true_eq_false] at *); (try omega))
      all_goals (try (rw [e2]))
    · have : l.length = i := by omega
      subst this
      repeat' (first | ((conv => whnf); refine And.intro ?_ ?_) | ((conv => whnf); with_reducible exact VC.mk rfl) | ((conv => whnf); exact Ok.mk) | ((conv => whnf); exact True.intro) | ((conv => whnf); refine Nx.mk ?_) | ((conv => whnf); refine Fin.mk ?_) | ((conv => whnf); intro _))
      all_goals ((try refine VC.mk ?_); (try simp only [CL.ncell, CL.cnt, Int.toNat_natCast, decide_eq_true_eq, decide_eq_false_iff_not, Bool.not_eq_true, Bool.not_false, Bool.not_true, and_self, and_true, true_and, te3b, te4b, te3s, te4s, Nat.mul_one, Nat.zero_add, List.length_cons, List.length_nil, Bool.false_eq_true, Bool.true_eq_false] at *); (try omega))
      all_goals (first | (refine Sup.of ?_; first | rfl | (simp [*, resOf]; done)) | (refine Sup.via ?_; repeat' (first | ((conv => whnf); refine And.intro ?_ ?_) | ((conv => whnf); with_reducible exact VC.mk rfl) | ((conv => whnf); exact Ok.mk) | ((conv => whnf); exact True.intro) | ((conv => whnf); refine Nx.mk ?_) | ((conv => whnf); refine Fin.mk ?_) | ((conv => whnf); intro _)); all_goals ((try refine VC.mk ?_); (try simp only [CL.ncell, CL.cnt, Int.toNat_natCast, decide_eq_true_eq, decide_eq_false_iff_not, Bool.not_eq_true, Bool.not_false, Bool.not_true, and_self, and_true, true_and, te3b, te4b, te3s, te4s, Nat.mul_one, Nat.zero_add, List.length_cons, List.length_nil, Bool.false_eq_true, Bool.true_eq_false] at *); (try omega)); all_goals (try (simp [CL.sub]; done))))
def rSumP : PSp := fun xs K => match xs with
  | [.agg [.int .i64 r, .int .i64 c, .isl (.ints .i64 cs) .none], .isl (.ints .i64 l) .none] => VC ((∀ x ∈ l, 0 ≤ x ∧ x < cs.length) ∧ l.length ≤ 1000000 ∧ ∀ i, i ≤ l.length → -1000000000000 ≤ sumAt cs l i ∧ sumAt cs l i ≤ 1000000000000) ∧ K (.int .i64 (sumAt cs l l.length))
  | _ => False
theorem rSum_ok : POK Try.prog 71 rSumP := by
  intro xs K h
  unfold rSumP at h
  split at h
  · exact ⟨_, h.2, rSum_spec _ _ _ _ h.1.get.1 h.1.get.2.1 h.1.get.2.2⟩
  · exact h.elim
/-! all lines -/
def gOf (s : ByteArray) : Int := if s = kSq then 0 else if s = kSemi then 1 else if s = kMag then 2 else 3
def linesTo (n m : Nat) : List (List Int) := (List.range m).map (lineAt n)
theorem linesTo_succ (n m : Nat) : linesTo n (m + 1) = linesTo n m ++ [lineAt n m] := by simp [linesTo, List.range_succ]
theorem linesTo_get (n m i : Nat) (h : i < m) : (linesTo n m).getD i [] = lineAt n i := by
  simp [linesTo, List.getD_eq_getElem?_getD, h]
theorem linesTo_len (n m : Nat) : (linesTo n m).length = m := by simp [linesTo]
theorem colL_congr {n : Nat} {h h' : Nat → Int} (e : ∀ i, i < n → h i % n = h' i % n) : colL n h n = colL n h' n := by
  unfold colL
  exact List.map_congr_left fun i hi => by rw [e i (List.mem_range.1 hi)]
theorem emod_of_sub {a b n k : Int} (h : a - b = n * k) : a % n = b % n := by
  have : a = b + n * k := by omega
  rw [this, Int.add_mul_emod_self_left]
theorem dg1 (n : Nat) : colL n (fun i => 0 + (i : Int) * 1) n = lineAt n (2 * n) := by
  rw [lineAt_d1]; exact colL_congr fun i _ => by congr 1; omega
theorem dg2 (n : Nat) : colL n (fun i => (n : Int) - 1 + (i : Int) * ((n : Int) - 1)) n = lineAt n (2 * n + 1) := by
  rw [lineAt_d2]; exact colL_congr fun i _ => emod_of_sub (k := (i : Int)) (by rw [Int.mul_sub, Int.mul_comm (n : Int) (i : Int)]; omega)
theorem dg3 (n k : Nat) (hk : 1 ≤ k ∧ k < n) : colL n (fun i => (k : Int) + (i : Int) * 1) n = lineAt n (2 * n + 1 + k) := by
  have : lineAt n (2 * n + 1 + k) = colL n (fun j => (j : Int) + (((2 * n + 1 + k : Nat) : Int) - 2 * n - 1)) n := by
    unfold lineAt; rw [if_neg (by omega), if_neg (by omega), if_neg (by omega), if_neg (by omega), if_pos (by omega)]
  rw [this]; exact colL_congr fun i _ => by congr 1; omega
theorem dg4 (n k : Nat) (hn : 1 ≤ n) (hk : k + 1 < n) : colL n (fun i => (k : Int) + (i : Int) * ((n : Int) - 1)) n = lineAt n (3 * n + 1 + k) := by
  have : lineAt n (3 * n + 1 + k) = colL n (fun j => ((3 * n + 1 + k : Nat) : Int) - 3 * n - 1 - j) n := by
    unfold lineAt; rw [if_neg (by omega), if_neg (by omega), if_neg (by omega), if_neg (by omega), if_neg (by omega)]
  rw [this]; exact colL_congr fun i _ => emod_of_sub (k := (i : Int)) (by rw [Int.mul_sub, Int.mul_comm (n : Int) (i : Int)]; push_cast; omega)
theorem linesTo_two (n : Nat) : linesTo n (n + n) ++ [colL n (fun i => 0 + (i : Int) * 1) n, colL n (fun i => (n : Int) - 1 + (i : Int) * ((n : Int) - 1)) n] = linesTo n (2 * n + 2) := by
  rw [dg1, dg2, show 2 * n + 2 = n + n + 1 + 1 by omega, linesTo_succ, linesTo_succ, show n + n + 1 = 2 * n + 1 by omega, show n + n = 2 * n by omega]
  simp
noncomputable def cpLn : CPT := cpAdd 83 (pureCC diagP) noC
theorem cpLn_ok : CPOK Try.prog cpLn := cpAdd_ok (pureCC_ok diag_ok) noC_ok
theorem Lines_spec (n : Nat) (hn : 1 ≤ n ∧ n ≤ 16) (s : ByteArray) : PSpec Try.prog 105 [.int .i64 (n : Int), .str s] (.isl (.rows .i64 (linesTo n (lineCnt n (gOf s)))) .none) := by
  refine pspec_of (md := 0) (rf := []) mixed tabOK cpLn_ok Try.func105 (by rfl) (by rfl) (by rfl) ?_
  repeat' (first | ((conv => whnf); refine And.intro ?_ ?_) | ((conv => whnf); with_reducible exact VC.mk rfl) | ((conv => whnf); exact Ok.mk) | ((conv => whnf); exact True.intro) | ((conv => whnf); refine Nx.mk ?_) | ((conv => whnf); refine Fin.mk ?_) | ((conv => whnf); intro _))
  all_goals ((try refine VC.mk ?_); (try simp only [CL.ncell, CL.cnt, Int.toNat_natCast, decide_eq_true_eq, decide_eq_false_iff_not, Bool.not_eq_true, Bool.not_false, Bool.not_true, and_self, and_true, true_and, te3b, te4b, te3s, te4s, Nat.mul_one, Nat.zero_add, List.length_cons, List.length_nil, Bool.false_eq_true, Bool.true_eq_false] at *); (try omega))
  · rename_i hs
    have : lineCnt n (gOf s) = 0 := by unfold gOf; rw [if_pos hs]; rfl
    rw [this]
    all_goals (refine Sup.via ?_; repeat' (first | ((conv => whnf); refine And.intro ?_ ?_) | ((conv => whnf); with_reducible exact VC.mk rfl) | ((conv => whnf); exact Ok.mk) | ((conv => whnf); exact True.intro) | ((conv => whnf); refine Nx.mk ?_) | ((conv => whnf); refine Fin.mk ?_) | ((conv => whnf); intro _)); all_goals ((try refine VC.mk ?_); (try simp only [CL.ncell, CL.cnt, Int.toNat_natCast, decide_eq_true_eq, decide_eq_false_iff_not, Bool.not_eq_true, Bool.not_false, Bool.not_true, and_self, and_true, true_and, te3b, te4b, te3s, te4s, Nat.mul_one, Nat.zero_add, List.length_cons, List.length_nil, Bool.false_eq_true, Bool.true_eq_false] at *); (try omega)); all_goals (try (simp [CL.sub]; done)))
    rfl
  rename_i hsq
  conv => whnf
  refine loop_of (X := Nat) (fun i => i ≤ n) (fun i => [(6, .int .i64 i), (5, .isl (.rows .i64 (linesTo n i)) (.own 0))]) (fun i => [(0, .tok 1 i)]) (fun i => n - i) 0 ⟨anyB_ok, mixed, tabOK, cpLn_ok, noY_ok⟩ (by rfl) (by omega) ?_ ?_
  · repeat' (first | ((conv => whnf); refine And.intro ?_ ?_) | ((conv => whnf); with_reducible exact VC.mk rfl) | ((conv => whnf); exact Ok.mk) | ((conv => whnf); exact True.intro) | ((conv => whnf); refine Nx.mk ?_) | ((conv => whnf); refine Fin.mk ?_) | ((conv => whnf); intro _))
    all_goals ((try refine VC.mk ?_); (try simp only [CL.ncell, CL.cnt, Int.toNat_natCast, decide_eq_true_eq, decide_eq_false_iff_not, Bool.not_eq_true, Bool.not_false, Bool.not_true, and_self, and_true, true_and, te3b, te4b, te3s, te4s, Nat.mul_one, Nat.zero_add, List.length_cons, List.length_nil, Bool.false_eq_true, Bool.true_eq_false] at *); (try omega))
  intro i hi
  by_cases hlt : i < n
  · repeat' (first | ((conv => whnf); refine And.intro ?_ ?_) | ((conv => whnf); with_reducible exact VC.mk rfl) | ((conv => whnf); exact Ok.mk) | ((conv => whnf); exact True.intro) | ((conv => whnf); refine Nx.mk ?_) | ((conv => whnf); refine Fin.mk ?_) | ((conv => whnf); intro _))
    all_goals ((try refine VC.mk ?_); (try simp only [CL.ncell, CL.cnt, Int.toNat_natCast, decide_eq_true_eq, decide_eq_false_iff_not, Bool.not_eq_true, Bool.not_false, Bool.not_true, and_self, and_true, true_and, te3b, te4b, te3s, te4s, Nat.mul_one, Nat.zero_add, List.length_cons, List.length_nil, Bool.false_eq_true, Bool.true_eq_false] at *); (try omega))
    conv => whnf
    refine loop_of (X := Nat) (fun j => j ≤ n) (fun j => [(8, .int .i64 j), (7, .isl (.ints .i64 (rowL n i j)) (.own 1))]) (fun j => [(1, .tok 1 j)]) (fun j => n - j) 0 ⟨anyB_ok, mixed, tabOK, cpLn_ok, noY_ok⟩ (by rfl) (by omega) ?_ ?_
    · repeat' (first | ((conv => whnf); refine And.intro ?_ ?_) | ((conv => whnf); with_reducible exact VC.mk rfl) | ((conv => whnf); exact Ok.mk) | ((conv => whnf); exact True.intro) | ((conv => whnf); refine Nx.mk ?_) | ((conv => whnf); refine Fin.mk ?_) | ((conv => whnf); intro _))
      all_goals ((try refine VC.mk ?_); (try simp only [CL.ncell, CL.cnt, Int.toNat_natCast, decide_eq_true_eq, decide_eq_false_iff_not, Bool.not_eq_true, Bool.not_false, Bool.not_true, and_self, and_true, true_and, te3b, te4b, te3s, te4s, Nat.mul_one, Nat.zero_add, List.length_cons, List.length_nil, Bool.false_eq_true, Bool.true_eq_false] at *); (try omega))
    intro j hj
    have e1 := rowL_succ n i j
    have e2 := rowL_len n i j
    have h1 := mul_bd (A := 16) (B := 16) (show 0 ≤ (i : Int) ∧ (i : Int) ≤ 16 by omega) (show 0 ≤ (n : Int) ∧ (n : Int) ≤ 16 by omega)
    by_cases hlj : j < n
    · repeat' (first | ((conv => whnf); refine And.intro ?_ ?_) | ((conv => whnf); with_reducible exact VC.mk rfl) | ((conv => whnf); exact Ok.mk) | ((conv => whnf); exact True.intro) | ((conv => whnf); refine Nx.mk ?_) | ((conv => whnf); refine Fin.mk ?_) | ((conv => whnf); intro _))
      all_goals ((try refine VC.mk ?_); (try simp only [CL.ncell, CL.cnt, Int.toNat_natCast, decide_eq_true_eq, decide_eq_false_iff_not, Bool.not_eq_true, Bool.not_false, Bool.not_true, and_self, and_true, true_and, te3b, te4b, te3s, te4s, Nat.mul_one, Nat.zero_add, List.length_cons, List.length_nil, Bool.false_eq_true, Bool.true_eq_false] at *); (try omega))
      all_goals (try (simp only [List.length_append, List.length_cons, List.length_nil]; omega))
      refine ⟨j + 1, [], ⟨by omega, by omega⟩, ?_⟩
      repeat' (first | ((conv => whnf); refine And.intro ?_ ?_) | ((conv => whnf); with_reducible exact VC.mk rfl) | ((conv => whnf); exact Ok.mk) | ((conv => whnf); exact True.intro) | ((conv => whnf); refine Nx.mk ?_) | ((conv => whnf); refine Fin.mk ?_) | ((conv => whnf); intro _))
      all_goals ((try refine VC.mk ?_); (try simp only [CL.ncell, CL.cnt, Int.toNat_natCast, decide_eq_true_eq, decide_eq_false_iff_not, Bool.not_eq_true, Bool.not_false, Bool.not_true, and_self, and_true, true_and, te3b, te4b, te3s, te4s, Nat.mul_one, Nat.zero_add, List.length_cons, List.length_nil, Bool.false_eq_true, Bool.true_eq_false] at *); (try omega))
      all_goals (try (rw [e1, Int.mul_comm (n : Int)]))
    · have : n = j := by omega
      subst this
      have e3 := linesTo_len n i
      have e4 := linesTo_succ n i
      rw [lineAt_row hlt] at e4
      repeat' (first | ((conv => whnf); refine And.intro ?_ ?_) | ((conv => whnf); with_reducible exact VC.mk rfl) | ((conv => whnf); exact Ok.mk) | ((conv => whnf); exact True.intro) | ((conv => whnf); refine Nx.mk ?_) | ((conv => whnf); refine Fin.mk ?_) | ((conv => whnf); intro _))
      all_goals ((try refine VC.mk ?_); (try simp only [CL.ncell, CL.cnt, Int.toNat_natCast, decide_eq_true_eq, decide_eq_false_iff_not, Bool.not_eq_true, Bool.not_false, Bool.not_true, and_self, and_true, true_and, te3b, te4b, te3s, te4s, Nat.mul_one, Nat.zero_add, List.length_cons, List.length_nil, Bool.false_eq_true, Bool.true_eq_false] at *); (try omega))
      all_goals (try (simp only [List.length_append, List.length_cons, List.length_nil]; omega))
      refine ⟨i + 1, [], ⟨by omega, by omega⟩, ?_⟩
      repeat' (first | ((conv => whnf); refine And.intro ?_ ?_) | ((conv => whnf); with_reducible exact VC.mk rfl) | ((conv => whnf); exact Ok.mk) | ((conv => whnf); exact True.intro) | ((conv => whnf); refine Nx.mk ?_) | ((conv => whnf); refine Fin.mk ?_) | ((conv => whnf); intro _))
      all_goals ((try refine VC.mk ?_); (try simp only [CL.ncell, CL.cnt, Int.toNat_natCast, decide_eq_true_eq, decide_eq_false_iff_not, Bool.not_eq_true, Bool.not_false, Bool.not_true, and_self, and_true, true_and, te3b, te4b, te3s, te4s, Nat.mul_one, Nat.zero_add, List.length_cons, List.length_nil, Bool.false_eq_true, Bool.true_eq_false] at *); (try omega))
      all_goals (try (rw [e4]))
  have : n = i := by omega
  subst this
  repeat' (first | ((conv => whnf); refine And.intro ?_ ?_) | ((conv => whnf); with_reducible exact VC.mk rfl) | ((conv => whnf); exact Ok.mk) | ((conv => whnf); exact True.intro) | ((conv => whnf); refine Nx.mk ?_) | ((conv => whnf); refine Fin.mk ?_) | ((conv => whnf); intro _))
  all_goals ((try refine VC.mk ?_); (try simp only [CL.ncell, CL.cnt, Int.toNat_natCast, decide_eq_true_eq, decide_eq_false_iff_not, Bool.not_eq_true, Bool.not_false, Bool.not_true, and_self, and_true, true_and, te3b, te4b, te3s, te4s, Nat.mul_one, Nat.zero_add, List.length_cons, List.length_nil, Bool.false_eq_true, Bool.true_eq_false] at *); (try omega))
  conv => whnf
  refine loop_of (X := Nat) (fun i => i ≤ n) (fun i => [(9, .int .i64 i), (5, .isl (.rows .i64 (linesTo n (n + i))) (.own 0))]) (fun i => [(0, .tok 1 (n + i))]) (fun i => n - i) 0 ⟨anyB_ok, mixed, tabOK, cpLn_ok, noY_ok⟩ (by rfl) (by omega) ?_ ?_
  · repeat' (first | ((conv => whnf); refine And.intro ?_ ?_) | ((conv => whnf); with_reducible exact VC.mk rfl) | ((conv => whnf); exact Ok.mk) | ((conv => whnf); exact True.intro) | ((conv => whnf); refine Nx.mk ?_) | ((conv => whnf); refine Fin.mk ?_) | ((conv => whnf); intro _))
    all_goals ((try refine VC.mk ?_); (try simp only [CL.ncell, CL.cnt, Int.toNat_natCast, decide_eq_true_eq, decide_eq_false_iff_not, Bool.not_eq_true, Bool.not_false, Bool.not_true, and_self, and_true, true_and, te3b, te4b, te3s, te4s, Nat.mul_one, Nat.zero_add, List.length_cons, List.length_nil, Bool.false_eq_true, Bool.true_eq_false] at *); (try omega))
  intro i hi
  by_cases hlt : i < n
  · repeat' (first | ((conv => whnf); refine And.intro ?_ ?_) | ((conv => whnf); with_reducible exact VC.mk rfl) | ((conv => whnf); exact Ok.mk) | ((conv => whnf); exact True.intro) | ((conv => whnf); refine Nx.mk ?_) | ((conv => whnf); refine Fin.mk ?_) | ((conv => whnf); intro _))
    all_goals ((try refine VC.mk ?_); (try simp only [CL.ncell, CL.cnt, Int.toNat_natCast, decide_eq_true_eq, decide_eq_false_iff_not, Bool.not_eq_true, Bool.not_false, Bool.not_true, and_self, and_true, true_and, te3b, te4b, te3s, te4s, Nat.mul_one, Nat.zero_add, List.length_cons, List.length_nil, Bool.false_eq_true, Bool.true_eq_false] at *); (try omega))
    conv => whnf
    refine loop_of (X := Nat) (fun j => j ≤ n) (fun j => [(11, .int .i64 j), (10, .isl (.ints .i64 (colL n (fun _ => (i : Int)) j)) (.own 1))]) (fun j => [(1, .tok 1 j)]) (fun j => n - j) 0 ⟨anyB_ok, mixed, tabOK, cpLn_ok, noY_ok⟩ (by rfl) (by omega) ?_ ?_
    · repeat' (first | ((conv => whnf); refine And.intro ?_ ?_) | ((conv => whnf); with_reducible exact VC.mk rfl) | ((conv => whnf); exact Ok.mk) | ((conv => whnf); exact True.intro) | ((conv => whnf); refine Nx.mk ?_) | ((conv => whnf); refine Fin.mk ?_) | ((conv => whnf); intro _))
      all_goals ((try refine VC.mk ?_); (try simp only [CL.ncell, CL.cnt, Int.toNat_natCast, decide_eq_true_eq, decide_eq_false_iff_not, Bool.not_eq_true, Bool.not_false, Bool.not_true, and_self, and_true, true_and, te3b, te4b, te3s, te4s, Nat.mul_one, Nat.zero_add, List.length_cons, List.length_nil, Bool.false_eq_true, Bool.true_eq_false] at *); (try omega))
    intro j hj
    have e1 := colL_succ' n (fun _ => (i : Int)) j
    rw [Int.emod_eq_of_lt (by omega) (by omega)] at e1
    have e2 := colL_len n (fun _ => (i : Int)) j
    have h1 := mul_bd (A := 16) (B := 16) (show 0 ≤ (j : Int) ∧ (j : Int) ≤ 16 by omega) (show 0 ≤ (n : Int) ∧ (n : Int) ≤ 16 by omega)
    by_cases hlj : j < n
    · repeat' (first | ((conv => whnf); refine And.intro ?_ ?_) | ((conv => whnf); with_reducible exact VC.mk rfl) | ((conv => whnf); exact Ok.mk) | ((conv => whnf); exact True.intro) | ((conv => whnf); refine Nx.mk ?_) | ((conv => whnf); refine Fin.mk ?_) | ((conv => whnf); intro _))
      all_goals ((try refine VC.mk ?_); (try simp only [CL.ncell, CL.cnt, Int.toNat_natCast, decide_eq_true_eq, decide_eq_false_iff_not, Bool.not_eq_true, Bool.not_false, Bool.not_true, and_self, and_true, true_and, te3b, te4b, te3s, te4s, Nat.mul_one, Nat.zero_add, List.length_cons, List.length_nil, Bool.false_eq_true, Bool.true_eq_false] at *); (try omega))
      all_goals (try (simp only [List.length_append, List.length_cons, List.length_nil]; omega))
      refine ⟨j + 1, [], ⟨by omega, by omega⟩, ?_⟩
      repeat' (first | ((conv => whnf); refine And.intro ?_ ?_) | ((conv => whnf); with_reducible exact VC.mk rfl) | ((conv => whnf); exact Ok.mk) | ((conv => whnf); exact True.intro) | ((conv => whnf); refine Nx.mk ?_) | ((conv => whnf); refine Fin.mk ?_) | ((conv => whnf); intro _))
      all_goals ((try refine VC.mk ?_); (try simp only [CL.ncell, CL.cnt, Int.toNat_natCast, decide_eq_true_eq, decide_eq_false_iff_not, Bool.not_eq_true, Bool.not_false, Bool.not_true, and_self, and_true, true_and, te3b, te4b, te3s, te4s, Nat.mul_one, Nat.zero_add, List.length_cons, List.length_nil, Bool.false_eq_true, Bool.true_eq_false] at *); (try omega))
      all_goals (try (rw [e1]))
    · have : n = j := by omega
      subst this
      have e3 := linesTo_len n (n + i)
      have e4 := linesTo_succ n (n + i)
      rw [lineAt_col hlt] at e4
      repeat' (first | ((conv => whnf); refine And.intro ?_ ?_) | ((conv => whnf); with_reducible exact VC.mk rfl) | ((conv => whnf); exact Ok.mk) | ((conv => whnf); exact True.intro) | ((conv => whnf); refine Nx.mk ?_) | ((conv => whnf); refine Fin.mk ?_) | ((conv => whnf); intro _))
      all_goals ((try refine VC.mk ?_); (try simp only [CL.ncell, CL.cnt, Int.toNat_natCast, decide_eq_true_eq, decide_eq_false_iff_not, Bool.not_eq_true, Bool.not_false, Bool.not_true, and_self, and_true, true_and, te3b, te4b, te3s, te4s, Nat.mul_one, Nat.zero_add, List.length_cons, List.length_nil, Bool.false_eq_true, Bool.true_eq_false] at *); (try omega))
      all_goals (try (simp only [List.length_append, List.length_cons, List.length_nil]; omega))
      refine ⟨i + 1, [], ⟨by omega, by omega⟩, ?_⟩
      repeat' (first | ((conv => whnf); refine And.intro ?_ ?_) | ((conv => whnf); with_reducible exact VC.mk rfl) | ((conv => whnf); exact Ok.mk) | ((conv => whnf); exact True.intro) | ((conv => whnf); refine Nx.mk ?_) | ((conv => whnf); refine Fin.mk ?_) | ((conv => whnf); intro _))
      all_goals ((try refine VC.mk ?_); (try simp only [CL.ncell, CL.cnt, Int.toNat_natCast, decide_eq_true_eq, decide_eq_false_iff_not, Bool.not_eq_true, Bool.not_false, Bool.not_true, and_self, and_true, true_and, te3b, te4b, te3s, te4s, Nat.mul_one, Nat.zero_add, List.length_cons, List.length_nil, Bool.false_eq_true, Bool.true_eq_false] at *); (try omega))
      all_goals (try (rw [← Nat.add_assoc, e4]))
  have : n = i := by omega
  subst this
  have e3 := linesTo_len n (n + n)
  repeat' (first | ((conv => whnf); refine And.intro ?_ ?_) | ((conv => whnf); with_reducible exact VC.mk rfl) | ((conv => whnf); exact Ok.mk) | ((conv => whnf); exact True.intro) | ((conv => whnf); refine Nx.mk ?_) | ((conv => whnf); refine Fin.mk ?_) | ((conv => whnf); intro _))
  all_goals ((try refine VC.mk ?_); (try simp only [CL.ncell, CL.cnt, Int.toNat_natCast, decide_eq_true_eq, decide_eq_false_iff_not, Bool.not_eq_true, Bool.not_false, Bool.not_true, and_self, and_true, true_and, te3b, te4b, te3s, te4s, Nat.mul_one, Nat.zero_add, List.length_cons, List.length_nil, Bool.false_eq_true, Bool.true_eq_false] at *); (try omega))
  · rename_i hs
    have : lineCnt n (gOf s) = n + n := by
      have e : gOf s = 1 := by unfold gOf; rw [if_neg hsq, if_pos hs]
      rw [e]; unfold lineCnt; rw [if_neg (by omega), if_pos (by omega)]; omega
    rw [this]
    all_goals (first | (refine Sup.of ?_; first | rfl | (simp [*, resOf]; done)) | (refine Sup.via ?_; repeat' (first | ((conv => whnf); refine And.intro ?_ ?_) | ((conv => whnf); with_reducible exact VC.mk rfl) | ((conv => whnf); exact Ok.mk) | ((conv => whnf); exact True.intro) | ((conv => whnf); refine Nx.mk ?_) | ((conv => whnf); refine Fin.mk ?_) | ((conv => whnf); intro _)); all_goals ((try refine VC.mk ?_); (try simp only [CL.ncell, CL.cnt, Int.toNat_natCast, decide_eq_true_eq, decide_eq_false_iff_not, Bool.not_eq_true, Bool.not_false, Bool.not_true, and_self, and_true, true_and, te3b, te4b, te3s, te4s, Nat.mul_one, Nat.zero_add, List.length_cons, List.length_nil, Bool.false_eq_true, Bool.true_eq_false] at *); (try omega)); all_goals (try (simp [CL.sub]; done))))
  · rename_i hs
    simp only [List.length_append, List.length_cons, List.length_nil]; omega
  · rename_i hs1 hs
    have : lineCnt n (gOf s) = 2 * n + 2 := by
      have e : gOf s = 2 := by unfold gOf; rw [if_neg hsq, if_neg hs1, if_pos hs]
      rw [e]; unfold lineCnt; rw [if_neg (by omega), if_neg (by omega), if_pos (by omega)]
    rw [this, linesTo_two]
    all_goals (first | (refine Sup.of ?_; first | rfl | (simp [*, resOf]; done)) | (refine Sup.via ?_; repeat' (first | ((conv => whnf); refine And.intro ?_ ?_) | ((conv => whnf); with_reducible exact VC.mk rfl) | ((conv => whnf); exact Ok.mk) | ((conv => whnf); exact True.intro) | ((conv => whnf); refine Nx.mk ?_) | ((conv => whnf); refine Fin.mk ?_) | ((conv => whnf); intro _)); all_goals ((try refine VC.mk ?_); (try simp only [CL.ncell, CL.cnt, Int.toNat_natCast, decide_eq_true_eq, decide_eq_false_iff_not, Bool.not_eq_true, Bool.not_false, Bool.not_true, and_self, and_true, true_and, te3b, te4b, te3s, te4s, Nat.mul_one, Nat.zero_add, List.length_cons, List.length_nil, Bool.false_eq_true, Bool.true_eq_false] at *); (try omega)); all_goals (try (simp [CL.sub]; done))))
  rename_i hs1 hs2
  have hcnt : lineCnt n (gOf s) = 4 * n := by
    have e : gOf s = 3 := by unfold gOf; rw [if_neg hsq, if_neg hs1, if_neg hs2]
    rw [e]; unfold lineCnt; rw [if_neg (by omega), if_neg (by omega), if_neg (by omega)]
  rw [hcnt]
  simp only [linesTo_two]
  have e3 := linesTo_len n (2 * n + 2)
  generalize hL0 : linesTo n (2 * n + 2) = L0 at *
  try simp only [List.length_append, List.length_cons, List.length_nil]
  conv => whnf
  refine loop_of (X := Nat) (fun k => 1 ≤ k ∧ k ≤ n) (fun k => [(12, .int .i64 k), (5, .isl (.rows .i64 (linesTo n (2 * n + 1 + k))) (.own 0))]) (fun k => [(0, .tok 1 (2 * n + 1 + k))]) (fun k => n - k) 1 ⟨anyB_ok, mixed, tabOK, cpLn_ok, noY_ok⟩ (by rfl) (by omega) ?_ ?_
  · repeat' (first | ((conv => whnf); refine And.intro ?_ ?_) | ((conv => whnf); with_reducible exact VC.mk rfl) | ((conv => whnf); exact Ok.mk) | ((conv => whnf); exact True.intro) | ((conv => whnf); refine Nx.mk ?_) | ((conv => whnf); refine Fin.mk ?_) | ((conv => whnf); intro _))
    all_goals ((try refine VC.mk ?_); (try simp only [CL.ncell, CL.cnt, Int.toNat_natCast, decide_eq_true_eq, decide_eq_false_iff_not, Bool.not_eq_true, Bool.not_false, Bool.not_true, and_self, and_true, true_and, te3b, te4b, te3s, te4s, Nat.mul_one, Nat.zero_add, List.length_cons, List.length_nil, Bool.false_eq_true, Bool.true_eq_false] at *); (try omega))
    all_goals (try (rw [← hL0]; done))
  intro k hk
  have e3 := linesTo_len n (2 * n + 1 + k)
  have e4 := linesTo_succ n (2 * n + 1 + k)
  by_cases hlt : k < n
  · rw [← dg3 n k (by omega)] at e4
    repeat' (first | ((conv => whnf); refine And.intro ?_ ?_) | ((conv => whnf); with_reducible exact VC.mk rfl) | ((conv => whnf); exact Ok.mk) | ((conv => whnf); exact True.intro) | ((conv => whnf); refine Nx.mk ?_) | ((conv => whnf); refine Fin.mk ?_) | ((conv => whnf); intro _))
    all_goals ((try refine VC.mk ?_); (try simp only [CL.ncell, CL.cnt, Int.toNat_natCast, decide_eq_true_eq, decide_eq_false_iff_not, Bool.not_eq_true, Bool.not_false, Bool.not_true, and_self, and_true, true_and, te3b, te4b, te3s, te4s, Nat.mul_one, Nat.zero_add, List.length_cons, List.length_nil, Bool.false_eq_true, Bool.true_eq_false] at *); (try omega))
    all_goals (try (simp only [List.length_append, List.length_cons, List.length_nil]; omega))
    refine ⟨k + 1, [], ⟨by omega, by omega⟩, ?_⟩
    repeat' (first | ((conv => whnf); refine And.intro ?_ ?_) | ((conv => whnf); with_reducible exact VC.mk rfl) | ((conv => whnf); exact Ok.mk) | ((conv => whnf); exact True.intro) | ((conv => whnf); refine Nx.mk ?_) | ((conv => whnf); refine Fin.mk ?_) | ((conv => whnf); intro _))
    all_goals ((try refine VC.mk ?_); (try simp only [CL.ncell, CL.cnt, Int.toNat_natCast, decide_eq_true_eq, decide_eq_false_iff_not, Bool.not_eq_true, Bool.not_false, Bool.not_true, and_self, and_true, true_and, te3b, te4b, te3s, te4s, Nat.mul_one, Nat.zero_add, List.length_cons, List.length_nil, Bool.false_eq_true, Bool.true_eq_false] at *); (try omega))
    all_goals (try (rw [← Nat.add_assoc, e4]))
  have : n = k := by omega
  subst this
  repeat' (first | ((conv => whnf); refine And.intro ?_ ?_) | ((conv => whnf); with_reducible exact VC.mk rfl) | ((conv => whnf); exact Ok.mk) | ((conv => whnf); exact True.intro) | ((conv => whnf); refine Nx.mk ?_) | ((conv => whnf); refine Fin.mk ?_) | ((conv => whnf); intro _))
  all_goals ((try refine VC.mk ?_); (try simp only [CL.ncell, CL.cnt, Int.toNat_natCast, decide_eq_true_eq, decide_eq_false_iff_not, Bool.not_eq_true, Bool.not_false, Bool.not_true, and_self, and_true, true_and, te3b, te4b, te3s, te4s, Nat.mul_one, Nat.zero_add, List.length_cons, List.length_nil, Bool.false_eq_true, Bool.true_eq_false] at *); (try omega))
  conv => whnf
  refine loop_of (X := Nat) (fun k => k + 1 ≤ n) (fun k => [(13, .int .i64 k), (5, .isl (.rows .i64 (linesTo n (3 * n + 1 + k))) (.own 0))]) (fun k => [(0, .tok 1 (3 * n + 1 + k))]) (fun k => n - k) 0 ⟨anyB_ok, mixed, tabOK, cpLn_ok, noY_ok⟩ (by rfl) (by omega) ?_ ?_
  · have : 2 * n + 1 + n = 3 * n + 1 + 0 := by omega
    rw [this]
    repeat' (first | ((conv => whnf); refine And.intro ?_ ?_) | ((conv => whnf); with_reducible exact VC.mk rfl) | ((conv => whnf); exact Ok.mk) | ((conv => whnf); exact True.intro) | ((conv => whnf); refine Nx.mk ?_) | ((conv => whnf); refine Fin.mk ?_) | ((conv => whnf); intro _))
    all_goals ((try refine VC.mk ?_); (try simp only [CL.ncell, CL.cnt, Int.toNat_natCast, decide_eq_true_eq, decide_eq_false_iff_not, Bool.not_eq_true, Bool.not_false, Bool.not_true, and_self, and_true, true_and, te3b, te4b, te3s, te4s, Nat.mul_one, Nat.zero_add, List.length_cons, List.length_nil, Bool.false_eq_true, Bool.true_eq_false] at *); (try omega))
  intro k hk
  have e3 := linesTo_len n (3 * n + 1 + k)
  have e4 := linesTo_succ n (3 * n + 1 + k)
  by_cases hlt : k + 1 < n
  · rw [← dg4 n k hn.1 hlt] at e4
    repeat' (first | ((conv => whnf); refine And.intro ?_ ?_) | ((conv => whnf); with_reducible exact VC.mk rfl) | ((conv => whnf); exact Ok.mk) | ((conv => whnf); exact True.intro) | ((conv => whnf); refine Nx.mk ?_) | ((conv => whnf); refine Fin.mk ?_) | ((conv => whnf); intro _))
    all_goals ((try refine VC.mk ?_); (try simp only [CL.ncell, CL.cnt, Int.toNat_natCast, decide_eq_true_eq, decide_eq_false_iff_not, Bool.not_eq_true, Bool.not_false, Bool.not_true, and_self, and_true, true_and, te3b, te4b, te3s, te4s, Nat.mul_one, Nat.zero_add, List.length_cons, List.length_nil, Bool.false_eq_true, Bool.true_eq_false] at *); (try omega))
    all_goals (try (simp only [List.length_append, List.length_cons, List.length_nil]; omega))
    refine ⟨k + 1, [], ⟨by omega, by omega⟩, ?_⟩
    repeat' (first | ((conv => whnf); refine And.intro ?_ ?_) | ((conv => whnf); with_reducible exact VC.mk rfl) | ((conv => whnf); exact Ok.mk) | ((conv => whnf); exact True.intro) | ((conv => whnf); refine Nx.mk ?_) | ((conv => whnf); refine Fin.mk ?_) | ((conv => whnf); intro _))
    all_goals ((try refine VC.mk ?_); (try simp only [CL.ncell, CL.cnt, Int.toNat_natCast, decide_eq_true_eq, decide_eq_false_iff_not, Bool.not_eq_true, Bool.not_false, Bool.not_true, and_self, and_true, true_and, te3b, te4b, te3s, te4s, Nat.mul_one, Nat.zero_add, List.length_cons, List.length_nil, Bool.false_eq_true, Bool.true_eq_false] at *); (try omega))
    all_goals (try (rw [← Nat.add_assoc, e4]))
  · have : 3 * n + 1 + k = 4 * n := by omega
    rw [this]
    repeat' (first | ((conv => whnf); refine And.intro ?_ ?_) | ((conv => whnf); with_reducible exact VC.mk rfl) | ((conv => whnf); exact Ok.mk) | ((conv => whnf); exact True.intro) | ((conv => whnf); refine Nx.mk ?_) | ((conv => whnf); refine Fin.mk ?_) | ((conv => whnf); intro _))
    all_goals ((try refine VC.mk ?_); (try simp only [CL.ncell, CL.cnt, Int.toNat_natCast, decide_eq_true_eq, decide_eq_false_iff_not, Bool.not_eq_true, Bool.not_false, Bool.not_true, and_self, and_true, true_and, te3b, te4b, te3s, te4s, Nat.mul_one, Nat.zero_add, List.length_cons, List.length_nil, Bool.false_eq_true, Bool.true_eq_false] at *); (try omega))
    all_goals (first | (refine Sup.of ?_; first | rfl | (simp [*, resOf]; done)) | (refine Sup.via ?_; repeat' (first | ((conv => whnf); refine And.intro ?_ ?_) | ((conv => whnf); with_reducible exact VC.mk rfl) | ((conv => whnf); exact Ok.mk) | ((conv => whnf); exact True.intro) | ((conv => whnf); refine Nx.mk ?_) | ((conv => whnf); refine Fin.mk ?_) | ((conv => whnf); intro _)); all_goals ((try refine VC.mk ?_); (try simp only [CL.ncell, CL.cnt, Int.toNat_natCast, decide_eq_true_eq, decide_eq_false_iff_not, Bool.not_eq_true, Bool.not_false, Bool.not_true, and_self, and_true, true_and, te3b, te4b, te3s, te4s, Nat.mul_one, Nat.zero_add, List.length_cons, List.length_nil, Bool.false_eq_true, Bool.true_eq_false] at *); (try omega)); all_goals (try (simp [CL.sub]; done))))
theorem Lines_spec' {n : Int} {s : ByteArray} (hn : 1 ≤ n ∧ n ≤ 16) : PSpec Try.prog 105 [.int .i64 n, .str s] (.isl (.rows .i64 (linesTo n.toNat (lineCnt n.toNat (gOf s)))) .none) := by
  have := Lines_spec n.toNat (by omega) s
  rwa [Int.toNat_of_nonneg (by omega)] at this
def LinesP : PSp := fun xs K => match xs with
  | [.int .i64 n, .str s] => VC (1 ≤ n ∧ n ≤ 16) ∧ K (.isl (.rows .i64 (linesTo n.toNat (lineCnt n.toNat (gOf s)))) .none)
  | _ => False
theorem Lines_ok : POK Try.prog 105 LinesP := by
  intro xs K h
  unfold LinesP at h
  split at h
  · exact ⟨_, h.2, Lines_spec' h.1.get⟩
  · exact h.elim
end Go.Eng.Ytppflbccfdbogaa
namespace Go.Eng.Ytppflbccfdbogaa
open Go.Proofs
set_option maxRecDepth 100000
set_option maxHeartbeats 0
set_option linter.unusedVariables false
set_option linter.unusedSimpArgs false
theorem CheckKind_spec (s : ByteArray) : PSpec Try.prog 20 [.str s] (.int .i64 (kindErr s)) := by
  refine pspec_of (md := 0) (rf := []) mixed tabOK noC_ok Try.func20 (by rfl) (by rfl) (by rfl) ?_
  repeat' (first | ((conv => whnf); refine And.intro ?_ ?_) | ((conv => whnf); with_reducible exact VC.mk rfl) | ((conv => whnf); exact Ok.mk) | ((conv => whnf); exact True.intro) | ((conv => whnf); refine Nx.mk ?_) | ((conv => whnf); refine Fin.mk ?_) | ((conv => whnf); intro _))
  all_goals ((try refine VC.mk ?_); (try simp only [CL.ncell, CL.cnt, Int.toNat_natCast, decide_eq_true_eq, decide_eq_false_iff_not, Bool.not_eq_true, Bool.not_false, Bool.not_true, and_self, and_true, true_and, te3b, te4b, te3s, te4s, Nat.mul_one, Nat.zero_add, List.length_cons, List.length_nil, Bool.false_eq_true, Bool.true_eq_false] at *); (try omega))
  all_goals (refine Sup.of ?_; simp_all [resOf, kindErr])
def CheckKindP : PSp := fun xs K => match xs with
  | [.str s] => VC (True) ∧ K (.int .i64 (kindErr s))
  | _ => False
theorem CheckKind_ok : POK Try.prog 20 CheckKindP := by
  intro xs K h
  unfold CheckKindP at h
  split at h
  · exact ⟨_, h.2, CheckKind_spec _⟩
  · exact h.elim
/-! the first line with another sum -/
theorem badLine_none {n : Nat} {g : Int} {l : List Int} (h : ∀ j, j < lineCnt n g → lineOk n l j = true) : badLine n g l = none := by
  unfold badLine
  rw [List.find?_eq_none]
  intro i hi
  simp [h i (List.mem_range.1 hi)]
theorem badLine_some {n : Nat} {g : Int} {l : List Int} {i : Nat} (hi : i < lineCnt n g) (h : ∀ j, j < i → lineOk n l j = true) (hb : lineOk n l i = false) : badLine n g l = some i := by
  unfold badLine
  rw [List.find?_range_eq_some]
  exact ⟨by simp [hb], by simpa using hi, fun j hj => by simp [h j hj]⟩
def failsV (n : Nat) (g : Int) (l : List Int) : PV := match badLine n g l with
  | some i => .tup [.isl (.ints .i64 (lineAt n i)) .none, .bp true]
  | none => .tup [.isl (.ints .i64 []) .none, .bp false]
theorem lineCnt_le (n : Nat) (g : Int) : lineCnt n g ≤ 4 * n + 2 := by unfold lineCnt; split <;> (try split) <;> (try split) <;> omega
noncomputable def cpFa : CPT := cpAdd 105 (pureCC LinesP) (cpAdd 71 (pureCC rSumP) (cpAdd 72 (pureCC ConstantP) noC))
theorem cpFa_ok : CPOK Try.prog cpFa := cpAdd_ok (pureCC_ok Lines_ok) (cpAdd_ok (pureCC_ok rSum_ok) (cpAdd_ok (pureCC_ok Constant_ok) noC_ok))
theorem Fails_spec (n : Nat) (c : Int) (l : List Int) (s : ByteArray) (hn : 1 ≤ n ∧ n ≤ 16) (hl : l.length = n * n) (hv : ∀ x ∈ l, 0 ≤ x ∧ x ≤ 1000) : PSpec Try.prog 54 [gridV n c l, .str s] (failsV n (gOf s) l) := by
  have hg : ∀ c : Int, 0 ≤ c → c < (n : Int) * n → 0 ≤ l.getD c.toNat 0 ∧ l.getD c.toNat 0 ≤ 1000 := fun c h1 h2 => by
    rw [List.getD_eq_getElem?_getD]
    cases h : l[c.toNat]? with
    | none => simp
    | some v => simpa using hv v (List.mem_of_getElem? h)
  have hll : (l.length : Int) = (n : Int) * n := by rw [hl]; push_cast; rfl
  refine pspec_of (md := 0) (rf := []) mixed tabOK cpFa_ok Try.func54 (by rfl) (by rfl) (by rfl) ?_
  repeat' (first | ((conv => whnf); refine And.intro ?_ ?_) | ((conv => whnf); with_reducible exact VC.mk rfl) | ((conv => whnf); exact Ok.mk) | ((conv => whnf); exact True.intro) | ((conv => whnf); refine Nx.mk ?_) | ((conv => whnf); refine Fin.mk ?_) | ((conv => whnf); intro _))
  all_goals ((try refine VC.mk ?_); (try simp only [CL.ncell, CL.cnt, Int.toNat_natCast, decide_eq_true_eq, decide_eq_false_iff_not, Bool.not_eq_true, Bool.not_false, Bool.not_true, and_self, and_true, true_and, te3b, te4b, te3s, te4s, Nat.mul_one, Nat.zero_add, List.length_cons, List.length_nil, Bool.false_eq_true, Bool.true_eq_false] at *); (try omega))
  generalize hcnt : lineCnt n (gOf s) = cnt at *
  conv => whnf
  refine loop_of (X := Nat) (fun i => i ≤ cnt ∧ ∀ j, j < i → lineOk n l j = true) (fun i => [(7, .int .i64 i)]) (fun i => []) (fun i => cnt - i) 0 ⟨anyB_ok, mixed, tabOK, cpFa_ok, noY_ok⟩ (by rfl) ⟨by omega, fun j hj => by omega⟩ ?_ ?_
  · repeat' (first | ((conv => whnf); refine And.intro ?_ ?_) | ((conv => whnf); with_reducible exact VC.mk rfl) | ((conv => whnf); exact Ok.mk) | ((conv => whnf); exact True.intro) | ((conv => whnf); refine Nx.mk ?_) | ((conv => whnf); refine Fin.mk ?_) | ((conv => whnf); intro _))
    all_goals ((try refine VC.mk ?_); (try simp only [CL.ncell, CL.cnt, Int.toNat_natCast, decide_eq_true_eq, decide_eq_false_iff_not, Bool.not_eq_true, Bool.not_false, Bool.not_true, and_self, and_true, true_and, te3b, te4b, te3s, te4s, Nat.mul_one, Nat.zero_add, List.length_cons, List.length_nil, Bool.false_eq_true, Bool.true_eq_false] at *); (try omega))
  rintro i ⟨hi, hok⟩
  have e1 := linesTo_len n cnt
  by_cases hlt : i < cnt
  · have e2 := linesTo_get n cnt i hlt
    have hm := fun c hc => lineAt_mem (n := n) (i := i) c hc
    have e3 := lineAt_len n i
    have hb := sumAt_bd l (lineAt n i) (fun c hc => hg c (hm c hc).1 (hm c hc).2)
    have hc4 := lineCnt_le n (gOf s)
    repeat' (first | ((conv => whnf); refine And.intro ?_ ?_) | ((conv => whnf); with_reducible exact VC.mk rfl) | ((conv => whnf); exact Ok.mk) | ((conv => whnf); exact True.intro) | ((conv => whnf); refine Nx.mk ?_) | ((conv => whnf); refine Fin.mk ?_) | ((conv => whnf); intro _))
    all_goals ((try refine VC.mk ?_); (try simp only [CL.ncell, CL.cnt, Int.toNat_natCast, decide_eq_true_eq, decide_eq_false_iff_not, Bool.not_eq_true, Bool.not_false, Bool.not_true, and_self, and_true, true_and, te3b, te4b, te3s, te4s, Nat.mul_one, Nat.zero_add, List.length_cons, List.length_nil, Bool.false_eq_true, Bool.true_eq_false] at *); (try omega))
    all_goals (try simp only [e2] at *)
    · refine ⟨fun x hx => by have := hm x hx; omega, by omega, fun j hj => ?_⟩
      have := hb j hj
      rw [e3] at hj
      omega
    · rename_i hbad
      have : failsV n (gOf s) l = .tup [.isl (.ints .i64 (lineAt n i)) .none, .bp true] := by
        unfold failsV
        rw [badLine_some (i := i) (by omega) hok (by unfold lineOk lineSum; rw [e3] at hbad; simpa using hbad)]
      rw [this]
      all_goals (refine Sup.via ?_; repeat' (first | ((conv => whnf); refine And.intro ?_ ?_) | ((conv => whnf); with_reducible exact VC.mk rfl) | ((conv => whnf); exact Ok.mk) | ((conv => whnf); exact True.intro) | ((conv => whnf); refine Nx.mk ?_) | ((conv => whnf); refine Fin.mk ?_) | ((conv => whnf); intro _)); all_goals ((try refine VC.mk ?_); (try simp only [CL.ncell, CL.cnt, Int.toNat_natCast, decide_eq_true_eq, decide_eq_false_iff_not, Bool.not_eq_true, Bool.not_false, Bool.not_true, and_self, and_true, true_and, te3b, te4b, te3s, te4s, Nat.mul_one, Nat.zero_add, List.length_cons, List.length_nil, Bool.false_eq_true, Bool.true_eq_false] at *); (try omega)); all_goals (try (simp [CL.sub]; done)))
    · rename_i hgood
      refine ⟨i + 1, [], ⟨⟨by omega, fun j hj => ?_⟩, by omega⟩, ?_⟩
      · by_cases e : j = i
        · subst e; unfold lineOk lineSum; rw [e3] at hgood; simpa using hgood
        · exact hok j (by omega)
      · repeat' (first | ((conv => whnf); refine And.intro ?_ ?_) | ((conv => whnf); with_reducible exact VC.mk rfl) | ((conv => whnf); exact Ok.mk) | ((conv => whnf); exact True.intro) | ((conv => whnf); refine Nx.mk ?_) | ((conv => whnf); refine Fin.mk ?_) | ((conv => whnf); intro _))
        all_goals ((try refine VC.mk ?_); (try simp only [CL.ncell, CL.cnt, Int.toNat_natCast, decide_eq_true_eq, decide_eq_false_iff_not, Bool.not_eq_true, Bool.not_false, Bool.not_true, and_self, and_true, true_and, te3b, te4b, te3s, te4s, Nat.mul_one, Nat.zero_add, List.length_cons, List.length_nil, Bool.false_eq_true, Bool.true_eq_false] at *); (try omega))
  · have : cnt = i := by omega
    subst this
    have : failsV n (gOf s) l = .tup [.isl (.ints .i64 []) .none, .bp false] := by unfold failsV; rw [badLine_none (by rw [hcnt]; exact hok)]
    rw [this]
    repeat' (first | ((conv => whnf); refine And.intro ?_ ?_) | ((conv => whnf); with_reducible exact VC.mk rfl) | ((conv => whnf); exact Ok.mk) | ((conv => whnf); exact True.intro) | ((conv => whnf); refine Nx.mk ?_) | ((conv => whnf); refine Fin.mk ?_) | ((conv => whnf); intro _))
    all_goals ((try refine VC.mk ?_); (try simp only [CL.ncell, CL.cnt, Int.toNat_natCast, decide_eq_true_eq, decide_eq_false_iff_not, Bool.not_eq_true, Bool.not_false, Bool.not_true, and_self, and_true, true_and, te3b, te4b, te3s, te4s, Nat.mul_one, Nat.zero_add, List.length_cons, List.length_nil, Bool.false_eq_true, Bool.true_eq_false] at *); (try omega))
    all_goals (first | (refine Sup.of ?_; first | rfl | (simp [*, resOf]; done)) | (refine Sup.via ?_; repeat' (first | ((conv => whnf); refine And.intro ?_ ?_) | ((conv => whnf); with_reducible exact VC.mk rfl) | ((conv => whnf); exact Ok.mk) | ((conv => whnf); exact True.intro) | ((conv => whnf); refine Nx.mk ?_) | ((conv => whnf); refine Fin.mk ?_) | ((conv => whnf); intro _)); all_goals ((try refine VC.mk ?_); (try simp only [CL.ncell, CL.cnt, Int.toNat_natCast, decide_eq_true_eq, decide_eq_false_iff_not, Bool.not_eq_true, Bool.not_false, Bool.not_true, and_self, and_true, true_and, te3b, te4b, te3s, te4s, Nat.mul_one, Nat.zero_add, List.length_cons, List.length_nil, Bool.false_eq_true, Bool.true_eq_false] at *); (try omega)); all_goals (try (simp [CL.sub]; done))))
/-! refusals -/
def failsL (n : Nat) (g : Int) (l : List Int) : List Int := match badLine n g l with | some i => lineAt n i | none => []
theorem failsV_eq (n : Nat) (g : Int) (l : List Int) : failsV n g l = .tup [.isl (.ints .i64 (failsL n g l)) .none, .bp (badLine n g l).isSome] := by
  unfold failsV failsL; cases badLine n g l <;> rfl
def refuseR (n : Nat) (c : Nat → Nat) (g : Int) : PV := match meetOf c (n * n) with
  | some y => .tup [refV kMeet ((gAt c (n * n) y).getD (c y) 0) ((y : Int) + 1) [] 0, .bp true]
  | none => match badLine n g (gAt c (n * n) (n * n)) with
    | some i => .tup [refV kSum 0 0 (lineAt n i) (lineSum n (gAt c (n * n) (n * n)) i), .bp true]
    | none => .tup [refV kNo 0 0 [] 0, .bp false]
theorem rRefuse_spec (n : Nat) (s0 s1 x0 x1 b0 b1 : Int) (s : ByteArray) (hn : 1 ≤ n ∧ n ≤ 16) (h : ∀ x ∈ [s0, s1, x0, x1, b0, b1], -999999999 ≤ x ∧ x ≤ 999999999) :
    PSpec Try.prog 22 [stepV n s0 s1 x0 x1 b0 b1, .str s] (refuseR n (cellS n s0 s1 x0 x1 b0 b1) (gOf s)) := by
  have hM := rMeet_spec n s0 s1 x0 x1 b0 b1 (by omega) h
  have hU := rUniform_spec n s0 s1 x0 x1 b0 b1 (by omega) h
  have eN : ((n : Int) * n).toNat = n * n := by rw [← Int.natCast_mul, Int.toNat_natCast]
  rw [eN] at hM hU
  generalize cellS n s0 s1 x0 x1 b0 b1 = c at *
  have hb := mul_bd (show 0 ≤ (n : Int) ∧ (n : Int) ≤ 16 by omega) (show 0 ≤ (n : Int) ∧ (n : Int) ≤ 16 by omega)
  have hnn : ((n * n : Nat) : Int) = (n : Int) * n := by push_cast; rfl
  have hgl := gAt_len c (n * n) (n * n)
  have hgv : ∀ x ∈ gAt c (n * n) (n * n), 0 ≤ x ∧ x ≤ 1000 := fun x hx => by
    have h1 := gAt_nonneg c _ _ x hx
    have h2 := gAt_le c _ _ x hx
    omega
  have hF := Fails_spec n n (gAt c (n * n) (n * n)) s hn hgl hgv
  unfold refuseR
  unfold meetV at hM
  generalize gAt c (n * n) (n * n) = l at *
  cases hm : meetOf c (n * n) with
  | some y =>
    rw [hm] at hM
    have hC := cpAdd_ok (pureCC_ok (atC_ok (C := True) fun _ => hM)) noC_ok
    refine pspec_of (md := 1) (rf := []) mixed tabOK hC Try.func22 (by rfl) (by rfl) (by rfl) ?_
    repeat' (first | ((conv => whnf); refine And.intro ?_ ?_) | ((conv => whnf); with_reducible exact VC.mk rfl) | ((conv => whnf); exact Ok.mk) | ((conv => whnf); exact True.intro) | ((conv => whnf); refine Nx.mk ?_) | ((conv => whnf); refine Fin.mk ?_) | ((conv => whnf); intro _))
    all_goals ((try refine VC.mk ?_); (try simp only [CL.ncell, CL.cnt, Int.toNat_natCast, decide_eq_true_eq, decide_eq_false_iff_not, Bool.not_eq_true, Bool.not_false, Bool.not_true, and_self, and_true, true_and, te3b, te4b, te3s, te4s, Nat.mul_one, Nat.zero_add, List.length_cons, List.length_nil, Bool.false_eq_true, Bool.true_eq_false] at *); (try omega))
    all_goals (refine Sup.via ?_; repeat' (first | ((conv => whnf); refine And.intro ?_ ?_) | ((conv => whnf); with_reducible exact VC.mk rfl) | ((conv => whnf); exact Ok.mk) | ((conv => whnf); exact True.intro) | ((conv => whnf); refine Nx.mk ?_) | ((conv => whnf); refine Fin.mk ?_) | ((conv => whnf); intro _)); all_goals ((try refine VC.mk ?_); (try simp only [CL.ncell, CL.cnt, Int.toNat_natCast, decide_eq_true_eq, decide_eq_false_iff_not, Bool.not_eq_true, Bool.not_false, Bool.not_true, and_self, and_true, true_and, te3b, te4b, te3s, te4s, Nat.mul_one, Nat.zero_add, List.length_cons, List.length_nil, Bool.false_eq_true, Bool.true_eq_false] at *); (try omega)); all_goals (try (simp [CL.sub]; done)))
  | none =>
    rw [hm] at hM
    rw [failsV_eq] at hF
    cases hb : badLine n (gOf s) l with
    | none =>
      rw [hb] at hF
      have hC := cpAdd_ok (pureCC_ok (atC_ok (C := True) fun _ => hM)) (cpAdd_ok (pureCC_ok (atC_ok (C := True) fun _ => hU)) (cpAdd_ok (pureCC_ok (atC_ok (C := True) fun _ => hF)) noC_ok))
      refine pspec_of (md := 1) (rf := []) mixed tabOK hC Try.func22 (by rfl) (by rfl) (by rfl) ?_
      repeat' (first | ((conv => whnf); refine And.intro ?_ ?_) | ((conv => whnf); with_reducible exact VC.mk rfl) | ((conv => whnf); exact Ok.mk) | ((conv => whnf); exact True.intro) | ((conv => whnf); refine Nx.mk ?_) | ((conv => whnf); refine Fin.mk ?_) | ((conv => whnf); intro _))
      all_goals ((try refine VC.mk ?_); (try simp only [CL.ncell, CL.cnt, Int.toNat_natCast, decide_eq_true_eq, decide_eq_false_iff_not, Bool.not_eq_true, Bool.not_false, Bool.not_true, and_self, and_true, true_and, te3b, te4b, te3s, te4s, Nat.mul_one, Nat.zero_add, List.length_cons, List.length_nil, Bool.false_eq_true, Bool.true_eq_false] at *); (try omega))
      all_goals (try (exfalso; simp_all; done))
      all_goals (refine Sup.via ?_; repeat' (first | ((conv => whnf); refine And.intro ?_ ?_) | ((conv => whnf); with_reducible exact VC.mk rfl) | ((conv => whnf); exact Ok.mk) | ((conv => whnf); exact True.intro) | ((conv => whnf); refine Nx.mk ?_) | ((conv => whnf); refine Fin.mk ?_) | ((conv => whnf); intro _)); all_goals ((try refine VC.mk ?_); (try simp only [CL.ncell, CL.cnt, Int.toNat_natCast, decide_eq_true_eq, decide_eq_false_iff_not, Bool.not_eq_true, Bool.not_false, Bool.not_true, and_self, and_true, true_and, te3b, te4b, te3s, te4s, Nat.mul_one, Nat.zero_add, List.length_cons, List.length_nil, Bool.false_eq_true, Bool.true_eq_false] at *); (try omega)); all_goals (try (simp [CL.sub]; done)))
    | some i =>
      rw [hb] at hF
      have hi : i < lineCnt n (gOf s) := by
        unfold badLine at hb
        have := List.mem_of_find?_eq_some hb
        simpa using this
      have hL : failsL n (gOf s) l = lineAt n i := by unfold failsL; rw [hb]
      rw [hL] at hF
      have hm := fun c hc => lineAt_mem (n := n) (i := i) c hc
      have e3 := lineAt_len n i
      have hg : ∀ c : Int, 0 ≤ c → c < (n : Int) * n → 0 ≤ l.getD c.toNat 0 ∧ l.getD c.toNat 0 ≤ 1000 := fun c h1 h2 => by
        rw [List.getD_eq_getElem?_getD]
        cases h : l[c.toNat]? with
        | none => simp
        | some v => simpa using hgv v (List.mem_of_getElem? h)
      have hbd := sumAt_bd l (lineAt n i) (fun c hc => hg c (hm c hc).1 (hm c hc).2)
      have hS := rSum_spec n n l (lineAt n i) (fun x hx => by have := hm x hx; omega) (by omega) (fun j hj => by have := hbd j hj; omega)
      have hC := cpAdd_ok (pureCC_ok (atC_ok (C := True) fun _ => hM)) (cpAdd_ok (pureCC_ok (atC_ok (C := True) fun _ => hU)) (cpAdd_ok (pureCC_ok (atC_ok (C := True) fun _ => hF)) (cpAdd_ok (pureCC_ok (atC_ok (C := True) fun _ => hS)) noC_ok)))
      refine pspec_of (md := 1) (rf := []) mixed tabOK hC Try.func22 (by rfl) (by rfl) (by rfl) ?_
      repeat' (first | ((conv => whnf); refine And.intro ?_ ?_) | ((conv => whnf); with_reducible exact VC.mk rfl) | ((conv => whnf); exact Ok.mk) | ((conv => whnf); exact True.intro) | ((conv => whnf); refine Nx.mk ?_) | ((conv => whnf); refine Fin.mk ?_) | ((conv => whnf); intro _))
      all_goals ((try refine VC.mk ?_); (try simp only [CL.ncell, CL.cnt, Int.toNat_natCast, decide_eq_true_eq, decide_eq_false_iff_not, Bool.not_eq_true, Bool.not_false, Bool.not_true, and_self, and_true, true_and, te3b, te4b, te3s, te4s, Nat.mul_one, Nat.zero_add, List.length_cons, List.length_nil, Bool.false_eq_true, Bool.true_eq_false] at *); (try omega))
      all_goals (try (exfalso; simp_all; done))
      rw [e3]
      unfold lineSum
      all_goals (refine Sup.via ?_; repeat' (first | ((conv => whnf); refine And.intro ?_ ?_) | ((conv => whnf); with_reducible exact VC.mk rfl) | ((conv => whnf); exact Ok.mk) | ((conv => whnf); exact True.intro) | ((conv => whnf); refine Nx.mk ?_) | ((conv => whnf); refine Fin.mk ?_) | ((conv => whnf); intro _)); all_goals ((try refine VC.mk ?_); (try simp only [CL.ncell, CL.cnt, Int.toNat_natCast, decide_eq_true_eq, decide_eq_false_iff_not, Bool.not_eq_true, Bool.not_false, Bool.not_true, and_self, and_true, true_and, te3b, te4b, te3s, te4s, Nat.mul_one, Nat.zero_add, List.length_cons, List.length_nil, Bool.false_eq_true, Bool.true_eq_false] at *); (try omega)); all_goals (try (simp [CL.sub]; done)))
end Go.Eng.Ytppflbccfdbogaa
namespace Go.Eng.Ytppflbccfdbogaa
open Go.Proofs
set_option maxRecDepth 100000
set_option maxHeartbeats 0
set_option linter.unusedVariables false
set_option linter.unusedSimpArgs false
def evenB (d x : Int) : Bool := decide (2 * (x % d) = d - 1)
theorem all_take_succ (p : Int → Bool) (l : List Int) (i : Nat) (h : i < l.length) : (l.take (i + 1)).all p = ((l.take i).all p && p (l.getD i 0)) := by
  rw [List.take_add_one, List.all_append]
  simp [h]
theorem balanced_spec (l : List Int) (d : Int) (hd : 1 ≤ d ∧ d ≤ 1000) (hl : ∀ x ∈ l, 0 ≤ x ∧ x ≤ 1000) (hn : l.length ≤ 100000) : PSpec Try.prog 125 [.isl (.ints .i64 l) .none, .int .i64 d] (.bp (l.all (evenB d))) := by
  refine pspec_of (md := 0) (rf := []) mixed tabOK noC_ok Try.func125 (by rfl) (by rfl) (by rfl) ?_
  repeat' (first | ((conv => whnf); refine And.intro ?_ ?_) | ((conv => whnf); with_reducible exact VC.mk rfl) | ((conv => whnf); exact Ok.mk) | ((conv => whnf); exact True.intro) | ((conv => whnf); refine Nx.mk ?_) | ((conv => whnf); refine Fin.mk ?_) | ((conv => whnf); intro _))
  all_goals ((try refine VC.mk ?_); (try simp only [CL.ncell, CL.cnt, Int.toNat_natCast, decide_eq_true_eq, decide_eq_false_iff_not, Bool.not_eq_true, Bool.not_false, Bool.not_true, and_self, and_true, true_and, te3b, te4b, te3s, te4s, Nat.mul_one, Nat.zero_add, List.length_cons, List.length_nil, Bool.false_eq_true, Bool.true_eq_false] at *); (try omega))
  conv => whnf
  refine loop_of (X := Nat) (fun i => i ≤ l.length ∧ (l.take i).all (evenB d) = true) (fun i => [(5, .int .i64 i)]) (fun i => []) (fun i => l.length - i) 0 ⟨anyB_ok, mixed, tabOK, noC_ok, noY_ok⟩ (by rfl) ⟨by omega, by simp⟩ ?_ ?_
  · repeat' (first | ((conv => whnf); refine And.intro ?_ ?_) | ((conv => whnf); with_reducible exact VC.mk rfl) | ((conv => whnf); exact Ok.mk) | ((conv => whnf); exact True.intro) | ((conv => whnf); refine Nx.mk ?_) | ((conv => whnf); refine Fin.mk ?_) | ((conv => whnf); intro _))
    all_goals ((try refine VC.mk ?_); (try simp only [CL.ncell, CL.cnt, Int.toNat_natCast, decide_eq_true_eq, decide_eq_false_iff_not, Bool.not_eq_true, Bool.not_false, Bool.not_true, and_self, and_true, true_and, te3b, te4b, te3s, te4s, Nat.mul_one, Nat.zero_add, List.length_cons, List.length_nil, Bool.false_eq_true, Bool.true_eq_false] at *); (try omega))
  rintro i ⟨hi, hok⟩
  by_cases hlt : i < l.length
  · have hx := hl (l.getD i 0) (by rw [List.getD_eq_getElem?_getD, List.getElem?_eq_getElem hlt]; exact List.getElem_mem _)
    have hm1 : 0 ≤ l.getD i 0 % d := Int.emod_nonneg _ (by omega)
    have hm2 : l.getD i 0 % d < d := Int.emod_lt_of_pos _ (by omega)
    have e1 := all_take_succ (evenB d) l i hlt
    repeat' (first | ((conv => whnf); refine And.intro ?_ ?_) | ((conv => whnf); with_reducible exact VC.mk rfl) | ((conv => whnf); exact Ok.mk) | ((conv => whnf); exact True.intro) | ((conv => whnf); refine Nx.mk ?_) | ((conv => whnf); refine Fin.mk ?_) | ((conv => whnf); intro _))
    all_goals ((try refine VC.mk ?_); (try simp only [CL.ncell, CL.cnt, Int.toNat_natCast, decide_eq_true_eq, decide_eq_false_iff_not, Bool.not_eq_true, Bool.not_false, Bool.not_true, and_self, and_true, true_and, te3b, te4b, te3s, te4s, Nat.mul_one, Nat.zero_add, List.length_cons, List.length_nil, Bool.false_eq_true, Bool.true_eq_false] at *); (try omega))
    · rename_i hb
      have : l.all (evenB d) = false := by
        rw [List.all_eq_false]
        exact ⟨l.getD i 0, by rw [List.getD_eq_getElem?_getD, List.getElem?_eq_getElem hlt]; exact List.getElem_mem _, by unfold evenB; simpa using hb⟩
      rw [this]; all_goals (first | (refine Sup.of ?_; first | rfl | (simp [*, resOf]; done)) | (refine Sup.via ?_; repeat' (first | ((conv => whnf); refine And.intro ?_ ?_) | ((conv => whnf); with_reducible exact VC.mk rfl) | ((conv => whnf); exact Ok.mk) | ((conv => whnf); exact True.intro) | ((conv => whnf); refine Nx.mk ?_) | ((conv => whnf); refine Fin.mk ?_) | ((conv => whnf); intro _)); all_goals ((try refine VC.mk ?_); (try simp only [CL.ncell, CL.cnt, Int.toNat_natCast, decide_eq_true_eq, decide_eq_false_iff_not, Bool.not_eq_true, Bool.not_false, Bool.not_true, and_self, and_true, true_and, te3b, te4b, te3s, te4s, Nat.mul_one, Nat.zero_add, List.length_cons, List.length_nil, Bool.false_eq_true, Bool.true_eq_false] at *); (try omega)); all_goals (try (simp [CL.sub]; done))))
    · rename_i hb
      refine ⟨i + 1, [], ⟨⟨by omega, by rw [e1, hok]; unfold evenB; simpa using hb⟩, by omega⟩, ?_⟩
      repeat' (first | ((conv => whnf); refine And.intro ?_ ?_) | ((conv => whnf); with_reducible exact VC.mk rfl) | ((conv => whnf); exact Ok.mk) | ((conv => whnf); exact True.intro) | ((conv => whnf); refine Nx.mk ?_) | ((conv => whnf); refine Fin.mk ?_) | ((conv => whnf); intro _))
      all_goals ((try refine VC.mk ?_); (try simp only [CL.ncell, CL.cnt, Int.toNat_natCast, decide_eq_true_eq, decide_eq_false_iff_not, Bool.not_eq_true, Bool.not_false, Bool.not_true, and_self, and_true, true_and, te3b, te4b, te3s, te4s, Nat.mul_one, Nat.zero_add, List.length_cons, List.length_nil, Bool.false_eq_true, Bool.true_eq_false] at *); (try omega))
  · have : l.length = i := by omega
    subst this
    rw [List.take_length] at hok
    rw [hok]
    repeat' (first | ((conv => whnf); refine And.intro ?_ ?_) | ((conv => whnf); with_reducible exact VC.mk rfl) | ((conv => whnf); exact Ok.mk) | ((conv => whnf); exact True.intro) | ((conv => whnf); refine Nx.mk ?_) | ((conv => whnf); refine Fin.mk ?_) | ((conv => whnf); intro _))
    all_goals ((try refine VC.mk ?_); (try simp only [CL.ncell, CL.cnt, Int.toNat_natCast, decide_eq_true_eq, decide_eq_false_iff_not, Bool.not_eq_true, Bool.not_false, Bool.not_true, and_self, and_true, true_and, te3b, te4b, te3s, te4s, Nat.mul_one, Nat.zero_add, List.length_cons, List.length_nil, Bool.false_eq_true, Bool.true_eq_false] at *); (try omega))
    all_goals (first | (refine Sup.of ?_; first | rfl | (simp [*, resOf]; done)) | (refine Sup.via ?_; repeat' (first | ((conv => whnf); refine And.intro ?_ ?_) | ((conv => whnf); with_reducible exact VC.mk rfl) | ((conv => whnf); exact Ok.mk) | ((conv => whnf); exact True.intro) | ((conv => whnf); refine Nx.mk ?_) | ((conv => whnf); refine Fin.mk ?_) | ((conv => whnf); intro _)); all_goals ((try refine VC.mk ?_); (try simp only [CL.ncell, CL.cnt, Int.toNat_natCast, decide_eq_true_eq, decide_eq_false_iff_not, Bool.not_eq_true, Bool.not_false, Bool.not_true, and_self, and_true, true_and, te3b, te4b, te3s, te4s, Nat.mul_one, Nat.zero_add, List.length_cons, List.length_nil, Bool.false_eq_true, Bool.true_eq_false] at *); (try omega)); all_goals (try (simp [CL.sub]; done))))
def balancedP : PSp := fun xs K => match xs with
  | [.isl (.ints .i64 l) .none, .int .i64 d] => VC ((1 ≤ d ∧ d ≤ 1000) ∧ (∀ x ∈ l, 0 ≤ x ∧ x ≤ 1000) ∧ l.length ≤ 100000) ∧ K (.bp (l.all (evenB d)))
  | _ => False
theorem balanced_ok : POK Try.prog 125 balancedP := by
  intro xs K h
  unfold balancedP at h
  split at h
  · exact ⟨_, h.2, balanced_spec _ _ h.1.get.1 h.1.get.2.1 h.1.get.2.2⟩
  · exact h.elim
theorem sup_bool {b c : Bool} (h : c = b) : Sup (resOf [PV.bool b]) (.bp c) := by subst h; exact ⟨fun h => by cases h; exact .bp _ _⟩
theorem sup_bp' {b c : Bool} (h : c = b) : Sup (resOf [PV.bp b]) (.bp c) := by subst h; exact ⟨fun h => h⟩
def digA (n : Int) (cs : List Int) (c : Int) : Int := (cs.getD c.toNat 0 - 1) % n
def digB (n : Int) (cs : List Int) (c : Int) : Int := (cs.getD c.toNat 0 - 1) / n
def lvlB (n : Int) (cs l : List Int) (u v : Int) : Bool := (l.map (digA n cs)).all (evenB (gcdN n v)) && (l.map (digB n cs)).all (evenB (gcdN n u))
noncomputable def cpLv : CPT := cpAdd 80 (pureCC ModP) (cpAdd 124 (pureCC GcdP) (cpAdd 125 (pureCC balancedP) noC))
theorem cpLv_ok : CPOK Try.prog cpLv := cpAdd_ok (pureCC_ok Mod_ok) (cpAdd_ok (pureCC_ok Gcd_ok) (cpAdd_ok (pureCC_ok balanced_ok) noC_ok))
theorem map_take_succ {f : Int → Int} {l : List Int} {i : Nat} (h : i < l.length) : (l.take (i + 1)).map f = (l.take i).map f ++ [f (l.getD i 0)] := by
  rw [List.take_add_one, List.map_append]
  simp [h]
theorem level_spec (n s0 s1 x0 x1 b0 b1 r c u v : Int) (cs l : List Int) (hn : 1 ≤ n ∧ n ≤ 16) (hu : -1000 ≤ u ∧ u ≤ 1000) (hv : -1000 ≤ v ∧ v ≤ 1000) (hl : ∀ x ∈ l, (0 ≤ x ∧ x < cs.length) ∧ 1 ≤ cs.getD x.toNat 0 ∧ cs.getD x.toNat 0 ≤ 256) (hll : l.length ≤ 1000) :
    PSpec Try.prog 82 [stepV n s0 s1 x0 x1 b0 b1, gridV r c cs, .isl (.ints .i64 l) .none, .int .i64 u, .int .i64 v] (.bp (lvlB n cs l u v)) := by
  have g1 := @gcdN_bd n v hn
  have g2 := @gcdN_bd n u hn
  have m1 : 0 ≤ v % n ∧ v % n < n := ⟨Int.emod_nonneg _ (by omega), Int.emod_lt_of_pos _ (by omega)⟩
  have m2 : 0 ≤ u % n ∧ u % n < n := ⟨Int.emod_nonneg _ (by omega), Int.emod_lt_of_pos _ (by omega)⟩
  have q1 : ((Int.gcd (v % n) n : Nat) : Int) = gcdN n v := rfl
  have q2 : ((Int.gcd (u % n) n : Nat) : Int) = gcdN n u := rfl
  refine pspec_of (md := 0) (rf := []) mixed tabOK cpLv_ok Try.func82 (by rfl) (by rfl) (by rfl) ?_
  repeat' (first | ((conv => whnf); refine And.intro ?_ ?_) | ((conv => whnf); with_reducible exact VC.mk rfl) | ((conv => whnf); exact Ok.mk) | ((conv => whnf); exact True.intro) | ((conv => whnf); refine Nx.mk ?_) | ((conv => whnf); refine Fin.mk ?_) | ((conv => whnf); intro _))
  all_goals ((try refine VC.mk ?_); (try simp only [CL.ncell, CL.cnt, Int.toNat_natCast, decide_eq_true_eq, decide_eq_false_iff_not, Bool.not_eq_true, Bool.not_false, Bool.not_true, and_self, and_true, true_and, te3b, te4b, te3s, te4s, Nat.mul_one, Nat.zero_add, List.length_cons, List.length_nil, Bool.false_eq_true, Bool.true_eq_false] at *); (try omega))
  simp only [q1, q2]
  conv => whnf
  refine loop_of (X := Nat) (fun i => i ≤ l.length) (fun i => [(15, .int .i64 i), (13, .isl (.ints .i64 ((l.take i).map (digA n cs))) (.own 2)), (14, .isl (.ints .i64 ((l.take i).map (digB n cs))) (.own 3))]) (fun i => [(2, .tok 1 i), (3, .tok 1 i)]) (fun i => l.length - i) 0 ⟨anyB_ok, mixed, tabOK, cpLv_ok, noY_ok⟩ (by rfl) (by omega) ?_ ?_
  · repeat' (first | ((conv => whnf); refine And.intro ?_ ?_) | ((conv => whnf); with_reducible exact VC.mk rfl) | ((conv => whnf); exact Ok.mk) | ((conv => whnf); exact True.intro) | ((conv => whnf); refine Nx.mk ?_) | ((conv => whnf); refine Fin.mk ?_) | ((conv => whnf); intro _))
    all_goals ((try refine VC.mk ?_); (try simp only [CL.ncell, CL.cnt, Int.toNat_natCast, decide_eq_true_eq, decide_eq_false_iff_not, Bool.not_eq_true, Bool.not_false, Bool.not_true, and_self, and_true, true_and, te3b, te4b, te3s, te4s, Nat.mul_one, Nat.zero_add, List.length_cons, List.length_nil, Bool.false_eq_true, Bool.true_eq_false] at *); (try omega))
    all_goals (try (simp; done))
  intro i hi
  have e2 : ((l.take i).map (digA n cs)).length = i := by simp; omega
  have e3 : ((l.take i).map (digB n cs)).length = i := by simp; omega
  by_cases hlt : i < l.length
  · have hx := hl (l.getD i 0) (by rw [List.getD_eq_getElem?_getD, List.getElem?_eq_getElem hlt]; exact List.getElem_mem _)
    have e4 := map_take_succ (f := digA n cs) hlt
    have e5 := map_take_succ (f := digB n cs) hlt
    have h4 : 0 ≤ (cs.getD (l.getD i 0).toNat 0 - 1) / n := Int.ediv_nonneg (by omega) (by omega)
    have h5 := Int.ediv_le_self (a := cs.getD (l.getD i 0).toNat 0 - 1) n (by omega)
    repeat' (first | ((conv => whnf); refine And.intro ?_ ?_) | ((conv => whnf); with_reducible exact VC.mk rfl) | ((conv => whnf); exact Ok.mk) | ((conv => whnf); exact True.intro) | ((conv => whnf); refine Nx.mk ?_) | ((conv => whnf); refine Fin.mk ?_) | ((conv => whnf); intro _))
    all_goals ((try refine VC.mk ?_); (try simp only [CL.ncell, CL.cnt, Int.toNat_natCast, decide_eq_true_eq, decide_eq_false_iff_not, Bool.not_eq_true, Bool.not_false, Bool.not_true, and_self, and_true, true_and, te3b, te4b, te3s, te4s, Nat.mul_one, Nat.zero_add, List.length_cons, List.length_nil, Bool.false_eq_true, Bool.true_eq_false] at *); (try omega))
    all_goals (try (simp only [List.length_append, List.length_cons, List.length_nil]; omega))
    refine ⟨i + 1, [], ⟨by omega, by omega⟩, ?_⟩
    repeat' (first | ((conv => whnf); refine And.intro ?_ ?_) | ((conv => whnf); with_reducible exact VC.mk rfl) | ((conv => whnf); exact Ok.mk) | ((conv => whnf); exact True.intro) | ((conv => whnf); refine Nx.mk ?_) | ((conv => whnf); refine Fin.mk ?_) | ((conv => whnf); intro _))
    all_goals ((try refine VC.mk ?_); (try simp only [CL.ncell, CL.cnt, Int.toNat_natCast, decide_eq_true_eq, decide_eq_false_iff_not, Bool.not_eq_true, Bool.not_false, Bool.not_true, and_self, and_true, true_and, te3b, te4b, te3s, te4s, Nat.mul_one, Nat.zero_add, List.length_cons, List.length_nil, Bool.false_eq_true, Bool.true_eq_false] at *); (try omega))
    all_goals first | (rw [e4]; rfl) | (rw [e5]; rfl)
  · have : l.length = i := by omega
    subst this
    rw [List.take_length] at e2 e3
    simp only [List.take_length]
    have k1 : ∀ x ∈ l.map (digA n cs), 0 ≤ x ∧ x ≤ 1000 := fun x hx => by
      obtain ⟨y, hy, rfl⟩ := List.mem_map.1 hx
      have h6 := hl y hy
      have h7 : 0 ≤ (cs.getD y.toNat 0 - 1) % n := Int.emod_nonneg _ (by omega)
      have h8 : (cs.getD y.toNat 0 - 1) % n < n := Int.emod_lt_of_pos _ (by omega)
      unfold digA; omega
    have k2 : ∀ x ∈ l.map (digB n cs), 0 ≤ x ∧ x ≤ 1000 := fun x hx => by
      obtain ⟨y, hy, rfl⟩ := List.mem_map.1 hx
      have h6 := hl y hy
      have h7 : 0 ≤ (cs.getD y.toNat 0 - 1) / n := Int.ediv_nonneg (by omega) (by omega)
      have h8 := Int.ediv_le_self (a := cs.getD y.toNat 0 - 1) n (by omega)
      unfold digB; omega
    unfold lvlB
    repeat' (first | ((conv => whnf); refine And.intro ?_ ?_) | ((conv => whnf); with_reducible exact VC.mk rfl) | ((conv => whnf); exact Ok.mk) | ((conv => whnf); exact True.intro) | ((conv => whnf); refine Nx.mk ?_) | ((conv => whnf); refine Fin.mk ?_) | ((conv => whnf); intro _))
    all_goals ((try refine VC.mk ?_); (try simp only [CL.ncell, CL.cnt, Int.toNat_natCast, decide_eq_true_eq, decide_eq_false_iff_not, Bool.not_eq_true, Bool.not_false, Bool.not_true, and_self, and_true, true_and, te3b, te4b, te3s, te4s, Nat.mul_one, Nat.zero_add, List.length_cons, List.length_nil, Bool.false_eq_true, Bool.true_eq_false] at *); (try omega))
    · exact ⟨by omega, k1, by omega⟩
    · exact ⟨by omega, k2, by omega⟩
    · rename_i _ h; refine sup_bp' ?_; simp_all
    · rename_i h; refine sup_bool ?_; rw [h]; rfl
def levelP : PSp := fun xs K => match xs with
  | [.agg [.int .i64 n, .int .i64 s0, .int .i64 s1, .int .i64 x0, .int .i64 x1, .int .i64 b0, .int .i64 b1], .agg [.int .i64 r, .int .i64 c, .isl (.ints .i64 cs) .none], .isl (.ints .i64 l) .none, .int .i64 u, .int .i64 v] => VC ((1 ≤ n ∧ n ≤ 16) ∧ (-1000 ≤ u ∧ u ≤ 1000) ∧ (-1000 ≤ v ∧ v ≤ 1000) ∧ (∀ x ∈ l, (0 ≤ x ∧ x < cs.length) ∧ 1 ≤ cs.getD x.toNat 0 ∧ cs.getD x.toNat 0 ≤ 256) ∧ l.length ≤ 1000) ∧ K (.bp (lvlB n cs l u v))
  | _ => False
theorem level_ok : POK Try.prog 82 levelP := by
  intro xs K h
  unfold levelP at h
  split at h
  · exact ⟨_, h.2, level_spec _ _ _ _ _ _ _ _ _ _ _ _ _ h.1.get.1 h.1.get.2.1 h.1.get.2.2.1 h.1.get.2.2.2.1 h.1.get.2.2.2.2⟩
  · exact h.elim
/-! Admits -/
def rMagB (n s0 s1 x0 x1 b0 b1 : Int) : Bool := isSemi n x0 x1 b0 b1 && (lvlB n (sqL n s0 s1 x0 x1 b0 b1) (colL n.toNat (fun i => 0 + (i : Int) * 1) n.toNat) (x0 - x1) (b0 - b1) && lvlB n (sqL n s0 s1 x0 x1 b0 b1) (colL n.toNat (fun i => n - 1 + (i : Int) * (n - 1)) n.toNat) (x0 + x1) (b0 + b1))
def rAdmB (n s0 s1 x0 x1 b0 b1 : Int) (s : ByteArray) : Bool :=
  if s = kSq then isSq n (x0 % n) (x1 % n) (b0 % n) (b1 % n) else if s = kSemi then isSemi n (x0 % n) (x1 % n) (b0 % n) (b1 % n) else if s = kMag then rMagB n (s0 % n) (s1 % n) (x0 % n) (x1 % n) (b0 % n) (b1 % n)
  else isPan n (x0 % n) (x1 % n) (b0 % n) (b1 % n)
noncomputable def cpAd : CPT := cpAdd 80 (pureCC ModP) (cpAdd 81 (pureCC primeP) (cpAdd 50 (pureCC rUniformP) (cpAdd 83 (pureCC diagP) (cpAdd 82 (pureCC levelP) noC))))
theorem cpAd_ok : CPOK Try.prog cpAd := cpAdd_ok (pureCC_ok Mod_ok) (cpAdd_ok (pureCC_ok prime_ok) (cpAdd_ok (pureCC_ok rUniform_ok) (cpAdd_ok (pureCC_ok diag_ok) (cpAdd_ok (pureCC_ok level_ok) noC_ok))))
theorem rAdmits_spec (n s0 s1 x0 x1 b0 b1 : Int) (s : ByteArray) (hn : 1 ≤ n ∧ n ≤ 16) (h : ∀ x ∈ [s0, s1, x0, x1, b0, b1], -999999999 ≤ x ∧ x ≤ 999999999) (hk : kindErr s = 0) :
    PSpec Try.prog 23 [stepV n s0 s1 x0 x1 b0 b1, .str s] (.bp (rAdmB n s0 s1 x0 x1 b0 b1 s)) := by
  have hh := h
  simp only [List.mem_cons, List.not_mem_nil, or_false, forall_eq_or_imp, forall_eq] at h
  obtain ⟨h1, h2, h3, h4, h5, h6⟩ := h
  have md : ∀ y : Int, 0 ≤ y % n ∧ y % n < n := fun y => ⟨Int.emod_nonneg _ (by omega), Int.emod_lt_of_pos _ (by omega)⟩
  have a1 := md x0
  have a2 := md x1
  have a3 := md b0
  have a4 := md b1
  have m1 := mul_bd (A := 16) (B := 16) (show 0 ≤ x0 % n ∧ x0 % n ≤ 16 by omega) (show 0 ≤ b1 % n ∧ b1 % n ≤ 16 by omega)
  have m2 := mul_bd (A := 16) (B := 16) (show 0 ≤ x1 % n ∧ x1 % n ≤ 16 by omega) (show 0 ≤ b0 % n ∧ b0 % n ≤ 16 by omega)
  have hks : s = kSq ∨ s = kSemi ∨ s = kMag ∨ s = kPan := by
    unfold kindErr at hk
    split at hk
    · assumption
    · omega
  have q : ∀ y : Int, decide (Int.gcd (y % n) n = 1) = coprime n y := fun y => rfl
  have hnn := mul_bd (show 0 ≤ n ∧ n ≤ 16 by omega) (show 0 ≤ n ∧ n ≤ 16 by omega)
  obtain ⟨L, hL⟩ : ∃ L, gAt (cellS n s0 s1 x0 x1 b0 b1) (n * n).toNat (n * n).toNat = L := ⟨_, rfl⟩
  have hL2 : sqL n (s0 % n) (s1 % n) (x0 % n) (x1 % n) (b0 % n) (b1 % n) = L := hL
  have hLl : (L.length : Int) = n * n := by rw [← hL, gAt_len]; omega
  have hfull : coprime n (x0 % n * (b1 % n) - x1 % n * (b0 % n)) = true → ∀ k : Int, 0 ≤ k → k < n * n → 1 ≤ L.getD k.toNat 0 ∧ L.getD k.toNat 0 ≤ 256 := fun hsq k k1 k2 => by
    have hm := meet_none (s0 := s0 % n) (s1 := s1 % n) hn.1 (show isSq n (x0 % n) (x1 % n) (b0 % n) (b1 % n) = true from hsq)
    obtain ⟨i, q1, q2, q3⟩ := gAt_full (fun i _ => cellN_lt (s0 := s0 % n) (s1 := s1 % n) (x0 := x0 % n) (x1 := x1 % n) (b0 := b0 % n) (b1 := b1 % n) hn.1 i) (meetOf_inj (fun i _ => cellN_lt hn.1 i) hm) k.toNat (by omega)
    rw [← hL]
    have q3 : (gAt (cellS n s0 s1 x0 x1 b0 b1) (n * n).toNat (n * n).toNat).getD k.toNat 0 = (i : Int) + 1 := q3
    rw [q3]; omega
  have hcol : ∀ h : Nat → Int, (!coprime n (x0 % n * (b1 % n) - x1 % n * (b0 % n))) = false → (∀ x ∈ colL n.toNat h n.toNat, (0 ≤ x ∧ x < L.length) ∧ 1 ≤ L.getD x.toNat 0 ∧ L.getD x.toNat 0 ≤ 256) ∧ (colL n.toNat h n.toNat).length ≤ 1000 := fun h hc => by
    refine ⟨fun x hx => ?_, by rw [colL_len]; omega⟩
    have h1 := colL_mem x hx
    rw [Int.toNat_of_nonneg (by omega)] at h1
    exact ⟨by omega, hfull (by simpa using hc) x h1.1 h1.2⟩
  generalize hres : rAdmB n s0 s1 x0 x1 b0 b1 s = res
  unfold rAdmB rMagB at hres
  rw [hL2] at hres
  refine pspec_of (md := 1) (rf := []) mixed tabOK cpAd_ok Try.func23 (by rfl) (by rfl) (by rfl) ?_
  repeat' (first | ((conv => whnf); refine And.intro ?_ ?_) | ((conv => whnf); with_reducible exact VC.mk rfl) | ((conv => whnf); exact Ok.mk) | ((conv => whnf); exact True.intro) | ((conv => whnf); refine Nx.mk ?_) | ((conv => whnf); refine Fin.mk ?_) | ((conv => whnf); intro _))
  all_goals ((try refine VC.mk ?_); (try simp only [CL.ncell, CL.cnt, Int.toNat_natCast, decide_eq_true_eq, decide_eq_false_iff_not, Bool.not_eq_true, Bool.not_false, Bool.not_true, and_self, and_true, true_and, te3b, te4b, te3s, te4s, Nat.mul_one, Nat.zero_add, List.length_cons, List.length_nil, Bool.false_eq_true, Bool.true_eq_false] at *); (try omega))
  all_goals (try (first | refine sup_bool ?_ | refine sup_bp' ?_))
  all_goals (try simp only [hL])
  all_goals (try exact ⟨hn, by omega, by omega, hcol _ (by assumption)⟩)
  all_goals (try exact ⟨hn, hh⟩)
  all_goals (rw [← hres]; clear hcol hfull hL2 hLl; subst hL; rcases hks with rfl | rfl | rfl | rfl <;> simp_all [isSemi, isSq, isPan, coprime, kSq, kSemi, kMag, kPan])
/-! the program's condition is the reference's -/
theorem even_iff (d x : Int) : evenB d x = true ↔ ¬ d % 2 = 0 ∧ x % d = (d - 1) / 2 := by
  unfold evenB
  rw [decide_eq_true_eq]
  omega
theorem lvl_bal {n : Int} (hn : 1 ≤ n) (cs : List Int) (f : Nat → Int) (u v : Int) :
    lvlB n cs ((List.range n.toNat).map f) u v = balB n (fun i => cs.getD (f i).toNat 0) u v := by
  have hr : (List.range n.toNat).all (fun _ => false) = false := by
    obtain ⟨m, hm⟩ : ∃ m, n.toNat = m + 1 := ⟨n.toNat - 1, by omega⟩
    rw [hm, List.range_succ_eq_map]; rfl
  unfold lvlB balB
  simp only [List.map_map, List.all_map]
  rw [Bool.eq_iff_iff]
  simp only [Bool.and_eq_true, List.all_eq_true, List.mem_range, Function.comp, even_iff, Bool.not_eq_true', decide_eq_false_iff_not, balAt, decide_eq_true_eq, digA, digB]
  constructor
  · rintro ⟨h1, h2⟩
    exact ⟨⟨(h1 0 (by omega)).1, (h2 0 (by omega)).1⟩, fun i hi => ⟨(h1 i hi).2, (h2 i hi).2⟩⟩
  · rintro ⟨⟨h1, h2⟩, h3⟩
    exact ⟨fun i hi => ⟨h1, (h3 i hi).1⟩, fun i hi => ⟨h2, (h3 i hi).2⟩⟩
theorem balB_congr {n : Int} {h h' : Nat → Int} (e : ∀ i : Nat, (i : Int) < n → h i = h' i) (u v : Int) : balB n h u v = balB n h' u v := by
  unfold balB
  congr 1
  rw [Bool.eq_iff_iff]
  simp only [List.all_eq_true, List.mem_range, balAt]
  constructor
  · intro h1 i hi; rw [← e i (by omega)]; exact h1 i hi
  · intro h1 i hi; rw [e i (by omega)]; exact h1 i hi
theorem mag_eq {n : Int} (hn : 1 ≤ n) (s0 s1 x0 x1 b0 b1 : Int) : rMagB n s0 s1 x0 x1 b0 b1 = isMag n s0 s1 x0 x1 b0 b1 := by
  unfold rMagB isMag
  congr 1
  unfold colL
  rw [lvl_bal hn, lvl_bal hn]
  congr 1
  · refine balB_congr (fun i hi => ?_) _ _
    unfold mainAt
    show (sqL n s0 s1 x0 x1 b0 b1).getD ((n.toNat : Int) * i + (0 + (i : Int) * 1) % (n.toNat : Int)).toNat 0 = _
    rw [Int.toNat_of_nonneg (by omega), Int.emod_eq_of_lt (by omega) (by omega)]
    congr 2; omega
  · refine balB_congr (fun i hi => ?_) _ _
    unfold antiAt
    rw [Int.toNat_of_nonneg (by omega), emod_of_sub (a := n - 1 + (i : Int) * (n - 1)) (b := n - 1 - i) (k := (i : Int)) (by rw [Int.mul_sub, Int.mul_comm n (i : Int)]; omega), Int.emod_eq_of_lt (by omega) (by omega)]
    congr 2; omega
theorem adm_eq {n : Int} (hn : 1 ≤ n) (s0 s1 x0 x1 b0 b1 : Int) (s : ByteArray) : rAdmB n s0 s1 x0 x1 b0 b1 s = admB n s0 s1 x0 x1 b0 b1 s := by
  unfold rAdmB admB; rw [mag_eq hn]
end Go.Eng.Ytppflbccfdbogaa
namespace Go.Eng.Ytppflbccfdbogaa
open Go.Proofs
set_option maxRecDepth 100000
set_option maxHeartbeats 0
set_option linter.unusedVariables false
set_option linter.unusedSimpArgs false
theorem eq_getD {a b : List Int} (hl : a.length = b.length) (h : ∀ i, i < a.length → a.getD i 0 = b.getD i 0) : a = b := by
  refine List.ext_getElem hl fun i h1 h2 => ?_
  have := h i h1
  rw [List.getD_eq_getElem?_getD, List.getD_eq_getElem?_getD, List.getElem?_eq_getElem h1, List.getElem?_eq_getElem h2] at this
  exact this
theorem equal_spec (a b : List Int) (ha : a.length ≤ 2000000) : PSpec Try.prog 146 [.isl (.ints .i64 a) .none, .isl (.ints .i64 b) .none] (.bp (decide (a = b))) := by
  by_cases hl : (a.length : Int) = b.length
  · have hl' : a.length = b.length := by omega
    refine pspec_of (md := 0) (rf := []) mixed tabOK noC_ok Try.func146 (by rfl) (by rfl) (by rfl) ?_
    repeat' (first | ((conv => whnf); refine And.intro ?_ ?_) | ((conv => whnf); with_reducible exact VC.mk rfl) | ((conv => whnf); exact Ok.mk) | ((conv => whnf); exact True.intro) | ((conv => whnf); refine Nx.mk ?_) | ((conv => whnf); refine Fin.mk ?_) | ((conv => whnf); intro hq; (try simp only [decide_eq_true_eq, decide_eq_false_iff_not, Bool.not_eq_true, Bool.not_eq_false, Bool.not_eq_true', Bool.not_eq_false', ite_true, ite_false] at hq); (try (exfalso; first | exact absurd hq (by decide) | omega))))
    all_goals ((try refine VC.mk ?_); (try simp only [CL.ncell, CL.cnt, Int.toNat_natCast, decide_eq_true_eq, decide_eq_false_iff_not, Bool.not_eq_true, Bool.not_false, Bool.not_true, and_self, and_true, true_and, te3b, te4b, te3s, te4s, Nat.mul_one, Nat.zero_add, List.length_cons, List.length_nil, Bool.false_eq_true, Bool.true_eq_false] at *); (try omega))
    all_goals (try (exfalso; omega))
    conv => whnf
    refine loop_of (X := Nat) (fun k => k ≤ a.length ∧ ∀ i, i < k → a.getD i 0 = b.getD i 0) (fun k => [(13, .int .i64 k)]) (fun k => []) (fun k => a.length - k) 0 ⟨anyB_ok, mixed, tabOK, noC_ok, noY_ok⟩ (by rfl) ⟨by omega, fun i h => by omega⟩ ?_ ?_
    · repeat' (first | ((conv => whnf); refine And.intro ?_ ?_) | ((conv => whnf); with_reducible exact VC.mk rfl) | ((conv => whnf); exact Ok.mk) | ((conv => whnf); exact True.intro) | ((conv => whnf); refine Nx.mk ?_) | ((conv => whnf); refine Fin.mk ?_) | ((conv => whnf); intro _))
      all_goals ((try refine VC.mk ?_); (try simp only [CL.ncell, CL.cnt, Int.toNat_natCast, decide_eq_true_eq, decide_eq_false_iff_not, Bool.not_eq_true, Bool.not_false, Bool.not_true, and_self, and_true, true_and, te3b, te4b, te3s, te4s, Nat.mul_one, Nat.zero_add, List.length_cons, List.length_nil, Bool.false_eq_true, Bool.true_eq_false] at *); (try omega))
    rintro k ⟨hk, hE⟩
    by_cases hlt : k < a.length
    · repeat' (first | ((conv => whnf); refine And.intro ?_ ?_) | ((conv => whnf); with_reducible exact VC.mk rfl) | ((conv => whnf); exact Ok.mk) | ((conv => whnf); exact True.intro) | ((conv => whnf); refine Nx.mk ?_) | ((conv => whnf); refine Fin.mk ?_) | ((conv => whnf); intro hq; (try simp only [decide_eq_true_eq, decide_eq_false_iff_not, Bool.not_eq_true, Bool.not_eq_false, Bool.not_eq_true', Bool.not_eq_false', ite_true, ite_false] at hq); (try (exfalso; first | exact absurd hq (by decide) | omega))))
      all_goals ((try refine VC.mk ?_); (try simp only [CL.ncell, CL.cnt, Int.toNat_natCast, decide_eq_true_eq, decide_eq_false_iff_not, Bool.not_eq_true, Bool.not_false, Bool.not_true, and_self, and_true, true_and, te3b, te4b, te3s, te4s, Nat.mul_one, Nat.zero_add, List.length_cons, List.length_nil, Bool.false_eq_true, Bool.true_eq_false] at *); (try omega))
      all_goals (try (exfalso; omega))
      · rename_i hq
        rw [decide_eq_false fun h => hq (by rw [h])]
        all_goals (refine Sup.via ?_; repeat' (first | ((conv => whnf); refine And.intro ?_ ?_) | ((conv => whnf); with_reducible exact VC.mk rfl) | ((conv => whnf); exact Ok.mk) | ((conv => whnf); exact True.intro) | ((conv => whnf); refine Nx.mk ?_) | ((conv => whnf); refine Fin.mk ?_) | ((conv => whnf); intro _)); all_goals ((try refine VC.mk ?_); (try simp only [CL.ncell, CL.cnt, Int.toNat_natCast, decide_eq_true_eq, decide_eq_false_iff_not, Bool.not_eq_true, Bool.not_false, Bool.not_true, and_self, and_true, true_and, te3b, te4b, te3s, te4s, Nat.mul_one, Nat.zero_add, List.length_cons, List.length_nil, Bool.false_eq_true, Bool.true_eq_false] at *); (try omega)); all_goals (try (simp [CL.sub]; done)))
      · rename_i hq
        refine ⟨k + 1, [], ⟨⟨by omega, fun i hi => ?_⟩, by omega⟩, ?_⟩
        · by_cases h : i = k
          · subst h; exact Classical.byContradiction hq
          · exact hE i (by omega)
        · repeat' (first | ((conv => whnf); refine And.intro ?_ ?_) | ((conv => whnf); with_reducible exact VC.mk rfl) | ((conv => whnf); exact Ok.mk) | ((conv => whnf); exact True.intro) | ((conv => whnf); refine Nx.mk ?_) | ((conv => whnf); refine Fin.mk ?_) | ((conv => whnf); intro _))
          all_goals ((try refine VC.mk ?_); (try simp only [CL.ncell, CL.cnt, Int.toNat_natCast, decide_eq_true_eq, decide_eq_false_iff_not, Bool.not_eq_true, Bool.not_false, Bool.not_true, and_self, and_true, true_and, te3b, te4b, te3s, te4s, Nat.mul_one, Nat.zero_add, List.length_cons, List.length_nil, Bool.false_eq_true, Bool.true_eq_false] at *); (try omega))
    · repeat' (first | ((conv => whnf); refine And.intro ?_ ?_) | ((conv => whnf); with_reducible exact VC.mk rfl) | ((conv => whnf); exact Ok.mk) | ((conv => whnf); exact True.intro) | ((conv => whnf); refine Nx.mk ?_) | ((conv => whnf); refine Fin.mk ?_) | ((conv => whnf); intro hq; (try simp only [decide_eq_true_eq, decide_eq_false_iff_not, Bool.not_eq_true, Bool.not_eq_false, Bool.not_eq_true', Bool.not_eq_false', ite_true, ite_false] at hq); (try (exfalso; first | exact absurd hq (by decide) | omega))))
      all_goals ((try refine VC.mk ?_); (try simp only [CL.ncell, CL.cnt, Int.toNat_natCast, decide_eq_true_eq, decide_eq_false_iff_not, Bool.not_eq_true, Bool.not_false, Bool.not_true, and_self, and_true, true_and, te3b, te4b, te3s, te4s, Nat.mul_one, Nat.zero_add, List.length_cons, List.length_nil, Bool.false_eq_true, Bool.true_eq_false] at *); (try omega))
      all_goals (try (exfalso; omega))
      rw [decide_eq_true (eq_getD hl' fun i hi => hE i (by omega))]
      exact sup_true
  · rw [decide_eq_false fun h => hl (by rw [h])]
    refine pspec_of (md := 0) (rf := []) mixed tabOK noC_ok Try.func146 (by rfl) (by rfl) (by rfl) ?_
    repeat' (first | ((conv => whnf); refine And.intro ?_ ?_) | ((conv => whnf); with_reducible exact VC.mk rfl) | ((conv => whnf); exact Ok.mk) | ((conv => whnf); exact True.intro) | ((conv => whnf); refine Nx.mk ?_) | ((conv => whnf); refine Fin.mk ?_) | ((conv => whnf); intro hq; (try simp only [decide_eq_true_eq, decide_eq_false_iff_not, Bool.not_eq_true, Bool.not_eq_false, Bool.not_eq_true', Bool.not_eq_false', ite_true, ite_false] at hq); (try (exfalso; first | exact absurd hq (by decide) | omega))))
    all_goals ((try refine VC.mk ?_); (try simp only [CL.ncell, CL.cnt, Int.toNat_natCast, decide_eq_true_eq, decide_eq_false_iff_not, Bool.not_eq_true, Bool.not_false, Bool.not_true, and_self, and_true, true_and, te3b, te4b, te3s, te4s, Nat.mul_one, Nat.zero_add, List.length_cons, List.length_nil, Bool.false_eq_true, Bool.true_eq_false] at *); (try omega))
    all_goals (try (exfalso; omega))
    all_goals (refine Sup.via ?_; repeat' (first | ((conv => whnf); refine And.intro ?_ ?_) | ((conv => whnf); with_reducible exact VC.mk rfl) | ((conv => whnf); exact Ok.mk) | ((conv => whnf); exact True.intro) | ((conv => whnf); refine Nx.mk ?_) | ((conv => whnf); refine Fin.mk ?_) | ((conv => whnf); intro _)); all_goals ((try refine VC.mk ?_); (try simp only [CL.ncell, CL.cnt, Int.toNat_natCast, decide_eq_true_eq, decide_eq_false_iff_not, Bool.not_eq_true, Bool.not_false, Bool.not_true, and_self, and_true, true_and, te3b, te4b, te3s, te4s, Nat.mul_one, Nat.zero_add, List.length_cons, List.length_nil, Bool.false_eq_true, Bool.true_eq_false] at *); (try omega)); all_goals (try (simp [CL.sub]; done)))
def equalP : PSp := fun xs K => match xs with
  | [.isl (.ints .i64 a) .none, .isl (.ints .i64 b) .none] => VC (a.length ≤ 2000000) ∧ K (.bp (decide (a = b)))
  | _ => False
theorem equal_ok : POK Try.prog 146 equalP := by
  intro xs K h
  unfold equalP at h
  split at h
  · exact ⟨_, h.2, equal_spec _ _ h.1.get⟩
  · exact h.elim
end Go.Eng.Ytppflbccfdbogaa
namespace Go.Eng.Ytppflbccfdbogaa
open Go.Proofs
set_option maxRecDepth 100000
set_option maxHeartbeats 0
set_option linter.unusedVariables false
set_option linter.unusedSimpArgs false
abbrev kindV (f : Nat) (g : Int) : PV := .agg [.fn (.func f) [] [], .int .i64 g]
noncomputable def cpPr : CPT := cpAdd 101 (pureCC cellP) (cpAdd 145 (pureCC allBP) (cpAdd 146 (pureCC equalP) cpR))
theorem cpPr_ok : CPOK Try.prog cpPr := cpAdd_ok (pureCC_ok cell_ok) (cpAdd_ok (pureCC_ok allB_ok) (cpAdd_ok (pureCC_ok equal_ok) cpR_ok))
theorem proves_no (n s0 s1 x0 x1 b0 b1 : Int) (f : Nat) (g : Int) (k : ByteArray) (a b : Int) (l : List Int) (s : Int) (hn : 1 ≤ n ∧ n ≤ 16) (h : ∀ x ∈ [s0, s1, x0, x1, b0, b1], 0 ≤ x ∧ x < n) (h1 : k ≠ kMeet) (h2 : k ≠ kSum) :
    PSpec Try.prog 114 [ruleV n s0 s1 x0 x1 b0 b1, kindV f g, refV k a b l s] (.bp false) := by
  obtain ⟨r, c, q, d, e, ok, hL⟩ : ∃ (r c : Int) (q : List Int) (d e : Int) (ok : Bool), layV n (cellN n s0 s1 x0 x1 b0 b1) (n * n).toNat = .tup [gridV r c q, .agg [.int .i64 d, .int .i64 e], .bp ok] := by
    unfold layV
    split
    · exact ⟨_, _, _, _, _, _, rfl⟩
    · exact ⟨_, _, _, _, _, _, rfl⟩
  have hS := lay_spec n s0 s1 x0 x1 b0 b1 hn h
  rw [hL] at hS
  have hC := cpAdd_ok (pureCC_ok (atC_ok (C := True) fun _ => hS)) cpPr_ok
  refine pspec_of (md := 1) (rf := []) mixed tabOK hC Try.func114 (by rfl) (by rfl) (by rfl) ?_
  repeat' (first | ((conv => whnf); refine And.intro ?_ ?_) | ((conv => whnf); with_reducible exact VC.mk rfl) | ((conv => whnf); exact Ok.mk) | ((conv => whnf); exact True.intro) | ((conv => whnf); refine Nx.mk ?_) | ((conv => whnf); refine Fin.mk ?_) | ((conv => whnf); intro hq; (try simp only [decide_eq_true_eq, decide_eq_false_iff_not, Bool.not_eq_true, Bool.not_eq_false, Bool.not_eq_true', Bool.not_eq_false', ite_true, ite_false] at hq); (try (exfalso; first | exact absurd hq (by decide) | omega))))
  all_goals ((try refine VC.mk ?_); (try simp only [CL.ncell, CL.cnt, Int.toNat_natCast, decide_eq_true_eq, decide_eq_false_iff_not, Bool.not_eq_true, Bool.not_false, Bool.not_true, and_self, and_true, true_and, te3b, te4b, te3s, te4s, Nat.mul_one, Nat.zero_add, List.length_cons, List.length_nil, Bool.false_eq_true, Bool.true_eq_false] at *); (try omega))
  all_goals (try (exfalso; first | exact h1 ‹_› | exact h2 ‹_›))
  all_goals (refine Sup.via ?_; repeat' (first | ((conv => whnf); refine And.intro ?_ ?_) | ((conv => whnf); with_reducible exact VC.mk rfl) | ((conv => whnf); exact Ok.mk) | ((conv => whnf); exact True.intro) | ((conv => whnf); refine Nx.mk ?_) | ((conv => whnf); refine Fin.mk ?_) | ((conv => whnf); intro _)); all_goals ((try refine VC.mk ?_); (try simp only [CL.ncell, CL.cnt, Int.toNat_natCast, decide_eq_true_eq, decide_eq_false_iff_not, Bool.not_eq_true, Bool.not_false, Bool.not_true, and_self, and_true, true_and, te3b, te4b, te3s, te4s, Nat.mul_one, Nat.zero_add, List.length_cons, List.length_nil, Bool.false_eq_true, Bool.true_eq_false] at *); (try omega)); all_goals (try (simp [CL.sub]; done)))
def meetB (n : Int) (c : Int → Int) (a b : Int) (l : List Int) (s : Int) : Bool := decide (1 ≤ a ∧ a < b ∧ b ≤ n * n ∧ l = [] ∧ s = 0) && decide (c a = c b)
theorem meet_all (N a b : Int) (l : List Int) (s : Int) : [decide (1 ≤ a), decide (a < b), decide (b ≤ N), decide ((l.length : Int) = 0), decide (s = 0)].all id = decide (1 ≤ a ∧ a < b ∧ b ≤ N ∧ l = [] ∧ s = 0) := by
  have e : ((l.length : Int) = 0) ↔ l = [] := by rw [← List.length_eq_zero_iff]; omega
  simp [e]
theorem proves_meet (n s0 s1 x0 x1 b0 b1 : Int) (f : Nat) (g : Int) (a b : Int) (l : List Int) (s : Int) (hn : 1 ≤ n ∧ n ≤ 16) (h : ∀ x ∈ [s0, s1, x0, x1, b0, b1], 0 ≤ x ∧ x < n) :
    PSpec Try.prog 114 [ruleV n s0 s1 x0 x1 b0 b1, kindV f g, refV kMeet a b l s] (.bp (meetB n (cellOf n s0 s1 x0 x1 b0 b1) a b l s)) := by
  obtain ⟨r, c, q, d, e, ok, hL⟩ : ∃ (r c : Int) (q : List Int) (d e : Int) (ok : Bool), layV n (cellN n s0 s1 x0 x1 b0 b1) (n * n).toNat = .tup [gridV r c q, .agg [.int .i64 d, .int .i64 e], .bp ok] := by
    unfold layV
    split
    · exact ⟨_, _, _, _, _, _, rfl⟩
    · exact ⟨_, _, _, _, _, _, rfl⟩
  have hS := lay_spec n s0 s1 x0 x1 b0 b1 hn h
  rw [hL] at hS
  have hC := cpAdd_ok (pureCC_ok (atC_ok (C := True) fun _ => hS)) cpPr_ok
  have hN := mul_bd (show 0 ≤ n ∧ n ≤ 16 by omega) (show 0 ≤ n ∧ n ≤ 16 by omega)
  refine pspec_of (md := 1) (rf := []) mixed tabOK hC Try.func114 (by rfl) (by rfl) (by rfl) ?_
  repeat' (first | ((conv => whnf); refine And.intro ?_ ?_) | ((conv => whnf); with_reducible exact VC.mk rfl) | ((conv => whnf); exact Ok.mk) | ((conv => whnf); exact True.intro) | ((conv => whnf); refine Nx.mk ?_) | ((conv => whnf); refine Fin.mk ?_) | ((conv => whnf); intro _))
  all_goals ((try refine VC.mk ?_); (try simp only [CL.ncell, CL.cnt, Int.toNat_natCast, decide_eq_true_eq, decide_eq_false_iff_not, Bool.not_eq_true, Bool.not_false, Bool.not_true, and_self, and_true, true_and, te3b, te4b, te3s, te4s, Nat.mul_one, Nat.zero_add, List.length_cons, List.length_nil, Bool.false_eq_true, Bool.true_eq_false] at *); (try omega))
  · rename_i hq _
    rw [meet_all, decide_eq_true_eq] at hq
    exact ⟨by omega, by omega, h⟩
  · rename_i hq _
    rw [meet_all, decide_eq_true_eq] at hq
    exact ⟨by omega, by omega, h⟩
  · rename_i hq _
    rw [meet_all] at hq
    unfold meetB
    rw [hq, Bool.true_and]
    exact sup_bp' rfl
  · rename_i hq
    rw [meet_all] at hq
    unfold meetB
    rw [hq, Bool.false_and]
    all_goals (refine Sup.via ?_; repeat' (first | ((conv => whnf); refine And.intro ?_ ?_) | ((conv => whnf); with_reducible exact VC.mk rfl) | ((conv => whnf); exact Ok.mk) | ((conv => whnf); exact True.intro) | ((conv => whnf); refine Nx.mk ?_) | ((conv => whnf); refine Fin.mk ?_) | ((conv => whnf); intro _)); all_goals ((try refine VC.mk ?_); (try simp only [CL.ncell, CL.cnt, Int.toNat_natCast, decide_eq_true_eq, decide_eq_false_iff_not, Bool.not_eq_true, Bool.not_false, Bool.not_true, and_self, and_true, true_and, te3b, te4b, te3s, te4s, Nat.mul_one, Nat.zero_add, List.length_cons, List.length_nil, Bool.false_eq_true, Bool.true_eq_false] at *); (try omega)); all_goals (try (simp [CL.sub]; done)))
  all_goals exact absurd trivial ‹¬ True›
theorem sum_all (ok : Bool) (a b s c : Int) : [ok, decide (a = 0), decide (b = 0), decide (s ≠ c)].all id = (ok && decide (a = 0 ∧ b = 0 ∧ s ≠ c)) := by simp
theorem proves_smeet (n s0 s1 x0 x1 b0 b1 : Int) (f : Nat) (g : Int) (a b : Int) (l : List Int) (s : Int) (hn : 1 ≤ n ∧ n ≤ 16) (h : ∀ x ∈ [s0, s1, x0, x1, b0, b1], 0 ≤ x ∧ x < n) (y : Nat) (hm : meetOf (cellN n s0 s1 x0 x1 b0 b1) (n * n).toNat = some y) :
    PSpec Try.prog 114 [ruleV n s0 s1 x0 x1 b0 b1, kindV f g, refV kSum a b l s] (.bp false) := by
  have hS := lay_spec n s0 s1 x0 x1 b0 b1 hn h
  unfold layV at hS
  rw [hm] at hS
  have hC := cpAdd_ok (pureCC_ok (atC_ok (C := True) fun _ => hS)) cpPr_ok
  refine pspec_of (md := 1) (rf := []) mixed tabOK hC Try.func114 (by rfl) (by rfl) (by rfl) ?_
  repeat' (first | ((conv => whnf); refine And.intro ?_ ?_) | ((conv => whnf); with_reducible exact VC.mk rfl) | ((conv => whnf); exact Ok.mk) | ((conv => whnf); exact True.intro) | ((conv => whnf); refine Nx.mk ?_) | ((conv => whnf); refine Fin.mk ?_) | ((conv => whnf); intro hq; (try simp only [decide_eq_true_eq, decide_eq_false_iff_not, Bool.not_eq_true, Bool.not_eq_false, Bool.not_eq_true', Bool.not_eq_false', ite_true, ite_false] at hq); (try (exfalso; first | exact absurd hq (by decide) | omega))))
  all_goals ((try refine VC.mk ?_); (try simp only [CL.ncell, CL.cnt, Int.toNat_natCast, decide_eq_true_eq, decide_eq_false_iff_not, Bool.not_eq_true, Bool.not_false, Bool.not_true, and_self, and_true, true_and, te3b, te4b, te3s, te4s, Nat.mul_one, Nat.zero_add, List.length_cons, List.length_nil, Bool.false_eq_true, Bool.true_eq_false] at *); (try omega))
  · all_goals (refine Sup.via ?_; repeat' (first | ((conv => whnf); refine And.intro ?_ ?_) | ((conv => whnf); with_reducible exact VC.mk rfl) | ((conv => whnf); exact Ok.mk) | ((conv => whnf); exact True.intro) | ((conv => whnf); refine Nx.mk ?_) | ((conv => whnf); refine Fin.mk ?_) | ((conv => whnf); intro _)); all_goals ((try refine VC.mk ?_); (try simp only [CL.ncell, CL.cnt, Int.toNat_natCast, decide_eq_true_eq, decide_eq_false_iff_not, Bool.not_eq_true, Bool.not_false, Bool.not_true, and_self, and_true, true_and, te3b, te4b, te3s, te4s, Nat.mul_one, Nat.zero_add, List.length_cons, List.length_nil, Bool.false_eq_true, Bool.true_eq_false] at *); (try omega)); all_goals (try (simp [CL.sub]; done)))
  · rename_i hq
    rw [sum_all] at hq
    simp at hq
def sumB (n : Nat) (g : Int) (L : List Int) (a b : Int) (l : List Int) (s : Int) : Bool := decide (a = 0 ∧ b = 0 ∧ s ≠ constOf n) && ((List.range (lineCnt n g)).any (fun i => decide (lineAt n i = l)) && decide (sumAt L l n = s))
theorem proves_sum (n : Nat) (s0 s1 x0 x1 b0 b1 : Int) (f : Nat) (g : Int) (a b : Int) (l : List Int) (s : Int) (hn : 1 ≤ n ∧ n ≤ 16) (h : ∀ x ∈ [s0, s1, x0, x1, b0, b1], 0 ≤ x ∧ x < n) (c : Nat → Nat) (hc : cellN n s0 s1 x0 x1 b0 b1 = c) (hm : meetOf c (n * n) = none) :
    PSpec Try.prog 114 [ruleV n s0 s1 x0 x1 b0 b1, kindV f g, refV kSum a b l s] (.bp (sumB n g (gAt c (n * n) (n * n)) a b l s)) := by
  have eN : ((n : Int) * n).toNat = n * n := by rw [← Int.natCast_mul, Int.toNat_natCast]
  have hS := lay_spec n s0 s1 x0 x1 b0 b1 (by omega) h
  unfold layV at hS
  rw [hc, eN, hm] at hS
  obtain ⟨L, hl⟩ : ∃ l, l = gAt c (n * n) (n * n) := ⟨_, rfl⟩
  have hnn := mul_bd (show 0 ≤ (n : Int) ∧ (n : Int) ≤ 16 by omega) (show 0 ≤ (n : Int) ∧ (n : Int) ≤ 16 by omega)
  have hlen : (L.length : Int) = (n : Int) * n := by rw [hl, gAt_len, Int.natCast_mul]
  have hg : ∀ k : Int, 0 ≤ k → k < (n : Int) * n → 0 ≤ L.getD k.toNat 0 ∧ L.getD k.toNat 0 ≤ 1000 := fun k q1 q2 => by
    rw [List.getD_eq_getElem?_getD, List.getElem?_eq_getElem (by omega)]
    have hm := List.getElem_mem (l := L) (n := k.toNat) (by omega)
    have a := gAt_nonneg c (n * n) (n * n) _ (by rw [← hl]; exact hm)
    have b := gAt_le c (n * n) (n * n) _ (by rw [← hl]; exact hm)
    rw [Int.natCast_mul] at b
    simp only [Option.getD_some]; omega
  rw [← hl] at hS ⊢
  have hC := cpAdd_ok (pureCC_ok (atC_ok (C := True) fun _ => hS)) cpPr_ok
  refine pspec_of (md := 1) (rf := []) mixed tabOK hC Try.func114 (by rfl) (by rfl) (by rfl) ?_
  repeat' (first | ((conv => whnf); refine And.intro ?_ ?_) | ((conv => whnf); with_reducible exact VC.mk rfl) | ((conv => whnf); exact Ok.mk) | ((conv => whnf); exact True.intro) | ((conv => whnf); refine Nx.mk ?_) | ((conv => whnf); refine Fin.mk ?_) | ((conv => whnf); intro hq; (try simp only [decide_eq_true_eq, decide_eq_false_iff_not, Bool.not_eq_true, Bool.not_eq_false, Bool.not_eq_true', Bool.not_eq_false', ite_true, ite_false] at hq); (try (exfalso; first | exact absurd hq (by decide) | omega))))
  all_goals ((try refine VC.mk ?_); (try simp only [CL.ncell, CL.cnt, Int.toNat_natCast, decide_eq_true_eq, decide_eq_false_iff_not, Bool.not_eq_true, Bool.not_false, Bool.not_true, and_self, and_true, true_and, te3b, te4b, te3s, te4s, Nat.mul_one, Nat.zero_add, List.length_cons, List.length_nil, Bool.false_eq_true, Bool.true_eq_false] at *); (try omega))
  · rename_i hq
    rw [sum_all, Bool.true_and] at hq
    unfold sumB
    rw [hq, Bool.false_and]
    all_goals (refine Sup.via ?_; repeat' (first | ((conv => whnf); refine And.intro ?_ ?_) | ((conv => whnf); with_reducible exact VC.mk rfl) | ((conv => whnf); exact Ok.mk) | ((conv => whnf); exact True.intro) | ((conv => whnf); refine Nx.mk ?_) | ((conv => whnf); refine Fin.mk ?_) | ((conv => whnf); intro _)); all_goals ((try refine VC.mk ?_); (try simp only [CL.ncell, CL.cnt, Int.toNat_natCast, decide_eq_true_eq, decide_eq_false_iff_not, Bool.not_eq_true, Bool.not_false, Bool.not_true, and_self, and_true, true_and, te3b, te4b, te3s, te4s, Nat.mul_one, Nat.zero_add, List.length_cons, List.length_nil, Bool.false_eq_true, Bool.true_eq_false] at *); (try omega)); all_goals (try (simp [CL.sub]; done)))
  rename_i hq
  rw [sum_all, Bool.true_and] at hq
  unfold sumB
  rw [hq, Bool.true_and]
  rw [decide_eq_true_eq] at hq
  conv => whnf
  refine range_of anyB_ok mixed tabOK hC (fun r => noY_ok) (fs := []) (cs := [.ip (.pv [.int .i64 (n : Int)]) 0, .ip (.pv [.int .i64 g]) 0]) (linesV n g) (fun i => !decide (lineAt n i = l)) (fun _ => []) (by rfl) (by rfl) (by rfl) (c117_spec n (by omega) g) (by rfl) (by rfl) (by rfl) (by rfl) ?_ ?_ ?_
  · repeat' (first | ((conv => whnf); refine And.intro ?_ ?_) | ((conv => whnf); with_reducible exact VC.mk rfl) | ((conv => whnf); exact Ok.mk) | ((conv => whnf); exact True.intro) | ((conv => whnf); refine Nx.mk ?_) | ((conv => whnf); refine Fin.mk ?_) | ((conv => whnf); intro _))
    all_goals ((try refine VC.mk ?_); (try simp only [CL.ncell, CL.cnt, Int.toNat_natCast, decide_eq_true_eq, decide_eq_false_iff_not, Bool.not_eq_true, Bool.not_false, Bool.not_true, and_self, and_true, true_and, te3b, te4b, te3s, te4s, Nat.mul_one, Nat.zero_add, List.length_cons, List.length_nil, Bool.false_eq_true, Bool.true_eq_false] at *); (try omega))
  · intro hall
    have e : ((List.range (lineCnt n g)).any (fun i => decide (lineAt n i = l))) = false := by
      rw [List.any_eq_false]
      intro j hj
      have := hall j (by rw [linesV_len]; exact List.mem_range.1 hj)
      simpa using this
    rw [e, Bool.false_and]
    repeat' (first | ((conv => whnf); refine And.intro ?_ ?_) | ((conv => whnf); with_reducible exact VC.mk rfl) | ((conv => whnf); exact Ok.mk) | ((conv => whnf); exact True.intro) | ((conv => whnf); refine Nx.mk ?_) | ((conv => whnf); refine Fin.mk ?_) | ((conv => whnf); intro _))
    all_goals ((try refine VC.mk ?_); (try simp only [CL.ncell, CL.cnt, Int.toNat_natCast, decide_eq_true_eq, decide_eq_false_iff_not, Bool.not_eq_true, Bool.not_false, Bool.not_true, and_self, and_true, true_and, te3b, te4b, te3s, te4s, Nat.mul_one, Nat.zero_add, List.length_cons, List.length_nil, Bool.false_eq_true, Bool.true_eq_false] at *); (try omega))
    all_goals (refine Sup.via ?_; repeat' (first | ((conv => whnf); refine And.intro ?_ ?_) | ((conv => whnf); with_reducible exact VC.mk rfl) | ((conv => whnf); exact Ok.mk) | ((conv => whnf); exact True.intro) | ((conv => whnf); refine Nx.mk ?_) | ((conv => whnf); refine Fin.mk ?_) | ((conv => whnf); intro _)); all_goals ((try refine VC.mk ?_); (try simp only [CL.ncell, CL.cnt, Int.toNat_natCast, decide_eq_true_eq, decide_eq_false_iff_not, Bool.not_eq_true, Bool.not_false, Bool.not_true, and_self, and_true, true_and, te3b, te4b, te3s, te4s, Nat.mul_one, Nat.zero_add, List.length_cons, List.length_nil, Bool.false_eq_true, Bool.true_eq_false] at *); (try omega)); all_goals (try (simp [CL.sub]; done)))
  · intro i x hx hall lp
    obtain ⟨q1, rfl⟩ := linesV_get hx
    have hmm := fun c hc => lineAt_mem (n := n) (i := i) c hc
    have hb := sumAt_bd L (lineAt n i) (fun c hc => hg c (hmm c hc).1 (hmm c hc).2)
    repeat' (first | ((conv => whnf); refine And.intro ?_ ?_) | ((conv => whnf); with_reducible exact VC.mk rfl) | ((conv => whnf); exact Ok.mk) | ((conv => whnf); exact True.intro) | ((conv => whnf); refine Nx.mk ?_) | ((conv => whnf); refine Fin.mk ?_) | ((conv => whnf); intro _))
    all_goals ((try refine VC.mk ?_); (try simp only [CL.ncell, CL.cnt, Int.toNat_natCast, decide_eq_true_eq, decide_eq_false_iff_not, Bool.not_eq_true, Bool.not_false, Bool.not_true, and_self, and_true, true_and, te3b, te4b, te3s, te4s, Nat.mul_one, Nat.zero_add, List.length_cons, List.length_nil, Bool.false_eq_true, Bool.true_eq_false] at *); (try omega))
    · rw [lineAt_len]; omega
    · refine ⟨fun c hc => by have := hmm c hc; omega, by rw [lineAt_len]; omega, fun j hj => ?_⟩
      have := hb j hj
      rw [lineAt_len] at hj
      omega
    · rw [decide_eq_true ‹lineAt n i = l›]; rfl
    · have e : ((List.range (lineCnt n g)).any (fun i => decide (lineAt n i = l))) = true := by
        rw [List.any_eq_true]
        exact ⟨i, List.mem_range.2 q1, decide_eq_true ‹_›⟩
      rw [e, Bool.true_and]
      refine sup_bp' ?_
      rw [lineAt_len, ‹lineAt n i = l›]
    · refine ⟨[], by rw [decide_eq_false ‹_›]; rfl, ?_⟩
      repeat' (first | ((conv => whnf); refine And.intro ?_ ?_) | ((conv => whnf); with_reducible exact VC.mk rfl) | ((conv => whnf); exact Ok.mk) | ((conv => whnf); exact True.intro) | ((conv => whnf); refine Nx.mk ?_) | ((conv => whnf); refine Fin.mk ?_) | ((conv => whnf); intro _))
      all_goals ((try refine VC.mk ?_); (try simp only [CL.ncell, CL.cnt, Int.toNat_natCast, decide_eq_true_eq, decide_eq_false_iff_not, Bool.not_eq_true, Bool.not_false, Bool.not_true, and_self, and_true, true_and, te3b, te4b, te3s, te4s, Nat.mul_one, Nat.zero_add, List.length_cons, List.length_nil, Bool.false_eq_true, Bool.true_eq_false] at *); (try omega))
end Go.Eng.Ytppflbccfdbogaa
namespace Go.Eng.Ytppflbccfdbogaa
open Go.Proofs
set_option maxRecDepth 100000
set_option maxHeartbeats 0
set_option linter.unusedVariables false
set_option linter.unusedSimpArgs false
theorem chk_kind (n s0 s1 x0 x1 b0 b1 : Int) (s : ByteArray) (f : Nat) (g : Int) (k : ByteArray) (a b : Int) (l : List Int) (t : Int) (B : Bool) (hk : PSpec Try.prog 75 [stepV n s0 s1 x0 x1 b0 b1, .str s] (knownK n s0 s1 x0 x1 b0 b1 f g))
    (hp : PSpec Try.prog 114 [ruleV n (s0 % n) (s1 % n) (x0 % n) (x1 % n) (b0 % n) (b1 % n), kindV f g, refV k a b l t] (.bp B)) :
    PSpec Try.prog 70 [stepV n s0 s1 x0 x1 b0 b1, .str s, refV k a b l t] (.int .i64 (if B = true then 0 else 19)) := by
  have hC := cpAdd_ok (pureCC_ok (atC_ok (C := True) fun _ => hk)) (cpAdd_ok (pureCC_ok (atC_ok (C := True) fun _ => hp)) cp1_ok)
  refine pspec_of (md := 1) (rf := []) mixed tabOK hC Try.func70 (by rfl) (by rfl) (by rfl) ?_
  repeat' (first | ((conv => whnf); refine And.intro ?_ ?_) | ((conv => whnf); with_reducible exact VC.mk rfl) | ((conv => whnf); exact Ok.mk) | ((conv => whnf); exact True.intro) | ((conv => whnf); refine Nx.mk ?_) | ((conv => whnf); refine Fin.mk ?_) | ((conv => whnf); intro hq; (try simp only [decide_eq_true_eq, decide_eq_false_iff_not, Bool.not_eq_true, Bool.not_eq_false, Bool.not_eq_true', Bool.not_eq_false', ite_true, ite_false] at hq); (try (exfalso; first | exact absurd hq (by decide) | omega))))
  all_goals ((try refine VC.mk ?_); (try simp only [CL.ncell, CL.cnt, Int.toNat_natCast, decide_eq_true_eq, decide_eq_false_iff_not, Bool.not_eq_true, Bool.not_false, Bool.not_true, and_self, and_true, true_and, te3b, te4b, te3s, te4s, Nat.mul_one, Nat.zero_add, List.length_cons, List.length_nil, Bool.false_eq_true, Bool.true_eq_false] at *); (try omega))
  cases B <;> all_goals (refine Sup.via ?_; repeat' (first | ((conv => whnf); refine And.intro ?_ ?_) | ((conv => whnf); with_reducible exact VC.mk rfl) | ((conv => whnf); exact Ok.mk) | ((conv => whnf); exact True.intro) | ((conv => whnf); refine Nx.mk ?_) | ((conv => whnf); refine Fin.mk ?_) | ((conv => whnf); intro _)); all_goals ((try refine VC.mk ?_); (try simp only [CL.ncell, CL.cnt, Int.toNat_natCast, decide_eq_true_eq, decide_eq_false_iff_not, Bool.not_eq_true, Bool.not_false, Bool.not_true, and_self, and_true, true_and, te3b, te4b, te3s, te4s, Nat.mul_one, Nat.zero_add, List.length_cons, List.length_nil, Bool.false_eq_true, Bool.true_eq_false] at *); (try omega)); all_goals (try (simp [CL.sub]; done)))
theorem chk_err (n s0 s1 x0 x1 b0 b1 : Int) (s : ByteArray) (k : ByteArray) (a b : Int) (l : List Int) (t : Int) (e : Int) (he : e ≠ 0) (hk : PSpec Try.prog 75 [stepV n s0 s1 x0 x1 b0 b1, .str s] (knownE e)) :
    PSpec Try.prog 70 [stepV n s0 s1 x0 x1 b0 b1, .str s, refV k a b l t] (.int .i64 e) := by
  have hC := cpAdd_ok (pureCC_ok (atC_ok (C := True) fun _ => hk)) cp1_ok
  refine pspec_of (md := 1) (rf := []) mixed tabOK hC Try.func70 (by rfl) (by rfl) (by rfl) ?_
  repeat' (first | ((conv => whnf); refine And.intro ?_ ?_) | ((conv => whnf); with_reducible exact VC.mk rfl) | ((conv => whnf); exact Ok.mk) | ((conv => whnf); exact True.intro) | ((conv => whnf); refine Nx.mk ?_) | ((conv => whnf); refine Fin.mk ?_) | ((conv => whnf); intro hq; (try simp only [decide_eq_true_eq, decide_eq_false_iff_not, Bool.not_eq_true, Bool.not_eq_false, Bool.not_eq_true', Bool.not_eq_false', ite_true, ite_false] at hq); (try (exfalso; first | exact absurd hq (by decide) | omega))))
  all_goals ((try refine VC.mk ?_); (try simp only [CL.ncell, CL.cnt, Int.toNat_natCast, decide_eq_true_eq, decide_eq_false_iff_not, Bool.not_eq_true, Bool.not_false, Bool.not_true, and_self, and_true, true_and, te3b, te4b, te3s, te4s, Nat.mul_one, Nat.zero_add, List.length_cons, List.length_nil, Bool.false_eq_true, Bool.true_eq_false] at *); (try omega))
  all_goals (refine Sup.via ?_; repeat' (first | ((conv => whnf); refine And.intro ?_ ?_) | ((conv => whnf); with_reducible exact VC.mk rfl) | ((conv => whnf); exact Ok.mk) | ((conv => whnf); exact True.intro) | ((conv => whnf); refine Nx.mk ?_) | ((conv => whnf); refine Fin.mk ?_) | ((conv => whnf); intro _)); all_goals ((try refine VC.mk ?_); (try simp only [CL.ncell, CL.cnt, Int.toNat_natCast, decide_eq_true_eq, decide_eq_false_iff_not, Bool.not_eq_true, Bool.not_false, Bool.not_true, and_self, and_true, true_and, te3b, te4b, te3s, te4s, Nat.mul_one, Nat.zero_add, List.length_cons, List.length_nil, Bool.false_eq_true, Bool.true_eq_false] at *); (try omega)); all_goals (try (simp [CL.sub]; done)))
end Go.Eng.Ytppflbccfdbogaa
namespace Go.Eng.Ytppflbccfdbogaa
open Go.Proofs
set_option maxRecDepth 100000
set_option maxHeartbeats 0
set_option linter.unusedVariables false
set_option linter.unusedSimpArgs false
theorem rIs_meet (n s0 s1 x0 x1 b0 b1 : Int) (s : ByteArray) (a b : Int) (l : List Int) (t : Int) (hn : 1 ≤ n ∧ n ≤ 16) (h : ∀ x ∈ [s0, s1, x0, x1, b0, b1], -999999999 ≤ x ∧ x ≤ 999999999) :
    PSpec Try.prog 69 [stepV n s0 s1 x0 x1 b0 b1, .str s, refV kMeet a b l t] (.bp (decide (1 ≤ a ∧ a < b ∧ b ≤ n * n ∧ (l.length : Int) = 0 ∧ t = 0) && (decide (rowOf n (s0 % n) (x0 % n) (b0 % n) a = rowOf n (s0 % n) (x0 % n) (b0 % n) b) && decide (rowOf n (s1 % n) (x1 % n) (b1 % n) a = rowOf n (s1 % n) (x1 % n) (b1 % n) b)))) := by
  have hC := cpAdd_ok (pureCC_ok rPlace_ok) noC_ok
  have hN := mul_bd (show 0 ≤ n ∧ n ≤ 16 by omega) (show 0 ≤ n ∧ n ≤ 16 by omega)
  refine pspec_of (md := 1) (rf := []) mixed tabOK hC Try.func69 (by rfl) (by rfl) (by rfl) ?_
  repeat' (first | ((conv => whnf); refine And.intro ?_ ?_) | ((conv => whnf); with_reducible exact VC.mk rfl) | ((conv => whnf); exact Ok.mk) | ((conv => whnf); exact True.intro) | ((conv => whnf); refine Nx.mk ?_) | ((conv => whnf); refine Fin.mk ?_) | ((conv => whnf); intro hq; (try simp only [decide_eq_true_eq, decide_eq_false_iff_not, Bool.not_eq_true, Bool.not_eq_false, Bool.not_eq_true', Bool.not_eq_false', ite_true, ite_false] at hq); (try (exfalso; first | exact absurd hq (by decide) | omega))))
  all_goals ((try refine VC.mk ?_); (try simp only [CL.ncell, CL.cnt, Int.toNat_natCast, decide_eq_true_eq, decide_eq_false_iff_not, Bool.not_eq_true, Bool.not_false, Bool.not_true, and_self, and_true, true_and, te3b, te4b, te3s, te4s, Nat.mul_one, Nat.zero_add, List.length_cons, List.length_nil, Bool.false_eq_true, Bool.true_eq_false] at *); (try omega))
  all_goals first
    | exact ⟨hn, by omega, fun x hx => by have := h x hx; omega⟩
    | (rw [decide_eq_false (by omega), Bool.false_and]; all_goals (refine Sup.via ?_; repeat' (first | ((conv => whnf); refine And.intro ?_ ?_) | ((conv => whnf); with_reducible exact VC.mk rfl) | ((conv => whnf); exact Ok.mk) | ((conv => whnf); exact True.intro) | ((conv => whnf); refine Nx.mk ?_) | ((conv => whnf); refine Fin.mk ?_) | ((conv => whnf); intro _)); all_goals ((try refine VC.mk ?_); (try simp only [CL.ncell, CL.cnt, Int.toNat_natCast, decide_eq_true_eq, decide_eq_false_iff_not, Bool.not_eq_true, Bool.not_false, Bool.not_true, and_self, and_true, true_and, te3b, te4b, te3s, te4s, Nat.mul_one, Nat.zero_add, List.length_cons, List.length_nil, Bool.false_eq_true, Bool.true_eq_false] at *); (try omega)); all_goals (try (simp [CL.sub]; done))))
    | (refine sup_bp' ?_; rw [decide_eq_true (by omega), Bool.true_and, decide_eq_true (p := rowOf n (s0 % n) (x0 % n) (b0 % n) a = rowOf n (s0 % n) (x0 % n) (b0 % n) b) (by assumption), Bool.true_and])
    | (rw [decide_eq_true (by omega), Bool.true_and, decide_eq_false (p := rowOf n (s0 % n) (x0 % n) (b0 % n) a = rowOf n (s0 % n) (x0 % n) (b0 % n) b) (by assumption), Bool.false_and]; all_goals (refine Sup.via ?_; repeat' (first | ((conv => whnf); refine And.intro ?_ ?_) | ((conv => whnf); with_reducible exact VC.mk rfl) | ((conv => whnf); exact Ok.mk) | ((conv => whnf); exact True.intro) | ((conv => whnf); refine Nx.mk ?_) | ((conv => whnf); refine Fin.mk ?_) | ((conv => whnf); intro _)); all_goals ((try refine VC.mk ?_); (try simp only [CL.ncell, CL.cnt, Int.toNat_natCast, decide_eq_true_eq, decide_eq_false_iff_not, Bool.not_eq_true, Bool.not_false, Bool.not_true, and_self, and_true, true_and, te3b, te4b, te3s, te4s, Nat.mul_one, Nat.zero_add, List.length_cons, List.length_nil, Bool.false_eq_true, Bool.true_eq_false] at *); (try omega)); all_goals (try (simp [CL.sub]; done))))
theorem rIs_no (n s0 s1 x0 x1 b0 b1 : Int) (s k : ByteArray) (a b : Int) (l : List Int) (t : Int) (h1 : k ≠ kMeet) (h2 : k ≠ kSum) :
    PSpec Try.prog 69 [stepV n s0 s1 x0 x1 b0 b1, .str s, refV k a b l t] (.bp false) := by
  refine pspec_of (md := 1) (rf := []) mixed tabOK noC_ok Try.func69 (by rfl) (by rfl) (by rfl) ?_
  repeat' (first | ((conv => whnf); refine And.intro ?_ ?_) | ((conv => whnf); with_reducible exact VC.mk rfl) | ((conv => whnf); exact Ok.mk) | ((conv => whnf); exact True.intro) | ((conv => whnf); refine Nx.mk ?_) | ((conv => whnf); refine Fin.mk ?_) | ((conv => whnf); intro hq; (try simp only [decide_eq_true_eq, decide_eq_false_iff_not, Bool.not_eq_true, Bool.not_eq_false, Bool.not_eq_true', Bool.not_eq_false', ite_true, ite_false] at hq); (try (exfalso; first | exact absurd hq (by decide) | omega))))
  all_goals ((try refine VC.mk ?_); (try simp only [CL.ncell, CL.cnt, Int.toNat_natCast, decide_eq_true_eq, decide_eq_false_iff_not, Bool.not_eq_true, Bool.not_false, Bool.not_true, and_self, and_true, true_and, te3b, te4b, te3s, te4s, Nat.mul_one, Nat.zero_add, List.length_cons, List.length_nil, Bool.false_eq_true, Bool.true_eq_false] at *); (try omega))
  all_goals first | all_goals (refine Sup.via ?_; repeat' (first | ((conv => whnf); refine And.intro ?_ ?_) | ((conv => whnf); with_reducible exact VC.mk rfl) | ((conv => whnf); exact Ok.mk) | ((conv => whnf); exact True.intro) | ((conv => whnf); refine Nx.mk ?_) | ((conv => whnf); refine Fin.mk ?_) | ((conv => whnf); intro _)); all_goals ((try refine VC.mk ?_); (try simp only [CL.ncell, CL.cnt, Int.toNat_natCast, decide_eq_true_eq, decide_eq_false_iff_not, Bool.not_eq_true, Bool.not_false, Bool.not_true, and_self, and_true, true_and, te3b, te4b, te3s, te4s, Nat.mul_one, Nat.zero_add, List.length_cons, List.length_nil, Bool.false_eq_true, Bool.true_eq_false] at *); (try omega)); all_goals (try (simp [CL.sub]; done))) | (exfalso; first | exact h1 ‹_› | exact h2 ‹_› | exact h2 (Classical.byContradiction ‹_›))
theorem rIs_ab (n s0 s1 x0 x1 b0 b1 : Int) (s : ByteArray) (a b : Int) (l : List Int) (t : Int) (h : ¬ (a = 0 ∧ b = 0)) :
    PSpec Try.prog 69 [stepV n s0 s1 x0 x1 b0 b1, .str s, refV kSum a b l t] (.bp false) := by
  refine pspec_of (md := 1) (rf := []) mixed tabOK noC_ok Try.func69 (by rfl) (by rfl) (by rfl) ?_
  repeat' (first | ((conv => whnf); refine And.intro ?_ ?_) | ((conv => whnf); with_reducible exact VC.mk rfl) | ((conv => whnf); exact Ok.mk) | ((conv => whnf); exact True.intro) | ((conv => whnf); refine Nx.mk ?_) | ((conv => whnf); refine Fin.mk ?_) | ((conv => whnf); intro hq; (try simp only [decide_eq_true_eq, decide_eq_false_iff_not, Bool.not_eq_true, Bool.not_eq_false, Bool.not_eq_true', Bool.not_eq_false', ite_true, ite_false] at hq); (try (exfalso; first | exact absurd hq (by decide) | omega))))
  all_goals ((try refine VC.mk ?_); (try simp only [CL.ncell, CL.cnt, Int.toNat_natCast, decide_eq_true_eq, decide_eq_false_iff_not, Bool.not_eq_true, Bool.not_false, Bool.not_true, and_self, and_true, true_and, te3b, te4b, te3s, te4s, Nat.mul_one, Nat.zero_add, List.length_cons, List.length_nil, Bool.false_eq_true, Bool.true_eq_false] at *); (try omega))
  all_goals first | all_goals (refine Sup.via ?_; repeat' (first | ((conv => whnf); refine And.intro ?_ ?_) | ((conv => whnf); with_reducible exact VC.mk rfl) | ((conv => whnf); exact Ok.mk) | ((conv => whnf); exact True.intro) | ((conv => whnf); refine Nx.mk ?_) | ((conv => whnf); refine Fin.mk ?_) | ((conv => whnf); intro _)); all_goals ((try refine VC.mk ?_); (try simp only [CL.ncell, CL.cnt, Int.toNat_natCast, decide_eq_true_eq, decide_eq_false_iff_not, Bool.not_eq_true, Bool.not_false, Bool.not_true, and_self, and_true, true_and, te3b, te4b, te3s, te4s, Nat.mul_one, Nat.zero_add, List.length_cons, List.length_nil, Bool.false_eq_true, Bool.true_eq_false] at *); (try omega)); all_goals (try (simp [CL.sub]; done))) | (exfalso; omega) | (exfalso; exact absurd rfl ‹_›)
theorem rIs_smeet (n : Nat) (s0 s1 x0 x1 b0 b1 : Int) (s : ByteArray) (a b : Int) (l : List Int) (t : Int) (hn : 1 ≤ n ∧ n ≤ 16) (h : ∀ x ∈ [s0, s1, x0, x1, b0, b1], -999999999 ≤ x ∧ x ≤ 999999999) (y : Nat) (hm : meetOf (cellS n s0 s1 x0 x1 b0 b1) (n * n) = some y) :
    PSpec Try.prog 69 [stepV n s0 s1 x0 x1 b0 b1, .str s, refV kSum a b l t] (.bp false) := by
  have hM := rMeet_spec n s0 s1 x0 x1 b0 b1 (by omega) h
  have eN : ((n : Int) * n).toNat = n * n := by rw [← Int.natCast_mul, Int.toNat_natCast]
  unfold meetV at hM
  rw [eN, hm] at hM
  have hC := cpAdd_ok (pureCC_ok (atC_ok (C := True) fun _ => hM)) noC_ok
  refine pspec_of (md := 1) (rf := []) mixed tabOK hC Try.func69 (by rfl) (by rfl) (by rfl) ?_
  repeat' (first | ((conv => whnf); refine And.intro ?_ ?_) | ((conv => whnf); with_reducible exact VC.mk rfl) | ((conv => whnf); exact Ok.mk) | ((conv => whnf); exact True.intro) | ((conv => whnf); refine Nx.mk ?_) | ((conv => whnf); refine Fin.mk ?_) | ((conv => whnf); intro hq; (try simp only [decide_eq_true_eq, decide_eq_false_iff_not, Bool.not_eq_true, Bool.not_eq_false, Bool.not_eq_true', Bool.not_eq_false', ite_true, ite_false] at hq); (try (exfalso; first | exact absurd hq (by decide) | omega))))
  all_goals ((try refine VC.mk ?_); (try simp only [CL.ncell, CL.cnt, Int.toNat_natCast, decide_eq_true_eq, decide_eq_false_iff_not, Bool.not_eq_true, Bool.not_false, Bool.not_true, and_self, and_true, true_and, te3b, te4b, te3s, te4s, Nat.mul_one, Nat.zero_add, List.length_cons, List.length_nil, Bool.false_eq_true, Bool.true_eq_false] at *); (try omega))
  all_goals first | all_goals (refine Sup.via ?_; repeat' (first | ((conv => whnf); refine And.intro ?_ ?_) | ((conv => whnf); with_reducible exact VC.mk rfl) | ((conv => whnf); exact Ok.mk) | ((conv => whnf); exact True.intro) | ((conv => whnf); refine Nx.mk ?_) | ((conv => whnf); refine Fin.mk ?_) | ((conv => whnf); intro _)); all_goals ((try refine VC.mk ?_); (try simp only [CL.ncell, CL.cnt, Int.toNat_natCast, decide_eq_true_eq, decide_eq_false_iff_not, Bool.not_eq_true, Bool.not_false, Bool.not_true, and_self, and_true, true_and, te3b, te4b, te3s, te4s, Nat.mul_one, Nat.zero_add, List.length_cons, List.length_nil, Bool.false_eq_true, Bool.true_eq_false] at *); (try omega)); all_goals (try (simp [CL.sub]; done))) | (exfalso; omega) | (exfalso; exact absurd rfl ‹_›)
theorem rIs_sum (n : Nat) (s0 s1 x0 x1 b0 b1 : Int) (s : ByteArray) (l : List Int) (t : Int) (hn : 1 ≤ n ∧ n ≤ 16) (h : ∀ x ∈ [s0, s1, x0, x1, b0, b1], -999999999 ≤ x ∧ x ≤ 999999999) (hl : l.length ≤ 300) (c : Nat → Nat) (hc : cellS n s0 s1 x0 x1 b0 b1 = c) (hm : meetOf c (n * n) = none) :
    PSpec Try.prog 69 [stepV n s0 s1 x0 x1 b0 b1, .str s, refV kSum 0 0 l t] (.bp ((List.range (lineCnt n (gOf s))).any (fun i => decide (lineAt n i = l)) && (decide (sumAt (gAt c (n * n) (n * n)) l n = t) && decide (sumAt (gAt c (n * n) (n * n)) l n ≠ constOf n)))) := by
  have hM := rMeet_spec n s0 s1 x0 x1 b0 b1 (by omega) h
  have hU := rUniform_spec n s0 s1 x0 x1 b0 b1 (by omega) h
  have eN : ((n : Int) * n).toNat = n * n := by rw [← Int.natCast_mul, Int.toNat_natCast]
  unfold meetV at hM
  rw [hc, eN, hm] at hM
  rw [hc, eN] at hU
  have hnn := mul_bd (show 0 ≤ (n : Int) ∧ (n : Int) ≤ 16 by omega) (show 0 ≤ (n : Int) ∧ (n : Int) ≤ 16 by omega)
  obtain ⟨L, hL⟩ : ∃ l, l = gAt c (n * n) (n * n) := ⟨_, rfl⟩
  have hlen : (L.length : Int) = (n : Int) * n := by rw [hL, gAt_len, Int.natCast_mul]
  have hg : ∀ k : Int, 0 ≤ k → k < (n : Int) * n → 0 ≤ L.getD k.toNat 0 ∧ L.getD k.toNat 0 ≤ 1000 := fun k q1 q2 => by
    rw [List.getD_eq_getElem?_getD, List.getElem?_eq_getElem (by omega)]
    have hm := List.getElem_mem (l := L) (n := k.toNat) (by omega)
    have a := gAt_nonneg c (n * n) (n * n) _ (by rw [← hL]; exact hm)
    have b := gAt_le c (n * n) (n * n) _ (by rw [← hL]; exact hm)
    rw [Int.natCast_mul] at b
    simp only [Option.getD_some]; omega
  rw [← hL] at hU ⊢
  have hC := cpAdd_ok (pureCC_ok (atC_ok (C := True) fun _ => hM)) (cpAdd_ok (pureCC_ok (atC_ok (C := True) fun _ => hU)) (cpAdd_ok (pureCC_ok Lines_ok) (cpAdd_ok (pureCC_ok sameInts_ok) (cpAdd_ok (pureCC_ok rSum_ok) (cpAdd_ok (pureCC_ok Constant_ok) noC_ok)))))
  refine pspec_of (md := 1) (rf := []) mixed tabOK hC Try.func69 (by rfl) (by rfl) (by rfl) ?_
  repeat' (first | ((conv => whnf); refine And.intro ?_ ?_) | ((conv => whnf); with_reducible exact VC.mk rfl) | ((conv => whnf); exact Ok.mk) | ((conv => whnf); exact True.intro) | ((conv => whnf); refine Nx.mk ?_) | ((conv => whnf); refine Fin.mk ?_) | ((conv => whnf); intro hq; (try simp only [decide_eq_true_eq, decide_eq_false_iff_not, Bool.not_eq_true, Bool.not_eq_false, Bool.not_eq_true', Bool.not_eq_false', ite_true, ite_false] at hq); (try (exfalso; first | exact absurd hq (by decide) | omega))))
  all_goals ((try refine VC.mk ?_); (try simp only [CL.ncell, CL.cnt, Int.toNat_natCast, decide_eq_true_eq, decide_eq_false_iff_not, Bool.not_eq_true, Bool.not_false, Bool.not_true, and_self, and_true, true_and, te3b, te4b, te3s, te4s, Nat.mul_one, Nat.zero_add, List.length_cons, List.length_nil, Bool.false_eq_true, Bool.true_eq_false] at *); (try omega))
  all_goals (try (exfalso; first | omega | exact absurd rfl ‹_› | exact absurd trivial ‹_›))
  generalize hcnt : lineCnt n (gOf s) = cnt at *
  conv => whnf
  refine loop_of (X := Nat) (fun i => i ≤ cnt ∧ ∀ j, j < i → lineAt n j ≠ l) (fun i => [(14, .int .i64 i)]) (fun i => []) (fun i => cnt - i) 0 ⟨anyB_ok, mixed, tabOK, hC, noY_ok⟩ (by rfl) ⟨by omega, fun j hj => by omega⟩ ?_ ?_
  · repeat' (first | ((conv => whnf); refine And.intro ?_ ?_) | ((conv => whnf); with_reducible exact VC.mk rfl) | ((conv => whnf); exact Ok.mk) | ((conv => whnf); exact True.intro) | ((conv => whnf); refine Nx.mk ?_) | ((conv => whnf); refine Fin.mk ?_) | ((conv => whnf); intro _))
    all_goals ((try refine VC.mk ?_); (try simp only [CL.ncell, CL.cnt, Int.toNat_natCast, decide_eq_true_eq, decide_eq_false_iff_not, Bool.not_eq_true, Bool.not_false, Bool.not_true, and_self, and_true, true_and, te3b, te4b, te3s, te4s, Nat.mul_one, Nat.zero_add, List.length_cons, List.length_nil, Bool.false_eq_true, Bool.true_eq_false] at *); (try omega))
  rintro i ⟨hi, hok⟩
  have e1 := linesTo_len n cnt
  have hc4 := lineCnt_le n (gOf s)
  by_cases hlt : i < cnt
  · have e2 := linesTo_get n cnt i hlt
    have hmm := fun c hc => lineAt_mem (n := n) (i := i) c hc
    have e3 := lineAt_len n i
    have hb := sumAt_bd L (lineAt n i) (fun c hc => hg c (hmm c hc).1 (hmm c hc).2)
    repeat' (first | ((conv => whnf); refine And.intro ?_ ?_) | ((conv => whnf); with_reducible exact VC.mk rfl) | ((conv => whnf); exact Ok.mk) | ((conv => whnf); exact True.intro) | ((conv => whnf); refine Nx.mk ?_) | ((conv => whnf); refine Fin.mk ?_) | ((conv => whnf); intro hq; (try simp only [decide_eq_true_eq, decide_eq_false_iff_not, Bool.not_eq_true, Bool.not_eq_false, Bool.not_eq_true', Bool.not_eq_false', ite_true, ite_false] at hq); (try (exfalso; first | exact absurd hq (by decide) | omega))))
    all_goals ((try refine VC.mk ?_); (try simp only [CL.ncell, CL.cnt, Int.toNat_natCast, decide_eq_true_eq, decide_eq_false_iff_not, Bool.not_eq_true, Bool.not_false, Bool.not_true, and_self, and_true, true_and, te3b, te4b, te3s, te4s, Nat.mul_one, Nat.zero_add, List.length_cons, List.length_nil, Bool.false_eq_true, Bool.true_eq_false] at *); (try omega))
    all_goals (try simp only [e2] at *)
    · omega
    · rename_i hq
      rw [← hq]
      refine ⟨fun x hx => by have := hmm x hx; omega, by omega, fun j hj => ?_⟩
      have := hb j hj
      omega
    · have hq0 : lineAt n i = l := by assumption
      have e : (List.range cnt).any (fun i => decide (lineAt n i = l)) = true := by
        rw [List.any_eq_true]
        exact ⟨i, List.mem_range.2 hlt, decide_eq_true hq0⟩
      have e4 : l.length = n := by rw [← hq0, e3]
      have q : sumAt L l l.length = t := by assumption
      rw [e4] at q
      rw [e, Bool.true_and, e4, decide_eq_true q, Bool.true_and]
      exact sup_bp' rfl
    · have hq0 : lineAt n i = l := by assumption
      have e4 : l.length = n := by rw [← hq0, e3]
      have q : ¬ sumAt L l l.length = t := by assumption
      rw [e4] at q
      rw [decide_eq_false q, Bool.false_and, Bool.and_false]
      all_goals (refine Sup.via ?_; repeat' (first | ((conv => whnf); refine And.intro ?_ ?_) | ((conv => whnf); with_reducible exact VC.mk rfl) | ((conv => whnf); exact Ok.mk) | ((conv => whnf); exact True.intro) | ((conv => whnf); refine Nx.mk ?_) | ((conv => whnf); refine Fin.mk ?_) | ((conv => whnf); intro _)); all_goals ((try refine VC.mk ?_); (try simp only [CL.ncell, CL.cnt, Int.toNat_natCast, decide_eq_true_eq, decide_eq_false_iff_not, Bool.not_eq_true, Bool.not_false, Bool.not_true, and_self, and_true, true_and, te3b, te4b, te3s, te4s, Nat.mul_one, Nat.zero_add, List.length_cons, List.length_nil, Bool.false_eq_true, Bool.true_eq_false] at *); (try omega)); all_goals (try (simp [CL.sub]; done)))
    · refine ⟨i + 1, [], ⟨⟨by omega, fun j hj => ?_⟩, by omega⟩, ?_⟩
      · by_cases h : j = i
        · subst h; assumption
        · exact hok j (by omega)
      · repeat' (first | ((conv => whnf); refine And.intro ?_ ?_) | ((conv => whnf); with_reducible exact VC.mk rfl) | ((conv => whnf); exact Ok.mk) | ((conv => whnf); exact True.intro) | ((conv => whnf); refine Nx.mk ?_) | ((conv => whnf); refine Fin.mk ?_) | ((conv => whnf); intro _))
        all_goals ((try refine VC.mk ?_); (try simp only [CL.ncell, CL.cnt, Int.toNat_natCast, decide_eq_true_eq, decide_eq_false_iff_not, Bool.not_eq_true, Bool.not_false, Bool.not_true, and_self, and_true, true_and, te3b, te4b, te3s, te4s, Nat.mul_one, Nat.zero_add, List.length_cons, List.length_nil, Bool.false_eq_true, Bool.true_eq_false] at *); (try omega))
  · have : cnt = i := by omega
    subst this
    have e : (List.range cnt).any (fun i => decide (lineAt n i = l)) = false := by
      rw [List.any_eq_false]
      intro j hj
      simpa using hok j (List.mem_range.1 hj)
    rw [e, Bool.false_and]
    repeat' (first | ((conv => whnf); refine And.intro ?_ ?_) | ((conv => whnf); with_reducible exact VC.mk rfl) | ((conv => whnf); exact Ok.mk) | ((conv => whnf); exact True.intro) | ((conv => whnf); refine Nx.mk ?_) | ((conv => whnf); refine Fin.mk ?_) | ((conv => whnf); intro hq; (try simp only [decide_eq_true_eq, decide_eq_false_iff_not, Bool.not_eq_true, Bool.not_eq_false, Bool.not_eq_true', Bool.not_eq_false', ite_true, ite_false] at hq); (try (exfalso; first | exact absurd hq (by decide) | omega))))
    all_goals ((try refine VC.mk ?_); (try simp only [CL.ncell, CL.cnt, Int.toNat_natCast, decide_eq_true_eq, decide_eq_false_iff_not, Bool.not_eq_true, Bool.not_false, Bool.not_true, and_self, and_true, true_and, te3b, te4b, te3s, te4s, Nat.mul_one, Nat.zero_add, List.length_cons, List.length_nil, Bool.false_eq_true, Bool.true_eq_false] at *); (try omega))
    all_goals (refine Sup.via ?_; repeat' (first | ((conv => whnf); refine And.intro ?_ ?_) | ((conv => whnf); with_reducible exact VC.mk rfl) | ((conv => whnf); exact Ok.mk) | ((conv => whnf); exact True.intro) | ((conv => whnf); refine Nx.mk ?_) | ((conv => whnf); refine Fin.mk ?_) | ((conv => whnf); intro _)); all_goals ((try refine VC.mk ?_); (try simp only [CL.ncell, CL.cnt, Int.toNat_natCast, decide_eq_true_eq, decide_eq_false_iff_not, Bool.not_eq_true, Bool.not_false, Bool.not_true, and_self, and_true, true_and, te3b, te4b, te3s, te4s, Nat.mul_one, Nat.zero_add, List.length_cons, List.length_nil, Bool.false_eq_true, Bool.true_eq_false] at *); (try omega)); all_goals (try (simp [CL.sub]; done)))
end Go.Eng.Ytppflbccfdbogaa
namespace Go.Eng.Ytppflbccfdbogaa
open Go.Proofs
set_option maxRecDepth 100000
set_option maxHeartbeats 0
set_option linter.unusedVariables false
set_option linter.unusedSimpArgs false
theorem stepErr_or (n s0 s1 x0 x1 b0 b1 : Int) : stepErr n s0 s1 x0 x1 b0 b1 = 0 ∨ stepErr n s0 s1 x0 x1 b0 b1 = 3 := by
  unfold stepErr; split <;> simp
theorem uni_meet {n s0 s1 x0 x1 b0 b1 : Int} (hz : stepErr n s0 s1 x0 x1 b0 b1 = 0) : ∃ r c l e2 a b, PSpec Try.prog 46 [stepV n s0 s1 x0 x1 b0 b1] (.tup [gridV r c l, .int .i64 e2]) ∧ PSpec Try.prog 49 [stepV n s0 s1 x0 x1 b0 b1] (.tup [.int .i64 a, .int .i64 b]) ∧ l.length ≤ 2000000 ∧
    (0 < b → MadeOK r c l e2 0 0 [] 18) ∧ (¬ 0 < b → MadeOK r c l e2 n n (gAt (cellS n s0 s1 x0 x1 b0 b1) (n * n).toNat (n * n).toNat) 0) := by
  obtain ⟨h1, h2⟩ := stepErr_zero hz
  have hU := uniform_spec n s0 s1 x0 x1 b0 b1
  have hM := rMeet_spec n s0 s1 x0 x1 b0 b1 h1 h2
  have h3 := mul_bd (show 0 ≤ n ∧ n ≤ 16 by omega) (show 0 ≤ n ∧ n ≤ 16 by omega)
  unfold uniformV at hU
  rw [if_pos hz] at hU
  unfold uniV at hU
  unfold meetV at hM
  cases hm : meetOf (cellS n s0 s1 x0 x1 b0 b1) (n * n).toNat with
  | some y =>
    rw [hm] at hU hM
    exact ⟨_, _, _, _, _, _, hU, hM, by simp, fun _ => .inl ⟨by omega, rfl, rfl, rfl, rfl⟩, fun h => absurd h (by omega)⟩
  | none =>
    rw [hm] at hU hM
    exact ⟨_, _, _, _, _, _, hU, hM, by rw [gAt_len]; omega, fun h => absurd h (by omega), fun _ => .inr ⟨rfl, rfl, rfl, rfl, rfl⟩⟩
theorem steps_law (n s0 s1 x0 x1 b0 b1 k : Int) : PSpec Try.prog 7 [stepV n s0 s1 x0 x1 b0 b1, .int .i64 k] (.bp true) := by
  by_cases hz : stepErr n s0 s1 x0 x1 b0 b1 = 0
  · obtain ⟨h1, h2⟩ := stepErr_zero hz
    have h3 := mul_bd (show 0 ≤ n ∧ n ≤ 16 by omega) (show 0 ≤ n ∧ n ≤ 16 by omega)
    obtain ⟨r, c, l, e2, a, b, hU, hM, hl, hb, hb'⟩ := uni_meet hz
    obtain ⟨i, j, e1, hP, hout, hin⟩ : ∃ i j e1, PSpec Try.prog 45 [stepV n s0 s1 x0 x1 b0 b1, .int .i64 k] (.tup [.int .i64 i, .int .i64 j, .int .i64 e1]) ∧ ((k < 1 ∨ n * n < k) → i = 0 ∧ j = 0 ∧ e1 = 3) ∧ (¬ (k < 1 ∨ n * n < k) → e1 = 0 ∧ i = rowOf n (s0 % n) (x0 % n) (b0 % n) k ∧ j = rowOf n (s1 % n) (x1 % n) (b1 % n) k) := by
      have := place_spec n s0 s1 x0 x1 b0 b1 k
      unfold placeV at this
      rw [if_pos hz] at this
      by_cases hk : k < 1 ∨ n * n < k
      · rw [if_pos hk] at this; exact ⟨_, _, _, this, fun _ => ⟨rfl, rfl, rfl⟩, fun h => absurd hk h⟩
      · rw [if_neg hk] at this; exact ⟨_, _, _, this, fun h => absurd h hk, fun _ => ⟨rfl, rfl, rfl⟩⟩
    have hS := rCheckStep_spec n s0 s1 x0 x1 b0 b1
    have hS' := checkStep_spec n s0 s1 x0 x1 b0 b1
    rw [hz] at hS hS'
    have hR := rUniform_spec n s0 s1 x0 x1 b0 b1 h1 h2
    have hQ : ¬ (k < 1 ∨ n * n < k) → PSpec Try.prog 48 [stepV n s0 s1 x0 x1 b0 b1, .int .i64 k] (.tup [.int .i64 i, .int .i64 j]) := fun hk => by
      rw [(hin hk).2.1, (hin hk).2.2]
      exact rPlace_spec n s0 s1 x0 x1 b0 b1 k h1 (by omega) (fun x hx => by have := h2 x hx; omega)
    have hC := cpAdd_ok (pureCC_ok (atC_ok (C := True) fun _ => hS)) (cpAdd_ok (pureCC_ok (atC_ok (C := True) fun _ => hS')) (cpAdd_ok (pureCC_ok (atC_ok (C := True) fun _ => hP)) (cpAdd_ok (pureCC_ok (atC_ok (C := True) fun _ => hU)) (cpAdd_ok (pureCC_ok (atC_ok (C := True) fun _ => hM))
      (cpAdd_ok (pureCC_ok (atC_ok hQ)) (cpAdd_ok (pureCC_ok (atC_ok (C := True) fun _ => hR)) (cpAdd_ok (pureCC_ok madeT_ok) (cpAdd_ok (pureCC_ok awakeT_ok) noC_ok))))))))
    refine pspec_of (md := 1) (rf := []) mixed tabOK hC Try.func7 (by rfl) (by rfl) (by rfl) ?_
    repeat' (first | ((conv => whnf); refine And.intro ?_ ?_) | ((conv => whnf); with_reducible exact VC.mk rfl) | ((conv => whnf); exact Ok.mk) | ((conv => whnf); exact True.intro) | ((conv => whnf); refine Nx.mk ?_) | ((conv => whnf); refine Fin.mk ?_) | ((conv => whnf); intro _))
    all_goals ((try refine VC.mk ?_); (try simp only [CL.ncell, CL.cnt, Int.toNat_natCast, decide_eq_true_eq, decide_eq_false_iff_not, Bool.not_eq_true, Bool.not_false, Bool.not_true, and_self, and_true, true_and, te3b, te4b, te3s, te4s, Nat.mul_one, Nat.zero_add, List.length_cons, List.length_nil, Bool.false_eq_true, Bool.true_eq_false] at *); (try omega))
    all_goals first | exact sup_true | exact hb (by assumption) | exact hb' (by assumption)
  · have hS := rCheckStep_spec n s0 s1 x0 x1 b0 b1
    have hS' := checkStep_spec n s0 s1 x0 x1 b0 b1
    have hP := place_spec n s0 s1 x0 x1 b0 b1 k
    have hU := uniform_spec n s0 s1 x0 x1 b0 b1
    unfold placeV at hP
    unfold uniformV at hU
    rw [if_neg hz] at hP hU
    have hz3 := stepErr_or n s0 s1 x0 x1 b0 b1
    generalize stepErr n s0 s1 x0 x1 b0 b1 = bad at *
    have hC := cpAdd_ok (pureCC_ok (atC_ok (C := True) fun _ => hS)) (cpAdd_ok (pureCC_ok (atC_ok (C := True) fun _ => hS')) (cpAdd_ok (pureCC_ok (atC_ok (C := True) fun _ => hP)) (cpAdd_ok (pureCC_ok (atC_ok (C := True) fun _ => hU))
      (cpAdd_ok (pureCC_ok madeT_ok) (cpAdd_ok (pureCC_ok awakeT_ok) noC_ok)))))
    refine pspec_of (md := 1) (rf := []) mixed tabOK hC Try.func7 (by rfl) (by rfl) (by rfl) ?_
    repeat' (first | ((conv => whnf); refine And.intro ?_ ?_) | ((conv => whnf); with_reducible exact VC.mk rfl) | ((conv => whnf); exact Ok.mk) | ((conv => whnf); exact True.intro) | ((conv => whnf); refine Nx.mk ?_) | ((conv => whnf); refine Fin.mk ?_) | ((conv => whnf); intro _))
    all_goals ((try refine VC.mk ?_); (try simp only [CL.ncell, CL.cnt, Int.toNat_natCast, decide_eq_true_eq, decide_eq_false_iff_not, Bool.not_eq_true, Bool.not_false, Bool.not_true, and_self, and_true, true_and, te3b, te4b, te3s, te4s, Nat.mul_one, Nat.zero_add, List.length_cons, List.length_nil, Bool.false_eq_true, Bool.true_eq_false] at *); (try omega))
    all_goals first | exact sup_true | exact .inl ⟨hz, rfl, rfl, rfl, rfl⟩ | (exfalso; omega) | exact absurd trivial (by assumption)
end Go.Eng.Ytppflbccfdbogaa
namespace Go.Eng.Ytppflbccfdbogaa
open Go.Proofs
set_option maxRecDepth 100000
set_option maxHeartbeats 0
set_option linter.unusedVariables false
set_option linter.unusedSimpArgs false
noncomputable def cpIn : CPT := cpAdd 43 (pureCC intsT) noC
theorem cpIn_ok : CPOK Try.prog cpIn := cpAdd_ok (pureCC_ok intsT_ok) noC_ok
theorem sameR_spec (k : ByteArray) (a b : Int) (l : List Int) (s : Int) (hl : l.length ≤ 2000000) : PSpec Try.prog 21 [refV k a b l s, refV k a b l s] (.bp true) := by
  refine pspec_of (md := 1) (rf := []) mixed tabOK cpIn_ok Try.func21 (by rfl) (by rfl) (by rfl) ?_
  repeat' (first | ((conv => whnf); refine And.intro ?_ ?_) | ((conv => whnf); with_reducible exact VC.mk rfl) | ((conv => whnf); exact Ok.mk) | ((conv => whnf); exact True.intro) | ((conv => whnf); refine Nx.mk ?_) | ((conv => whnf); refine Fin.mk ?_) | ((conv => whnf); intro _))
  all_goals ((try refine VC.mk ?_); (try simp only [CL.ncell, CL.cnt, Int.toNat_natCast, decide_eq_true_eq, decide_eq_false_iff_not, Bool.not_eq_true, Bool.not_false, Bool.not_true, and_self, and_true, true_and, te3b, te4b, te3s, te4s, Nat.mul_one, Nat.zero_add, List.length_cons, List.length_nil, Bool.false_eq_true, Bool.true_eq_false] at *); (try omega))
  all_goals first | exact sup_true | (exfalso; simp_all; done) | (refine sup_bp' ?_; simp)
def sameRT : PSp := fun xs K => match xs with
  | [.agg [.str k, .int .i64 a, .int .i64 b, .isl (.ints .i64 l) .none, .int .i64 s], .agg [.str k', .int .i64 a', .int .i64 b', .isl (.ints .i64 l') .none, .int .i64 s']] => VC (l.length ≤ 2000000) ∧ VC (k = k' ∧ a = a' ∧ b = b' ∧ l = l' ∧ s = s') ∧ K (.bool true)
  | _ => False
theorem sameRT_ok : POK Try.prog 21 sameRT := by
  intro xs K h
  unfold sameRT at h
  split at h
  · obtain ⟨⟨h1⟩, ⟨rfl, rfl, rfl, rfl, rfl⟩, h⟩ := h
    exact ⟨_, h, pspec_sup (sameR_spec _ _ _ _ _ h1) sup_b⟩
  · exact h.elim
theorem kindErr_or (s : ByteArray) : kindErr s = 0 ∨ kindErr s = 13 := by unfold kindErr; split <;> simp
/-- the program's refusal and the reference's -/
theorem refuse_both {n s0 s1 x0 x1 b0 b1 : Int} {s : ByteArray} (hz : stepErr n s0 s1 x0 x1 b0 b1 = 0) (hk : kindErr s = 0) : ∃ (k : ByteArray) (a b : Int) (l : List Int) (q : Int) (yes : Bool),
    PSpec Try.prog 18 [stepV n s0 s1 x0 x1 b0 b1, .str s] (.tup [refV k a b l q, .int .i64 (if yes then 0 else 7)]) ∧ PSpec Try.prog 22 [stepV n s0 s1 x0 x1 b0 b1, .str s] (.tup [refV k a b l q, .bp yes]) ∧ l.length ≤ 2000000 ∧
    (yes = false → k = kNo ∧ a = 0 ∧ b = 0 ∧ l = [] ∧ q = 0) := by
  obtain ⟨h1, h2⟩ := stepErr_zero hz
  obtain ⟨m, rfl⟩ : ∃ m : Nat, n = m := ⟨n.toNat, by omega⟩
  have hA := refuse_spec m s0 s1 x0 x1 b0 b1 s
  have hB := rRefuse_spec m s0 s1 x0 x1 b0 b1 s (by omega) h2
  unfold refuseAll askErr at hA
  rw [if_pos hz, if_pos hk] at hA
  have hg : (if s = kSq then (0 : Int) else if s = kSemi then 1 else if s = kMag then 2 else 3) = gOf s := rfl
  rw [hg, Int.toNat_natCast] at hA
  unfold refuseV at hA
  unfold refuseR at hB
  generalize cellS (m : Int) s0 s1 x0 x1 b0 b1 = c at *
  cases hm : meetOf c (m * m) with
  | some y => rw [hm] at hA hB; exact ⟨_, _, _, _, _, true, hA, hB, by simp, fun h => by cases h⟩
  | none =>
    rw [hm] at hA hB
    cases hb : badLine m (gOf s) (gAt c (m * m) (m * m)) with
    | some i => rw [hb] at hA hB; exact ⟨_, _, _, _, _, true, hA, hB, by rw [lineAt_len]; omega, fun h => by cases h⟩
    | none => rw [hb] at hA hB; exact ⟨_, _, _, _, _, false, hA, hB, by simp, fun _ => ⟨rfl, rfl, rfl, rfl, rfl⟩⟩
theorem conditions_law (n s0 s1 x0 x1 b0 b1 : Int) (s : ByteArray) : PSpec Try.prog 3 [stepV n s0 s1 x0 x1 b0 b1, .str s] (.bp true) := by
  have hS := rCheckStep_spec n s0 s1 x0 x1 b0 b1
  have hA := admits_spec n s0 s1 x0 x1 b0 b1 s
  have hK := CheckKind_spec s
  have z1 := stepErr_or n s0 s1 x0 x1 b0 b1
  have z2 := kindErr_or s
  unfold admitsV at hA
  by_cases hask : stepErr n s0 s1 x0 x1 b0 b1 = 0 ∧ kindErr s = 0
  · obtain ⟨hz, hk⟩ := hask
    obtain ⟨h1, h2⟩ := stepErr_zero hz
    have hR := rAdmits_spec n s0 s1 x0 x1 b0 b1 s h1 h2 hk
    rw [adm_eq h1.1] at hR
    have ha : askErr n s0 s1 x0 x1 b0 b1 s = 0 := by unfold askErr; rw [if_pos hz, hk]
    rw [ha, decide_eq_true rfl, Bool.true_and] at hA
    obtain ⟨k, a, b, l, q, yes, r1, r2, hl, hno⟩ := refuse_both hz hk
    rw [hz] at hS
    rw [hk] at hK
    generalize admB n s0 s1 x0 x1 b0 b1 s = adm at *
    have hC := cpAdd_ok (pureCC_ok (atC_ok (C := True) fun _ => hS)) (cpAdd_ok (pureCC_ok (atC_ok (C := True) fun _ => hA)) (cpAdd_ok (pureCC_ok (atC_ok (C := True) fun _ => hK)) (cpAdd_ok (pureCC_ok (atC_ok (C := True) fun _ => hR)) (cpAdd_ok (pureCC_ok (atC_ok (C := True) fun _ => r1)) (cpAdd_ok (pureCC_ok (atC_ok (C := True) fun _ => r2))
      (cpAdd_ok (pureCC_ok sameRT_ok) (cpAdd_ok (pureCC_ok awakeT_ok) noC_ok)))))))
    refine pspec_of (md := 1) (rf := []) mixed tabOK hC Try.func3 (by rfl) (by rfl) (by rfl) ?_
    repeat' (first | ((conv => whnf); refine And.intro ?_ ?_) | ((conv => whnf); with_reducible exact VC.mk rfl) | ((conv => whnf); exact Ok.mk) | ((conv => whnf); exact True.intro) | ((conv => whnf); refine Nx.mk ?_) | ((conv => whnf); refine Fin.mk ?_) | ((conv => whnf); intro _))
    all_goals ((try refine VC.mk ?_); (try simp only [CL.ncell, CL.cnt, Int.toNat_natCast, decide_eq_true_eq, decide_eq_false_iff_not, Bool.not_eq_true, Bool.not_false, Bool.not_true, and_self, and_true, true_and, te3b, te4b, te3s, te4s, Nat.mul_one, Nat.zero_add, List.length_cons, List.length_nil, Bool.false_eq_true, Bool.true_eq_false] at *); (try omega))
    all_goals clear hC hA hR hS hK r1 r2
    all_goals first | exact sup_true | (cases yes <;> cases adm <;> simp_all; done)
  · have hR := refuse_spec n s0 s1 x0 x1 b0 b1 s
    have ha : askErr n s0 s1 x0 x1 b0 b1 s ≠ 0 := by unfold askErr; split <;> omega
    unfold refuseAll at hR
    rw [if_neg ha] at hR
    rw [decide_eq_false ha, Bool.false_and] at hA
    have ha2 : (stepErr n s0 s1 x0 x1 b0 b1 = 0 → askErr n s0 s1 x0 x1 b0 b1 s = kindErr s) ∧ (stepErr n s0 s1 x0 x1 b0 b1 ≠ 0 → askErr n s0 s1 x0 x1 b0 b1 s = stepErr n s0 s1 x0 x1 b0 b1) := by unfold askErr; split <;> simp_all
    generalize askErr n s0 s1 x0 x1 b0 b1 s = ae at *
    generalize stepErr n s0 s1 x0 x1 b0 b1 = se at *
    generalize kindErr s = ke at *
    have hC := cpAdd_ok (pureCC_ok (atC_ok (C := True) fun _ => hS)) (cpAdd_ok (pureCC_ok (atC_ok (C := True) fun _ => hA)) (cpAdd_ok (pureCC_ok (atC_ok (C := True) fun _ => hK)) (cpAdd_ok (pureCC_ok (atC_ok (C := True) fun _ => hR))
      (cpAdd_ok (pureCC_ok sameRT_ok) (cpAdd_ok (pureCC_ok awakeT_ok) noC_ok)))))
    refine pspec_of (md := 1) (rf := []) mixed tabOK hC Try.func3 (by rfl) (by rfl) (by rfl) ?_
    repeat' (first | ((conv => whnf); refine And.intro ?_ ?_) | ((conv => whnf); with_reducible exact VC.mk rfl) | ((conv => whnf); exact Ok.mk) | ((conv => whnf); exact True.intro) | ((conv => whnf); refine Nx.mk ?_) | ((conv => whnf); refine Fin.mk ?_) | ((conv => whnf); intro _))
    all_goals ((try refine VC.mk ?_); (try simp only [CL.ncell, CL.cnt, Int.toNat_natCast, decide_eq_true_eq, decide_eq_false_iff_not, Bool.not_eq_true, Bool.not_false, Bool.not_true, and_self, and_true, true_and, te3b, te4b, te3s, te4s, Nat.mul_one, Nat.zero_add, List.length_cons, List.length_nil, Bool.false_eq_true, Bool.true_eq_false] at *); (try omega))
    all_goals clear hC hA hR hS hK
    all_goals first | exact sup_true | (exfalso; omega) | (exfalso; simp_all; omega) | (exfalso; simp_all; done) | trace_state
end Go.Eng.Ytppflbccfdbogaa
namespace Go.Eng.Ytppflbccfdbogaa
open Go.Proofs
set_option maxRecDepth 100000
set_option maxHeartbeats 0
set_option linter.unusedVariables false
set_option linter.unusedSimpArgs false
theorem known_any {n s0 s1 x0 x1 b0 b1 : Int} {s : ByteArray} (hz : stepErr n s0 s1 x0 x1 b0 b1 = 0) (hk : kindErr s = 0) : ∃ f, PSpec Try.prog 75 [stepV n s0 s1 x0 x1 b0 b1, .str s] (knownK n s0 s1 x0 x1 b0 b1 f (gOf s)) := by
  unfold kindErr at hk
  split at hk
  · rename_i h
    rcases h with rfl | rfl | rfl | rfl
    · exact ⟨137, known_sq _ _ _ _ _ _ _ hz⟩
    · rw [show gOf kSemi = 1 from by decide]; exact ⟨138, known_semi _ _ _ _ _ _ _ hz⟩
    · rw [show gOf kMag = 2 from by decide]; exact ⟨139, known_mag _ _ _ _ _ _ _ hz⟩
    · rw [show gOf kPan = 3 from by decide]; exact ⟨140, known_pan _ _ _ _ _ _ _ hz⟩
  · omega
theorem gAt_val (c : Nat → Nat) (N : Nat) (i : Nat) : ∀ y, (gAt c N y).getD i 0 = 0 ∨ ∃ j, j < y ∧ c j = i ∧ (gAt c N y).getD i 0 = (j : Int) + 1 := by
  intro y
  induction y with
  | zero => left; rw [gAt_zero, List.getD_eq_getElem?_getD, List.getElem?_replicate]; split <;> rfl
  | succ y ih =>
    rw [gAt_succ, List.getD_eq_getElem?_getD, List.getElem?_set]
    by_cases e : c y = i
    · rw [if_pos e]
      split
      · exact .inr ⟨y, by omega, e, rfl⟩
      · exact .inl rfl
    · rw [if_neg e, ← List.getD_eq_getElem?_getD]
      rcases ih with h | ⟨j, h1, h2, h3⟩
      · exact .inl h
      · exact .inr ⟨j, by omega, h2, h3⟩
theorem meetOf_some {c : Nat → Nat} {N y : Nat} (h : meetOf c N = some y) : y < N ∧ ∃ j, j < y ∧ c j = c y ∧ (gAt c N y).getD (c y) 0 = (j : Int) + 1 := by
  unfold meetOf at h
  have h1 := List.mem_of_find?_eq_some h
  have h2 := List.find?_some h
  unfold meetAt at h2
  rw [decide_eq_true_eq] at h2
  refine ⟨by simpa using h1, ?_⟩
  rcases gAt_val c N (c y) y with h3 | h3
  · exact absurd h3 h2
  · exact h3
theorem cellN_eq {n s0 s1 x0 x1 b0 b1 : Int} (hn : 1 ≤ n) {i j : Nat} (h : cellN n s0 s1 x0 x1 b0 b1 i = cellN n s0 s1 x0 x1 b0 b1 j) : cellOf n s0 s1 x0 x1 b0 b1 ((i : Int) + 1) = cellOf n s0 s1 x0 x1 b0 b1 ((j : Int) + 1) := by
  have h1 := cellOf_bd n s0 s1 x0 x1 b0 b1 ((i : Int) + 1) (by omega)
  have h2 := cellOf_bd n s0 s1 x0 x1 b0 b1 ((j : Int) + 1) (by omega)
  unfold cellN at h; omega
/-- whether a refusal is one -/
def isB (m : Nat) (s0 s1 x0 x1 b0 b1 : Int) (g : Int) (k : ByteArray) (a b : Int) (l : List Int) (t : Int) : Bool :=
  if k = kMeet then meetB m (cellOf m (s0 % m) (s1 % m) (x0 % m) (x1 % m) (b0 % m) (b1 % m)) a b l t
  else if k = kSum then (match meetOf (cellS m s0 s1 x0 x1 b0 b1) (m * m) with | some _ => false | none => sumB m g (gAt (cellS m s0 s1 x0 x1 b0 b1) (m * m) (m * m)) a b l t)
  else false
/-- the first refusal of the reference is one -/
theorem refuse_is {m : Nat} {s0 s1 x0 x1 b0 b1 : Int} {s : ByteArray} (hz : stepErr m s0 s1 x0 x1 b0 b1 = 0) (hk : kindErr s = 0) : ∃ (k : ByteArray) (a b : Int) (l : List Int) (q : Int) (yes : Bool),
    PSpec Try.prog 22 [stepV m s0 s1 x0 x1 b0 b1, .str s] (.tup [refV k a b l q, .bp yes]) ∧ (yes = true → isB m s0 s1 x0 x1 b0 b1 (gOf s) k a b l q = true) := by
  obtain ⟨h1, h2⟩ := stepErr_zero hz
  have hB := rRefuse_spec m s0 s1 x0 x1 b0 b1 s (by omega) h2
  unfold isB
  obtain ⟨c, hc⟩ : ∃ c, c = cellS m s0 s1 x0 x1 b0 b1 := ⟨_, rfl⟩
  rw [← hc] at hB ⊢
  unfold refuseR at hB
  cases hm : meetOf c (m * m) with
  | some y =>
    rw [hm] at hB
    refine ⟨_, _, _, _, _, true, hB, fun _ => ?_⟩
    obtain ⟨q1, j, q2, q3, q4⟩ := meetOf_some hm
    have hmm : ((m * m : Nat) : Int) = (m : Int) * m := by push_cast; rfl
    rw [q4, if_pos rfl]
    unfold meetB
    rw [hc] at q3
    rw [Bool.and_eq_true, decide_eq_true_eq, decide_eq_true_eq]
    exact ⟨⟨by omega, by omega, by omega, rfl, rfl⟩, cellN_eq h1.1 q3⟩
  | none =>
    rw [hm] at hB
    cases hb : badLine m (gOf s) (gAt c (m * m) (m * m)) with
    | some i =>
      rw [hb] at hB
      refine ⟨_, _, _, _, _, true, hB, fun _ => ?_⟩
      unfold badLine at hb
      have k1 := List.mem_of_find?_eq_some hb
      have k2 := List.find?_some hb
      unfold lineOk at k2
      rw [if_neg (by decide), if_pos rfl]
      unfold sumB
      rw [Bool.and_eq_true, Bool.and_eq_true, decide_eq_true_eq, decide_eq_true_eq, List.any_eq_true]
      exact ⟨⟨rfl, rfl, by simpa using k2⟩, ⟨i, k1, decide_eq_true rfl⟩, rfl⟩
    | none =>
      rw [hb] at hB
      exact ⟨_, _, _, _, _, false, hB, fun h => by cases h⟩
theorem cell_rows {n s0 s1 x0 x1 b0 b1 : Int} (hn : 1 ≤ n) (a b : Int) : decide (cellOf n s0 s1 x0 x1 b0 b1 a = cellOf n s0 s1 x0 x1 b0 b1 b) = (decide (rowOf n s0 x0 b0 a = rowOf n s0 x0 b0 b) && decide (rowOf n s1 x1 b1 a = rowOf n s1 x1 b1 b)) := by
  rw [cellOf_eq, cellOf_eq, ← Bool.decide_and]
  have r1 := rowOf_bd n s0 x0 b0 a (by omega)
  have r2 := rowOf_bd n s0 x0 b0 b (by omega)
  have q1 := rowOf_bd n s1 x1 b1 a (by omega)
  have q2 := rowOf_bd n s1 x1 b1 b (by omega)
  generalize rowOf n s0 x0 b0 a = u at *
  generalize rowOf n s0 x0 b0 b = v at *
  generalize rowOf n s1 x1 b1 a = p at *
  generalize rowOf n s1 x1 b1 b = q at *
  congr 1
  rw [eq_iff_iff]
  constructor
  · intro h
    have h0 := small_dvd (n := n) (a := q - p) (by omega) ⟨u - v, by rw [Int.mul_sub, Int.mul_comm n, Int.mul_comm n]; omega⟩ (by omega) (by omega)
    have h1 : (u - v) * n = 0 := by rw [Int.sub_mul]; omega
    rcases Int.mul_eq_zero.1 h1 with h1 | h1 <;> exact ⟨by omega, by omega⟩
  · rintro ⟨rfl, rfl⟩; rfl
theorem chk_is {m : Nat} {s0 s1 x0 x1 b0 b1 : Int} {s : ByteArray} (hz : stepErr m s0 s1 x0 x1 b0 b1 = 0) (hk : kindErr s = 0) (k : ByteArray) (a b : Int) (l : List Int) (t : Int) :
    PSpec Try.prog 70 [stepV m s0 s1 x0 x1 b0 b1, .str s, refV k a b l t] (.int .i64 (if isB m s0 s1 x0 x1 b0 b1 (gOf s) k a b l t = true then 0 else 19)) := by
  obtain ⟨h1, h2⟩ := stepErr_zero hz
  obtain ⟨f, hf⟩ := known_any hz hk
  have h3 := emod_all h1.1 s0 s1 x0 x1 b0 b1
  have eN : ((m : Int) * m).toNat = m * m := by rw [← Int.natCast_mul, Int.toNat_natCast]
  refine chk_kind _ _ _ _ _ _ _ _ f _ _ _ _ _ _ _ hf ?_
  unfold isB
  by_cases k1 : k = kMeet
  · subst k1
    rw [if_pos rfl]
    exact proves_meet m (s0 % m) (s1 % m) (x0 % m) (x1 % m) (b0 % m) (b1 % m) f (gOf s) a b l t h1 h3
  rw [if_neg k1]
  by_cases k2 : k = kSum
  · subst k2
    rw [if_pos rfl]
    cases hm : meetOf (cellS m s0 s1 x0 x1 b0 b1) (m * m) with
    | some y => exact proves_smeet m (s0 % m) (s1 % m) (x0 % m) (x1 % m) (b0 % m) (b1 % m) f (gOf s) a b l t h1 h3 y (by rw [eN, ← hm])
    | none => exact proves_sum m (s0 % m) (s1 % m) (x0 % m) (x1 % m) (b0 % m) (b1 % m) f (gOf s) a b l t (by omega) h3 _ rfl hm
  · rw [if_neg k2]
    exact proves_no m (s0 % m) (s1 % m) (x0 % m) (x1 % m) (b0 % m) (b1 % m) f (gOf s) k a b l t h1 h3 k1 k2
theorem rIs_is {m : Nat} {s0 s1 x0 x1 b0 b1 : Int} {s : ByteArray} (hz : stepErr m s0 s1 x0 x1 b0 b1 = 0) (hk : kindErr s = 0) (k : ByteArray) (a b : Int) (l : List Int) (t : Int) (hl : l.length ≤ 300) :
    PSpec Try.prog 69 [stepV m s0 s1 x0 x1 b0 b1, .str s, refV k a b l t] (.bp (isB m s0 s1 x0 x1 b0 b1 (gOf s) k a b l t)) := by
  obtain ⟨h1, h2⟩ := stepErr_zero hz
  unfold isB
  by_cases k1 : k = kMeet
  · subst k1
    rw [if_pos rfl]
    have hp := rIs_meet m s0 s1 x0 x1 b0 b1 s a b l t h1 h2
    unfold meetB
    rw [cell_rows h1.1]
    have e : ((l.length : Int) = 0) ↔ l = [] := by rw [← List.length_eq_zero_iff]; omega
    simp only [e] at hp
    exact hp
  rw [if_neg k1]
  by_cases k2 : k = kSum
  · subst k2
    rw [if_pos rfl]
    cases hm : meetOf (cellS m s0 s1 x0 x1 b0 b1) (m * m) with
    | some y => exact rIs_smeet m s0 s1 x0 x1 b0 b1 s a b l t (by omega) h2 y hm
    | none =>
      by_cases hab : a = 0 ∧ b = 0
      · obtain ⟨rfl, rfl⟩ := hab
        refine pspec_sup (rIs_sum m s0 s1 x0 x1 b0 b1 s l t (by omega) h2 hl _ rfl hm) (Sup.of ?_)
        unfold sumB
        congr 1
        rw [Bool.eq_iff_iff]
        simp only [Bool.and_eq_true, decide_eq_true_eq, true_and]
        constructor
        · rintro ⟨e1, e2, e3⟩; exact ⟨by rw [← e2]; exact e3, e1, e2⟩
        · rintro ⟨e1, e2, e3⟩; exact ⟨e2, e3, by rw [e3]; exact e1⟩
      · refine pspec_sup (rIs_ab m s0 s1 x0 x1 b0 b1 s a b l t hab) (Sup.of ?_)
        unfold sumB
        rw [decide_eq_false (fun h => hab ⟨h.1, h.2.1⟩), Bool.false_and]
  · rw [if_neg k2]
    exact rIs_no m s0 s1 x0 x1 b0 b1 s k a b l t k1 k2
def chkP (m : Nat) (s0 s1 x0 x1 b0 b1 : Int) (s : ByteArray) : PSp := fun xs K => match xs with
  | [.agg [.int .i64 a0, .int .i64 a1, .int .i64 a2, .int .i64 a3, .int .i64 a4, .int .i64 a5, .int .i64 a6], .str s', .agg [.str k, .int .i64 a, .int .i64 b, .isl (.ints .i64 l) .none, .int .i64 t]] =>
    VC ((stepErr m s0 s1 x0 x1 b0 b1 = 0 ∧ kindErr s = 0) ∧ a0 = m ∧ a1 = s0 ∧ a2 = s1 ∧ a3 = x0 ∧ a4 = x1 ∧ a5 = b0 ∧ a6 = b1 ∧ s' = s) ∧ K (.int .i64 (if isB m s0 s1 x0 x1 b0 b1 (gOf s) k a b l t = true then 0 else 19))
  | _ => False
theorem chkP_ok (m : Nat) (s0 s1 x0 x1 b0 b1 : Int) (s : ByteArray) : POK Try.prog 70 (chkP m s0 s1 x0 x1 b0 b1 s) := by
  intro xs K h
  unfold chkP at h
  split at h
  · obtain ⟨⟨⟨h1, h2⟩, rfl, rfl, rfl, rfl, rfl, rfl, rfl, rfl⟩, h⟩ := h
    exact ⟨_, h, chk_is h1 h2 _ _ _ _ _⟩
  · exact h.elim
theorem chk_wrong {n s0 s1 x0 x1 b0 b1 : Int} {s : ByteArray} (h : ¬ (stepErr n s0 s1 x0 x1 b0 b1 = 0 ∧ kindErr s = 0)) (k : ByteArray) (a b : Int) (l : List Int) (t : Int) :
    PSpec Try.prog 70 [stepV n s0 s1 x0 x1 b0 b1, .str s, refV k a b l t] (.int .i64 (askErr n s0 s1 x0 x1 b0 b1 s)) := by
  by_cases hz : stepErr n s0 s1 x0 x1 b0 b1 = 0
  · have hk : kindErr s ≠ 0 := fun e => h ⟨hz, e⟩
    have e : askErr n s0 s1 x0 x1 b0 b1 s = 13 := by
      have := kindErr_or s
      unfold askErr; rw [if_pos hz]; omega
    have hs : noKind s := by
      unfold kindErr at hk
      split at hk
      · exact absurd rfl hk
      · rename_i hh; exact ⟨fun e => hh (.inl e), fun e => hh (.inr (.inl e)), fun e => hh (.inr (.inr (.inl e))), fun e => hh (.inr (.inr (.inr e)))⟩
    rw [e]
    exact chk_err _ _ _ _ _ _ _ _ _ _ _ _ _ 13 (by decide) (known_none _ _ _ _ _ _ _ _ hz hs)
  · have e : askErr n s0 s1 x0 x1 b0 b1 s = stepErr n s0 s1 x0 x1 b0 b1 := by unfold askErr; rw [if_neg hz]
    rw [e]
    exact chk_err _ _ _ _ _ _ _ _ _ _ _ _ _ _ hz (known_err _ _ _ _ _ _ _ _ hz)
theorem refusals_law (n s0 s1 x0 x1 b0 b1 : Int) (s k : ByteArray) (a b : Int) (l : List Int) (t : Int) : PSpec Try.prog 14 [stepV n s0 s1 x0 x1 b0 b1, .str s, refV k a b l t] (.bp true) := by
  have hS := rCheckStep_spec n s0 s1 x0 x1 b0 b1
  have hK := CheckKind_spec s
  have z1 := stepErr_or n s0 s1 x0 x1 b0 b1
  have z2 := kindErr_or s
  by_cases hl : l.length ≤ 300
  · by_cases hask : stepErr n s0 s1 x0 x1 b0 b1 = 0 ∧ kindErr s = 0
    · obtain ⟨hz, hk⟩ := hask
      have hz0 := hz
      have hk0 := hk
      obtain ⟨m, rfl⟩ : ∃ m : Nat, n = m := ⟨n.toNat, by have := (stepErr_zero hz).1; omega⟩
      have g1 := rIs_is hz hk k a b l t hl
      obtain ⟨k', a', b', l', q', yes, r1, r2⟩ := refuse_is hz hk
      rw [hz] at hS
      rw [hk] at hK
      have hC := cpAdd_ok (pureCC_ok (chkP_ok m s0 s1 x0 x1 b0 b1 s)) (cpAdd_ok (pureCC_ok (atC_ok (C := True) fun _ => hS)) (cpAdd_ok (pureCC_ok (atC_ok (C := True) fun _ => hK)) (cpAdd_ok (pureCC_ok (atC_ok (C := True) fun _ => g1)) (cpAdd_ok (pureCC_ok (atC_ok (C := True) fun _ => r1))
        (cpAdd_ok (pureCC_ok awakeT_ok) noC_ok)))))
      refine pspec_of (md := 1) (rf := []) mixed tabOK hC Try.func14 (by rfl) (by rfl) (by rfl) ?_
      repeat' (first | ((conv => whnf); refine And.intro ?_ ?_) | ((conv => whnf); with_reducible exact VC.mk rfl) | ((conv => whnf); exact Ok.mk) | ((conv => whnf); exact True.intro) | ((conv => whnf); refine Nx.mk ?_) | ((conv => whnf); refine Fin.mk ?_) | ((conv => whnf); intro hq; (try simp only [decide_eq_true_eq, decide_eq_false_iff_not, Bool.not_eq_true, Bool.not_eq_false, Bool.not_eq_true', Bool.not_eq_false', ite_true, ite_false] at hq); (try (exfalso; first | exact absurd hq (by decide) | omega))))
      all_goals ((try refine VC.mk ?_); (try simp only [CL.ncell, CL.cnt, Int.toNat_natCast, decide_eq_true_eq, decide_eq_false_iff_not, Bool.not_eq_true, Bool.not_false, Bool.not_true, and_self, and_true, true_and, te3b, te4b, te3s, te4s, Nat.mul_one, Nat.zero_add, List.length_cons, List.length_nil, Bool.false_eq_true, Bool.true_eq_false] at *); (try omega))
      all_goals clear hC hS hK g1 r1
      all_goals first | exact sup_true | exact ⟨⟨hz0, hk0⟩, rfl, rfl, rfl, rfl, rfl, rfl, rfl, rfl⟩ | (exfalso; simp_all; done) | trace_state
    · have g2 := chk_wrong hask k a b l t
      have hC := cpAdd_ok (pureCC_ok (atC_ok (C := True) fun _ => g2)) (cpAdd_ok (pureCC_ok (atC_ok (C := True) fun _ => hS)) (cpAdd_ok (pureCC_ok (atC_ok (C := True) fun _ => hK))
          (cpAdd_ok (pureCC_ok awakeT_ok) noC_ok)))
      have ha2 : (stepErr n s0 s1 x0 x1 b0 b1 = 0 → askErr n s0 s1 x0 x1 b0 b1 s = kindErr s) ∧ (stepErr n s0 s1 x0 x1 b0 b1 ≠ 0 → askErr n s0 s1 x0 x1 b0 b1 s = stepErr n s0 s1 x0 x1 b0 b1) := by unfold askErr; split <;> simp_all
      generalize askErr n s0 s1 x0 x1 b0 b1 s = ae at *
      generalize stepErr n s0 s1 x0 x1 b0 b1 = se at *
      generalize kindErr s = ke at *
      refine pspec_of (md := 1) (rf := []) mixed tabOK hC Try.func14 (by rfl) (by rfl) (by rfl) ?_
      repeat' (first | ((conv => whnf); refine And.intro ?_ ?_) | ((conv => whnf); with_reducible exact VC.mk rfl) | ((conv => whnf); exact Ok.mk) | ((conv => whnf); exact True.intro) | ((conv => whnf); refine Nx.mk ?_) | ((conv => whnf); refine Fin.mk ?_) | ((conv => whnf); intro hq; (try simp only [decide_eq_true_eq, decide_eq_false_iff_not, Bool.not_eq_true, Bool.not_eq_false, Bool.not_eq_true', Bool.not_eq_false', ite_true, ite_false] at hq); (try (exfalso; first | exact absurd hq (by decide) | omega))))
      all_goals ((try refine VC.mk ?_); (try simp only [CL.ncell, CL.cnt, Int.toNat_natCast, decide_eq_true_eq, decide_eq_false_iff_not, Bool.not_eq_true, Bool.not_false, Bool.not_true, and_self, and_true, true_and, te3b, te4b, te3s, te4s, Nat.mul_one, Nat.zero_add, List.length_cons, List.length_nil, Bool.false_eq_true, Bool.true_eq_false] at *); (try omega))
      all_goals clear hC hS hK g2
      all_goals first | exact sup_true | (exfalso; omega) | (exfalso; simp_all; done) | (exfalso; simp_all; omega) | trace_state
  · have hC := cpAdd_ok (pureCC_ok awakeT_ok) noC_ok
    refine pspec_of (md := 1) (rf := []) mixed tabOK hC Try.func14 (by rfl) (by rfl) (by rfl) ?_
    repeat' (first | ((conv => whnf); refine And.intro ?_ ?_) | ((conv => whnf); with_reducible exact VC.mk rfl) | ((conv => whnf); exact Ok.mk) | ((conv => whnf); exact True.intro) | ((conv => whnf); refine Nx.mk ?_) | ((conv => whnf); refine Fin.mk ?_) | ((conv => whnf); intro hq; (try simp only [decide_eq_true_eq, decide_eq_false_iff_not, Bool.not_eq_true, Bool.not_eq_false, Bool.not_eq_true', Bool.not_eq_false', ite_true, ite_false] at hq); (try (exfalso; first | exact absurd hq (by decide) | omega))))
    all_goals ((try refine VC.mk ?_); (try simp only [CL.ncell, CL.cnt, Int.toNat_natCast, decide_eq_true_eq, decide_eq_false_iff_not, Bool.not_eq_true, Bool.not_false, Bool.not_true, and_self, and_true, true_and, te3b, te4b, te3s, te4s, Nat.mul_one, Nat.zero_add, List.length_cons, List.length_nil, Bool.false_eq_true, Bool.true_eq_false] at *); (try omega))
    all_goals first | exact sup_true | (exfalso; omega) | (exfalso; simp_all; done) | trace_state
end Go.Eng.Ytppflbccfdbogaa
