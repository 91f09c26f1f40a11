/-
  Contracts of functions of the program: what each returns. Their conditions stand in them.
-/
import Derived.Test.YtppflbccfdbogaaGreatCc
namespace Go.Eng.YtppflbccfdbogaaGreat
open Go.Proofs
set_option maxRecDepth 100000
set_option maxHeartbeats 0
set_option linter.unusedVariables false
set_option linter.unusedSimpArgs false
theorem colL_succ' (n : Nat) (h : Nat → Int) (m : Nat) : colL n h (m + 1) = colL n h m ++ [(m : Int) * n + h m % n] := by
  simp [colL, List.range_succ, Int.mul_comm]
theorem diag_spec (n k s : Nat) (hn : 1 ≤ n ∧ n ≤ 16) (hk : k ≤ 1000) (hs : s ≤ 1000) : PSpec Tryz.prog 74 [.int .i64 (n : Int), .int .i64 (k : Int), .int .i64 (s : Int)] (.isl (.ints .i64 (colL n (fun i => (k : Int) + i * s) n)) .none) := by
  refine pspec_of (md := 0) (rf := []) mixed tabOK noC_ok Tryz.func74 (by rfl) (by rfl) (by rfl) ?_
  repeat' ((conv => whnf); first | refine And.intro ?_ ?_ | with_reducible exact VC.mk rfl | exact Ok.mk | exact True.intro | refine Nx.mk ?_ | refine Fin.mk ?_ | intro _)
  all_goals ((try refine VC.mk ?_); (try simp only [CL.ncell, CL.cnt, vq] at *); (try omega))
  conv => whnf
  refine loop_of (X := Nat) (fun i => i ≤ n) (fun i => [(8, .int .i64 i), (7, .isl (.ints .i64 (colL n (fun i => (k : Int) + i * s) i)) (.own 0))]) (fun i => [(0, .tok 1 i)]) (fun i => n - i) 0 ⟨anyB_ok, mixed, tabOK, noC_ok, noY_ok⟩ (by rfl) (by omega) ?_ ?_
  · repeat' ((conv => whnf); first | refine And.intro ?_ ?_ | with_reducible exact VC.mk rfl | exact Ok.mk | exact True.intro | refine Nx.mk ?_ | refine Fin.mk ?_ | intro _)
    all_goals ((try refine VC.mk ?_); (try simp only [CL.ncell, CL.cnt, vq] at *); (try omega))
  · intro i hi
    have e1 := colL_succ' n (fun i => (k : Int) + i * s) i
    have e2 := colL_len n (fun i => (k : Int) + i * s) i
    by_cases hlt : i < n
    · have h1 := mul_bd (A := 16) (B := 16) (show 0 ≤ (i : Int) ∧ (i : Int) ≤ 16 by omega) (show 0 ≤ (n : Int) ∧ (n : Int) ≤ 16 by omega)
      have h2 := mul_bd (A := 16) (B := 1000) (show 0 ≤ (i : Int) ∧ (i : Int) ≤ 16 by omega) (show 0 ≤ (s : Int) ∧ (s : Int) ≤ 1000 by omega)
      have h3 : 0 ≤ ((k : Int) + i * s) % n := Int.emod_nonneg _ (by omega)
      have h4 : ((k : Int) + i * s) % n < n := Int.emod_lt_of_pos _ (by omega)
      repeat' ((conv => whnf); first | refine And.intro ?_ ?_ | with_reducible exact VC.mk rfl | exact Ok.mk | exact True.intro | refine Nx.mk ?_ | refine Fin.mk ?_ | intro _)
      all_goals ((try refine VC.mk ?_); (try simp only [CL.ncell, CL.cnt, vq] at *); (try omega))
      all_goals (try (simp only [List.length_append, List.length_cons, List.length_nil]; omega))
      refine ⟨i + 1, [], ⟨by omega, by omega⟩, ?_⟩
      repeat' ((conv => whnf); first | refine And.intro ?_ ?_ | with_reducible exact VC.mk rfl | exact Ok.mk | exact True.intro | refine Nx.mk ?_ | refine Fin.mk ?_ | intro _)
      all_goals ((try refine VC.mk ?_); (try simp only [CL.ncell, CL.cnt, vq] at *); (try omega))
      all_goals (try (rw [e1]))
    · have : n = i := by omega
      subst this
      repeat' ((conv => whnf); first | refine And.intro ?_ ?_ | with_reducible exact VC.mk rfl | exact Ok.mk | exact True.intro | refine Nx.mk ?_ | refine Fin.mk ?_ | intro _)
      all_goals ((try refine VC.mk ?_); (try simp only [CL.ncell, CL.cnt, vq] at *); (try omega))
      all_goals (first | (refine Sup.of ?_; first | rfl | (simp [*, resOf]; done)) | (refine Sup.via ?_; repeat' ((conv => whnf); first | refine And.intro ?_ ?_ | with_reducible exact VC.mk rfl | exact Ok.mk | exact True.intro | refine Nx.mk ?_ | refine Fin.mk ?_ | intro _); all_goals ((try refine VC.mk ?_); (try simp only [CL.ncell, CL.cnt, vq] at *); (try omega)); all_goals (try (simp [CL.sub]; done))))
theorem diag_spec' {n k s : Int} (hn : 1 ≤ n ∧ n ≤ 16) (hk : 0 ≤ k ∧ k ≤ 1000) (hs : 0 ≤ s ∧ s ≤ 1000) : PSpec Tryz.prog 74 [.int .i64 n, .int .i64 k, .int .i64 s] (.isl (.ints .i64 (colL n.toNat (fun i => k + i * s) n.toNat)) .none) := by
  have := diag_spec n.toNat k.toNat s.toNat (by omega) (by omega) (by omega)
  rwa [Int.toNat_of_nonneg (by omega), Int.toNat_of_nonneg (by omega), Int.toNat_of_nonneg (by omega)] at this
def diagP : PSp := fun xs K => match xs with
  | [.int .i64 n, .int .i64 k, .int .i64 s] => VC ((1 ≤ n ∧ n ≤ 16) ∧ (0 ≤ k ∧ k ≤ 1000) ∧ 0 ≤ s ∧ s ≤ 1000) ∧ K (.isl (.ints .i64 (colL n.toNat (fun i => k + i * s) n.toNat)) .none)
  | _ => False
theorem diag_ok : POK Tryz.prog 74 diagP := by
  intro xs K h
  unfold diagP at h
  split at h
  · exact ⟨_, h.2, diag_spec' h.1.get.1 h.1.get.2.1 h.1.get.2.2⟩
  · exact h.elim
/-! the sum of some cells -/
theorem rSum_spec (r c : Int) (cs l : List Int) (hc : ∀ x ∈ l, 0 ≤ x ∧ x < cs.length) (hl : l.length ≤ 1000000) (hb : ∀ i, i ≤ l.length → -1000000000000 ≤ sumAt cs l i ∧ sumAt cs l i ≤ 1000000000000) : PSpec Tryz.prog 72 [gridV r c cs, .isl (.ints .i64 l) .none] (.int .i64 (sumAt cs l l.length)) := by
  refine pspec_of (md := 0) (rf := []) mixed tabOK noC_ok Tryz.func72 (by rfl) (by rfl) (by rfl) ?_
  repeat' ((conv => whnf); first | refine And.intro ?_ ?_ | with_reducible exact VC.mk rfl | exact Ok.mk | exact True.intro | refine Nx.mk ?_ | refine Fin.mk ?_ | intro _)
  all_goals ((try refine VC.mk ?_); (try simp only [CL.ncell, CL.cnt, vq] at *); (try omega))
  conv => whnf
  refine loop_of (X := Nat) (fun i => i ≤ l.length) (fun i => [(6, .int .i64 i), (5, .int .i64 (sumAt cs l i))]) (fun i => []) (fun i => l.length - i) 0 ⟨anyB_ok, mixed, tabOK, noC_ok, noY_ok⟩ (by rfl) (by omega) ?_ ?_
  · repeat' ((conv => whnf); first | refine And.intro ?_ ?_ | with_reducible exact VC.mk rfl | exact Ok.mk | exact True.intro | refine Nx.mk ?_ | refine Fin.mk ?_ | intro _)
    all_goals ((try refine VC.mk ?_); (try simp only [CL.ncell, CL.cnt, vq] at *); (try omega))
    all_goals (try rfl)
  · intro i hi
    have e1 := hb i hi
    by_cases hlt : i < l.length
    · have e2 := sumAt_succ cs l i hlt
      have e3 := hb (i + 1) (by omega)
      have e4 := hc (l.getD i 0) (by rw [List.getD_eq_getElem?_getD, List.getElem?_eq_getElem hlt]; exact List.getElem_mem _)
      repeat' ((conv => whnf); first | refine And.intro ?_ ?_ | with_reducible exact VC.mk rfl | exact Ok.mk | exact True.intro | refine Nx.mk ?_ | refine Fin.mk ?_ | intro _)
      all_goals ((try refine VC.mk ?_); (try simp only [CL.ncell, CL.cnt, vq] at *); (try omega))
      refine ⟨i + 1, [], ⟨by omega, by omega⟩, ?_⟩
      repeat' ((conv => whnf); first | refine And.intro ?_ ?_ | with_reducible exact VC.mk rfl | exact Ok.mk | exact True.intro | refine Nx.mk ?_ | refine Fin.mk ?_ | intro _)
      all_goals ((try refine VC.mk ?_); (try simp only [CL.ncell, CL.cnt, vq] at *); (try omega))
      all_goals (try (rw [e2]))
    · have : l.length = i := by omega
      subst this
      repeat' ((conv => whnf); first | refine And.intro ?_ ?_ | with_reducible exact VC.mk rfl | exact Ok.mk | exact True.intro | refine Nx.mk ?_ | refine Fin.mk ?_ | intro _)
      all_goals ((try refine VC.mk ?_); (try simp only [CL.ncell, CL.cnt, vq] at *); (try omega))
      all_goals (first | (refine Sup.of ?_; first | rfl | (simp [*, resOf]; done)) | (refine Sup.via ?_; repeat' ((conv => whnf); first | refine And.intro ?_ ?_ | with_reducible exact VC.mk rfl | exact Ok.mk | exact True.intro | refine Nx.mk ?_ | refine Fin.mk ?_ | intro _); all_goals ((try refine VC.mk ?_); (try simp only [CL.ncell, CL.cnt, vq] at *); (try omega)); all_goals (try (simp [CL.sub]; done))))
def rSumP : PSp := fun xs K => match xs with
  | [.agg [.int .i64 r, .int .i64 c, .isl (.ints .i64 cs) .none], .isl (.ints .i64 l) .none] => VC ((∀ x ∈ l, 0 ≤ x ∧ x < cs.length) ∧ l.length ≤ 1000000 ∧ ∀ i, i ≤ l.length → -1000000000000 ≤ sumAt cs l i ∧ sumAt cs l i ≤ 1000000000000) ∧ K (.int .i64 (sumAt cs l l.length))
  | _ => False
theorem rSum_ok : POK Tryz.prog 72 rSumP := by
  intro xs K h
  unfold rSumP at h
  split at h
  · exact ⟨_, h.2, rSum_spec _ _ _ _ h.1.get.1 h.1.get.2.1 h.1.get.2.2⟩
  · exact h.elim
/-! all lines -/
def gOf (s : ByteArray) : Int := if s = kSq then 0 else if s = kSemi then 1 else if s = kMag then 2 else 3
def linesTo (n m : Nat) : List (List Int) := (List.range m).map (lineAt n)
theorem linesTo_succ (n m : Nat) : linesTo n (m + 1) = linesTo n m ++ [lineAt n m] := by simp [linesTo, List.range_succ]
theorem linesTo_get (n m i : Nat) (h : i < m) : (linesTo n m).getD i [] = lineAt n i := by
  simp [linesTo, List.getD_eq_getElem?_getD, h]
theorem linesTo_len (n m : Nat) : (linesTo n m).length = m := by simp [linesTo]
theorem colL_congr {n : Nat} {h h' : Nat → Int} (e : ∀ i, i < n → h i % n = h' i % n) : colL n h n = colL n h' n := by
  unfold colL
  exact List.map_congr_left fun i hi => by rw [e i (List.mem_range.1 hi)]
theorem emod_of_sub {a b n k : Int} (h : a - b = n * k) : a % n = b % n := by
  have : a = b + n * k := by omega
  rw [this, Int.add_mul_emod_self_left]
theorem dg1 (n : Nat) : colL n (fun i => 0 + (i : Int) * 1) n = lineAt n (2 * n) := by
  rw [lineAt_d1]; exact colL_congr fun i _ => by congr 1; omega
theorem dg2 (n : Nat) : colL n (fun i => (n : Int) - 1 + (i : Int) * ((n : Int) - 1)) n = lineAt n (2 * n + 1) := by
  rw [lineAt_d2]; exact colL_congr fun i _ => emod_of_sub (k := (i : Int)) (by rw [Int.mul_sub, Int.mul_comm (n : Int) (i : Int)]; omega)
theorem dg3 (n k : Nat) (hk : 1 ≤ k ∧ k < n) : colL n (fun i => (k : Int) + (i : Int) * 1) n = lineAt n (2 * n + 1 + k) := by
  have : lineAt n (2 * n + 1 + k) = colL n (fun j => (j : Int) + (((2 * n + 1 + k : Nat) : Int) - 2 * n - 1)) n := by
    unfold lineAt; rw [if_neg (by omega), if_neg (by omega), if_neg (by omega), if_neg (by omega), if_pos (by omega)]
  rw [this]; exact colL_congr fun i _ => by congr 1; omega
theorem dg4 (n k : Nat) (hn : 1 ≤ n) (hk : k + 1 < n) : colL n (fun i => (k : Int) + (i : Int) * ((n : Int) - 1)) n = lineAt n (3 * n + 1 + k) := by
  have : lineAt n (3 * n + 1 + k) = colL n (fun j => ((3 * n + 1 + k : Nat) : Int) - 3 * n - 1 - j) n := by
    unfold lineAt; rw [if_neg (by omega), if_neg (by omega), if_neg (by omega), if_neg (by omega), if_neg (by omega)]
  rw [this]; exact colL_congr fun i _ => emod_of_sub (k := (i : Int)) (by rw [Int.mul_sub, Int.mul_comm (n : Int) (i : Int)]; push_cast; omega)
theorem linesTo_two (n : Nat) : linesTo n (n + n) ++ [colL n (fun i => 0 + (i : Int) * 1) n, colL n (fun i => (n : Int) - 1 + (i : Int) * ((n : Int) - 1)) n] = linesTo n (2 * n + 2) := by
  rw [dg1, dg2, show 2 * n + 2 = n + n + 1 + 1 by omega, linesTo_succ, linesTo_succ, show n + n + 1 = 2 * n + 1 by omega, show n + n = 2 * n by omega]
  simp
noncomputable def cpLn : CPT := cpAdd 74 (pureCC diagP) noC
theorem cpLn_ok : CPOK Tryz.prog cpLn := cpAdd_ok (pureCC_ok diag_ok) noC_ok
theorem Lines_spec (n : Nat) (hn : 1 ≤ n ∧ n ≤ 16) (s : ByteArray) : PSpec Tryz.prog 43 [.int .i64 (n : Int), .str s] (.isl (.rows .i64 (linesTo n (lineCnt n (gOf s)))) .none) := by
  refine pspec_of (md := 0) (rf := []) mixed tabOK cpLn_ok Tryz.func43 (by rfl) (by rfl) (by rfl) ?_
  repeat' ((conv => whnf); first | refine And.intro ?_ ?_ | with_reducible exact VC.mk rfl | exact Ok.mk | exact True.intro | refine Nx.mk ?_ | refine Fin.mk ?_ | intro _)
  all_goals ((try refine VC.mk ?_); (try simp only [CL.ncell, CL.cnt, vq] at *); (try omega))
  · rename_i hs
    have : lineCnt n (gOf s) = 0 := by unfold gOf; rw [if_pos hs]; rfl
    rw [this]
    all_goals (refine Sup.via ?_; repeat' ((conv => whnf); first | refine And.intro ?_ ?_ | with_reducible exact VC.mk rfl | exact Ok.mk | exact True.intro | refine Nx.mk ?_ | refine Fin.mk ?_ | intro _); all_goals ((try refine VC.mk ?_); (try simp only [CL.ncell, CL.cnt, vq] at *); (try omega)); all_goals (try (simp [CL.sub]; done)))
    rfl
  rename_i hsq
  conv => whnf
  refine loop_of (X := Nat) (fun i => i ≤ n) (fun i => [(6, .int .i64 i), (5, .isl (.rows .i64 (linesTo n i)) (.own 0))]) (fun i => [(0, .tok 1 i)]) (fun i => n - i) 0 ⟨anyB_ok, mixed, tabOK, cpLn_ok, noY_ok⟩ (by rfl) (by omega) ?_ ?_
  · repeat' ((conv => whnf); first | refine And.intro ?_ ?_ | with_reducible exact VC.mk rfl | exact Ok.mk | exact True.intro | refine Nx.mk ?_ | refine Fin.mk ?_ | intro _)
    all_goals ((try refine VC.mk ?_); (try simp only [CL.ncell, CL.cnt, vq] at *); (try omega))
  intro i hi
  by_cases hlt : i < n
  · repeat' ((conv => whnf); first | refine And.intro ?_ ?_ | with_reducible exact VC.mk rfl | exact Ok.mk | exact True.intro | refine Nx.mk ?_ | refine Fin.mk ?_ | intro _)
    all_goals ((try refine VC.mk ?_); (try simp only [CL.ncell, CL.cnt, vq] at *); (try omega))
    conv => whnf
    refine loop_of (X := Nat) (fun j => j ≤ n) (fun j => [(8, .int .i64 j), (7, .isl (.ints .i64 (rowL n i j)) (.own 1))]) (fun j => [(1, .tok 1 j)]) (fun j => n - j) 0 ⟨anyB_ok, mixed, tabOK, cpLn_ok, noY_ok⟩ (by rfl) (by omega) ?_ ?_
    · repeat' ((conv => whnf); first | refine And.intro ?_ ?_ | with_reducible exact VC.mk rfl | exact Ok.mk | exact True.intro | refine Nx.mk ?_ | refine Fin.mk ?_ | intro _)
      all_goals ((try refine VC.mk ?_); (try simp only [CL.ncell, CL.cnt, vq] at *); (try omega))
    intro j hj
    have e1 := rowL_succ n i j
    have e2 := rowL_len n i j
    have h1 := mul_bd (A := 16) (B := 16) (show 0 ≤ (i : Int) ∧ (i : Int) ≤ 16 by omega) (show 0 ≤ (n : Int) ∧ (n : Int) ≤ 16 by omega)
    by_cases hlj : j < n
    · repeat' ((conv => whnf); first | refine And.intro ?_ ?_ | with_reducible exact VC.mk rfl | exact Ok.mk | exact True.intro | refine Nx.mk ?_ | refine Fin.mk ?_ | intro _)
      all_goals ((try refine VC.mk ?_); (try simp only [CL.ncell, CL.cnt, vq] at *); (try omega))
      all_goals (try (simp only [List.length_append, List.length_cons, List.length_nil]; omega))
      refine ⟨j + 1, [], ⟨by omega, by omega⟩, ?_⟩
      repeat' ((conv => whnf); first | refine And.intro ?_ ?_ | with_reducible exact VC.mk rfl | exact Ok.mk | exact True.intro | refine Nx.mk ?_ | refine Fin.mk ?_ | intro _)
      all_goals ((try refine VC.mk ?_); (try simp only [CL.ncell, CL.cnt, vq] at *); (try omega))
      all_goals (try (rw [e1, Int.mul_comm (n : Int)]))
    · have : n = j := by omega
      subst this
      have e3 := linesTo_len n i
      have e4 := linesTo_succ n i
      rw [lineAt_row hlt] at e4
      repeat' ((conv => whnf); first | refine And.intro ?_ ?_ | with_reducible exact VC.mk rfl | exact Ok.mk | exact True.intro | refine Nx.mk ?_ | refine Fin.mk ?_ | intro _)
      all_goals ((try refine VC.mk ?_); (try simp only [CL.ncell, CL.cnt, vq] at *); (try omega))
      all_goals (try (simp only [List.length_append, List.length_cons, List.length_nil]; omega))
      refine ⟨i + 1, [], ⟨by omega, by omega⟩, ?_⟩
      repeat' ((conv => whnf); first | refine And.intro ?_ ?_ | with_reducible exact VC.mk rfl | exact Ok.mk | exact True.intro | refine Nx.mk ?_ | refine Fin.mk ?_ | intro _)
      all_goals ((try refine VC.mk ?_); (try simp only [CL.ncell, CL.cnt, vq] at *); (try omega))
      all_goals (try (rw [e4]))
  have : n = i := by omega
  subst this
  repeat' ((conv => whnf); first | refine And.intro ?_ ?_ | with_reducible exact VC.mk rfl | exact Ok.mk | exact True.intro | refine Nx.mk ?_ | refine Fin.mk ?_ | intro _)
  all_goals ((try refine VC.mk ?_); (try simp only [CL.ncell, CL.cnt, vq] at *); (try omega))
  conv => whnf
  refine loop_of (X := Nat) (fun i => i ≤ n) (fun i => [(9, .int .i64 i), (5, .isl (.rows .i64 (linesTo n (n + i))) (.own 0))]) (fun i => [(0, .tok 1 (n + i))]) (fun i => n - i) 0 ⟨anyB_ok, mixed, tabOK, cpLn_ok, noY_ok⟩ (by rfl) (by omega) ?_ ?_
  · repeat' ((conv => whnf); first | refine And.intro ?_ ?_ | with_reducible exact VC.mk rfl | exact Ok.mk | exact True.intro | refine Nx.mk ?_ | refine Fin.mk ?_ | intro _)
    all_goals ((try refine VC.mk ?_); (try simp only [CL.ncell, CL.cnt, vq] at *); (try omega))
  intro i hi
  by_cases hlt : i < n
  · repeat' ((conv => whnf); first | refine And.intro ?_ ?_ | with_reducible exact VC.mk rfl | exact Ok.mk | exact True.intro | refine Nx.mk ?_ | refine Fin.mk ?_ | intro _)
    all_goals ((try refine VC.mk ?_); (try simp only [CL.ncell, CL.cnt, vq] at *); (try omega))
    conv => whnf
    refine loop_of (X := Nat) (fun j => j ≤ n) (fun j => [(11, .int .i64 j), (10, .isl (.ints .i64 (colL n (fun _ => (i : Int)) j)) (.own 1))]) (fun j => [(1, .tok 1 j)]) (fun j => n - j) 0 ⟨anyB_ok, mixed, tabOK, cpLn_ok, noY_ok⟩ (by rfl) (by omega) ?_ ?_
    · repeat' ((conv => whnf); first | refine And.intro ?_ ?_ | with_reducible exact VC.mk rfl | exact Ok.mk | exact True.intro | refine Nx.mk ?_ | refine Fin.mk ?_ | intro _)
      all_goals ((try refine VC.mk ?_); (try simp only [CL.ncell, CL.cnt, vq] at *); (try omega))
    intro j hj
    have e1 := colL_succ' n (fun _ => (i : Int)) j
    rw [Int.emod_eq_of_lt (by omega) (by omega)] at e1
    have e2 := colL_len n (fun _ => (i : Int)) j
    have h1 := mul_bd (A := 16) (B := 16) (show 0 ≤ (j : Int) ∧ (j : Int) ≤ 16 by omega) (show 0 ≤ (n : Int) ∧ (n : Int) ≤ 16 by omega)
    by_cases hlj : j < n
    · repeat' ((conv => whnf); first | refine And.intro ?_ ?_ | with_reducible exact VC.mk rfl | exact Ok.mk | exact True.intro | refine Nx.mk ?_ | refine Fin.mk ?_ | intro _)
      all_goals ((try refine VC.mk ?_); (try simp only [CL.ncell, CL.cnt, vq] at *); (try omega))
      all_goals (try (simp only [List.length_append, List.length_cons, List.length_nil]; omega))
      refine ⟨j + 1, [], ⟨by omega, by omega⟩, ?_⟩
      repeat' ((conv => whnf); first | refine And.intro ?_ ?_ | with_reducible exact VC.mk rfl | exact Ok.mk | exact True.intro | refine Nx.mk ?_ | refine Fin.mk ?_ | intro _)
      all_goals ((try refine VC.mk ?_); (try simp only [CL.ncell, CL.cnt, vq] at *); (try omega))
      all_goals (try (rw [e1]))
    · have : n = j := by omega
      subst this
      have e3 := linesTo_len n (n + i)
      have e4 := linesTo_succ n (n + i)
      rw [lineAt_col hlt] at e4
      repeat' ((conv => whnf); first | refine And.intro ?_ ?_ | with_reducible exact VC.mk rfl | exact Ok.mk | exact True.intro | refine Nx.mk ?_ | refine Fin.mk ?_ | intro _)
      all_goals ((try refine VC.mk ?_); (try simp only [CL.ncell, CL.cnt, vq] at *); (try omega))
      all_goals (try (simp only [List.length_append, List.length_cons, List.length_nil]; omega))
      refine ⟨i + 1, [], ⟨by omega, by omega⟩, ?_⟩
      repeat' ((conv => whnf); first | refine And.intro ?_ ?_ | with_reducible exact VC.mk rfl | exact Ok.mk | exact True.intro | refine Nx.mk ?_ | refine Fin.mk ?_ | intro _)
      all_goals ((try refine VC.mk ?_); (try simp only [CL.ncell, CL.cnt, vq] at *); (try omega))
      all_goals (try (rw [← Nat.add_assoc, e4]))
  have : n = i := by omega
  subst this
  have e3 := linesTo_len n (n + n)
  repeat' ((conv => whnf); first | refine And.intro ?_ ?_ | with_reducible exact VC.mk rfl | exact Ok.mk | exact True.intro | refine Nx.mk ?_ | refine Fin.mk ?_ | intro _)
  all_goals ((try refine VC.mk ?_); (try simp only [CL.ncell, CL.cnt, vq] at *); (try omega))
  · rename_i hs
    have : lineCnt n (gOf s) = n + n := by
      have e : gOf s = 1 := by unfold gOf; rw [if_neg hsq, if_pos hs]
      rw [e]; unfold lineCnt; rw [if_neg (by omega), if_pos (by omega)]; omega
    rw [this]
    all_goals (first | (refine Sup.of ?_; first | rfl | (simp [*, resOf]; done)) | (refine Sup.via ?_; repeat' ((conv => whnf); first | refine And.intro ?_ ?_ | with_reducible exact VC.mk rfl | exact Ok.mk | exact True.intro | refine Nx.mk ?_ | refine Fin.mk ?_ | intro _); all_goals ((try refine VC.mk ?_); (try simp only [CL.ncell, CL.cnt, vq] at *); (try omega)); all_goals (try (simp [CL.sub]; done))))
  · rename_i hs
    simp only [List.length_append, List.length_cons, List.length_nil]; omega
  · rename_i hs1 hs
    have : lineCnt n (gOf s) = 2 * n + 2 := by
      have e : gOf s = 2 := by unfold gOf; rw [if_neg hsq, if_neg hs1, if_pos hs]
      rw [e]; unfold lineCnt; rw [if_neg (by omega), if_neg (by omega), if_pos (by omega)]
    rw [this, linesTo_two]
    all_goals (first | (refine Sup.of ?_; first | rfl | (simp [*, resOf]; done)) | (refine Sup.via ?_; repeat' ((conv => whnf); first | refine And.intro ?_ ?_ | with_reducible exact VC.mk rfl | exact Ok.mk | exact True.intro | refine Nx.mk ?_ | refine Fin.mk ?_ | intro _); all_goals ((try refine VC.mk ?_); (try simp only [CL.ncell, CL.cnt, vq] at *); (try omega)); all_goals (try (simp [CL.sub]; done))))
  rename_i hs1 hs2
  have hcnt : lineCnt n (gOf s) = 4 * n := by
    have e : gOf s = 3 := by unfold gOf; rw [if_neg hsq, if_neg hs1, if_neg hs2]
    rw [e]; unfold lineCnt; rw [if_neg (by omega), if_neg (by omega), if_neg (by omega)]
  rw [hcnt]
  simp only [linesTo_two]
  have e3 := linesTo_len n (2 * n + 2)
  generalize hL0 : linesTo n (2 * n + 2) = L0 at *
  try simp only [List.length_append, List.length_cons, List.length_nil]
  conv => whnf
  refine loop_of (X := Nat) (fun k => 1 ≤ k ∧ k ≤ n) (fun k => [(12, .int .i64 k), (5, .isl (.rows .i64 (linesTo n (2 * n + 1 + k))) (.own 0))]) (fun k => [(0, .tok 1 (2 * n + 1 + k))]) (fun k => n - k) 1 ⟨anyB_ok, mixed, tabOK, cpLn_ok, noY_ok⟩ (by rfl) (by omega) ?_ ?_
  · repeat' ((conv => whnf); first | refine And.intro ?_ ?_ | with_reducible exact VC.mk rfl | exact Ok.mk | exact True.intro | refine Nx.mk ?_ | refine Fin.mk ?_ | intro _)
    all_goals ((try refine VC.mk ?_); (try simp only [CL.ncell, CL.cnt, vq] at *); (try omega))
    all_goals (try (rw [← hL0]; done))
  intro k hk
  have e3 := linesTo_len n (2 * n + 1 + k)
  have e4 := linesTo_succ n (2 * n + 1 + k)
  by_cases hlt : k < n
  · rw [← dg3 n k (by omega)] at e4
    repeat' ((conv => whnf); first | refine And.intro ?_ ?_ | with_reducible exact VC.mk rfl | exact Ok.mk | exact True.intro | refine Nx.mk ?_ | refine Fin.mk ?_ | intro _)
    all_goals ((try refine VC.mk ?_); (try simp only [CL.ncell, CL.cnt, vq] at *); (try omega))
    all_goals (try (simp only [List.length_append, List.length_cons, List.length_nil]; omega))
    refine ⟨k + 1, [], ⟨by omega, by omega⟩, ?_⟩
    repeat' ((conv => whnf); first | refine And.intro ?_ ?_ | with_reducible exact VC.mk rfl | exact Ok.mk | exact True.intro | refine Nx.mk ?_ | refine Fin.mk ?_ | intro _)
    all_goals ((try refine VC.mk ?_); (try simp only [CL.ncell, CL.cnt, vq] at *); (try omega))
    all_goals (try (rw [← Nat.add_assoc, e4]))
  have : n = k := by omega
  subst this
  repeat' ((conv => whnf); first | refine And.intro ?_ ?_ | with_reducible exact VC.mk rfl | exact Ok.mk | exact True.intro | refine Nx.mk ?_ | refine Fin.mk ?_ | intro _)
  all_goals ((try refine VC.mk ?_); (try simp only [CL.ncell, CL.cnt, vq] at *); (try omega))
  conv => whnf
  refine loop_of (X := Nat) (fun k => k + 1 ≤ n) (fun k => [(13, .int .i64 k), (5, .isl (.rows .i64 (linesTo n (3 * n + 1 + k))) (.own 0))]) (fun k => [(0, .tok 1 (3 * n + 1 + k))]) (fun k => n - k) 0 ⟨anyB_ok, mixed, tabOK, cpLn_ok, noY_ok⟩ (by rfl) (by omega) ?_ ?_
  · have : 2 * n + 1 + n = 3 * n + 1 + 0 := by omega
    rw [this]
    repeat' ((conv => whnf); first | refine And.intro ?_ ?_ | with_reducible exact VC.mk rfl | exact Ok.mk | exact True.intro | refine Nx.mk ?_ | refine Fin.mk ?_ | intro _)
    all_goals ((try refine VC.mk ?_); (try simp only [CL.ncell, CL.cnt, vq] at *); (try omega))
  intro k hk
  have e3 := linesTo_len n (3 * n + 1 + k)
  have e4 := linesTo_succ n (3 * n + 1 + k)
  by_cases hlt : k + 1 < n
  · rw [← dg4 n k hn.1 hlt] at e4
    repeat' ((conv => whnf); first | refine And.intro ?_ ?_ | with_reducible exact VC.mk rfl | exact Ok.mk | exact True.intro | refine Nx.mk ?_ | refine Fin.mk ?_ | intro _)
    all_goals ((try refine VC.mk ?_); (try simp only [CL.ncell, CL.cnt, vq] at *); (try omega))
    all_goals (try (simp only [List.length_append, List.length_cons, List.length_nil]; omega))
    refine ⟨k + 1, [], ⟨by omega, by omega⟩, ?_⟩
    repeat' ((conv => whnf); first | refine And.intro ?_ ?_ | with_reducible exact VC.mk rfl | exact Ok.mk | exact True.intro | refine Nx.mk ?_ | refine Fin.mk ?_ | intro _)
    all_goals ((try refine VC.mk ?_); (try simp only [CL.ncell, CL.cnt, vq] at *); (try omega))
    all_goals (try (rw [← Nat.add_assoc, e4]))
  · have : 3 * n + 1 + k = 4 * n := by omega
    rw [this]
    repeat' ((conv => whnf); first | refine And.intro ?_ ?_ | with_reducible exact VC.mk rfl | exact Ok.mk | exact True.intro | refine Nx.mk ?_ | refine Fin.mk ?_ | intro _)
    all_goals ((try refine VC.mk ?_); (try simp only [CL.ncell, CL.cnt, vq] at *); (try omega))
    all_goals (first | (refine Sup.of ?_; first | rfl | (simp [*, resOf]; done)) | (refine Sup.via ?_; repeat' ((conv => whnf); first | refine And.intro ?_ ?_ | with_reducible exact VC.mk rfl | exact Ok.mk | exact True.intro | refine Nx.mk ?_ | refine Fin.mk ?_ | intro _); all_goals ((try refine VC.mk ?_); (try simp only [CL.ncell, CL.cnt, vq] at *); (try omega)); all_goals (try (simp [CL.sub]; done))))
theorem Lines_spec' {n : Int} {s : ByteArray} (hn : 1 ≤ n ∧ n ≤ 16) : PSpec Tryz.prog 43 [.int .i64 n, .str s] (.isl (.rows .i64 (linesTo n.toNat (lineCnt n.toNat (gOf s)))) .none) := by
  have := Lines_spec n.toNat (by omega) s
  rwa [Int.toNat_of_nonneg (by omega)] at this
def LinesP : PSp := fun xs K => match xs with
  | [.int .i64 n, .str s] => VC (1 ≤ n ∧ n ≤ 16) ∧ K (.isl (.rows .i64 (linesTo n.toNat (lineCnt n.toNat (gOf s)))) .none)
  | _ => False
theorem Lines_ok : POK Tryz.prog 43 LinesP := by
  intro xs K h
  unfold LinesP at h
  split at h
  · exact ⟨_, h.2, Lines_spec' h.1.get⟩
  · exact h.elim
end Go.Eng.YtppflbccfdbogaaGreat
namespace Go.Eng.YtppflbccfdbogaaGreat
open Go.Proofs
set_option maxRecDepth 100000
set_option maxHeartbeats 0
set_option linter.unusedVariables false
set_option linter.unusedSimpArgs false
/-! the first line with another sum -/
theorem badLine_none {n : Nat} {g : Int} {l : List Int} (h : ∀ j, j < lineCnt n g → lineOk n l j = true) : badLine n g l = none := by
  unfold badLine
  rw [List.find?_eq_none]
  intro i hi
  simp [h i (List.mem_range.1 hi)]
theorem badLine_some {n : Nat} {g : Int} {l : List Int} {i : Nat} (hi : i < lineCnt n g) (h : ∀ j, j < i → lineOk n l j = true) (hb : lineOk n l i = false) : badLine n g l = some i := by
  unfold badLine
  rw [List.find?_range_eq_some]
  exact ⟨by simp [hb], by simpa using hi, fun j hj => by simp [h j hj]⟩
def failsV (n : Nat) (g : Int) (l : List Int) : PV := match badLine n g l with
  | some i => .tup [.isl (.ints .i64 (lineAt n i)) .none, .bp true]
  | none => .tup [.isl (.ints .i64 []) .none, .bp false]
theorem lineCnt_le (n : Nat) (g : Int) : lineCnt n g ≤ 4 * n + 2 := by unfold lineCnt; split <;> (try split) <;> (try split) <;> omega
noncomputable def cpFa : CPT := cpAdd 43 (pureCC LinesP) (cpAdd 72 (pureCC rSumP) (cpAdd 73 (pureCC ConstantP) noC))
theorem cpFa_ok : CPOK Tryz.prog cpFa := cpAdd_ok (pureCC_ok Lines_ok) (cpAdd_ok (pureCC_ok rSum_ok) (cpAdd_ok (pureCC_ok Constant_ok) noC_ok))
theorem Fails_spec (n : Nat) (c : Int) (l : List Int) (s : ByteArray) (hn : 1 ≤ n ∧ n ≤ 16) (hl : l.length = n * n) (hv : ∀ x ∈ l, 0 ≤ x ∧ x ≤ 1000) : PSpec Tryz.prog 42 [gridV n c l, .str s] (failsV n (gOf s) l) := by
  have hg : ∀ c : Int, 0 ≤ c → c < (n : Int) * n → 0 ≤ l.getD c.toNat 0 ∧ l.getD c.toNat 0 ≤ 1000 := fun c h1 h2 => by
    rw [List.getD_eq_getElem?_getD]
    cases h : l[c.toNat]? with
    | none => simp
    | some v => simpa using hv v (List.mem_of_getElem? h)
  have hll : (l.length : Int) = (n : Int) * n := by rw [hl]; push_cast; rfl
  refine pspec_of (md := 0) (rf := []) mixed tabOK cpFa_ok Tryz.func42 (by rfl) (by rfl) (by rfl) ?_
  repeat' ((conv => whnf); first | refine And.intro ?_ ?_ | with_reducible exact VC.mk rfl | exact Ok.mk | exact True.intro | refine Nx.mk ?_ | refine Fin.mk ?_ | intro _)
  all_goals ((try refine VC.mk ?_); (try simp only [CL.ncell, CL.cnt, vq] at *); (try omega))
  generalize hcnt : lineCnt n (gOf s) = cnt at *
  conv => whnf
  refine loop_of (X := Nat) (fun i => i ≤ cnt ∧ ∀ j, j < i → lineOk n l j = true) (fun i => [(7, .int .i64 i)]) (fun i => []) (fun i => cnt - i) 0 ⟨anyB_ok, mixed, tabOK, cpFa_ok, noY_ok⟩ (by rfl) ⟨by omega, fun j hj => by omega⟩ ?_ ?_
  · repeat' ((conv => whnf); first | refine And.intro ?_ ?_ | with_reducible exact VC.mk rfl | exact Ok.mk | exact True.intro | refine Nx.mk ?_ | refine Fin.mk ?_ | intro _)
    all_goals ((try refine VC.mk ?_); (try simp only [CL.ncell, CL.cnt, vq] at *); (try omega))
  rintro i ⟨hi, hok⟩
  have e1 := linesTo_len n cnt
  by_cases hlt : i < cnt
  · have e2 := linesTo_get n cnt i hlt
    have hm := fun c hc => lineAt_mem (n := n) (i := i) c hc
    have e3 := lineAt_len n i
    have hb := sumAt_bd l (lineAt n i) (fun c hc => hg c (hm c hc).1 (hm c hc).2)
    have hc4 := lineCnt_le n (gOf s)
    repeat' ((conv => whnf); first | refine And.intro ?_ ?_ | with_reducible exact VC.mk rfl | exact Ok.mk | exact True.intro | refine Nx.mk ?_ | refine Fin.mk ?_ | intro _)
    all_goals ((try refine VC.mk ?_); (try simp only [CL.ncell, CL.cnt, vq] at *); (try omega))
    all_goals (try simp only [e2] at *)
    · refine ⟨fun x hx => by have := hm x hx; omega, by omega, fun j hj => ?_⟩
      have := hb j hj
      rw [e3] at hj
      omega
    · rename_i hbad
      have : failsV n (gOf s) l = .tup [.isl (.ints .i64 (lineAt n i)) .none, .bp true] := by
        unfold failsV
        rw [badLine_some (i := i) (by omega) hok (by unfold lineOk lineSum; rw [e3] at hbad; simpa using hbad)]
      rw [this]
      all_goals (refine Sup.via ?_; repeat' ((conv => whnf); first | refine And.intro ?_ ?_ | with_reducible exact VC.mk rfl | exact Ok.mk | exact True.intro | refine Nx.mk ?_ | refine Fin.mk ?_ | intro _); all_goals ((try refine VC.mk ?_); (try simp only [CL.ncell, CL.cnt, vq] at *); (try omega)); all_goals (try (simp [CL.sub]; done)))
    · rename_i hgood
      refine ⟨i + 1, [], ⟨⟨by omega, fun j hj => ?_⟩, by omega⟩, ?_⟩
      · by_cases e : j = i
        · subst e; unfold lineOk lineSum; rw [e3] at hgood; simpa using hgood
        · exact hok j (by omega)
      · repeat' ((conv => whnf); first | refine And.intro ?_ ?_ | with_reducible exact VC.mk rfl | exact Ok.mk | exact True.intro | refine Nx.mk ?_ | refine Fin.mk ?_ | intro _)
        all_goals ((try refine VC.mk ?_); (try simp only [CL.ncell, CL.cnt, vq] at *); (try omega))
  · have : cnt = i := by omega
    subst this
    have : failsV n (gOf s) l = .tup [.isl (.ints .i64 []) .none, .bp false] := by unfold failsV; rw [badLine_none (by rw [hcnt]; exact hok)]
    rw [this]
    repeat' ((conv => whnf); first | refine And.intro ?_ ?_ | with_reducible exact VC.mk rfl | exact Ok.mk | exact True.intro | refine Nx.mk ?_ | refine Fin.mk ?_ | intro _)
    all_goals ((try refine VC.mk ?_); (try simp only [CL.ncell, CL.cnt, vq] at *); (try omega))
    all_goals (first | (refine Sup.of ?_; first | rfl | (simp [*, resOf]; done)) | (refine Sup.via ?_; repeat' ((conv => whnf); first | refine And.intro ?_ ?_ | with_reducible exact VC.mk rfl | exact Ok.mk | exact True.intro | refine Nx.mk ?_ | refine Fin.mk ?_ | intro _); all_goals ((try refine VC.mk ?_); (try simp only [CL.ncell, CL.cnt, vq] at *); (try omega)); all_goals (try (simp [CL.sub]; done))))
/-! refusals -/
def failsL (n : Nat) (g : Int) (l : List Int) : List Int := match badLine n g l with | some i => lineAt n i | none => []
theorem failsV_eq (n : Nat) (g : Int) (l : List Int) : failsV n g l = .tup [.isl (.ints .i64 (failsL n g l)) .none, .bp (badLine n g l).isSome] := by
  unfold failsV failsL; cases badLine n g l <;> rfl
end Go.Eng.YtppflbccfdbogaaGreat
namespace Go.Eng.YtppflbccfdbogaaGreat
open Go.Proofs
set_option maxRecDepth 100000
set_option maxHeartbeats 0
set_option linter.unusedVariables false
set_option linter.unusedSimpArgs false
def sumF (f : Nat → Int) : Nat → Int
  | 0 => 0
  | n + 1 => sumF f n + f n
theorem sumF_congr {f g : Nat → Int} : ∀ {n : Nat}, (∀ i, i < n → f i = g i) → sumF f n = sumF g n := by
  intro n
  induction n with
  | zero => intro _; rfl
  | succ n ih => intro h; simp only [sumF]; rw [ih fun i hi => h i (by omega), h n (by omega)]
theorem sumF_add (f g : Nat → Int) : ∀ n : Nat, sumF (fun i => f i + g i) n = sumF f n + sumF g n := by
  intro n
  induction n with
  | zero => rfl
  | succ n ih => simp only [sumF, ih]; omega
theorem sumF_mul (c : Int) (f : Nat → Int) : ∀ n : Nat, sumF (fun i => c * f i) n = c * sumF f n := by
  intro n
  induction n with
  | zero => simp [sumF]
  | succ n ih => simp only [sumF, ih, Int.mul_add]
theorem sumF_const (c : Int) : ∀ n : Nat, sumF (fun _ => c) n = n * c := by
  intro n
  induction n with
  | zero => simp [sumF]
  | succ n ih => simp only [sumF, ih]; push_cast; rw [Int.add_mul]; omega
/-! the sum of some cells -/
theorem sumAt_map (L : List Int) (c : Nat → Int) (m : Nat) : ∀ t, t ≤ m → sumAt L ((List.range m).map c) t = sumF (fun i => L.getD (c i).toNat 0) t := by
  intro t
  induction t with
  | zero => intro _; simp [sumAt, sumF]
  | succ t ih =>
    intro h
    rw [sumAt_succ _ _ _ (by simp; omega), ih (by omega), sumF]
    congr 2
    have : ((List.range m).map c).getD t 0 = c t := by
      rw [List.getD_eq_getElem?_getD, List.getElem?_map, List.getElem?_range (by omega)]; rfl
    rw [this]
theorem sumAt_colL (L : List Int) (n : Nat) (h : Nat → Int) : sumAt L (colL n h n) n = sumF (fun i => L.getD (n * i + (h i % n).toNat) 0) n := by
  unfold colL
  rw [sumAt_map _ _ _ _ (Nat.le_refl _)]
  refine sumF_congr fun i hi => ?_
  have h1 : 0 ≤ h i % n := Int.emod_nonneg _ (by omega)
  congr 1
  have : (n : Int) * i + h i % n = ((n * i + (h i % n).toNat : Nat) : Int) := by push_cast; rw [Int.toNat_of_nonneg h1]
  rw [this, Int.toNat_natCast]
theorem ls_row (n : Nat) (L : List Int) (i : Nat) (hi : i < n) : lineSum n L i = sumF (fun j => L.getD (n * i + j) 0) n := by
  unfold lineSum
  rw [lineAt_row hi]
  unfold rowL
  rw [sumAt_map _ _ _ _ (Nat.le_refl _)]
  refine sumF_congr fun j hj => ?_
  rfl
theorem ls_col (n : Nat) (L : List Int) (j : Nat) (hj : j < n) : lineSum n L (n + j) = sumF (fun i => L.getD (n * i + j) 0) n := by
  unfold lineSum
  rw [lineAt_col hj, sumAt_colL]
  refine sumF_congr fun i hi => ?_
  rw [Int.emod_eq_of_lt (by omega) (by omega), Int.toNat_natCast]
def upI (n k : Nat) : Nat := if k = 0 then 2 * n else 2 * n + 1 + k
def dnI (n k : Nat) : Nat := if k + 1 = n then 2 * n + 1 else 3 * n + 1 + k
theorem toNat_emod_cast (n : Nat) (hn : 1 ≤ n) (x : Int) (y : Nat) (k : Int) (h : x - y = n * k) : (x % n).toNat = y % n := by
  rw [emod_of_sub h, ← Int.natCast_emod, Int.toNat_natCast]
theorem ls_up (n : Nat) (L : List Int) (k : Nat) (hk : k < n) : lineSum n L (upI n k) = sumF (fun i => L.getD (n * i + (i + k) % n) 0) n := by
  unfold lineSum upI
  by_cases h : k = 0
  · subst h
    rw [if_pos rfl, lineAt_d1, sumAt_colL]
    refine sumF_congr fun i hi => ?_
    rw [toNat_emod_cast n (by omega) _ (i + 0) 0 (by simp)]
  · obtain ⟨q, rfl⟩ : ∃ q, k = q + 1 := ⟨k - 1, by omega⟩
    rw [if_neg h, show 2 * n + 1 + (q + 1) = 2 * n + 2 + q by omega, lineAt_b1 (by omega), sumAt_colL]
    refine sumF_congr fun i hi => ?_
    rw [toNat_emod_cast n (by omega) _ (i + (q + 1)) 0 (by simp)]
theorem ls_dn (n : Nat) (L : List Int) (k : Nat) (hk : k < n) : lineSum n L (dnI n k) = sumF (fun i => L.getD (n * i + (k + n - i) % n) 0) n := by
  unfold lineSum dnI
  by_cases h : k + 1 = n
  · rw [if_pos h, lineAt_d2, sumAt_colL]
    refine sumF_congr fun i hi => ?_
    rw [toNat_emod_cast n (by omega) _ (k + n - i) (-1) (by omega)]
  · rw [if_neg h, lineAt_b2 (by omega), sumAt_colL]
    refine sumF_congr fun i hi => ?_
    rw [toNat_emod_cast n (by omega) _ (k + n - i) (-1) (by omega)]
/-- the lines of the first groups have the sum -/
structure GoodK (n : Nat) (g : Int) (f : Nat → Nat → Int) (c : Int) : Prop where
  row : 1 ≤ g → ∀ i, i < n → sumF (fun j => f i j) n = c
  col : 1 ≤ g → ∀ j, j < n → sumF (fun i => f i j) n = c
  d1 : 2 ≤ g → sumF (fun i => f i i) n = c
  d2 : 2 ≤ g → sumF (fun i => f i (n - 1 - i)) n = c
  up : 3 ≤ g → ∀ k, k < n → sumF (fun i => f i ((i + k) % n)) n = c
  dn : 3 ≤ g → ∀ k, k < n → sumF (fun i => f i ((k + n - i) % n)) n = c
theorem dn_last (n : Nat) (f : Nat → Nat → Int) : sumF (fun i => f i ((n - 1 + n - i) % n)) n = sumF (fun i => f i (n - 1 - i)) n := by
  refine sumF_congr fun i hi => ?_
  congr 1
  rw [show n - 1 + n - i = (n - 1 - i) + n by omega, Nat.add_mod_right, Nat.mod_eq_of_lt (by omega)]
theorem up_first (n : Nat) (f : Nat → Nat → Int) : sumF (fun i => f i ((i + 0) % n)) n = sumF (fun i => f i i) n := by
  refine sumF_congr fun i hi => ?_
  rw [Nat.add_zero, Nat.mod_eq_of_lt hi]
def sqAt (n : Nat) (L : List Int) (i j : Nat) : Int := L.getD (n * i + j) 0
theorem badLine_iff {n : Nat} (hn : 1 ≤ n) (g : Int) (L : List Int) : badLine n g L = none ↔ ∀ i, i < lineCnt n g → lineSum n L i = constOf n := by
  unfold badLine
  rw [List.find?_eq_none]
  simp only [List.mem_range, Bool.not_eq_true', Bool.not_eq_false, lineOk, decide_eq_true_eq]
theorem line_cases {n i : Nat} (hi : i < 4 * n) : (i < n) ∨ (∃ j, j < n ∧ i = n + j) ∨ (∃ k, k < n ∧ i = upI n k) ∨ (∃ k, k < n ∧ i = dnI n k) := by
  by_cases h1 : i < n
  · exact .inl h1
  by_cases h2 : i < 2 * n
  · exact .inr (.inl ⟨i - n, by omega, by omega⟩)
  by_cases h3 : i = 2 * n
  · exact .inr (.inr (.inl ⟨0, by omega, by unfold upI; rw [if_pos rfl]; exact h3⟩))
  by_cases h4 : i = 2 * n + 1
  · exact .inr (.inr (.inr ⟨n - 1, by omega, by unfold dnI; rw [if_pos (by omega)]; exact h4⟩))
  by_cases h5 : i < 3 * n + 1
  · exact .inr (.inr (.inl ⟨i - (2 * n + 1), by omega, by unfold upI; rw [if_neg (by omega)]; omega⟩))
  · exact .inr (.inr (.inr ⟨i - (3 * n + 1), by omega, by unfold dnI; rw [if_neg (by omega)]; omega⟩))
theorem good_iff {n : Nat} (hn : 2 ≤ n ∨ n = 1) (g : Int) (L : List Int) : badLine n g L = none ↔ GoodK n g (sqAt n L) (constOf n) := by
  rw [badLine_iff (by omega)]
  have c1 : g < 1 → lineCnt n g = 0 := fun h => by unfold lineCnt; rw [if_pos h]
  have c2 : 1 ≤ g → 2 * n ≤ lineCnt n g := fun h => by unfold lineCnt; rw [if_neg (by omega)]; (repeat' split) <;> omega
  have c3 : 2 ≤ g → 2 * n + 2 ≤ lineCnt n g := fun h => by unfold lineCnt; rw [if_neg (by omega), if_neg (by omega)]; (repeat' split) <;> omega
  have c4 : 3 ≤ g → lineCnt n g = 4 * n := fun h => by unfold lineCnt; rw [if_neg (by omega), if_neg (by omega), if_neg (by omega)]
  have c5 : g < 2 → lineCnt n g ≤ 2 * n := fun h => by unfold lineCnt; (repeat' split) <;> omega
  have c6 : g < 3 → lineCnt n g ≤ 2 * n + 2 := fun h => by unfold lineCnt; (repeat' split) <;> omega
  constructor
  · intro h
    have hup : 3 ≤ g → ∀ k, k < n → sumF (fun i => sqAt n L i ((i + k) % n)) n = constOf n := fun hg k hk => by
      have := h (upI n k) (by rw [c4 hg]; unfold upI; split <;> omega)
      rwa [ls_up n L k hk] at this
    have hdn : 3 ≤ g → ∀ k, k < n → sumF (fun i => sqAt n L i ((k + n - i) % n)) n = constOf n := fun hg k hk => by
      have := h (dnI n k) (by rw [c4 hg]; unfold dnI; split <;> omega)
      rwa [ls_dn n L k hk] at this
    refine ⟨fun hg i hi => ?_, fun hg j hj => ?_, fun hg => ?_, fun hg => ?_, hup, hdn⟩
    · have := h i (by have := c2 hg; omega)
      rwa [ls_row n L i hi] at this
    · have := h (n + j) (by have := c2 hg; omega)
      rwa [ls_col n L j hj] at this
    · have := h (upI n 0) (by have := c3 hg; unfold upI; rw [if_pos rfl]; omega)
      rw [ls_up n L 0 (by omega)] at this
      rw [← up_first n (sqAt n L)]; exact this
    · have := h (dnI n (n - 1)) (by have := c3 hg; unfold dnI; rw [if_pos (by omega)]; omega)
      rw [ls_dn n L (n - 1) (by omega)] at this
      rw [← dn_last n (sqAt n L)]; exact this
  · intro h i hi
    have hg : 1 ≤ g := Classical.byContradiction fun hh => by rw [c1 (by omega)] at hi; omega
    have h4 : i < 4 * n := by
      by_cases h3 : 3 ≤ g
      · rw [c4 h3] at hi; exact hi
      · have := c6 (by omega)
        rcases hn with h2 | h2
        · omega
        · subst h2
          by_cases h22 : 2 ≤ g
          · have := c3 h22; omega
          · have := c5 (by omega); omega
    rcases line_cases h4 with h1 | ⟨j, h1, rfl⟩ | ⟨k, h1, rfl⟩ | ⟨k, h1, rfl⟩
    · rw [ls_row n L i h1]; exact h.row hg i h1
    · rw [ls_col n L j h1]; exact h.col hg j h1
    · rw [ls_up n L k h1]
      by_cases hk : k = 0
      · subst hk
        have h2 : 2 ≤ g := Classical.byContradiction fun hh => by have := c5 (by omega); unfold upI at hi; rw [if_pos rfl] at hi; omega
        have := h.d1 h2
        rw [← up_first n (sqAt n L)] at this; exact this
      · have h3 : 3 ≤ g := Classical.byContradiction fun hh => by have := c6 (by omega); unfold upI at hi; rw [if_neg hk] at hi; omega
        exact h.up h3 k h1
    · rw [ls_dn n L k h1]
      by_cases hk : k + 1 = n
      · obtain rfl : k = n - 1 := by omega
        have h2 : 2 ≤ g := Classical.byContradiction fun hh => by have := c5 (by omega); unfold dnI at hi; rw [if_pos (by omega)] at hi; omega
        have := h.d2 h2
        rw [← dn_last n (sqAt n L)] at this; exact this
      · have h3 : 3 ≤ g := Classical.byContradiction fun hh => by have := c6 (by omega); unfold dnI at hi; rw [if_neg hk] at hi; omega
        exact h.dn h3 k h1
/-! lists with each number once -/
theorem seen_iff (m : Nat) (l : List Int) (v : Nat) (hv : v < m) : ∀ i, i ≤ l.length → ((seenAt m l i).getD v false = true ↔ ∃ j, j < i ∧ (l.getD j 0).toNat = v) := by
  intro i
  induction i with
  | zero => intro _; simp only [seenAt, List.take_zero, List.foldl_nil]; rw [List.getD_eq_getElem?_getD, List.getElem?_replicate, if_pos hv]; simp
  | succ i ih =>
    intro hi
    rw [seenAt_succ m l i hi, List.getD_eq_getElem?_getD, List.getElem?_set]
    have hl := seenAt_len m l i
    by_cases e : (l.getD i 0).toNat = v
    · rw [if_pos e, if_pos (by omega)]
      simp only [Option.getD_some, true_iff]
      exact ⟨i, by omega, e⟩
    · rw [if_neg e, ← List.getD_eq_getElem?_getD, ih (by omega)]
      constructor
      · rintro ⟨j, h1, h2⟩; exact ⟨j, by omega, h2⟩
      · rintro ⟨j, h1, h2⟩
        by_cases ej : j = i
        · subst ej; exact absurd h2 e
        · exact ⟨j, by omega, h2⟩
theorem distinct_iff (lo : Int) (hlo : 0 ≤ lo) (m : Nat) (l : List Int) : distinctIn lo m l = true ↔ (∀ i, i < l.length → lo ≤ l.getD i 0 ∧ l.getD i 0 < m) ∧ ∀ i j, i < j → j < l.length → l.getD i 0 ≠ l.getD j 0 := by
  unfold distinctIn
  rw [List.all_eq_true]
  simp only [List.mem_range, okAt, Bool.and_eq_true, decide_eq_true_eq, Bool.not_eq_true']
  constructor
  · intro h
    refine ⟨fun i hi => (h i hi).1, fun i j hij hj e => ?_⟩
    have h2 := (h j hj).2
    have h3 := (h j hj).1
    have := (seen_iff m l (l.getD j 0).toNat (by omega) j (by omega)).2 ⟨i, hij, by rw [e]⟩
    rw [this] at h2; cases h2
  · rintro ⟨h1, h2⟩ i hi
    refine ⟨h1 i hi, ?_⟩
    have h3 := h1 i hi
    cases hs : (seenAt m l i).getD (l.getD i 0).toNat false with
    | false => rfl
    | true =>
      obtain ⟨j, hj, he⟩ := (seen_iff m l (l.getD i 0).toNat (by omega) i (by omega)).1 hs
      have h4 := h1 j (by omega)
      exact absurd (show l.getD j 0 = l.getD i 0 by omega) (h2 j i hj hi)
theorem isNorm_iff (l : List Int) : isNorm l = true ↔ (∀ i, i < l.length → 1 ≤ l.getD i 0 ∧ l.getD i 0 ≤ l.length) ∧ ∀ i j, i < j → j < l.length → l.getD i 0 ≠ l.getD j 0 := by
  unfold isNorm
  rw [distinct_iff 1 (by omega)]
  refine and_congr_left fun _ => ?_
  constructor
  · intro h i hi; have := h i hi; omega
  · intro h i hi; have := h i hi; omega
theorem norm_ne {l : List Int} (h : isNorm l = true) {i j : Nat} (hi : i < l.length) (hj : j < l.length) (hij : i ≠ j) : l.getD i 0 ≠ l.getD j 0 := by
  have h2 := ((isNorm_iff l).1 h).2
  rcases Nat.lt_or_gt_of_ne hij with h1 | h1
  · exact h2 i j h1 hj
  · exact fun e => h2 j i h1 hi e.symm
/-- squares made by a function -/
theorem madeL_get {n : Nat} {h : Nat → Nat → Int} {i j : Nat} (hi : i < n) (hj : j < n) : (madeL n h).getD (n * i + j) 0 = h i j := by
  have hlt : n * i + j < n * n := by
    have := Nat.mul_le_mul_left n (show i + 1 ≤ n by omega)
    rw [Nat.mul_add] at this; omega
  unfold madeL
  rw [List.getD_eq_getElem?_getD, List.getElem?_map, List.getElem?_range hlt]
  simp only [Option.map_some, Option.getD_some]
  rw [Nat.mul_add_div (by omega), Nat.div_eq_of_lt hj, Nat.mul_add_mod, Nat.mod_eq_of_lt hj, Nat.add_zero]
theorem GoodK.congr {n : Nat} {g : Int} {f f' : Nat → Nat → Int} {c : Int} (h : GoodK n g f c) (e : ∀ i j, i < n → j < n → f i j = f' i j) : GoodK n g f' c := by
  have key : ∀ p q : Nat → Nat, (∀ i, i < n → p i < n) → (∀ i, i < n → q i < n) → sumF (fun i => f (p i) (q i)) n = c → sumF (fun i => f' (p i) (q i)) n = c := fun p q hp hq h => by
    rw [← h]; exact sumF_congr fun i hi => (e _ _ (hp i hi) (hq i hi)).symm
  refine ⟨fun hg i hi => ?_, fun hg j hj => ?_, fun hg => ?_, fun hg => ?_, fun hg k hk => ?_, fun hg k hk => ?_⟩
  · exact key (fun _ => i) (fun j => j) (fun _ _ => hi) (fun j hj => hj) (h.row hg i hi)
  · exact key (fun i => i) (fun _ => j) (fun j hj => hj) (fun _ _ => hj) (h.col hg j hj)
  · exact key (fun i => i) (fun i => i) (fun j hj => hj) (fun j hj => hj) (h.d1 hg)
  · exact key (fun i => i) (fun i => n - 1 - i) (fun j hj => hj) (fun j hj => by (try simp only); omega) (h.d2 hg)
  · exact key (fun i => i) (fun i => (i + k) % n) (fun j hj => hj) (fun j hj => Nat.mod_lt _ (by omega)) (h.up hg k hk)
  · exact key (fun i => i) (fun i => (k + n - i) % n) (fun j hj => hj) (fun j hj => Nat.mod_lt _ (by omega)) (h.dn hg k hk)
end Go.Eng.YtppflbccfdbogaaGreat
namespace Go.Eng.YtppflbccfdbogaaGreat
open Go.Proofs
set_option maxRecDepth 100000
set_option maxHeartbeats 0
set_option linter.unusedVariables false
set_option linter.unusedSimpArgs false
abbrev fmL (x0 x1 x2 x3 x4 x5 x6 x7 x8 x9 x10 x11 x12 x13 x14 x15 : Int) : List PV := [.int .i64 x0, .int .i64 x1, .int .i64 x2, .int .i64 x3, .int .i64 x4, .int .i64 x5, .int .i64 x6, .int .i64 x7, .int .i64 x8, .int .i64 x9, .int .i64 x10, .int .i64 x11, .int .i64 x12, .int .i64 x13, .int .i64 x14, .int .i64 x15]
/-- the error of forms: 3 where a number is not 0, 1 or 2 -/
def formErr (l : List Int) : Int := if l.any notTern then 3 else 0
theorem notTern_false {x : Int} (h : notTern x = false) : 0 ≤ x ∧ x ≤ 2 := by simp [notTern] at h; omega
theorem any4 {a b c d : Int} (h : [a, b, c, d].any notTern = true) (l r : List Int) : (l ++ [a, b, c, d] ++ r).any notTern = true := by
  simp only [List.any_append, h, Bool.or_true, Bool.true_or]
theorem forms_spec (x0 x1 x2 x3 x4 x5 x6 x7 x8 x9 x10 x11 x12 x13 x14 x15 : Int) : PSpec Tryz.prog 17 [.agg (fmL x0 x1 x2 x3 x4 x5 x6 x7 x8 x9 x10 x11 x12 x13 x14 x15)] (.int .i64 (formErr [x0, x1, x2, x3, x4, x5, x6, x7, x8, x9, x10, x11, x12, x13, x14, x15])) := by
  refine pspec_of (md := 0) (rf := []) mixed tabOK cpT1_ok Tryz.func17 (by rfl) (by rfl) (by rfl) ?_
  repeat' ((conv => whnf); first | refine And.intro ?_ ?_ | with_reducible exact VC.mk rfl | exact Ok.mk | exact True.intro | refine Nx.mk ?_ | refine Fin.mk ?_ | intro _)
  conv => whnf
  refine loop_rounds 5 (rounds_succ ⟨anyB_ok, mixed, tabOK, cpT1_ok, noY_ok⟩ (by rfl) ?_)
  repeat' ((conv => whnf); first | refine And.intro ?_ ?_ | with_reducible exact VC.mk rfl | exact Ok.mk | exact True.intro | refine Nx.mk ?_ | refine Fin.mk ?_ | intro _)
  all_goals ((try refine VC.mk ?_); (try simp only [CL.ncell, CL.cnt, vq] at *); (try omega))
  · simp [show te22.size = 4 from rfl]
  · exact ⟨by simp, rfl⟩
  refine ⟨notTern, fun x _ => c156_spec x, ?_⟩
  rw [show List.take _ (List.drop _ _) = [x0, x1, x2, x3] from rfl]
  generalize hb0 : [x0, x1, x2, x3].any notTern = b0
  repeat' ((conv => whnf); first | refine And.intro ?_ ?_ | with_reducible exact VC.mk rfl | exact Ok.mk | exact True.intro | refine Nx.mk ?_ | refine Fin.mk ?_ | intro _)
  · subst_vars
    refine Sup.of ?_
    exact congrArg (PV.int .i64) (Eq.symm (if_pos (any4 ‹List.any [x0, x1, x2, x3] notTern = true› [] [x4, x5, x6, x7, x8, x9, x10, x11, x12, x13, x14, x15])))
  all_goals ((try refine VC.mk ?_); (try simp only [CL.ncell, CL.cnt, vq] at *); (try omega))
  conv => whnf
  refine rounds_succ ⟨anyB_ok, mixed, tabOK, cpT1_ok, noY_ok⟩ (by rfl) ?_
  repeat' ((conv => whnf); first | refine And.intro ?_ ?_ | with_reducible exact VC.mk rfl | exact Ok.mk | exact True.intro | refine Nx.mk ?_ | refine Fin.mk ?_ | intro _)
  all_goals ((try refine VC.mk ?_); (try simp only [CL.ncell, CL.cnt, vq] at *); (try omega))
  · simp [show te22.size = 4 from rfl]
  · exact ⟨by simp, rfl⟩
  refine ⟨notTern, fun x _ => c156_spec x, ?_⟩
  rw [show List.take _ (List.drop _ _) = [x4, x5, x6, x7] from rfl]
  generalize hb1 : [x4, x5, x6, x7].any notTern = b1
  repeat' ((conv => whnf); first | refine And.intro ?_ ?_ | with_reducible exact VC.mk rfl | exact Ok.mk | exact True.intro | refine Nx.mk ?_ | refine Fin.mk ?_ | intro _)
  · subst_vars
    refine Sup.of ?_
    exact congrArg (PV.int .i64) (Eq.symm (if_pos (any4 ‹List.any [x4, x5, x6, x7] notTern = true› [x0, x1, x2, x3] [x8, x9, x10, x11, x12, x13, x14, x15])))
  all_goals ((try refine VC.mk ?_); (try simp only [CL.ncell, CL.cnt, vq] at *); (try omega))
  conv => whnf
  refine rounds_succ ⟨anyB_ok, mixed, tabOK, cpT1_ok, noY_ok⟩ (by rfl) ?_
  repeat' ((conv => whnf); first | refine And.intro ?_ ?_ | with_reducible exact VC.mk rfl | exact Ok.mk | exact True.intro | refine Nx.mk ?_ | refine Fin.mk ?_ | intro _)
  all_goals ((try refine VC.mk ?_); (try simp only [CL.ncell, CL.cnt, vq] at *); (try omega))
  · simp [show te22.size = 4 from rfl]
  · exact ⟨by simp, rfl⟩
  refine ⟨notTern, fun x _ => c156_spec x, ?_⟩
  rw [show List.take _ (List.drop _ _) = [x8, x9, x10, x11] from rfl]
  generalize hb2 : [x8, x9, x10, x11].any notTern = b2
  repeat' ((conv => whnf); first | refine And.intro ?_ ?_ | with_reducible exact VC.mk rfl | exact Ok.mk | exact True.intro | refine Nx.mk ?_ | refine Fin.mk ?_ | intro _)
  · subst_vars
    refine Sup.of ?_
    exact congrArg (PV.int .i64) (Eq.symm (if_pos (any4 ‹List.any [x8, x9, x10, x11] notTern = true› [x0, x1, x2, x3, x4, x5, x6, x7] [x12, x13, x14, x15])))
  all_goals ((try refine VC.mk ?_); (try simp only [CL.ncell, CL.cnt, vq] at *); (try omega))
  conv => whnf
  refine rounds_succ ⟨anyB_ok, mixed, tabOK, cpT1_ok, noY_ok⟩ (by rfl) ?_
  repeat' ((conv => whnf); first | refine And.intro ?_ ?_ | with_reducible exact VC.mk rfl | exact Ok.mk | exact True.intro | refine Nx.mk ?_ | refine Fin.mk ?_ | intro _)
  all_goals ((try refine VC.mk ?_); (try simp only [CL.ncell, CL.cnt, vq] at *); (try omega))
  · simp [show te22.size = 4 from rfl]
  · exact ⟨by simp, rfl⟩
  refine ⟨notTern, fun x _ => c156_spec x, ?_⟩
  rw [show List.take _ (List.drop _ _) = [x12, x13, x14, x15] from rfl]
  generalize hb3 : [x12, x13, x14, x15].any notTern = b3
  repeat' ((conv => whnf); first | refine And.intro ?_ ?_ | with_reducible exact VC.mk rfl | exact Ok.mk | exact True.intro | refine Nx.mk ?_ | refine Fin.mk ?_ | intro _)
  · subst_vars
    refine Sup.of ?_
    exact congrArg (PV.int .i64) (Eq.symm (if_pos (any4 ‹List.any [x12, x13, x14, x15] notTern = true› [x0, x1, x2, x3, x4, x5, x6, x7, x8, x9, x10, x11] [])))
  all_goals ((try refine VC.mk ?_); (try simp only [CL.ncell, CL.cnt, vq] at *); (try omega))
  conv => whnf
  refine rounds_succ ⟨anyB_ok, mixed, tabOK, cpT1_ok, noY_ok⟩ (by rfl) ?_
  repeat' ((conv => whnf); first | refine And.intro ?_ ?_ | with_reducible exact VC.mk rfl | exact Ok.mk | exact True.intro | refine Nx.mk ?_ | refine Fin.mk ?_ | intro _)
  all_goals ((try refine VC.mk ?_); (try simp only [CL.ncell, CL.cnt, vq] at *); (try omega))
  subst_vars
  refine Sup.of ?_
  rw [formErr, if_neg (by simp_all)]; rfl
theorem bad_of {x : Int} (l r : List Int) (h : x < 0 ∨ 2 < x) : formErr (l ++ [x] ++ r) = 3 := by
  rw [formErr, if_pos]
  simp only [List.any_append, List.any_cons, notTern, List.any_nil]
  simp [h]
theorem good_of {l : List Int} (h : formErr l = 0) : ∀ x ∈ l, 0 ≤ x ∧ x ≤ 2 := by
  intro x hx
  apply notTern_false
  unfold formErr at h
  split at h
  · omega
  · rename_i h1
    rw [Bool.not_eq_true, List.any_eq_false] at h1
    simpa using h1 x hx
theorem formErr_zero {l : List Int} (h : ∀ x ∈ l, 0 ≤ x ∧ x ≤ 2) : formErr l = 0 := by
  rw [formErr, if_neg]
  rw [Bool.not_eq_true, List.any_eq_false]
  intro x hx
  have := h x hx
  simp [notTern]; omega
theorem CheckForms_spec (x0 x1 x2 x3 x4 x5 x6 x7 x8 x9 x10 x11 x12 x13 x14 x15 : Int) : PSpec Tryz.prog 7 [.agg (fmL x0 x1 x2 x3 x4 x5 x6 x7 x8 x9 x10 x11 x12 x13 x14 x15)] (.int .i64 (formErr [x0, x1, x2, x3, x4, x5, x6, x7, x8, x9, x10, x11, x12, x13, x14, x15])) := by
  refine pspec_of (md := 0) (rf := []) mixed tabOK noC_ok Tryz.func7 (by rfl) (by rfl) (by rfl) ?_
  repeat' ((conv => whnf); first | refine And.intro ?_ ?_ | with_reducible exact VC.mk rfl | exact Ok.mk | exact True.intro | refine Nx.mk ?_ | refine Fin.mk ?_ | intro _)
  conv => whnf
  refine loop_rounds 5 (rounds_succ ⟨anyB_ok, mixed, tabOK, noC_ok, noY_ok⟩ (by rfl) ?_)
  repeat' ((conv => whnf); first | refine And.intro ?_ ?_ | with_reducible exact VC.mk rfl | exact Ok.mk | exact True.intro | refine Nx.mk ?_ | refine Fin.mk ?_ | intro _)
  all_goals ((try refine VC.mk ?_); (try simp only [CL.ncell, CL.cnt, vq] at *); (try omega))
  conv => whnf
  refine loop_rounds 5 (rounds_succ ⟨anyB_ok, mixed, tabOK, noC_ok, noY_ok⟩ (by rfl) ?_)
  repeat' ((conv => whnf); first | refine And.intro ?_ ?_ | with_reducible exact VC.mk rfl | exact Ok.mk | exact True.intro | refine Nx.mk ?_ | refine Fin.mk ?_ | intro _)
  all_goals ((try refine VC.mk ?_); (try simp only [CL.ncell, CL.cnt, vq] at *); (try omega))
  all_goals first | ((with_reducible (refine Sup.of ?_)); exact congrArg (PV.int .i64) (bad_of (x := x0) [] [x1, x2, x3, x4, x5, x6, x7, x8, x9, x10, x11, x12, x13, x14, x15] (by omega)).symm) | skip
  conv => whnf
  refine rounds_succ ⟨anyB_ok, mixed, tabOK, noC_ok, noY_ok⟩ (by rfl) ?_
  repeat' ((conv => whnf); first | refine And.intro ?_ ?_ | with_reducible exact VC.mk rfl | exact Ok.mk | exact True.intro | refine Nx.mk ?_ | refine Fin.mk ?_ | intro _)
  all_goals ((try refine VC.mk ?_); (try simp only [CL.ncell, CL.cnt, vq] at *); (try omega))
  all_goals first | ((with_reducible (refine Sup.of ?_)); exact congrArg (PV.int .i64) (bad_of (x := x1) [x0] [x2, x3, x4, x5, x6, x7, x8, x9, x10, x11, x12, x13, x14, x15] (by omega)).symm) | skip
  conv => whnf
  refine rounds_succ ⟨anyB_ok, mixed, tabOK, noC_ok, noY_ok⟩ (by rfl) ?_
  repeat' ((conv => whnf); first | refine And.intro ?_ ?_ | with_reducible exact VC.mk rfl | exact Ok.mk | exact True.intro | refine Nx.mk ?_ | refine Fin.mk ?_ | intro _)
  all_goals ((try refine VC.mk ?_); (try simp only [CL.ncell, CL.cnt, vq] at *); (try omega))
  all_goals first | ((with_reducible (refine Sup.of ?_)); exact congrArg (PV.int .i64) (bad_of (x := x2) [x0, x1] [x3, x4, x5, x6, x7, x8, x9, x10, x11, x12, x13, x14, x15] (by omega)).symm) | skip
  conv => whnf
  refine rounds_succ ⟨anyB_ok, mixed, tabOK, noC_ok, noY_ok⟩ (by rfl) ?_
  repeat' ((conv => whnf); first | refine And.intro ?_ ?_ | with_reducible exact VC.mk rfl | exact Ok.mk | exact True.intro | refine Nx.mk ?_ | refine Fin.mk ?_ | intro _)
  all_goals ((try refine VC.mk ?_); (try simp only [CL.ncell, CL.cnt, vq] at *); (try omega))
  all_goals first | ((with_reducible (refine Sup.of ?_)); exact congrArg (PV.int .i64) (bad_of (x := x3) [x0, x1, x2] [x4, x5, x6, x7, x8, x9, x10, x11, x12, x13, x14, x15] (by omega)).symm) | skip
  conv => whnf
  refine rounds_succ ⟨anyB_ok, mixed, tabOK, noC_ok, noY_ok⟩ (by rfl) ?_
  repeat' ((conv => whnf); first | refine And.intro ?_ ?_ | with_reducible exact VC.mk rfl | exact Ok.mk | exact True.intro | refine Nx.mk ?_ | refine Fin.mk ?_ | intro _)
  all_goals ((try refine VC.mk ?_); (try simp only [CL.ncell, CL.cnt, vq] at *); (try omega))
  conv => whnf
  refine rounds_succ ⟨anyB_ok, mixed, tabOK, noC_ok, noY_ok⟩ (by rfl) ?_
  repeat' ((conv => whnf); first | refine And.intro ?_ ?_ | with_reducible exact VC.mk rfl | exact Ok.mk | exact True.intro | refine Nx.mk ?_ | refine Fin.mk ?_ | intro _)
  all_goals ((try refine VC.mk ?_); (try simp only [CL.ncell, CL.cnt, vq] at *); (try omega))
  conv => whnf
  refine loop_rounds 5 (rounds_succ ⟨anyB_ok, mixed, tabOK, noC_ok, noY_ok⟩ (by rfl) ?_)
  repeat' ((conv => whnf); first | refine And.intro ?_ ?_ | with_reducible exact VC.mk rfl | exact Ok.mk | exact True.intro | refine Nx.mk ?_ | refine Fin.mk ?_ | intro _)
  all_goals ((try refine VC.mk ?_); (try simp only [CL.ncell, CL.cnt, vq] at *); (try omega))
  all_goals first | ((with_reducible (refine Sup.of ?_)); exact congrArg (PV.int .i64) (bad_of (x := x4) [x0, x1, x2, x3] [x5, x6, x7, x8, x9, x10, x11, x12, x13, x14, x15] (by omega)).symm) | skip
  conv => whnf
  refine rounds_succ ⟨anyB_ok, mixed, tabOK, noC_ok, noY_ok⟩ (by rfl) ?_
  repeat' ((conv => whnf); first | refine And.intro ?_ ?_ | with_reducible exact VC.mk rfl | exact Ok.mk | exact True.intro | refine Nx.mk ?_ | refine Fin.mk ?_ | intro _)
  all_goals ((try refine VC.mk ?_); (try simp only [CL.ncell, CL.cnt, vq] at *); (try omega))
  all_goals first | ((with_reducible (refine Sup.of ?_)); exact congrArg (PV.int .i64) (bad_of (x := x5) [x0, x1, x2, x3, x4] [x6, x7, x8, x9, x10, x11, x12, x13, x14, x15] (by omega)).symm) | skip
  conv => whnf
  refine rounds_succ ⟨anyB_ok, mixed, tabOK, noC_ok, noY_ok⟩ (by rfl) ?_
  repeat' ((conv => whnf); first | refine And.intro ?_ ?_ | with_reducible exact VC.mk rfl | exact Ok.mk | exact True.intro | refine Nx.mk ?_ | refine Fin.mk ?_ | intro _)
  all_goals ((try refine VC.mk ?_); (try simp only [CL.ncell, CL.cnt, vq] at *); (try omega))
  all_goals first | ((with_reducible (refine Sup.of ?_)); exact congrArg (PV.int .i64) (bad_of (x := x6) [x0, x1, x2, x3, x4, x5] [x7, x8, x9, x10, x11, x12, x13, x14, x15] (by omega)).symm) | skip
  conv => whnf
  refine rounds_succ ⟨anyB_ok, mixed, tabOK, noC_ok, noY_ok⟩ (by rfl) ?_
  repeat' ((conv => whnf); first | refine And.intro ?_ ?_ | with_reducible exact VC.mk rfl | exact Ok.mk | exact True.intro | refine Nx.mk ?_ | refine Fin.mk ?_ | intro _)
  all_goals ((try refine VC.mk ?_); (try simp only [CL.ncell, CL.cnt, vq] at *); (try omega))
  all_goals first | ((with_reducible (refine Sup.of ?_)); exact congrArg (PV.int .i64) (bad_of (x := x7) [x0, x1, x2, x3, x4, x5, x6] [x8, x9, x10, x11, x12, x13, x14, x15] (by omega)).symm) | skip
  conv => whnf
  refine rounds_succ ⟨anyB_ok, mixed, tabOK, noC_ok, noY_ok⟩ (by rfl) ?_
  repeat' ((conv => whnf); first | refine And.intro ?_ ?_ | with_reducible exact VC.mk rfl | exact Ok.mk | exact True.intro | refine Nx.mk ?_ | refine Fin.mk ?_ | intro _)
  all_goals ((try refine VC.mk ?_); (try simp only [CL.ncell, CL.cnt, vq] at *); (try omega))
  conv => whnf
  refine rounds_succ ⟨anyB_ok, mixed, tabOK, noC_ok, noY_ok⟩ (by rfl) ?_
  repeat' ((conv => whnf); first | refine And.intro ?_ ?_ | with_reducible exact VC.mk rfl | exact Ok.mk | exact True.intro | refine Nx.mk ?_ | refine Fin.mk ?_ | intro _)
  all_goals ((try refine VC.mk ?_); (try simp only [CL.ncell, CL.cnt, vq] at *); (try omega))
  conv => whnf
  refine loop_rounds 5 (rounds_succ ⟨anyB_ok, mixed, tabOK, noC_ok, noY_ok⟩ (by rfl) ?_)
  repeat' ((conv => whnf); first | refine And.intro ?_ ?_ | with_reducible exact VC.mk rfl | exact Ok.mk | exact True.intro | refine Nx.mk ?_ | refine Fin.mk ?_ | intro _)
  all_goals ((try refine VC.mk ?_); (try simp only [CL.ncell, CL.cnt, vq] at *); (try omega))
  all_goals first | ((with_reducible (refine Sup.of ?_)); exact congrArg (PV.int .i64) (bad_of (x := x8) [x0, x1, x2, x3, x4, x5, x6, x7] [x9, x10, x11, x12, x13, x14, x15] (by omega)).symm) | skip
  conv => whnf
  refine rounds_succ ⟨anyB_ok, mixed, tabOK, noC_ok, noY_ok⟩ (by rfl) ?_
  repeat' ((conv => whnf); first | refine And.intro ?_ ?_ | with_reducible exact VC.mk rfl | exact Ok.mk | exact True.intro | refine Nx.mk ?_ | refine Fin.mk ?_ | intro _)
  all_goals ((try refine VC.mk ?_); (try simp only [CL.ncell, CL.cnt, vq] at *); (try omega))
  all_goals first | ((with_reducible (refine Sup.of ?_)); exact congrArg (PV.int .i64) (bad_of (x := x9) [x0, x1, x2, x3, x4, x5, x6, x7, x8] [x10, x11, x12, x13, x14, x15] (by omega)).symm) | skip
  conv => whnf
  refine rounds_succ ⟨anyB_ok, mixed, tabOK, noC_ok, noY_ok⟩ (by rfl) ?_
  repeat' ((conv => whnf); first | refine And.intro ?_ ?_ | with_reducible exact VC.mk rfl | exact Ok.mk | exact True.intro | refine Nx.mk ?_ | refine Fin.mk ?_ | intro _)
  all_goals ((try refine VC.mk ?_); (try simp only [CL.ncell, CL.cnt, vq] at *); (try omega))
  all_goals first | ((with_reducible (refine Sup.of ?_)); exact congrArg (PV.int .i64) (bad_of (x := x10) [x0, x1, x2, x3, x4, x5, x6, x7, x8, x9] [x11, x12, x13, x14, x15] (by omega)).symm) | skip
  conv => whnf
  refine rounds_succ ⟨anyB_ok, mixed, tabOK, noC_ok, noY_ok⟩ (by rfl) ?_
  repeat' ((conv => whnf); first | refine And.intro ?_ ?_ | with_reducible exact VC.mk rfl | exact Ok.mk | exact True.intro | refine Nx.mk ?_ | refine Fin.mk ?_ | intro _)
  all_goals ((try refine VC.mk ?_); (try simp only [CL.ncell, CL.cnt, vq] at *); (try omega))
  all_goals first | ((with_reducible (refine Sup.of ?_)); exact congrArg (PV.int .i64) (bad_of (x := x11) [x0, x1, x2, x3, x4, x5, x6, x7, x8, x9, x10] [x12, x13, x14, x15] (by omega)).symm) | skip
  conv => whnf
  refine rounds_succ ⟨anyB_ok, mixed, tabOK, noC_ok, noY_ok⟩ (by rfl) ?_
  repeat' ((conv => whnf); first | refine And.intro ?_ ?_ | with_reducible exact VC.mk rfl | exact Ok.mk | exact True.intro | refine Nx.mk ?_ | refine Fin.mk ?_ | intro _)
  all_goals ((try refine VC.mk ?_); (try simp only [CL.ncell, CL.cnt, vq] at *); (try omega))
  conv => whnf
  refine rounds_succ ⟨anyB_ok, mixed, tabOK, noC_ok, noY_ok⟩ (by rfl) ?_
  repeat' ((conv => whnf); first | refine And.intro ?_ ?_ | with_reducible exact VC.mk rfl | exact Ok.mk | exact True.intro | refine Nx.mk ?_ | refine Fin.mk ?_ | intro _)
  all_goals ((try refine VC.mk ?_); (try simp only [CL.ncell, CL.cnt, vq] at *); (try omega))
  conv => whnf
  refine loop_rounds 5 (rounds_succ ⟨anyB_ok, mixed, tabOK, noC_ok, noY_ok⟩ (by rfl) ?_)
  repeat' ((conv => whnf); first | refine And.intro ?_ ?_ | with_reducible exact VC.mk rfl | exact Ok.mk | exact True.intro | refine Nx.mk ?_ | refine Fin.mk ?_ | intro _)
  all_goals ((try refine VC.mk ?_); (try simp only [CL.ncell, CL.cnt, vq] at *); (try omega))
  all_goals first | ((with_reducible (refine Sup.of ?_)); exact congrArg (PV.int .i64) (bad_of (x := x12) [x0, x1, x2, x3, x4, x5, x6, x7, x8, x9, x10, x11] [x13, x14, x15] (by omega)).symm) | skip
  conv => whnf
  refine rounds_succ ⟨anyB_ok, mixed, tabOK, noC_ok, noY_ok⟩ (by rfl) ?_
  repeat' ((conv => whnf); first | refine And.intro ?_ ?_ | with_reducible exact VC.mk rfl | exact Ok.mk | exact True.intro | refine Nx.mk ?_ | refine Fin.mk ?_ | intro _)
  all_goals ((try refine VC.mk ?_); (try simp only [CL.ncell, CL.cnt, vq] at *); (try omega))
  all_goals first | ((with_reducible (refine Sup.of ?_)); exact congrArg (PV.int .i64) (bad_of (x := x13) [x0, x1, x2, x3, x4, x5, x6, x7, x8, x9, x10, x11, x12] [x14, x15] (by omega)).symm) | skip
  conv => whnf
  refine rounds_succ ⟨anyB_ok, mixed, tabOK, noC_ok, noY_ok⟩ (by rfl) ?_
  repeat' ((conv => whnf); first | refine And.intro ?_ ?_ | with_reducible exact VC.mk rfl | exact Ok.mk | exact True.intro | refine Nx.mk ?_ | refine Fin.mk ?_ | intro _)
  all_goals ((try refine VC.mk ?_); (try simp only [CL.ncell, CL.cnt, vq] at *); (try omega))
  all_goals first | ((with_reducible (refine Sup.of ?_)); exact congrArg (PV.int .i64) (bad_of (x := x14) [x0, x1, x2, x3, x4, x5, x6, x7, x8, x9, x10, x11, x12, x13] [x15] (by omega)).symm) | skip
  conv => whnf
  refine rounds_succ ⟨anyB_ok, mixed, tabOK, noC_ok, noY_ok⟩ (by rfl) ?_
  repeat' ((conv => whnf); first | refine And.intro ?_ ?_ | with_reducible exact VC.mk rfl | exact Ok.mk | exact True.intro | refine Nx.mk ?_ | refine Fin.mk ?_ | intro _)
  all_goals ((try refine VC.mk ?_); (try simp only [CL.ncell, CL.cnt, vq] at *); (try omega))
  all_goals first | ((with_reducible (refine Sup.of ?_)); exact congrArg (PV.int .i64) (bad_of (x := x15) [x0, x1, x2, x3, x4, x5, x6, x7, x8, x9, x10, x11, x12, x13, x14] [] (by omega)).symm) | skip
  conv => whnf
  refine rounds_succ ⟨anyB_ok, mixed, tabOK, noC_ok, noY_ok⟩ (by rfl) ?_
  repeat' ((conv => whnf); first | refine And.intro ?_ ?_ | with_reducible exact VC.mk rfl | exact Ok.mk | exact True.intro | refine Nx.mk ?_ | refine Fin.mk ?_ | intro _)
  all_goals ((try refine VC.mk ?_); (try simp only [CL.ncell, CL.cnt, vq] at *); (try omega))
  conv => whnf
  refine rounds_succ ⟨anyB_ok, mixed, tabOK, noC_ok, noY_ok⟩ (by rfl) ?_
  repeat' ((conv => whnf); first | refine And.intro ?_ ?_ | with_reducible exact VC.mk rfl | exact Ok.mk | exact True.intro | refine Nx.mk ?_ | refine Fin.mk ?_ | intro _)
  all_goals ((try refine VC.mk ?_); (try simp only [CL.ncell, CL.cnt, vq] at *); (try omega))
  refine Sup.of (congrArg (PV.int .i64) (formErr_zero ?_).symm)
  simp only [List.mem_cons, List.not_mem_nil, or_false, forall_eq_or_imp, forall_eq]
  omega
end Go.Eng.YtppflbccfdbogaaGreat
namespace Go.Eng.YtppflbccfdbogaaGreat
open Go.Proofs
set_option maxRecDepth 100000
set_option maxHeartbeats 0
set_option linter.unusedVariables false
set_option linter.unusedSimpArgs false
def terF (x0 x1 x2 x3 x4 x5 x6 x7 x8 x9 x10 x11 x12 x13 x14 x15 : Int) (i j : Nat) : Int := (3 * (3 * (3 * (3 * 0 + dig x0 x1 x2 x3 i j) + dig x4 x5 x6 x7 i j) + dig x8 x9 x10 x11 i j) + dig x12 x13 x14 x15 i j) + 1
theorem dig_bd (a b c d i j : Int) : 0 ≤ dig a b c d i j ∧ dig a b c d i j < 3 := ⟨Int.emod_nonneg _ (by decide), Int.emod_lt_of_pos _ (by decide)⟩
theorem c19_spec (x0 x1 x2 x3 x4 x5 x6 x7 x8 x9 x10 x11 x12 x13 x14 x15 : Int) (h : ∀ x ∈ [x0, x1, x2, x3, x4, x5, x6, x7, x8, x9, x10, x11, x12, x13, x14, x15], 0 ≤ x ∧ x ≤ 2) (i j : Nat) (hi : i < 9) (hj : j < 9) : PSpec Tryz.prog 19 ([] ++ [.int .i64 i, .int .i64 j] ++ [.ip (.pv (fmL x0 x1 x2 x3 x4 x5 x6 x7 x8 x9 x10 x11 x12 x13 x14 x15)) 0]) (.int .i64 (terF x0 x1 x2 x3 x4 x5 x6 x7 x8 x9 x10 x11 x12 x13 x14 x15 i j)) := by
  have b1 : 0 ≤ (i : Int) / 3 ∧ (i : Int) / 3 ≤ 2 := by omega
  have b2 : 0 ≤ (i : Int) % 3 ∧ (i : Int) % 3 ≤ 2 := by omega
  have b3 : 0 ≤ (j : Int) / 3 ∧ (j : Int) / 3 ≤ 2 := by omega
  have b4 : 0 ≤ (j : Int) % 3 ∧ (j : Int) % 3 ≤ 2 := by omega
  simp only [List.mem_cons, List.not_mem_nil, or_false, forall_eq_or_imp, forall_eq] at h
  obtain ⟨h0, h1, h2, h3, h4, h5, h6, h7, h8, h9, h10, h11, h12, h13, h14, h15⟩ := h
  have p0 := mul_bd h0 b1
  have p1 := mul_bd h1 b2
  have p2 := mul_bd h2 b3
  have p3 := mul_bd h3 b4
  have p4 := mul_bd h4 b1
  have p5 := mul_bd h5 b2
  have p6 := mul_bd h6 b3
  have p7 := mul_bd h7 b4
  have p8 := mul_bd h8 b1
  have p9 := mul_bd h9 b2
  have p10 := mul_bd h10 b3
  have p11 := mul_bd h11 b4
  have p12 := mul_bd h12 b1
  have p13 := mul_bd h13 b2
  have p14 := mul_bd h14 b3
  have p15 := mul_bd h15 b4
  unfold terF dig
  refine pspec_of (md := 0) (rf := []) mixed tabOK noC_ok Tryz.func19 (by rfl) (by rfl) (by rfl) ?_
  repeat' ((conv => whnf); first | refine And.intro ?_ ?_ | with_reducible exact VC.mk rfl | exact Ok.mk | exact True.intro | refine Nx.mk ?_ | refine Fin.mk ?_ | intro _)
  conv => whnf
  refine loop_rounds 5 (rounds_succ ⟨anyB_ok, mixed, tabOK, noC_ok, noY_ok⟩ (by rfl) ?_)
  repeat' ((conv => whnf); first | refine And.intro ?_ ?_ | with_reducible exact VC.mk rfl | exact Ok.mk | exact True.intro | refine Nx.mk ?_ | refine Fin.mk ?_ | intro _)
  all_goals ((try refine VC.mk ?_); (try simp only [CL.ncell, CL.cnt, vq] at *); (try omega))
  · simp [show te22.size = 4 from rfl]
  conv => whnf
  refine rounds_succ ⟨anyB_ok, mixed, tabOK, noC_ok, noY_ok⟩ (by rfl) ?_
  repeat' ((conv => whnf); first | refine And.intro ?_ ?_ | with_reducible exact VC.mk rfl | exact Ok.mk | exact True.intro | refine Nx.mk ?_ | refine Fin.mk ?_ | intro _)
  all_goals ((try refine VC.mk ?_); (try simp only [CL.ncell, CL.cnt, vq] at *); (try omega))
  · simp [show te22.size = 4 from rfl]
  conv => whnf
  refine rounds_succ ⟨anyB_ok, mixed, tabOK, noC_ok, noY_ok⟩ (by rfl) ?_
  repeat' ((conv => whnf); first | refine And.intro ?_ ?_ | with_reducible exact VC.mk rfl | exact Ok.mk | exact True.intro | refine Nx.mk ?_ | refine Fin.mk ?_ | intro _)
  all_goals ((try refine VC.mk ?_); (try simp only [CL.ncell, CL.cnt, vq] at *); (try omega))
  · simp [show te22.size = 4 from rfl]
  conv => whnf
  refine rounds_succ ⟨anyB_ok, mixed, tabOK, noC_ok, noY_ok⟩ (by rfl) ?_
  repeat' ((conv => whnf); first | refine And.intro ?_ ?_ | with_reducible exact VC.mk rfl | exact Ok.mk | exact True.intro | refine Nx.mk ?_ | refine Fin.mk ?_ | intro _)
  all_goals ((try refine VC.mk ?_); (try simp only [CL.ncell, CL.cnt, vq] at *); (try omega))
  · simp [show te22.size = 4 from rfl]
  conv => whnf
  refine rounds_succ ⟨anyB_ok, mixed, tabOK, noC_ok, noY_ok⟩ (by rfl) ?_
  repeat' ((conv => whnf); first | refine And.intro ?_ ?_ | with_reducible exact VC.mk rfl | exact Ok.mk | exact True.intro | refine Nx.mk ?_ | refine Fin.mk ?_ | intro _)
  all_goals ((try refine VC.mk ?_); (try simp only [CL.ncell, CL.cnt, vq] at *); (try omega))
  all_goals (refine Sup.via ?_; repeat' ((conv => whnf); first | refine And.intro ?_ ?_ | with_reducible exact VC.mk rfl | exact Ok.mk | exact True.intro | refine Nx.mk ?_ | refine Fin.mk ?_ | intro _); all_goals ((try refine VC.mk ?_); (try simp only [CL.ncell, CL.cnt, vq] at *); (try omega)); all_goals (try (simp [CL.sub]; done)))
/-- what Ternary answers: the error, the order, the numbers -/
def terE (l : List Int) (L : List Int) : Int := if formErr l = 0 then (if normErr 9 9 L = 0 then 0 else 18) else 3
def terN (l : List Int) (L : List Int) : Int := if terE l L = 0 then 9 else 0
def terL (l : List Int) (L : List Int) : List Int := if terE l L = 0 then L else []
theorem ter_bad {l L : List Int} (h : formErr l ≠ 0) : terE l L = formErr l ∧ terN l L = 0 ∧ terL l L = [] := by
  have h1 : terE l L = 3 := by rw [terE, if_neg h]
  have h2 : formErr l = 3 := by unfold formErr at h ⊢; split <;> simp_all
  refine ⟨by rw [h1, h2], ?_, ?_⟩ <;> simp [terN, terL, h1]
theorem ter_sing {l L : List Int} (h : formErr l = 0) (h0 : normErr 9 9 L ≠ 0) : terE l L = 18 ∧ terN l L = 0 ∧ terL l L = [] := by
  have h1 : terE l L = 18 := by rw [terE, if_pos h, if_neg h0]
  refine ⟨h1, ?_, ?_⟩ <;> simp [terN, terL, h1]
theorem ter_ok {l L : List Int} (h : formErr l = 0) (h0 : normErr 9 9 L = 0) : terE l L = 0 ∧ terN l L = 9 ∧ terL l L = L := by
  have h1 : terE l L = 0 := by rw [terE, if_pos h, if_pos h0]
  refine ⟨h1, ?_, ?_⟩ <;> simp [terN, terL, h1]
theorem tern_spec (x0 x1 x2 x3 x4 x5 x6 x7 x8 x9 x10 x11 x12 x13 x14 x15 : Int) : PSpec Tryz.prog 5 [.agg (fmL x0 x1 x2 x3 x4 x5 x6 x7 x8 x9 x10 x11 x12 x13 x14 x15)] (.tup [gridV (terN [x0, x1, x2, x3, x4, x5, x6, x7, x8, x9, x10, x11, x12, x13, x14, x15] (madeL 9 (terF x0 x1 x2 x3 x4 x5 x6 x7 x8 x9 x10 x11 x12 x13 x14 x15))) (terN [x0, x1, x2, x3, x4, x5, x6, x7, x8, x9, x10, x11, x12, x13, x14, x15] (madeL 9 (terF x0 x1 x2 x3 x4 x5 x6 x7 x8 x9 x10 x11 x12 x13 x14 x15))) (terL [x0, x1, x2, x3, x4, x5, x6, x7, x8, x9, x10, x11, x12, x13, x14, x15] (madeL 9 (terF x0 x1 x2 x3 x4 x5 x6 x7 x8 x9 x10 x11 x12 x13 x14 x15))), .int .i64 (terE [x0, x1, x2, x3, x4, x5, x6, x7, x8, x9, x10, x11, x12, x13, x14, x15] (madeL 9 (terF x0 x1 x2 x3 x4 x5 x6 x7 x8 x9 x10 x11 x12 x13 x14 x15)))]) := by
  have hC : CPOK Tryz.prog (cpAdd 17 (pureCC (atC True [.agg (fmL x0 x1 x2 x3 x4 x5 x6 x7 x8 x9 x10 x11 x12 x13 x14 x15)] (.int .i64 (formErr [x0, x1, x2, x3, x4, x5, x6, x7, x8, x9, x10, x11, x12, x13, x14, x15])))) (cpAdd 18 (pureCC madeP) (cpAdd 20 (pureCC checkNormalP) noC))) := cpAdd_ok (pureCC_ok (atC_ok fun _ => forms_spec _ _ _ _ _ _ _ _ _ _ _ _ _ _ _ _)) (cpAdd_ok (pureCC_ok made_ok) (cpAdd_ok (pureCC_ok checkNormal_ok) noC_ok))
  have hg := @good_of [x0, x1, x2, x3, x4, x5, x6, x7, x8, x9, x10, x11, x12, x13, x14, x15]
  have hb := @ter_bad [x0, x1, x2, x3, x4, x5, x6, x7, x8, x9, x10, x11, x12, x13, x14, x15] (madeL 9 (terF x0 x1 x2 x3 x4 x5 x6 x7 x8 x9 x10 x11 x12 x13 x14 x15))
  have hs := @ter_sing [x0, x1, x2, x3, x4, x5, x6, x7, x8, x9, x10, x11, x12, x13, x14, x15] (madeL 9 (terF x0 x1 x2 x3 x4 x5 x6 x7 x8 x9 x10 x11 x12 x13 x14 x15))
  have hk := @ter_ok [x0, x1, x2, x3, x4, x5, x6, x7, x8, x9, x10, x11, x12, x13, x14, x15] (madeL 9 (terF x0 x1 x2 x3 x4 x5 x6 x7 x8 x9 x10 x11 x12 x13 x14 x15))
  have hc := c19_spec x0 x1 x2 x3 x4 x5 x6 x7 x8 x9 x10 x11 x12 x13 x14 x15
  generalize formErr [x0, x1, x2, x3, x4, x5, x6, x7, x8, x9, x10, x11, x12, x13, x14, x15] = e at *
  generalize terE [x0, x1, x2, x3, x4, x5, x6, x7, x8, x9, x10, x11, x12, x13, x14, x15] (madeL 9 (terF x0 x1 x2 x3 x4 x5 x6 x7 x8 x9 x10 x11 x12 x13 x14 x15)) = tE at *
  generalize terN [x0, x1, x2, x3, x4, x5, x6, x7, x8, x9, x10, x11, x12, x13, x14, x15] (madeL 9 (terF x0 x1 x2 x3 x4 x5 x6 x7 x8 x9 x10 x11 x12 x13 x14 x15)) = tN at *
  generalize terL [x0, x1, x2, x3, x4, x5, x6, x7, x8, x9, x10, x11, x12, x13, x14, x15] (madeL 9 (terF x0 x1 x2 x3 x4 x5 x6 x7 x8 x9 x10 x11 x12 x13 x14 x15)) = tL at *
  refine pspec_of (md := 1) (rf := []) mixed tabOK hC Tryz.func5 (by rfl) (by rfl) (by rfl) ?_
  repeat' ((conv => whnf); first | refine And.intro ?_ ?_ | with_reducible exact VC.mk rfl | exact Ok.mk | exact True.intro | refine Nx.mk ?_ | refine Fin.mk ?_ | intro _)
  all_goals ((try refine VC.mk ?_); (try simp only [CL.ncell, CL.cnt, vq] at *); (try omega))
  · obtain ⟨rfl, rfl, rfl⟩ := hb ‹_›
    all_goals (refine Sup.via ?_; repeat' ((conv => whnf); first | refine And.intro ?_ ?_ | with_reducible exact VC.mk rfl | exact Ok.mk | exact True.intro | refine Nx.mk ?_ | refine Fin.mk ?_ | intro _); all_goals ((try refine VC.mk ?_); (try simp only [CL.ncell, CL.cnt, vq] at *); (try omega)); all_goals (try (simp [CL.sub]; done)))
  have he : e = 0 := by omega
  subst he
  refine ⟨terF x0 x1 x2 x3 x4 x5 x6 x7 x8 x9 x10 x11 x12 x13 x14 x15, fun i j hi hj => hc (hg rfl) i j (by omega) (by omega), ?_⟩
  simp only [show Int.toNat 9 = 9 from rfl]
  repeat' ((conv => whnf); first | refine And.intro ?_ ?_ | with_reducible exact VC.mk rfl | exact Ok.mk | exact True.intro | refine Nx.mk ?_ | refine Fin.mk ?_ | intro _)
  all_goals ((try refine VC.mk ?_); (try simp only [CL.ncell, CL.cnt, vq] at *); (try omega))
  · obtain ⟨rfl, rfl, rfl⟩ := hs (by simp) ‹_›
    all_goals (refine Sup.via ?_; repeat' ((conv => whnf); first | refine And.intro ?_ ?_ | with_reducible exact VC.mk rfl | exact Ok.mk | exact True.intro | refine Nx.mk ?_ | refine Fin.mk ?_ | intro _); all_goals ((try refine VC.mk ?_); (try simp only [CL.ncell, CL.cnt, vq] at *); (try omega)); all_goals (try (simp [CL.sub]; done)))
  · obtain ⟨rfl, rfl, rfl⟩ := hk (by simp) (by omega)
    all_goals (refine Sup.via ?_; repeat' ((conv => whnf); first | refine And.intro ?_ ?_ | with_reducible exact VC.mk rfl | exact Ok.mk | exact True.intro | refine Nx.mk ?_ | refine Fin.mk ?_ | intro _); all_goals ((try refine VC.mk ?_); (try simp only [CL.ncell, CL.cnt, vq] at *); (try omega)); all_goals (try (simp [CL.sub]; done)))
end Go.Eng.YtppflbccfdbogaaGreat
namespace Go.Eng.YtppflbccfdbogaaGreat
open Go.Proofs
set_option maxRecDepth 100000
set_option maxHeartbeats 0
set_option linter.unusedVariables false
set_option linter.unusedSimpArgs false
/-- the digit of a form at the place t of a line -/
def lD (a u v : Int) (t : Nat) : Int := (a + u * ((t : Int) / 3) + v * ((t : Int) % 3)) % 3
def nD (a u v t : Nat) : Nat := (a + u * (t / 3) + v * (t % 3)) % 3
theorem lD_nD (a u v : Int) (t : Nat) : lD a u v t = (nD (a % 3).toNat (u % 3).toNat (v % 3).toNat t : Nat) := by
  unfold lD nD
  have h1 : ((a % 3).toNat : Int) = a % 3 := Int.toNat_of_nonneg (by omega)
  have h2 : ((u % 3).toNat : Int) = u % 3 := Int.toNat_of_nonneg (by omega)
  have h3 : ((v % 3).toNat : Int) = v % 3 := Int.toNat_of_nonneg (by omega)
  push_cast
  rw [h1, h2, h3]
  have e1 : u % 3 = u - 3 * (u / 3) := by omega
  have e2 : v % 3 = v - 3 * (v / 3) := by omega
  rw [e1, e2, Int.sub_mul, Int.sub_mul, Int.mul_assoc, Int.mul_assoc]
  omega
def oneB (a u v : Nat) : Bool := (decide (u = 0) && decide (v = 0)) || (decide (sumF (fun t => (nD a u v t : Int)) 9 = 9) && decide (sumF (fun t => (nD a u v t : Int) * (nD a u v t : Int)) 9 = 15))
def pairB (a u v b w z : Nat) : Bool := decide ((u * z + 2 * (v * w)) % 3 = 0) || decide (sumF (fun t => (nD a u v t : Int) * (nD b w z t : Int)) 9 = 9)
theorem one_tab : ∀ a < 3, ∀ u < 3, ∀ v < 3, oneB a u v = true := by decide +kernel
theorem pair_tab : ∀ a < 3, ∀ u < 3, ∀ v < 3, ∀ b < 3, ∀ w < 3, ∀ z < 3, pairB a u v b w z = true := by decide +kernel
theorem one_dec (a : Nat) (ha : a < 3) (u : Nat) (hu : u < 3) (v : Nat) (hv : v < 3) (h : u ≠ 0 ∨ v ≠ 0) : sumF (fun t => (nD a u v t : Int)) 9 = 9 ∧ sumF (fun t => (nD a u v t : Int) * (nD a u v t : Int)) 9 = 15 := by
  have := one_tab a ha u hu v hv
  unfold oneB at this
  simp only [Bool.or_eq_true, Bool.and_eq_true, decide_eq_true_eq] at this
  rcases this with h1 | h1
  · omega
  · exact h1
theorem pair_dec (a : Nat) (ha : a < 3) (u : Nat) (hu : u < 3) (v : Nat) (hv : v < 3) (b : Nat) (hb : b < 3) (w : Nat) (hw : w < 3) (z : Nat) (hz : z < 3) (h : (u * z + 2 * (v * w)) % 3 ≠ 0) : sumF (fun t => (nD a u v t : Int) * (nD b w z t : Int)) 9 = 9 := by
  have := pair_tab a ha u hu v hv b hb w hw z hz
  unfold pairB at this
  simp only [Bool.or_eq_true, decide_eq_true_eq] at this
  rcases this with h1 | h1
  · exact absurd h1 h
  · exact h1
theorem m3_lt (x : Int) : (x % 3).toNat < 3 := by omega
theorem det_nat {u v w z : Int} (h : (u * z - v * w) % 3 ≠ 0) : ((u % 3).toNat * (z % 3).toNat + 2 * ((v % 3).toNat * (w % 3).toNat)) % 3 ≠ 0 := by
  intro h0
  apply h
  rw [Int.sub_emod, Int.mul_emod u z, Int.mul_emod v w]
  have h1 : ((u % 3).toNat : Int) = u % 3 := Int.toNat_of_nonneg (by omega)
  have h2 : ((v % 3).toNat : Int) = v % 3 := Int.toNat_of_nonneg (by omega)
  have h3 : ((w % 3).toNat : Int) = w % 3 := Int.toNat_of_nonneg (by omega)
  have h4 : ((z % 3).toNat : Int) = z % 3 := Int.toNat_of_nonneg (by omega)
  have h5 : (((u % 3).toNat * (z % 3).toNat + 2 * ((v % 3).toNat * (w % 3).toNat) : Nat) : Int) % 3 = 0 := by omega
  push_cast at h5
  rw [h1, h2, h3, h4] at h5
  omega
theorem one_sum (a u v : Int) (h : u % 3 ≠ 0 ∨ v % 3 ≠ 0) : sumF (lD a u v) 9 = 9 ∧ sumF (fun t => lD a u v t * lD a u v t) 9 = 15 := by
  have := one_dec _ (m3_lt a) _ (m3_lt u) _ (m3_lt v) (by omega)
  rw [show lD a u v = fun t => ((nD (a % 3).toNat (u % 3).toNat (v % 3).toNat t : Nat) : Int) from funext (lD_nD a u v)]
  exact this
theorem pair_sum (a u v b w z : Int) (h : (u * z - v * w) % 3 ≠ 0) : sumF (fun t => lD a u v t * lD b w z t) 9 = 9 := by
  have := pair_dec _ (m3_lt a) _ (m3_lt u) _ (m3_lt v) _ (m3_lt b) _ (m3_lt w) _ (m3_lt z) (det_nat h)
  rw [show lD a u v = fun t => ((nD (a % 3).toNat (u % 3).toNat (v % 3).toNat t : Nat) : Int) from funext (lD_nD a u v), show lD b w z = fun t => ((nD (b % 3).toNat (w % 3).toNat (z % 3).toNat t : Nat) : Int) from funext (lD_nD b w z)]
  exact this
theorem nz_of {u v w z : Int} (h : (u * z - v * w) % 3 ≠ 0) : (u % 3 ≠ 0 ∨ v % 3 ≠ 0) ∧ (w % 3 ≠ 0 ∨ z % 3 ≠ 0) := by
  rw [Int.sub_emod, Int.mul_emod u z, Int.mul_emod v w] at h
  refine ⟨Classical.byContradiction fun hc => h ?_, Classical.byContradiction fun hc => h ?_⟩
  · rw [show u % 3 = 0 by omega, show v % 3 = 0 by omega, Int.zero_mul, Int.zero_mul]; rfl
  · rw [show w % 3 = 0 by omega, show z % 3 = 0 by omega, Int.mul_zero, Int.mul_zero]; rfl
def val4 (p q r s : Int) : Int := 3 * (3 * (3 * (3 * 0 + p) + q) + r) + s + 1
theorem line_sums (f : Nat → Int) (a0 u0 v0 a1 u1 v1 a2 u2 v2 a3 u3 v3 : Int)
    (hf : ∀ t, t < 9 → f t = val4 (lD a0 u0 v0 t) (lD a1 u1 v1 t) (lD a2 u2 v2 t) (lD a3 u3 v3 t))
    (h10 : (u1 * v0 - v1 * u0) % 3 ≠ 0) (h20 : (u2 * v0 - v2 * u0) % 3 ≠ 0) (h21 : (u2 * v1 - v2 * u1) % 3 ≠ 0) (h30 : (u3 * v0 - v3 * u0) % 3 ≠ 0) (h31 : (u3 * v1 - v3 * u1) % 3 ≠ 0) (h32 : (u3 * v2 - v3 * u2) % 3 ≠ 0) :
    sumF f 9 = 369 ∧ sumF (fun t => f t * f t) 9 = 20049 := by
  obtain ⟨n1, n0⟩ := nz_of h10
  obtain ⟨n3, n2⟩ := nz_of h32
  have s0 := one_sum a0 u0 v0 n0
  have s1 := one_sum a1 u1 v1 n1
  have s2 := one_sum a2 u2 v2 n2
  have s3 := one_sum a3 u3 v3 n3
  have p10 := pair_sum a1 u1 v1 a0 u0 v0 h10
  have p20 := pair_sum a2 u2 v2 a0 u0 v0 h20
  have p21 := pair_sum a2 u2 v2 a1 u1 v1 h21
  have p30 := pair_sum a3 u3 v3 a0 u0 v0 h30
  have p31 := pair_sum a3 u3 v3 a1 u1 v1 h31
  have p32 := pair_sum a3 u3 v3 a2 u2 v2 h32
  clear h10 h20 h21 h30 h31 h32 n0 n1 n2 n3
  generalize lD a0 u0 v0 = d0 at *
  generalize lD a1 u1 v1 = d1 at *
  generalize lD a2 u2 v2 = d2 at *
  generalize lD a3 u3 v3 = d3 at *
  constructor
  · rw [sumF_congr (g := fun t => 27 * d0 t + 9 * d1 t + 3 * d2 t + d3 t + 1) fun t ht => by rw [hf t ht]; unfold val4; omega]
    rw [sumF_add, sumF_add, sumF_add, sumF_add, sumF_mul, sumF_mul, sumF_mul, sumF_const]
    omega
  · rw [sumF_congr (g := fun t => 1 + 54 * d0 t + 18 * d1 t + 6 * d2 t + 2 * d3 t + 729 * (d0 t * d0 t) + 81 * (d1 t * d1 t) + 9 * (d2 t * d2 t) + d3 t * d3 t + 486 * (d1 t * d0 t) + 162 * (d2 t * d0 t) + 54 * (d3 t * d0 t) + 54 * (d2 t * d1 t) + 18 * (d3 t * d1 t) + 6 * (d3 t * d2 t)) fun t ht => by rw [hf t ht]; unfold val4; grind]
    simp only [sumF_add, sumF_mul, sumF_const]
    omega
end Go.Eng.YtppflbccfdbogaaGreat
namespace Go.Eng.YtppflbccfdbogaaGreat
open Go.Proofs
set_option maxRecDepth 100000
set_option maxHeartbeats 0
set_option linter.unusedVariables false
set_option linter.unusedSimpArgs false
/-! when, first -/
def aWhenP : PSp := fun xs K => match xs with
  | [.bp h, .int .i64 e] => K (.int .i64 (if h then e else 0))
  | [.bool h, .int .i64 e] => K (.int .i64 (if h then e else 0))
  | _ => False
theorem aWhen_spec (h : Bool) (e : Int) : PSpec Tryz.prog 77 [.bp h, .int .i64 e] (.int .i64 (if h then e else 0)) := by
  refine pspec_of (md := 1) (rf := []) mixed tabOK noC_ok Tryz.func77 (by rfl) (by rfl) (by rfl) ?_
  repeat' ((conv => whnf); first | refine And.intro ?_ ?_ | with_reducible exact VC.mk rfl | exact Ok.mk | exact True.intro | refine Nx.mk ?_ | refine Fin.mk ?_ | intro _)
  all_goals refine Sup.of ?_
  all_goals simp_all [resOf]
theorem aWhen_spec' (h : Bool) (e : Int) : PSpec Tryz.prog 77 [.bool h, .int .i64 e] (.int .i64 (if h then e else 0)) :=
  pspec_up (aWhen_spec h e) fun S w ι vs hr => ⟨hr.1, fun i hi => by
    have := hr.2 i (by simpa using hi)
    match i, hi with
    | 0, _ => cases h2 : vs.getD 0 undef <;> rw [h2] at this <;> cases this; exact .bp _ _
    | 1, _ => exact this⟩
theorem aWhen_ok : POK Tryz.prog 77 aWhenP := by
  intro xs K h
  unfold aWhenP at h
  split at h
  · exact ⟨_, h, aWhen_spec _ _⟩
  · exact ⟨_, h, aWhen_spec' _ _⟩
  · exact h.elim
theorem aFirst_spec (l : List Int) (hl : l.length < 1000000) : PSpec Tryz.prog 80 [.isl (.ints .i64 l) .none] (.int .i64 (firstOf l)) := by
  refine pspec_of (md := 1) (rf := []) mixed tabOK noC_ok Tryz.func80 (by rfl) (by rfl) (by rfl) ?_
  repeat' ((conv => whnf); first | refine And.intro ?_ ?_ | with_reducible exact VC.mk rfl | exact Ok.mk | exact True.intro | refine Nx.mk ?_ | refine Fin.mk ?_ | intro _)
  conv => whnf
  refine loop_of (X := Nat) (fun i => i ≤ l.length ∧ ∀ j, j < i → l.getD j 0 = 0) (fun i => [(7, .int .i64 i)]) (fun _ => []) (fun i => l.length - i) 0 ⟨anyB_ok, mixed, tabOK, noC_ok, noY_ok⟩ (by rfl) ⟨by omega, fun j hj => by omega⟩ ?_ ?_
  · repeat' ((conv => whnf); first | refine And.intro ?_ ?_ | with_reducible exact VC.mk rfl | exact Ok.mk | exact True.intro | refine Nx.mk ?_ | refine Fin.mk ?_ | intro _)
    all_goals ((try refine VC.mk ?_); (try simp only [CL.ncell, CL.cnt, vq] at *); (try omega))
  · intro i hi
    obtain ⟨hi, hz⟩ := hi
    repeat' ((conv => whnf); first | refine And.intro ?_ ?_ | with_reducible exact VC.mk rfl | exact Ok.mk | exact True.intro | refine Nx.mk ?_ | refine Fin.mk ?_ | intro _)
    all_goals ((try refine VC.mk ?_); (try simp only [CL.ncell, CL.cnt, vq] at *); (try omega))
    · rename_i hne
      have := firstOf_at l i (by omega) hz (by simpa using hne)
      rw [this]; exact Sup.of rfl
    · rename_i hne
      have hne : l.getD i 0 = 0 := by simpa using hne
      refine ⟨i + 1, [], ⟨⟨by omega, fun j hj => ?_⟩, by omega⟩, ?_⟩
      · by_cases e : j = i
        · subst e; exact hne
        · exact hz j (by omega)
      · repeat' ((conv => whnf); first | refine And.intro ?_ ?_ | with_reducible exact VC.mk rfl | exact Ok.mk | exact True.intro | refine Nx.mk ?_ | refine Fin.mk ?_ | intro _)
        all_goals ((try refine VC.mk ?_); (try simp only [CL.ncell, CL.cnt, vq] at *); (try omega))
    · have : i = l.length := by omega
      subst this
      rw [firstOf_zero l hz]; exact Sup.of rfl
def aFirstP : PSp := fun xs K => match xs with
  | [.isl (.ints .i64 l) .none] => VC (l.length < 1000000) ∧ K (.int .i64 (firstOf l))
  | _ => False
theorem aFirst_ok : POK Tryz.prog 80 aFirstP := by
  intro xs K h
  unfold aFirstP at h
  split at h
  · exact ⟨_, h.2, aFirst_spec _ h.1.get⟩
  · exact h.elim
/-! numbers in their range -/
def isNum (n : Int) : Bool := decide (-999999999 ≤ n) && decide (n ≤ 999999999)
theorem isNumber_spec (n : Int) : PSpec Tryz.prog 79 [.int .i64 n] (.bp (isNum n)) := by
  refine pspec_of (md := 1) (rf := []) mixed tabOK noC_ok Tryz.func79 (by rfl) (by rfl) (by rfl) ?_
  repeat' ((conv => whnf); first | refine And.intro ?_ ?_ | with_reducible exact VC.mk rfl | exact Ok.mk | exact True.intro | refine Nx.mk ?_ | refine Fin.mk ?_ | intro _)
  all_goals refine Sup.via ?_
  all_goals repeat' ((conv => whnf); first | refine And.intro ?_ ?_ | with_reducible exact VC.mk rfl | exact Ok.mk | exact True.intro | refine Nx.mk ?_ | refine Fin.mk ?_ | intro _)
  all_goals refine VC.mk ?_
  all_goals simp_all [isNum]
  all_goals (try omega)
def isNumberP : PSp := fun xs K => match xs with
  | [.int .i64 n] => VC (True) ∧ K (.bp (isNum n))
  | _ => False
theorem isNumber_ok : POK Tryz.prog 79 isNumberP := by
  intro xs K h
  unfold isNumberP at h
  split at h
  · exact ⟨_, h.2, isNumber_spec _⟩
  · exact h.elim
theorem c78_spec (n : Int) : PSpec Tryz.prog 78 ([] ++ [.int .i64 n] ++ []) (.bp (!isNum n)) := by
  have hC := cpAdd_ok (pureCC_ok isNumber_ok) noC_ok
  refine pspec_of (md := 1) (rf := []) mixed tabOK hC Tryz.func78 (by rfl) (by rfl) (by rfl) ?_
  repeat' ((conv => whnf); first | refine And.intro ?_ ?_ | with_reducible exact VC.mk rfl | exact Ok.mk | exact True.intro | refine Nx.mk ?_ | refine Fin.mk ?_ | intro _)
  all_goals ((try refine VC.mk ?_); (try simp only [CL.ncell, CL.cnt, vq] at *); (try omega))
  all_goals (refine Sup.via ?_; repeat' ((conv => whnf); first | refine And.intro ?_ ?_ | with_reducible exact VC.mk rfl | exact Ok.mk | exact True.intro | refine Nx.mk ?_ | refine Fin.mk ?_ | intro _); all_goals ((try refine VC.mk ?_); (try simp only [CL.ncell, CL.cnt, vq] at *); (try omega)); all_goals (try (simp [CL.sub]; done)))
noncomputable def cpW : CPT := cpAdd 44 (viewCC hasFP) (cpAdd 77 (pureCC aWhenP) noC)
theorem cpW_ok : CPOK Tryz.prog cpW := cpAdd_ok (viewCC_ok hasF_ok) (cpAdd_ok (pureCC_ok aWhen_ok) noC_ok)
theorem c76_spec (l : List Int) (hl : l.length ≤ 2000000) : PSpec Tryz.prog 76 [.isl (.ints .i64 l) .none] (.int .i64 (if l.any (fun n => !isNum n) then 3 else 0)) := by
  refine pspec_of (md := 1) (rf := []) mixed tabOK cpW_ok Tryz.func76 (by rfl) (by rfl) (by rfl) ?_
  repeat' ((conv => whnf); first | refine And.intro ?_ ?_ | with_reducible exact VC.mk rfl | exact Ok.mk | exact True.intro | refine Nx.mk ?_ | refine Fin.mk ?_ | intro _)
  all_goals ((try refine VC.mk ?_); (try simp only [CL.ncell, CL.cnt, vq] at *); (try omega))
  · exact ⟨hl, rfl⟩
  refine ⟨fun n => !isNum n, fun x _ => c78_spec x, ?_⟩
  repeat' ((conv => whnf); first | refine And.intro ?_ ?_ | with_reducible exact VC.mk rfl | exact Ok.mk | exact True.intro | refine Nx.mk ?_ | refine Fin.mk ?_ | intro _)
  all_goals ((try refine VC.mk ?_); (try simp only [CL.ncell, CL.cnt, vq] at *); (try omega))
  all_goals (first | (refine Sup.of ?_; first | rfl | (simp [*, resOf]; done)) | (refine Sup.via ?_; repeat' ((conv => whnf); first | refine And.intro ?_ ?_ | with_reducible exact VC.mk rfl | exact Ok.mk | exact True.intro | refine Nx.mk ?_ | refine Fin.mk ?_ | intro _); all_goals ((try refine VC.mk ?_); (try simp only [CL.ncell, CL.cnt, vq] at *); (try omega)); all_goals (try (simp [CL.sub]; done))))
def c76P : PSp := fun xs K => match xs with
  | [.isl (.ints .i64 l) .none] => VC (l.length ≤ 2000000) ∧ K (.int .i64 (if l.any (fun n => !isNum n) then 3 else 0))
  | _ => False
theorem c76_ok : POK Tryz.prog 76 c76P := by
  intro xs K h
  unfold c76P at h
  split at h
  · exact ⟨_, h.2, c76_spec _ h.1.get⟩
  · exact h.elim
/-! residues -/
theorem of_spec (p n : Int) (hp : 0 < p ∧ p ≤ 1000000000) : PSpec Tryz.prog 83 [.agg [.int .i64 p], .int .i64 n] (.int .i64 (n % p)) := by
  have h3 := Int.tmod_lt_of_pos n hp.1
  have h4 : -p < n.tmod p := by
    by_cases h : 0 ≤ n
    · have := Int.tmod_nonneg p h; omega
    · have := Int.tmod_lt_of_pos (-n) hp.1; rw [Int.neg_tmod] at this; omega
  have h0 : n % p = (n.tmod p + p).tmod p := by
    rw [Int.tmod_eq_emod_of_nonneg (by omega), Int.add_emod_right]
    conv => lhs; rw [← Int.tmod_add_mul_tdiv n p, Int.add_mul_emod_self_left]
  rw [h0]
  refine pspec_of (md := 1) (rf := []) mixed tabOK noC_ok Tryz.func83 (by rfl) (by rfl) (by rfl) ?_
  repeat' ((conv => whnf); first | refine And.intro ?_ ?_ | with_reducible exact VC.mk rfl | exact Ok.mk | exact True.intro | refine Nx.mk ?_ | refine Fin.mk ?_ | intro _)
  all_goals ((try refine VC.mk ?_); (try simp only [CL.ncell, CL.cnt, vq] at *); (try omega))
  all_goals (first | (refine Sup.of ?_; first | rfl | (simp [*, resOf]; done)) | (refine Sup.via ?_; repeat' ((conv => whnf); first | refine And.intro ?_ ?_ | with_reducible exact VC.mk rfl | exact Ok.mk | exact True.intro | refine Nx.mk ?_ | refine Fin.mk ?_ | intro _); all_goals ((try refine VC.mk ?_); (try simp only [CL.ncell, CL.cnt, vq] at *); (try omega)); all_goals (try (simp [CL.sub]; done))))
theorem isZero_spec (p n : Int) : PSpec Tryz.prog 132 [.agg [.int .i64 p], .int .i64 n] (.bp (decide (n = 0))) := by
  refine pspec_of (md := 1) (rf := []) mixed tabOK noC_ok Tryz.func132 (by rfl) (by rfl) (by rfl) ?_
  repeat' ((conv => whnf); first | refine And.intro ?_ ?_ | with_reducible exact VC.mk rfl | exact Ok.mk | exact True.intro | refine Nx.mk ?_ | refine Fin.mk ?_ | intro _)
  all_goals ((try refine VC.mk ?_); (try simp only [CL.ncell, CL.cnt, vq] at *); (try omega))
  all_goals (refine Sup.via ?_; repeat' ((conv => whnf); first | refine And.intro ?_ ?_ | with_reducible exact VC.mk rfl | exact Ok.mk | exact True.intro | refine Nx.mk ?_ | refine Fin.mk ?_ | intro _); all_goals ((try refine VC.mk ?_); (try simp only [CL.ncell, CL.cnt, vq] at *); (try omega)); all_goals (try (simp [CL.sub]; done)))
theorem mul_spec (p a b : Int) (hp : 0 < p ∧ p ≤ 1000000000) (ha : 0 ≤ a ∧ a < p) (hb : 0 ≤ b ∧ b < p) : PSpec Tryz.prog 133 [.agg [.int .i64 p], .int .i64 a, .int .i64 b] (.int .i64 (a * b % p)) := by
  have h1 := mul_bd (A := 1000000000) (B := 1000000000) (show 0 ≤ a ∧ a ≤ 1000000000 by omega) (show 0 ≤ b ∧ b ≤ 1000000000 by omega)
  refine pspec_of (md := 0) (rf := []) mixed tabOK noC_ok Tryz.func133 (by rfl) (by rfl) (by rfl) ?_
  repeat' ((conv => whnf); first | refine And.intro ?_ ?_ | with_reducible exact VC.mk rfl | exact Ok.mk | exact True.intro | refine Nx.mk ?_ | refine Fin.mk ?_ | intro _)
  all_goals ((try refine VC.mk ?_); (try simp only [CL.ncell, CL.cnt, vq] at *); (try omega))
  all_goals (first | (refine Sup.of ?_; first | rfl | (simp [*, resOf]; done)) | (refine Sup.via ?_; repeat' ((conv => whnf); first | refine And.intro ?_ ?_ | with_reducible exact VC.mk rfl | exact Ok.mk | exact True.intro | refine Nx.mk ?_ | refine Fin.mk ?_ | intro _); all_goals ((try refine VC.mk ?_); (try simp only [CL.ncell, CL.cnt, vq] at *); (try omega)); all_goals (try (simp [CL.sub]; done))))
theorem sub_spec (p a b : Int) (hp : 0 < p ∧ p ≤ 1000000000) (ha : 0 ≤ a ∧ a < p) (hb : 0 ≤ b ∧ b < p) : PSpec Tryz.prog 134 [.agg [.int .i64 p], .int .i64 a, .int .i64 b] (.int .i64 ((a - b) % p)) := by
  have e : (a - b) % p = (a - b + p) % p := by rw [Int.add_emod_right]
  rw [e]
  refine pspec_of (md := 0) (rf := []) mixed tabOK noC_ok Tryz.func134 (by rfl) (by rfl) (by rfl) ?_
  repeat' ((conv => whnf); first | refine And.intro ?_ ?_ | with_reducible exact VC.mk rfl | exact Ok.mk | exact True.intro | refine Nx.mk ?_ | refine Fin.mk ?_ | intro _)
  all_goals ((try refine VC.mk ?_); (try simp only [CL.ncell, CL.cnt, vq] at *); (try omega))
  all_goals (first | (refine Sup.of ?_; first | rfl | (simp [*, resOf]; done)) | (refine Sup.via ?_; repeat' ((conv => whnf); first | refine And.intro ?_ ?_ | with_reducible exact VC.mk rfl | exact Ok.mk | exact True.intro | refine Nx.mk ?_ | refine Fin.mk ?_ | intro _); all_goals ((try refine VC.mk ?_); (try simp only [CL.ncell, CL.cnt, vq] at *); (try omega)); all_goals (try (simp [CL.sub]; done))))
def rOfP : PSp := fun xs K => match xs with
  | [.agg [.int .i64 p], .int .i64 n] => VC (0 < p ∧ p ≤ 1000000000) ∧ K (.int .i64 (n % p))
  | _ => False
theorem rOf_ok : POK Tryz.prog 83 rOfP := by
  intro xs K h
  unfold rOfP at h
  split at h
  · exact ⟨_, h.2, of_spec _ _ h.1.get⟩
  · exact h.elim
def rIsZeroP : PSp := fun xs K => match xs with
  | [.agg [.int .i64 p], .int .i64 n] => VC (True) ∧ K (.bp (decide (n = 0)))
  | _ => False
theorem rIsZero_ok : POK Tryz.prog 132 rIsZeroP := by
  intro xs K h
  unfold rIsZeroP at h
  split at h
  · exact ⟨_, h.2, isZero_spec _ _⟩
  · exact h.elim
def rMulP : PSp := fun xs K => match xs with
  | [.agg [.int .i64 p], .int .i64 a, .int .i64 b] => VC ((0 < p ∧ p ≤ 1000000000) ∧ (0 ≤ a ∧ a < p) ∧ 0 ≤ b ∧ b < p) ∧ K (.int .i64 (a * b % p))
  | _ => False
theorem rMul_ok : POK Tryz.prog 133 rMulP := by
  intro xs K h
  unfold rMulP at h
  split at h
  · exact ⟨_, h.2, mul_spec _ _ _ h.1.get.1 h.1.get.2.1 h.1.get.2.2⟩
  · exact h.elim
def rSubP : PSp := fun xs K => match xs with
  | [.agg [.int .i64 p], .int .i64 a, .int .i64 b] => VC ((0 < p ∧ p ≤ 1000000000) ∧ (0 ≤ a ∧ a < p) ∧ 0 ≤ b ∧ b < p) ∧ K (.int .i64 ((a - b) % p))
  | _ => False
theorem rSub_ok : POK Tryz.prog 134 rSubP := by
  intro xs K h
  unfold rSubP at h
  split at h
  · exact ⟨_, h.2, sub_spec _ _ _ h.1.get.1 h.1.get.2.1 h.1.get.2.2⟩
  · exact h.elim
/-! the numbers modulo 3 -/
theorem isPrime3 : PSpec Tryz.prog 82 [.int .i64 3] (.bp true) := by
  refine pspec_of (md := 0) (rf := []) mixed tabOK noC_ok Tryz.func82 (by rfl) (by rfl) (by rfl) ?_
  repeat' ((conv => whnf); first | refine And.intro ?_ ?_ | with_reducible exact VC.mk rfl | exact Ok.mk | exact True.intro | refine Nx.mk ?_ | refine Fin.mk ?_ | (intro hq; (try simp only [decide_eq_true_eq, decide_eq_false_iff_not, Bool.not_eq_true, Bool.not_eq_false, Bool.not_eq_true', Bool.not_eq_false', Bool.not_true, Bool.not_false, ite_true, ite_false] at hq); (try (exfalso; first | exact absurd hq (by decide) | omega))))
  conv => whnf
  refine loop_rounds 2 (rounds_succ ⟨anyB_ok, mixed, tabOK, noC_ok, noY_ok⟩ (by rfl) ?_)
  repeat' ((conv => whnf); first | refine And.intro ?_ ?_ | with_reducible exact VC.mk rfl | exact Ok.mk | exact True.intro | refine Nx.mk ?_ | refine Fin.mk ?_ | (intro hq; (try simp only [decide_eq_true_eq, decide_eq_false_iff_not, Bool.not_eq_true, Bool.not_eq_false, Bool.not_eq_true', Bool.not_eq_false', Bool.not_true, Bool.not_false, ite_true, ite_false] at hq); (try (exfalso; first | exact absurd hq (by decide) | omega))))
  all_goals ((try refine VC.mk ?_); (try simp only [CL.ncell, CL.cnt, vq] at *); (try omega))
  all_goals (refine Sup.via ?_; repeat' ((conv => whnf); first | refine And.intro ?_ ?_ | with_reducible exact VC.mk rfl | exact Ok.mk | exact True.intro | refine Nx.mk ?_ | refine Fin.mk ?_ | intro _); all_goals ((try refine VC.mk ?_); (try simp only [CL.ncell, CL.cnt, vq] at *); (try omega)); all_goals (try (simp [CL.sub]; done)))
theorem inverse3 (a : Int) (ha : a = 1 ∨ a = 2) : PSpec Tryz.prog 135 [.int .i64 a, .int .i64 3] (.tup [.int .i64 a, .bp true]) := by
  rcases ha with rfl | rfl
  · skip
    refine pspec_of (md := 1) (rf := []) mixed tabOK noC_ok Tryz.func135 (by rfl) (by rfl) (by rfl) ?_
    repeat' ((conv => whnf); first | refine And.intro ?_ ?_ | with_reducible exact VC.mk rfl | exact Ok.mk | exact True.intro | refine Nx.mk ?_ | refine Fin.mk ?_ | (intro hq; (try simp only [decide_eq_true_eq, decide_eq_false_iff_not, Bool.not_eq_true, Bool.not_eq_false, Bool.not_eq_true', Bool.not_eq_false', Bool.not_true, Bool.not_false, ite_true, ite_false] at hq); (try (exfalso; first | exact absurd hq (by decide) | omega))))
    all_goals ((try refine VC.mk ?_); (try simp only [CL.ncell, CL.cnt, vq] at *); (try omega))
    · decide
    · decide
    conv => whnf
    refine loop_rounds 5 (rounds_succ ⟨anyB_ok, mixed, tabOK, noC_ok, noY_ok⟩ (by rfl) ?_)
    repeat' ((conv => whnf); first | refine And.intro ?_ ?_ | with_reducible exact VC.mk rfl | exact Ok.mk | exact True.intro | refine Nx.mk ?_ | refine Fin.mk ?_ | (intro hq; (try simp only [decide_eq_true_eq, decide_eq_false_iff_not, Bool.not_eq_true, Bool.not_eq_false, Bool.not_eq_true', Bool.not_eq_false', Bool.not_true, Bool.not_false, ite_true, ite_false] at hq); (try (exfalso; first | exact absurd hq (by decide) | omega))))
    all_goals ((try refine VC.mk ?_); (try simp only [CL.ncell, CL.cnt, vq] at *); (try omega))
    all_goals (first | decide | skip)
    conv => whnf
    refine rounds_succ ⟨anyB_ok, mixed, tabOK, noC_ok, noY_ok⟩ (by rfl) ?_
    repeat' ((conv => whnf); first | refine And.intro ?_ ?_ | with_reducible exact VC.mk rfl | exact Ok.mk | exact True.intro | refine Nx.mk ?_ | refine Fin.mk ?_ | (intro hq; (try simp only [decide_eq_true_eq, decide_eq_false_iff_not, Bool.not_eq_true, Bool.not_eq_false, Bool.not_eq_true', Bool.not_eq_false', Bool.not_true, Bool.not_false, ite_true, ite_false] at hq); (try (exfalso; first | exact absurd hq (by decide) | omega))))
    all_goals ((try refine VC.mk ?_); (try simp only [CL.ncell, CL.cnt, vq] at *); (try omega))
    all_goals (first | decide | skip)
    refine Sup.via ?_
    repeat' ((conv => whnf); first | refine And.intro ?_ ?_ | with_reducible exact VC.mk rfl | exact Ok.mk | exact True.intro | refine Nx.mk ?_ | refine Fin.mk ?_ | intro _)
    all_goals (refine VC.mk ?_; decide)
  · skip
    refine pspec_of (md := 1) (rf := []) mixed tabOK noC_ok Tryz.func135 (by rfl) (by rfl) (by rfl) ?_
    repeat' ((conv => whnf); first | refine And.intro ?_ ?_ | with_reducible exact VC.mk rfl | exact Ok.mk | exact True.intro | refine Nx.mk ?_ | refine Fin.mk ?_ | (intro hq; (try simp only [decide_eq_true_eq, decide_eq_false_iff_not, Bool.not_eq_true, Bool.not_eq_false, Bool.not_eq_true', Bool.not_eq_false', Bool.not_true, Bool.not_false, ite_true, ite_false] at hq); (try (exfalso; first | exact absurd hq (by decide) | omega))))
    all_goals ((try refine VC.mk ?_); (try simp only [CL.ncell, CL.cnt, vq] at *); (try omega))
    · decide
    · decide
    conv => whnf
    refine loop_rounds 5 (rounds_succ ⟨anyB_ok, mixed, tabOK, noC_ok, noY_ok⟩ (by rfl) ?_)
    repeat' ((conv => whnf); first | refine And.intro ?_ ?_ | with_reducible exact VC.mk rfl | exact Ok.mk | exact True.intro | refine Nx.mk ?_ | refine Fin.mk ?_ | (intro hq; (try simp only [decide_eq_true_eq, decide_eq_false_iff_not, Bool.not_eq_true, Bool.not_eq_false, Bool.not_eq_true', Bool.not_eq_false', Bool.not_true, Bool.not_false, ite_true, ite_false] at hq); (try (exfalso; first | exact absurd hq (by decide) | omega))))
    all_goals ((try refine VC.mk ?_); (try simp only [CL.ncell, CL.cnt, vq] at *); (try omega))
    all_goals (first | decide | skip)
    conv => whnf
    refine rounds_succ ⟨anyB_ok, mixed, tabOK, noC_ok, noY_ok⟩ (by rfl) ?_
    repeat' ((conv => whnf); first | refine And.intro ?_ ?_ | with_reducible exact VC.mk rfl | exact Ok.mk | exact True.intro | refine Nx.mk ?_ | refine Fin.mk ?_ | (intro hq; (try simp only [decide_eq_true_eq, decide_eq_false_iff_not, Bool.not_eq_true, Bool.not_eq_false, Bool.not_eq_true', Bool.not_eq_false', Bool.not_true, Bool.not_false, ite_true, ite_false] at hq); (try (exfalso; first | exact absurd hq (by decide) | omega))))
    all_goals ((try refine VC.mk ?_); (try simp only [CL.ncell, CL.cnt, vq] at *); (try omega))
    all_goals (first | decide | skip)
    conv => whnf
    refine rounds_succ ⟨anyB_ok, mixed, tabOK, noC_ok, noY_ok⟩ (by rfl) ?_
    repeat' ((conv => whnf); first | refine And.intro ?_ ?_ | with_reducible exact VC.mk rfl | exact Ok.mk | exact True.intro | refine Nx.mk ?_ | refine Fin.mk ?_ | (intro hq; (try simp only [decide_eq_true_eq, decide_eq_false_iff_not, Bool.not_eq_true, Bool.not_eq_false, Bool.not_eq_true', Bool.not_eq_false', Bool.not_true, Bool.not_false, ite_true, ite_false] at hq); (try (exfalso; first | exact absurd hq (by decide) | omega))))
    all_goals ((try refine VC.mk ?_); (try simp only [CL.ncell, CL.cnt, vq] at *); (try omega))
    all_goals (first | decide | skip)
    refine Sup.via ?_
    repeat' ((conv => whnf); first | refine And.intro ?_ ?_ | with_reducible exact VC.mk rfl | exact Ok.mk | exact True.intro | refine Nx.mk ?_ | refine Fin.mk ?_ | intro _)
    all_goals (refine VC.mk ?_; decide)
def rInvP : PSp := fun xs K => match xs with
  | [.agg [.int .i64 p], .int .i64 a] => VC (p = 3 ∧ 0 ≤ a ∧ a < 3 ∧ a ≠ 0) ∧ K (.int .i64 a)
  | _ => False
def inv3P : PSp := fun xs K => match xs with
  | [.int .i64 a, .int .i64 p] => VC (p = 3 ∧ (a = 1 ∨ a = 2)) ∧ K (.tup [.int .i64 a, .bp true])
  | _ => False
theorem inv3_ok : POK Tryz.prog 135 inv3P := by
  intro xs K h
  unfold inv3P at h
  split at h
  · obtain ⟨⟨rfl, h1⟩, h⟩ := h
    exact ⟨_, h, inverse3 _ h1⟩
  · exact h.elim
theorem rInv_spec (a : Int) (ha : a = 1 ∨ a = 2) : PSpec Tryz.prog 131 [.agg [.int .i64 3], .int .i64 a] (.int .i64 a) := by
  have hC := cpAdd_ok (pureCC_ok inv3_ok) noC_ok
  refine pspec_of (md := 1) (rf := []) mixed tabOK hC Tryz.func131 (by rfl) (by rfl) (by rfl) ?_
  repeat' ((conv => whnf); first | refine And.intro ?_ ?_ | with_reducible exact VC.mk rfl | exact Ok.mk | exact True.intro | refine Nx.mk ?_ | refine Fin.mk ?_ | intro _)
  all_goals ((try refine VC.mk ?_); (try simp only [CL.ncell, CL.cnt, vq] at *); (try omega))
  all_goals (first | (refine Sup.of ?_; first | rfl | (simp [*, resOf]; done)) | (refine Sup.via ?_; repeat' ((conv => whnf); first | refine And.intro ?_ ?_ | with_reducible exact VC.mk rfl | exact Ok.mk | exact True.intro | refine Nx.mk ?_ | refine Fin.mk ?_ | intro _); all_goals ((try refine VC.mk ?_); (try simp only [CL.ncell, CL.cnt, vq] at *); (try omega)); all_goals (try (simp [CL.sub]; done))))
theorem rInv_ok : POK Tryz.prog 131 rInvP := by
  intro xs K h
  unfold rInvP at h
  split at h
  · obtain ⟨⟨rfl, h1⟩, h⟩ := h
    exact ⟨_, h, rInv_spec _ (by omega)⟩
  · exact h.elim
end Go.Eng.YtppflbccfdbogaaGreat
namespace Go.Eng.YtppflbccfdbogaaGreat
open Go.Proofs
set_option maxRecDepth 100000
set_option maxHeartbeats 0
set_option linter.unusedVariables false
set_option linter.unusedSimpArgs false
/-- a matrix in its bounds, all of whose rows have some length -/
structure MatOK (m : List (List Int)) (w : Nat) : Prop where
  len : 1 ≤ m.length ∧ m.length ≤ 256
  wid : 1 ≤ w ∧ w ≤ 256
  rows : ∀ i, i < m.length → (m.getD i []).length = w
  nums : ∀ i, i < m.length → (m.getD i []).any (fun n => !isNum n) = false
noncomputable def cpSh : CPT := cpAdd 76 (pureCC c76P) (cpAdd 77 (pureCC aWhenP) (cpAdd 80 (pureCC aFirstP) noC))
theorem cpSh_ok : CPOK Tryz.prog cpSh := cpAdd_ok (pureCC_ok c76_ok) (cpAdd_ok (pureCC_ok aWhen_ok) (cpAdd_ok (pureCC_ok aFirst_ok) noC_ok))
theorem checkShape_spec (m : List (List Int)) (w : Nat) (h : MatOK m w) : PSpec Tryz.prog 81 [.isl (.rows .i64 m) .none, .fn (.func 76) [] []] (.int .i64 0) := by
  obtain ⟨h1, h2, h3, h4⟩ := h
  have h30 := h3 0 (by omega)
  refine pspec_of (md := 1) (rf := []) mixed tabOK cpSh_ok Tryz.func81 (by rfl) (by rfl) (by rfl) ?_
  repeat' ((conv => whnf); first | refine And.intro ?_ ?_ | with_reducible exact VC.mk rfl | exact Ok.mk | exact True.intro | refine Nx.mk ?_ | refine Fin.mk ?_ | intro _)
  all_goals ((try refine VC.mk ?_); (try simp only [CL.ncell, CL.cnt, vq] at *); (try omega))
  conv => whnf
  refine loop_of (X := Nat) (fun i => i ≤ m.length) (fun i => [(14, .int .i64 i)]) (fun _ => []) (fun i => m.length - i) 0 ⟨anyB_ok, mixed, tabOK, cpSh_ok, noY_ok⟩ (by rfl) (by omega) ?_ ?_
  · repeat' ((conv => whnf); first | refine And.intro ?_ ?_ | with_reducible exact VC.mk rfl | exact Ok.mk | exact True.intro | refine Nx.mk ?_ | refine Fin.mk ?_ | intro _)
    all_goals ((try refine VC.mk ?_); (try simp only [CL.ncell, CL.cnt, vq] at *); (try omega))
  · intro i hi
    by_cases hlt : i < m.length
    · have h3i := h3 i hlt
      have h4i := h4 i hlt
      repeat' ((conv => whnf); first | refine And.intro ?_ ?_ | with_reducible exact VC.mk rfl | exact Ok.mk | exact True.intro | refine Nx.mk ?_ | refine Fin.mk ?_ | intro _)
      all_goals ((try refine VC.mk ?_); (try simp only [CL.ncell, CL.cnt, vq] at *); (try omega))
      · exfalso
        rename_i hne
        apply hne
        rw [h3i, show Int.toNat 0 = 0 from rfl, h30, if_neg (by omega), if_neg (by simp)]
        rfl
      · exfalso
        rename_i hne
        apply hne
        rw [if_neg (by rw [h4i]; simp)]
      · refine ⟨i + 1, [], ⟨by omega, by omega⟩, ?_⟩
        repeat' ((conv => whnf); first | refine And.intro ?_ ?_ | with_reducible exact VC.mk rfl | exact Ok.mk | exact True.intro | refine Nx.mk ?_ | refine Fin.mk ?_ | intro _)
        all_goals ((try refine VC.mk ?_); (try simp only [CL.ncell, CL.cnt, vq] at *); (try omega))
    · repeat' ((conv => whnf); first | refine And.intro ?_ ?_ | with_reducible exact VC.mk rfl | exact Ok.mk | exact True.intro | refine Nx.mk ?_ | refine Fin.mk ?_ | intro _)
      all_goals ((try refine VC.mk ?_); (try simp only [CL.ncell, CL.cnt, vq] at *); (try omega))
      all_goals (first | (refine Sup.of ?_; first | rfl | (simp [*, resOf]; done)) | (refine Sup.via ?_; repeat' ((conv => whnf); first | refine And.intro ?_ ?_ | with_reducible exact VC.mk rfl | exact Ok.mk | exact True.intro | refine Nx.mk ?_ | refine Fin.mk ?_ | intro _); all_goals ((try refine VC.mk ?_); (try simp only [CL.ncell, CL.cnt, vq] at *); (try omega)); all_goals (try (simp [CL.sub]; done))))
def shapeP (m : List (List Int)) : PSp := fun xs K => match xs with
  | [.isl (.rows .i64 l) .none, .fn (.func f) fs cs] => VC (l = m ∧ f = 76 ∧ fs = [] ∧ cs = []) ∧ K (.int .i64 0)
  | _ => False
theorem shape_ok {m : List (List Int)} {w : Nat} (h : MatOK m w) : POK Tryz.prog 81 (shapeP m) := by
  intro xs K hk
  unfold shapeP at hk
  split at hk
  · obtain ⟨⟨rfl, rfl, rfl, rfl⟩, hk⟩ := hk
    exact ⟨_, hk, checkShape_spec _ w h⟩
  · exact hk.elim
def prime3P : PSp := fun xs K => match xs with
  | [.int .i64 p] => VC (p = 3) ∧ K (.bp true)
  | _ => False
theorem prime3_ok : POK Tryz.prog 82 prime3P := by
  intro xs K h
  unfold prime3P at h
  split at h
  · obtain ⟨⟨rfl⟩, h⟩ := h
    exact ⟨_, h, isPrime3⟩
  · exact h.elim
/-- a row's list -/
def matL (w : Nat) (f : Nat → Int) : List Int := (List.range w).map f
theorem matL_len (w : Nat) (f : Nat → Int) : (matL w f).length = w := by simp [matL]
theorem matL_get {w : Nat} (f : Nat → Int) {j : Nat} (h : j < w) : (matL w f).getD j 0 = f j := by
  simp [matL, List.getD_eq_getElem?_getD, List.getElem?_range h]
theorem matL_set {w : Nat} (f : Nat → Int) (k : Nat) (v : Int) : (matL w f).set k v = matL w (fun j => if j = k then v else f j) := by
  apply List.ext_getElem
  · simp [matL]
  · intro j h1 h2
    simp only [matL, List.length_set, List.length_map, List.length_range] at h1
    rw [List.getElem_set]
    simp only [matL, List.getElem_map, List.getElem_range]
    by_cases e : k = j
    · subst e; simp
    · rw [if_neg e, if_neg (fun h => e h.symm)]
theorem matL_congr {w : Nat} {f g : Nat → Int} (h : ∀ j, j < w → f j = g j) : matL w f = matL w g := by
  unfold matL
  exact List.map_congr_left (fun j hj => h j (List.mem_range.1 hj))
abbrev Mat := Nat → Nat → Int
/-- a matrix of residues -/
def resM (m : List (List Int)) : Mat := fun r j => (m.getD r []).getD j 0 % 3
/-- a row of residues -/
def resRow (m : List (List Int)) (i : Nat) : List Int := (m.getD i []).map (· % 3)
theorem resRow_row (m : List (List Int)) {w r : Nat} (h : (m.getD r []).length = w) : resRow m r = matL w (resM m r) := by
  unfold resRow matL resM
  generalize m.getD r [] = row at *
  subst h
  apply List.ext_getElem
  · simp
  · intro j h1 h2
    have h3 : j < row.length := by simpa using h1
    simp only [List.getElem_map, List.getElem_range]
    rw [List.getD_eq_getElem?_getD, List.getElem?_eq_getElem h3]
    rfl
theorem take_map_succ (l : List Int) (k : Nat) (h : k < l.length) : (l.take (k + 1)).map (· % 3) = (l.take k).map (· % 3) ++ [l.getD k 0 % 3] := by
  rw [List.take_add_one, List.getD_eq_getElem?_getD, List.getElem?_eq_getElem h, List.map_append]; rfl
theorem modulo_spec (m : List (List Int)) (w : Nat) (h : MatOK m w) : LSpec Tryz.prog 48 [.isl (.rows .i64 m) .none, .int .i64 3] [] [.rsl 0 0 m.length, .agg [.int .i64 3], .int .i64 0] [.pmat m.length (.ints .i64 (fun r => matL w (resM m r)))] := by
  have hC := cpAdd_ok (viewCC_ok (shape_ok h)) (cpAdd_ok (pureCC_ok prime3_ok) (cpAdd_ok (pureCC_ok aWhen_ok) (cpAdd_ok (pureCC_ok aFirst_ok) (cpAdd_ok (pureCC_ok rOf_ok) noC_ok))))
  obtain ⟨h1, h2, h3, h4⟩ := h
  refine lspec_of (md := 1) (rf := [56, 60, 61]) mixed tabOK hC 0 [(2, 0)] Tryz.func48 (by rfl) (by rfl) (by rfl) ?_
  repeat' ((conv => whnf); first | refine And.intro ?_ ?_ | with_reducible exact VC.mk rfl | exact Ok.mk | exact True.intro | refine Nx.mk ?_ | refine Fin.mk ?_ | (intro hq; (try simp only [decide_eq_true_eq, decide_eq_false_iff_not, Bool.not_eq_true, Bool.not_eq_false, Bool.not_eq_true', Bool.not_eq_false', Bool.not_true, Bool.not_false, ite_true, ite_false] at hq); (try (exfalso; first | exact absurd hq (by decide) | omega))))
  all_goals ((try refine VC.mk ?_); (try simp only [CL.ncell, CL.cnt, vq] at *); (try omega))
  conv => whnf
  refine loop_of1 (X := Nat) (fun i => 1 ≤ i ∧ i ≤ m.length) (fun i => [(41, .int .i64 i), (10, .rsl 2 0 i)]) (fun i => [(2, .pmat i (.ints .i64 (resRow m)))]) (fun i => m.length - i) m.length ⟨anyB_ok, mixed, tabOK, hC, noY_ok⟩ (by rfl) ?_ ?_
  · have hrl : (m.getD (Int.toNat 0) []).length = w := h3 0 (by omega)
    repeat' ((conv => whnf); first | refine And.intro ?_ ?_ | with_reducible exact VC.mk rfl | exact Ok.mk | exact True.intro | refine Nx.mk ?_ | refine Fin.mk ?_ | (intro hq; (try simp only [decide_eq_true_eq, decide_eq_false_iff_not, Bool.not_eq_true, Bool.not_eq_false, Bool.not_eq_true', Bool.not_eq_false', Bool.not_true, Bool.not_false, ite_true, ite_false] at hq); (try (exfalso; first | exact absurd hq (by decide) | omega))))
    all_goals ((try refine VC.mk ?_); (try simp only [CL.ncell, CL.cnt, vq] at *); (try omega))
    conv => whnf
    refine loop_of1 (X := Nat) (fun k => 1 ≤ k ∧ k ≤ w) (fun k => [(47, .int .i64 k), (13, .rsl 3 0 k)]) (fun k => [(3, .cells (.ints .i64 (((m.getD (Int.toNat 0) []).take k).map (· % 3))) false)]) (fun k => w - k) w ⟨anyB_ok, mixed, tabOK, hC, noY_ok⟩ (by rfl) ?_ ?_
    · repeat' ((conv => whnf); first | refine And.intro ?_ ?_ | with_reducible exact VC.mk rfl | exact Ok.mk | exact True.intro | refine Nx.mk ?_ | refine Fin.mk ?_ | (intro hq; (try simp only [decide_eq_true_eq, decide_eq_false_iff_not, Bool.not_eq_true, Bool.not_eq_false, Bool.not_eq_true', Bool.not_eq_false', Bool.not_true, Bool.not_false, ite_true, ite_false] at hq); (try (exfalso; first | exact absurd hq (by decide) | omega))))
      all_goals ((try refine VC.mk ?_); (try simp only [CL.ncell, CL.cnt, vq] at *); (try omega))
      refine ⟨1, [(24, 3)], ⟨by omega, by omega⟩, ?_⟩
      repeat' ((conv => whnf); first | refine And.intro ?_ ?_ | with_reducible exact VC.mk rfl | exact Ok.mk | exact True.intro | refine Nx.mk ?_ | refine Fin.mk ?_ | intro _)
      all_goals ((try refine VC.mk ?_); (try simp only [CL.ncell, CL.cnt, vq] at *); (try omega))
      all_goals (try exact fun _ _ => trivial)
      rw [take_map_succ _ 0 (by omega)]; rfl
    · intro k hk
      have hlen : (((m.getD (Int.toNat 0) []).take k).map (· % 3)).length = k := by rw [List.length_map, List.length_take]; omega
      by_cases hkw : k < w
      · have hts := take_map_succ (m.getD (Int.toNat 0) []) k (by omega)
        repeat' ((conv => whnf); first | refine And.intro ?_ ?_ | with_reducible exact VC.mk rfl | exact Ok.mk | exact True.intro | refine Nx.mk ?_ | refine Fin.mk ?_ | (intro hq; (try simp only [decide_eq_true_eq, decide_eq_false_iff_not, Bool.not_eq_true, Bool.not_eq_false, Bool.not_eq_true', Bool.not_eq_false', Bool.not_true, Bool.not_false, ite_true, ite_false] at hq); (try (exfalso; first | exact absurd hq (by decide) | omega))))
        all_goals ((try refine VC.mk ?_); (try simp only [CL.ncell, CL.cnt, vq] at *); (try omega))
        refine ⟨k + 1, [(24, 3)], ⟨by omega, by omega⟩, ?_⟩
        repeat' ((conv => whnf); first | refine And.intro ?_ ?_ | with_reducible exact VC.mk rfl | exact Ok.mk | exact True.intro | refine Nx.mk ?_ | refine Fin.mk ?_ | intro _)
        all_goals ((try refine VC.mk ?_); (try simp only [CL.ncell, CL.cnt, vq] at *); (try omega))
        all_goals (try exact fun _ _ => trivial)
        rw [hts, Nat.sub_zero, List.drop_zero, List.take_of_length_le (by omega)]
      · have hkk : k = w := by omega
        repeat' ((conv => whnf); first | refine And.intro ?_ ?_ | with_reducible exact VC.mk rfl | exact Ok.mk | exact True.intro | refine Nx.mk ?_ | refine Fin.mk ?_ | (intro hq; (try simp only [decide_eq_true_eq, decide_eq_false_iff_not, Bool.not_eq_true, Bool.not_eq_false, Bool.not_eq_true', Bool.not_eq_false', Bool.not_true, Bool.not_false, ite_true, ite_false] at hq); (try (exfalso; first | exact absurd hq (by decide) | omega))))
        all_goals ((try refine VC.mk ?_); (try simp only [CL.ncell, CL.cnt, vq] at *); (try omega))
        refine ⟨1, [(26, 2)], ⟨by omega, by omega⟩, ?_⟩
        repeat' ((conv => whnf); first | refine And.intro ?_ ?_ | with_reducible exact VC.mk rfl | exact Ok.mk | exact True.intro | refine Nx.mk ?_ | refine Fin.mk ?_ | intro _)
        all_goals ((try refine VC.mk ?_); (try simp only [CL.ncell, CL.cnt, vq] at *); (try omega))
        all_goals (try exact fun _ _ => trivial)
        intro j hj
        rw [List.take_of_length_le (by omega)]
        (rw [show j = 0 by omega]; rfl)
  · intro i hi
    by_cases hlt : i < m.length
    · have hrl : (m.getD i []).length = w := h3 i hlt
      repeat' ((conv => whnf); first | refine And.intro ?_ ?_ | with_reducible exact VC.mk rfl | exact Ok.mk | exact True.intro | refine Nx.mk ?_ | refine Fin.mk ?_ | (intro hq; (try simp only [decide_eq_true_eq, decide_eq_false_iff_not, Bool.not_eq_true, Bool.not_eq_false, Bool.not_eq_true', Bool.not_eq_false', Bool.not_true, Bool.not_false, ite_true, ite_false] at hq); (try (exfalso; first | exact absurd hq (by decide) | omega))))
      all_goals ((try refine VC.mk ?_); (try simp only [CL.ncell, CL.cnt, vq] at *); (try omega))
      conv => whnf
      refine loop_of1 (X := Nat) (fun k => 1 ≤ k ∧ k ≤ w) (fun k => [(47, .int .i64 k), (13, .rsl 3 0 k)]) (fun k => [(3, .cells (.ints .i64 (((m.getD i []).take k).map (· % 3))) false)]) (fun k => w - k) w ⟨anyB_ok, mixed, tabOK, hC, noY_ok⟩ (by rfl) ?_ ?_
      · repeat' ((conv => whnf); first | refine And.intro ?_ ?_ | with_reducible exact VC.mk rfl | exact Ok.mk | exact True.intro | refine Nx.mk ?_ | refine Fin.mk ?_ | (intro hq; (try simp only [decide_eq_true_eq, decide_eq_false_iff_not, Bool.not_eq_true, Bool.not_eq_false, Bool.not_eq_true', Bool.not_eq_false', Bool.not_true, Bool.not_false, ite_true, ite_false] at hq); (try (exfalso; first | exact absurd hq (by decide) | omega))))
        all_goals ((try refine VC.mk ?_); (try simp only [CL.ncell, CL.cnt, vq] at *); (try omega))
        refine ⟨1, [(24, 3)], ⟨by omega, by omega⟩, ?_⟩
        repeat' ((conv => whnf); first | refine And.intro ?_ ?_ | with_reducible exact VC.mk rfl | exact Ok.mk | exact True.intro | refine Nx.mk ?_ | refine Fin.mk ?_ | intro _)
        all_goals ((try refine VC.mk ?_); (try simp only [CL.ncell, CL.cnt, vq] at *); (try omega))
        all_goals (try exact fun _ _ => trivial)
        rw [take_map_succ _ 0 (by omega)]; rfl
      · intro k hk
        have hlen : (((m.getD i []).take k).map (· % 3)).length = k := by rw [List.length_map, List.length_take]; omega
        by_cases hkw : k < w
        · have hts := take_map_succ (m.getD i []) k (by omega)
          repeat' ((conv => whnf); first | refine And.intro ?_ ?_ | with_reducible exact VC.mk rfl | exact Ok.mk | exact True.intro | refine Nx.mk ?_ | refine Fin.mk ?_ | (intro hq; (try simp only [decide_eq_true_eq, decide_eq_false_iff_not, Bool.not_eq_true, Bool.not_eq_false, Bool.not_eq_true', Bool.not_eq_false', Bool.not_true, Bool.not_false, ite_true, ite_false] at hq); (try (exfalso; first | exact absurd hq (by decide) | omega))))
          all_goals ((try refine VC.mk ?_); (try simp only [CL.ncell, CL.cnt, vq] at *); (try omega))
          refine ⟨k + 1, [(24, 3)], ⟨by omega, by omega⟩, ?_⟩
          repeat' ((conv => whnf); first | refine And.intro ?_ ?_ | with_reducible exact VC.mk rfl | exact Ok.mk | exact True.intro | refine Nx.mk ?_ | refine Fin.mk ?_ | intro _)
          all_goals ((try refine VC.mk ?_); (try simp only [CL.ncell, CL.cnt, vq] at *); (try omega))
          all_goals (try exact fun _ _ => trivial)
          rw [hts, Nat.sub_zero, List.drop_zero, List.take_of_length_le (by omega)]
        · have hkk : k = w := by omega
          repeat' ((conv => whnf); first | refine And.intro ?_ ?_ | with_reducible exact VC.mk rfl | exact Ok.mk | exact True.intro | refine Nx.mk ?_ | refine Fin.mk ?_ | (intro hq; (try simp only [decide_eq_true_eq, decide_eq_false_iff_not, Bool.not_eq_true, Bool.not_eq_false, Bool.not_eq_true', Bool.not_eq_false', Bool.not_true, Bool.not_false, ite_true, ite_false] at hq); (try (exfalso; first | exact absurd hq (by decide) | omega))))
          all_goals ((try refine VC.mk ?_); (try simp only [CL.ncell, CL.cnt, vq] at *); (try omega))
          refine ⟨(i + 1), [(26, 2)], ⟨by omega, by omega⟩, ?_⟩
          repeat' ((conv => whnf); first | refine And.intro ?_ ?_ | with_reducible exact VC.mk rfl | exact Ok.mk | exact True.intro | refine Nx.mk ?_ | refine Fin.mk ?_ | intro _)
          all_goals ((try refine VC.mk ?_); (try simp only [CL.ncell, CL.cnt, vq] at *); (try omega))
          all_goals (try exact fun _ _ => trivial)
          intro j hj
          rw [List.take_of_length_le (by omega)]
          (split; rfl; (rw [show j = i by omega]; rfl))
    · have him : i = m.length := by omega
      repeat' ((conv => whnf); first | refine And.intro ?_ ?_ | with_reducible exact VC.mk rfl | exact Ok.mk | exact True.intro | refine Nx.mk ?_ | refine Fin.mk ?_ | (intro hq; (try simp only [decide_eq_true_eq, decide_eq_false_iff_not, Bool.not_eq_true, Bool.not_eq_false, Bool.not_eq_true', Bool.not_eq_false', Bool.not_true, Bool.not_false, ite_true, ite_false] at hq); (try (exfalso; first | exact absurd hq (by decide) | omega))))
      all_goals ((try refine VC.mk ?_); (try simp only [CL.ncell, CL.cnt, vq] at *); (try omega))
      conv => whnf
      repeat' ((conv => whnf); first | refine And.intro ?_ ?_ | with_reducible exact VC.mk rfl | exact Ok.mk | exact True.intro | refine Nx.mk ?_ | refine Fin.mk ?_ | intro _)
      all_goals ((try refine VC.mk ?_); (try simp only [CL.ncell, CL.cnt, vq] at *); (try omega))
      rename_i r hr
      exact resRow_row m (h3 _ hr)
end Go.Eng.YtppflbccfdbogaaGreat
namespace Go.Eng.YtppflbccfdbogaaGreat
open Go.Proofs
set_option maxRecDepth 100000
set_option maxHeartbeats 0
set_option linter.unusedVariables false
set_option linter.unusedSimpArgs false
theorem te24s : te24.size = 1 := rfl
theorem width_spec {n w : Nat} {c : Nat → List Int} (hn : 1 ≤ n) (hw : ∀ i, i < n → (c i).length = w) : LSpec Tryz.prog 50 [.rsl 0 0 n] [.pmat n (.ints .i64 c)] [.int .i64 (w : Int)] [.pmat n (.ints .i64 c)] := by
  refine lspec_open_ints (pre := []) (post := []) (enters' Tryz.func50 (by rfl) (by rfl)) fun l c' hl hnd hc => ?_
  have h0 : (c' (l.getD 0 0)).length = w := by rw [hc 0 (by omega)]; exact hw 0 (by omega)
  refine lspec_of (md := 1) (rf := []) mixed tabOK noC_ok 0 [] Tryz.func50 (by rfl) (by rfl) (by rfl) ?_
  repeat' ((conv => whnf); first | refine And.intro ?_ ?_ | with_reducible exact VC.mk rfl | exact Ok.mk | exact True.intro | refine Nx.mk ?_ | refine Fin.mk ?_ | (intro hq; (try simp only [decide_eq_true_eq, decide_eq_false_iff_not, Bool.not_eq_true, Bool.not_eq_false, Bool.not_eq_true', Bool.not_eq_false', Bool.not_true, Bool.not_false, ite_true, ite_false] at hq); (try (exfalso; first | exact absurd hq (by decide) | omega))))
  all_goals ((try refine VC.mk ?_); (try simp only [CL.ncell, CL.cnt, vq] at *); (try omega))
  all_goals (try simp only [te24s, Nat.mul_one, Int.toNat_zero])
  · omega
  · rw [h0]
  · exact ⟨hl, hnd, fun _ h => h⟩
end Go.Eng.YtppflbccfdbogaaGreat
namespace Go.Eng.YtppflbccfdbogaaGreat
open Go.Proofs
set_option maxRecDepth 100000
set_option maxHeartbeats 0
set_option linter.unusedVariables false
set_option linter.unusedSimpArgs false
/-- the first row from n on that is not 0 in a column, or the number of rows -/
def findAt (M : Mat) (c n m : Nat) : Nat := match (List.range m).find? (fun r => decide (n ≤ r) && decide (M r c ≠ 0)) with
  | some r => r
  | none => m
theorem findAt_lt {M : Mat} {c n m : Nat} (h : findAt M c n m < m) : n ≤ findAt M c n m ∧ M (findAt M c n m) c ≠ 0 := by
  unfold findAt at h ⊢
  cases e : (List.range m).find? (fun r => decide (n ≤ r) && decide (M r c ≠ 0)) with
  | none => rw [e] at h; simp at h
  | some r =>
    have := List.find?_some e
    simpa using this
theorem findAt_le (M : Mat) (c n m : Nat) : findAt M c n m ≤ m := by
  unfold findAt
  cases e : (List.range m).find? (fun r => decide (n ≤ r) && decide (M r c ≠ 0)) with
  | none => exact Nat.le_refl _
  | some r => have := List.mem_of_find?_eq_some e; simp at this; exact Nat.le_of_lt this
theorem findAt_is {M : Mat} {c n m a : Nat} (ha : a < m) (hn : n ≤ a) (h0 : M a c ≠ 0) (hz : ∀ r, n ≤ r → r < a → M r c = 0) : findAt M c n m = a := by
  unfold findAt
  rw [find_some ha (by simp [hn, h0]) (fun i hi => by
    by_cases h : n ≤ i
    · simp [hz i h hi]
    · simp [h])]
theorem findAt_none {M : Mat} {c n m : Nat} (hz : ∀ r, n ≤ r → r < m → M r c = 0) : findAt M c n m = m := by
  unfold findAt
  rw [find_none (fun i hi => by
    by_cases h : n ≤ i
    · simp [hz i h hi]
    · simp [h])]
def swapM (M : Mat) (n a : Nat) : Mat := fun r => if r = n then M a else if r = a then M n else M r
def scaleM (M : Mat) (n : Nat) (s : Int) : Mat := fun r => if r = n then (fun j => M n j * s % 3) else M r
def clearM (M : Mat) (n c : Nat) : Mat := fun r => if r = n then M n else (fun j => (M r j - M r c * M n j % 3) % 3)
structure ES where
  M : Mat
  piv : List Int
  heads : List Int
  odd : Bool
def stepE (m : Nat) (s : ES) (c : Nat) : ES :=
  if findAt s.M c s.piv.length m = m then s else
    { M := clearM (scaleM (swapM s.M s.piv.length (findAt s.M c s.piv.length m)) s.piv.length (swapM s.M s.piv.length (findAt s.M c s.piv.length m) s.piv.length c)) s.piv.length c
      piv := s.piv ++ [(c : Int)]
      heads := s.heads ++ [swapM s.M s.piv.length (findAt s.M c s.piv.length m) s.piv.length c]
      odd := s.odd != (decide ((s.piv.length : Int) ≠ (findAt s.M c s.piv.length m : Nat))) }
def elimE (m : Nat) (M : Mat) : Nat → ES
  | 0 => ⟨M, [], [], false⟩
  | c + 1 => stepE m (elimE m M c) c
/-- entries modulo 3 -/
def In3 (m w : Nat) (M : Mat) : Prop := ∀ r, r < m → ∀ j, j < w → 0 ≤ M r j ∧ M r j < 3
theorem in3_swap {m w : Nat} {M : Mat} {n a : Nat} (h : In3 m w M) (hn : n < m) (ha : a < m) : In3 m w (swapM M n a) := fun r hr j hj => by
  unfold swapM
  split
  · exact h a ha j hj
  · split
    · exact h n hn j hj
    · exact h r hr j hj
theorem in3_mod (x : Int) : 0 ≤ x % 3 ∧ x % 3 < 3 := ⟨Int.emod_nonneg _ (by decide), Int.emod_lt_of_pos _ (by decide)⟩
theorem in3_scale {m w : Nat} {M : Mat} {n : Nat} {s : Int} (h : In3 m w M) : In3 m w (scaleM M n s) := fun r hr j hj => by
  unfold scaleM
  split
  · exact in3_mod _
  · exact h r hr j hj
theorem in3_clear {m w : Nat} {M : Mat} {n c : Nat} (h : In3 m w M) : In3 m w (clearM M n c) := fun r hr j hj => by
  unfold clearM
  split
  · rename_i e; subst e; exact h r hr j hj
  · exact in3_mod _
theorem elimE_in3 {m w : Nat} {M : Mat} (h : In3 m w M) (c : Nat) : In3 m w (elimE m M c).M ∧ (elimE m M c).piv.length ≤ m ∧ (elimE m M c).piv.length ≤ c := by
  induction c with
  | zero => exact ⟨h, Nat.zero_le _, Nat.zero_le _⟩
  | succ c ih =>
    obtain ⟨i1, i2, i3⟩ := ih
    rw [elimE, stepE]
    split
    · exact ⟨i1, i2, by omega⟩
    · rename_i hne
      have hle := findAt_le (elimE m M c).M c (elimE m M c).piv.length m
      have hlt : findAt (elimE m M c).M c (elimE m M c).piv.length m < m := by omega
      have hp := (findAt_lt hlt).1
      refine ⟨in3_clear (in3_scale (in3_swap i1 (by omega) hlt)), ?_, ?_⟩
      · simp only [List.length_append, List.length_cons, List.length_nil]; omega
      · simp only [List.length_append, List.length_cons, List.length_nil]; omega
theorem elimE_heads (m : Nat) (M : Mat) (c : Nat) : (elimE m M c).heads.length = (elimE m M c).piv.length := by
  induction c with
  | zero => rfl
  | succ c ih =>
    rw [elimE, stepE]
    split
    · exact ih
    · simp only [List.length_append, List.length_cons, List.length_nil, ih]
/-- an order with two places exchanged -/
def swl (l : List Nat) (n a : Nat) : List Nat := (l.set n (l.getD a 0)).set a (l.getD n 0)
theorem swl_get {l : List Nat} {n a r : Nat} (hn : n < l.length) (ha : a < l.length) : (swl l n a).getD r 0 = if r = n then l.getD a 0 else if r = a then l.getD n 0 else l.getD r 0 := by
  unfold swl
  rw [List.getD_eq_getElem?_getD, List.getElem?_set, List.getElem?_set]
  simp only [List.length_set]
  by_cases h1 : a = r
  · subst h1
    rw [if_pos rfl, if_pos ha]
    by_cases h2 : a = n
    · subst h2; rw [if_pos rfl]; rfl
    · rw [if_neg h2, if_pos rfl]; rfl
  · rw [if_neg h1]
    by_cases h2 : n = r
    · subst h2; rw [if_pos rfl, if_pos hn, if_pos rfl]; rfl
    · rw [if_neg h2, if_neg (fun h => h2 h.symm), if_neg (fun h => h1 h.symm), List.getD_eq_getElem?_getD]
theorem nodup_get {l : List Nat} : l.Nodup ↔ ∀ i j, i < l.length → j < l.length → l.getD i 0 = l.getD j 0 → i = j := by
  have hg : ∀ i, (h : i < l.length) → l.getD i 0 = l[i] := fun i h => by rw [List.getD_eq_getElem?_getD, List.getElem?_eq_getElem h]; rfl
  rw [List.Nodup, List.pairwise_iff_getElem]
  constructor
  · intro h i j hi hj e
    rw [hg i hi, hg j hj] at e
    rcases Nat.lt_trichotomy i j with h1 | h1 | h1
    · exact absurd e (h i j hi hj h1)
    · exact h1
    · exact absurd e.symm (h j i hj hi h1)
  · intro h i j hi hj hij e
    rw [← hg i hi, ← hg j hj] at e
    have := h i j hi hj e
    omega
def sgw (n a r : Nat) : Nat := if r = n then a else if r = a then n else r
theorem swl_get' {l : List Nat} {n a r : Nat} (hn : n < l.length) (ha : a < l.length) : (swl l n a).getD r 0 = l.getD (sgw n a r) 0 := by
  rw [swl_get hn ha]
  unfold sgw
  by_cases h1 : r = n
  · rw [if_pos h1, if_pos h1]
  · rw [if_neg h1, if_neg h1]
    by_cases h2 : r = a
    · rw [if_pos h2, if_pos h2]
    · rw [if_neg h2, if_neg h2]
theorem sgw_lt {n a r m : Nat} (hn : n < m) (ha : a < m) (hr : r < m) : sgw n a r < m := by
  unfold sgw; split
  · exact ha
  · split
    · exact hn
    · exact hr
theorem sgw_inj {n a i j : Nat} (h : sgw n a i = sgw n a j) : i = j := by
  unfold sgw at h
  by_cases h1 : i = n
  · rw [if_pos h1] at h
    by_cases h2 : j = n
    · omega
    · rw [if_neg h2] at h
      by_cases h3 : j = a
      · rw [if_pos h3] at h; omega
      · rw [if_neg h3] at h; omega
  · rw [if_neg h1] at h
    by_cases h4 : i = a
    · rw [if_pos h4] at h
      by_cases h2 : j = n
      · rw [if_pos h2] at h; omega
      · rw [if_neg h2] at h
        by_cases h3 : j = a
        · omega
        · rw [if_neg h3] at h; omega
    · rw [if_neg h4] at h
      by_cases h2 : j = n
      · rw [if_pos h2] at h; omega
      · rw [if_neg h2] at h
        by_cases h3 : j = a
        · rw [if_pos h3] at h; omega
        · rw [if_neg h3] at h; exact h
theorem swl_nodup {l : List Nat} {n a : Nat} (hn : n < l.length) (ha : a < l.length) (h : l.Nodup) : (swl l n a).Nodup := by
  rw [nodup_get] at h ⊢
  have hl : (swl l n a).length = l.length := by simp [swl]
  rw [hl]
  intro i j hi hj e
  rw [swl_get' hn ha, swl_get' hn ha] at e
  exact sgw_inj (h _ _ (sgw_lt hn ha hi) (sgw_lt hn ha hj) e)
theorem swl_mem {l : List Nat} {n a b : Nat} (hn : n < l.length) (ha : a < l.length) (h : b ∈ l) : b ∈ swl l n a := by
  have hl : (swl l n a).length = l.length := by simp [swl]
  obtain ⟨i, hi, rfl⟩ := List.getElem_of_mem h
  have key : ∀ r, r < l.length → (swl l n a).getD r 0 ∈ swl l n a := fun r hr => by
    rw [List.getD_eq_getElem?_getD, List.getElem?_eq_getElem (by omega)]; exact List.getElem_mem _
  have hg : l.getD i 0 = l[i] := by rw [List.getD_eq_getElem?_getD, List.getElem?_eq_getElem hi]; rfl
  by_cases h1 : i = n
  · have := key a ha
    rw [swl_get hn ha] at this
    subst h1
    split at this
    · rename_i e; subst e; rw [← hg]; exact this
    · rw [if_pos rfl] at this; rw [← hg]; exact this
  · by_cases h2 : i = a
    · have := key n hn
      rw [swl_get hn ha, if_pos rfl] at this
      subst h2; rw [← hg]; exact this
    · have := key i hi
      rw [swl_get hn ha, if_neg h1, if_neg h2] at this
      rw [← hg]; exact this
end Go.Eng.YtppflbccfdbogaaGreat
namespace Go.Eng.YtppflbccfdbogaaGreat
open Go.Proofs
set_option maxRecDepth 100000
set_option maxHeartbeats 0
set_option linter.unusedVariables false
set_option linter.unusedSimpArgs false
def dot4 (f x : Nat → Int) : Int := f 0 * x 0 + f 1 * x 1 + f 2 * x 2 + f 3 * x 3
/-- the solutions modulo 3 -/
def Ker (M : Mat) (x : Nat → Int) : Prop := ∀ r, r < 4 → dot4 (M r) x % 3 = 0
theorem mod_mul (a x : Int) : a % 3 * x = a * x - 3 * (a / 3 * x) := by
  have h : a % 3 = a - 3 * (a / 3) := by omega
  rw [h, Int.sub_mul, Int.mul_assoc]
theorem dot_mod (f x : Nat → Int) : dot4 (fun j => f j % 3) x % 3 = dot4 f x % 3 := by
  unfold dot4
  rw [mod_mul, mod_mul, mod_mul, mod_mul]
  omega
theorem dot_scale (f x : Nat → Int) (s : Int) : dot4 (fun j => f j * s % 3) x % 3 = (s * dot4 f x) % 3 := by
  rw [dot_mod (fun j => f j * s) x]
  congr 1
  unfold dot4
  simp only [Int.mul_add]
  simp only [Int.mul_comm, Int.mul_left_comm]
theorem dot_clear (f g x : Nat → Int) (q : Int) : dot4 (fun j => (f j - q * g j % 3) % 3) x % 3 = (dot4 f x - q * dot4 g x) % 3 := by
  rw [dot_mod (fun j => f j - q * g j % 3) x]
  unfold dot4
  simp only [Int.sub_mul, mod_mul, Int.mul_add]
  simp only [Int.mul_assoc]
  omega
theorem ker_swap {M : Mat} {n a : Nat} (hn : n < 4) (ha : a < 4) (x : Nat → Int) : Ker (swapM M n a) x ↔ Ker M x := by
  unfold Ker swapM
  constructor
  · intro h r hr
    by_cases h1 : r = n
    · subst h1
      have := h a ha
      by_cases h2 : a = r
      · subst h2; rwa [if_pos rfl] at this
      · rwa [if_neg h2, if_pos rfl] at this
    · by_cases h2 : r = a
      · subst h2
        have := h n hn
        rwa [if_pos rfl] at this
      · have := h r hr
        rwa [if_neg h1, if_neg h2] at this
  · intro h r hr
    split
    · exact h a ha
    · split
      · exact h n hn
      · exact h r hr
theorem ker_scale {M : Mat} {n : Nat} {s : Int} (hn : n < 4) (hs : s = 1 ∨ s = 2) (x : Nat → Int) : Ker (scaleM M n s) x ↔ Ker M x := by
  unfold Ker scaleM
  have key : dot4 (fun j => M n j * s % 3) x % 3 = 0 ↔ dot4 (M n) x % 3 = 0 := by
    rw [dot_scale]
    rcases hs with rfl | rfl <;> omega
  constructor
  · intro h r hr
    have := h r hr
    by_cases h1 : r = n
    · subst h1; rw [if_pos rfl] at this; exact key.1 this
    · rwa [if_neg h1] at this
  · intro h r hr
    split
    · exact key.2 (h n hn)
    · exact h r hr
theorem ker_clear {M : Mat} {n c : Nat} (hn : n < 4) (x : Nat → Int) : Ker (clearM M n c) x ↔ Ker M x := by
  unfold Ker clearM
  have key : ∀ r, dot4 (M n) x % 3 = 0 → (dot4 (fun j => (M r j - M r c * M n j % 3) % 3) x % 3 = dot4 (M r) x % 3) := fun r h0 => by
    rw [dot_clear]
    have h1 : dot4 (M n) x = 3 * (dot4 (M n) x / 3) := by omega
    rw [h1, Int.mul_left_comm]
    omega
  constructor
  · intro h r hr
    have h0 : dot4 (M n) x % 3 = 0 := by have := h n hn; rwa [if_pos rfl] at this
    by_cases h1 : r = n
    · subst h1; exact h0
    · have := h r hr
      rw [if_neg h1] at this
      rw [← key r h0]; exact this
  · intro h r hr
    split
    · exact h n hn
    · rw [key r (h n hn)]; exact h r hr
/-- after c columns: either all have heads, and are those of the unit matrix, or a solution other than 0 is known -/
theorem elim_ker {M : Mat} (h3 : In3 4 4 M) : ∀ c, c ≤ 4 →
    ((elimE 4 M c).piv.length = c ∧ (∀ r, r < 4 → ∀ j, j < c → (elimE 4 M c).M r j = if r = j then 1 else 0) ∧ ∀ x, Ker (elimE 4 M c).M x ↔ Ker M x) ∨
    ((elimE 4 M c).piv.length < c ∧ ∃ x : Nat → Int, (∃ j, j < 4 ∧ x j = 1) ∧ Ker M x) := by
  intro c
  induction c with
  | zero => exact fun _ => .inl ⟨rfl, fun r _ j hj => by omega, fun x => Iff.rfl⟩
  | succ c ih =>
    intro hc
    have hin := (elimE_in3 h3 c).1
    rcases ih (by omega) with ⟨i1, i2, i3⟩ | ⟨i1, i2⟩
    · rw [elimE, stepE, i1]
      generalize (elimE 4 M c).M = Mc at *
      have hle := findAt_le Mc c c 4
      by_cases hf : findAt Mc c c 4 = 4
      · rw [if_pos hf]
        refine .inr ⟨by omega, fun j => if j = c then 1 else if j < c then -(Mc j c) else 0, ⟨c, by omega, if_pos rfl⟩, (i3 _).1 ?_⟩
        have hz : ∀ r, c ≤ r → r < 4 → Mc r c = 0 := fun r h1 h2 => Classical.byContradiction fun hne => by
          have : findAt Mc c c 4 ≠ 4 := by
            unfold findAt
            cases e : (List.range 4).find? (fun r => decide (c ≤ r) && decide (Mc r c ≠ 0)) with
            | some a => have := List.mem_of_find?_eq_some e; simp at this; simp only; omega
            | none =>
              rw [List.find?_eq_none] at e
              have := e r (List.mem_range.2 h2)
              simp [h1, hne] at this
          exact this hf
        intro r hr
        unfold dot4
        have hcc : c = 0 ∨ c = 1 ∨ c = 2 ∨ c = 3 := by omega
        have hrr : r = 0 ∨ r = 1 ∨ r = 2 ∨ r = 3 := by omega
        rcases hcc with rfl | rfl | rfl | rfl <;> rcases hrr with rfl | rfl | rfl | rfl <;>
          (simp (config := { decide := true }) [i2, hz]; try omega)
      · rw [if_neg hf]
        have hlt : findAt Mc c c 4 < 4 := by omega
        obtain ⟨f1, f2⟩ := findAt_lt hlt
        generalize findAt Mc c c 4 = a at *
        have hh := hin a hlt c (by omega)
        have hsw : swapM Mc c a c c = Mc a c := by unfold swapM; rw [if_pos rfl]
        rw [hsw]
        generalize hv : Mc a c = v at *
        have hv2 : v = 1 ∨ v = 2 := by omega
        refine .inl ⟨by simp [i1], ?_, fun x => ?_⟩
        · have s1 : ∀ r, r < 4 → ∀ j, j < c → swapM Mc c a r j = if r = j then 1 else 0 := fun r hr j hj => by
            unfold swapM
            split
            · rw [i2 a hlt j hj, if_neg (by omega), if_neg (by omega)]
            · split
              · rw [i2 c (by omega) j hj, if_neg (by omega), if_neg (by omega)]
              · exact i2 r hr j hj
          have s2 : ∀ r, r < 4 → ∀ j, j < c → scaleM (swapM Mc c a) c v r j = if r = j then 1 else 0 := fun r hr j hj => by
            unfold scaleM
            split
            · rename_i e
              show swapM Mc c a c j * v % 3 = _
              rw [s1 c (by omega) j hj, if_neg (by omega), if_neg (by omega)]; omega
            · exact s1 r hr j hj
          have s3 : scaleM (swapM Mc c a) c v c c = 1 := by
            unfold scaleM; rw [if_pos rfl]
            show swapM Mc c a c c * v % 3 = 1
            rw [hsw]
            rcases hv2 with rfl | rfl <;> rfl
          have hin2 : In3 4 4 (scaleM (swapM Mc c a) c v) := in3_scale (in3_swap hin (by omega) hlt)
          generalize scaleM (swapM Mc c a) c v = M2 at *
          intro r hr j hj
          show clearM M2 c c r j = _
          unfold clearM
          by_cases hrc : r = c
          · subst hrc
            rw [if_pos rfl]
            by_cases hjc : j = r
            · subst hjc; rw [s3, if_pos rfl]
            · exact s2 r hr j (by omega)
          · rw [if_neg hrc]
            show (M2 r j - M2 r c * M2 c j % 3) % 3 = _
            by_cases hjc : j = c
            · subst hjc
              rw [s3, Int.mul_one, if_neg hrc]
              have := hin2 r hr j (by omega)
              omega
            · rw [s2 c (by omega) j (by omega), if_neg (by omega), s2 r hr j (by omega)]
              split <;> omega
        · rw [ker_clear (by omega), ker_scale (by omega) hv2, ker_swap (by omega) hlt]
          exact i3 x
    · refine .inr ⟨?_, i2⟩
      rw [elimE, stepE]
      split
      · omega
      · simp only [List.length_append, List.length_cons, List.length_nil]; omega
theorem rank_ker {M : Mat} (h3 : In3 4 4 M) : ((elimE 4 M 4).piv.length = 4 ∧ ∀ x, Ker M x → ∀ j, j < 4 → x j % 3 = 0) ∨ ((elimE 4 M 4).piv.length < 4 ∧ ∃ x : Nat → Int, (∃ j, j < 4 ∧ x j = 1) ∧ Ker M x) := by
  rcases elim_ker h3 4 (by omega) with ⟨h1, h2, hk⟩ | h
  · refine .inl ⟨h1, fun x hx j hj => ?_⟩
    have := (hk x).2 hx j hj
    unfold dot4 at this
    rw [h2 j hj 0 (by omega), h2 j hj 1 (by omega), h2 j hj 2 (by omega), h2 j hj 3 (by omega)] at this
    have hrr : j = 0 ∨ j = 1 ∨ j = 2 ∨ j = 3 := by omega
    rcases hrr with rfl | rfl | rfl | rfl <;> simpa using this
  · exact .inr h
end Go.Eng.YtppflbccfdbogaaGreat
namespace Go.Eng.YtppflbccfdbogaaGreat
open Go.Proofs
set_option maxRecDepth 100000
set_option maxHeartbeats 0
set_option linter.unusedVariables false
set_option linter.unusedSimpArgs false
end Go.Eng.YtppflbccfdbogaaGreat
namespace Go.Eng.YtppflbccfdbogaaGreat
open Go.Proofs
set_option maxRecDepth 100000
set_option maxHeartbeats 0
set_option linter.unusedVariables false
set_option linter.unusedSimpArgs false
def vec4 (a b c d : Int) (t : Nat) : Int := match t with
  | 0 => a
  | 1 => b
  | 2 => c
  | _ => d
theorem row_dot (a b c d : Int) (M : Mat) (r : Nat) (h0 : M r 0 = a % 3) (h1 : M r 1 = b % 3) (h2 : M r 2 = c % 3) (h3 : M r 3 = d % 3) (x : Nat → Int) : dot4 (M r) x % 3 = (a * x 0 + b * x 1 + c * x 2 + d * x 3) % 3 := by
  have := dot_mod (vec4 a b c d) x
  unfold dot4 at this ⊢
  rw [h0, h1, h2, h3]
  exact this
/-- the digit of places a solution's numbers modulo 3 name is 0 -/
theorem dig_sol {a b c d : Int} {x : Nat → Int} (h : (a * x 0 + b * x 1 + c * x 2 + d * x 3) % 3 = 0) : dig a b c d (3 * (x 0 % 3) + x 1 % 3) (3 * (x 2 % 3) + x 3 % 3) = 0 := by
  unfold dig
  rw [show (3 * (x 0 % 3) + x 1 % 3) / 3 = x 0 % 3 by omega, show (3 * (x 0 % 3) + x 1 % 3) % 3 = x 1 % 3 by omega, show (3 * (x 2 % 3) + x 3 % 3) / 3 = x 2 % 3 by omega, show (3 * (x 2 % 3) + x 3 % 3) % 3 = x 3 % 3 by omega]
  rw [Int.mul_comm a, Int.mul_comm b, Int.mul_comm c, Int.mul_comm d, mod_mul, mod_mul, mod_mul, mod_mul, Int.mul_comm (x 0) a, Int.mul_comm (x 1) b, Int.mul_comm (x 2) c, Int.mul_comm (x 3) d]
  omega
/-- places with one digit differ by a solution -/
theorem dig_eq {a b c d i j i' j' : Int} (h : dig a b c d i j = dig a b c d i' j') : (a * (i / 3 - i' / 3) + b * (i % 3 - i' % 3) + c * (j / 3 - j' / 3) + d * (j % 3 - j' % 3)) % 3 = 0 := by
  unfold dig at h
  rw [Int.mul_sub, Int.mul_sub, Int.mul_sub, Int.mul_sub]
  omega
theorem norm_rank (x0 x1 x2 x3 x4 x5 x6 x7 x8 x9 x10 x11 x12 x13 x14 x15 : Int) :
    isNorm (madeL 9 (terF x0 x1 x2 x3 x4 x5 x6 x7 x8 x9 x10 x11 x12 x13 x14 x15)) = decide (4 ≤ (elimE 4 (resM [[x0, x1, x2, x3], [x4, x5, x6, x7], [x8, x9, x10, x11], [x12, x13, x14, x15]]) 4).piv.length) := by
  have hd : ∀ (x : Nat → Int), Ker (resM [[x0, x1, x2, x3], [x4, x5, x6, x7], [x8, x9, x10, x11], [x12, x13, x14, x15]]) x ↔
      (x0 * x 0 + x1 * x 1 + x2 * x 2 + x3 * x 3) % 3 = 0 ∧ (x4 * x 0 + x5 * x 1 + x6 * x 2 + x7 * x 3) % 3 = 0 ∧ (x8 * x 0 + x9 * x 1 + x10 * x 2 + x11 * x 3) % 3 = 0 ∧ (x12 * x 0 + x13 * x 1 + x14 * x 2 + x15 * x 3) % 3 = 0 := fun x => by
    unfold Ker
    constructor
    · intro h
      refine ⟨?_, ?_, ?_, ?_⟩
      · have := h 0 (by omega); rwa [row_dot x0 x1 x2 x3 _ 0 rfl rfl rfl rfl] at this
      · have := h 1 (by omega); rwa [row_dot x4 x5 x6 x7 _ 1 rfl rfl rfl rfl] at this
      · have := h 2 (by omega); rwa [row_dot x8 x9 x10 x11 _ 2 rfl rfl rfl rfl] at this
      · have := h 3 (by omega); rwa [row_dot x12 x13 x14 x15 _ 3 rfl rfl rfl rfl] at this
    · rintro ⟨h0, h1, h2, h3⟩ r hr
      have : r = 0 ∨ r = 1 ∨ r = 2 ∨ r = 3 := by omega
      rcases this with rfl | rfl | rfl | rfl
      · rw [row_dot x0 x1 x2 x3 _ 0 rfl rfl rfl rfl]; exact h0
      · rw [row_dot x4 x5 x6 x7 _ 1 rfl rfl rfl rfl]; exact h1
      · rw [row_dot x8 x9 x10 x11 _ 2 rfl rfl rfl rfl]; exact h2
      · rw [row_dot x12 x13 x14 x15 _ 3 rfl rfl rfl rfl]; exact h3
  have hlen : (madeL 9 (terF x0 x1 x2 x3 x4 x5 x6 x7 x8 x9 x10 x11 x12 x13 x14 x15)).length = 81 := by simp [madeL]
  have hget : ∀ k, k < 81 → (madeL 9 (terF x0 x1 x2 x3 x4 x5 x6 x7 x8 x9 x10 x11 x12 x13 x14 x15)).getD k 0 = terF x0 x1 x2 x3 x4 x5 x6 x7 x8 x9 x10 x11 x12 x13 x14 x15 (k / 9) (k % 9) := fun k hk => by
    have := madeL_get (n := 9) (h := terF x0 x1 x2 x3 x4 x5 x6 x7 x8 x9 x10 x11 x12 x13 x14 x15) (i := k / 9) (j := k % 9) (by omega) (by omega)
    rwa [show 9 * (k / 9) + k % 9 = k by omega] at this
  rcases rank_ker (M := resM [[x0, x1, x2, x3], [x4, x5, x6, x7], [x8, x9, x10, x11], [x12, x13, x14, x15]]) (fun r _ j _ => in3_mod _) with ⟨h1, h2⟩ | ⟨h1, x, ⟨t, ht, hx⟩, hk⟩
  · rw [h1, show decide (4 ≤ 4) = true from rfl, isNorm_iff, hlen]
    refine ⟨fun k hk => ?_, fun k l hkl hl he => ?_⟩
    · rw [hget k hk]
      have d0 := dig_bd x0 x1 x2 x3 (k / 9 : Nat) (k % 9 : Nat)
      have d1 := dig_bd x4 x5 x6 x7 (k / 9 : Nat) (k % 9 : Nat)
      have d2 := dig_bd x8 x9 x10 x11 (k / 9 : Nat) (k % 9 : Nat)
      have d3 := dig_bd x12 x13 x14 x15 (k / 9 : Nat) (k % 9 : Nat)
      unfold terF
      omega
    · rw [hget k (by omega), hget l hl] at he
      have d0 := dig_bd x0 x1 x2 x3 (k / 9 : Nat) (k % 9 : Nat)
      have d1 := dig_bd x4 x5 x6 x7 (k / 9 : Nat) (k % 9 : Nat)
      have d2 := dig_bd x8 x9 x10 x11 (k / 9 : Nat) (k % 9 : Nat)
      have d3 := dig_bd x12 x13 x14 x15 (k / 9 : Nat) (k % 9 : Nat)
      have e0 := dig_bd x0 x1 x2 x3 (l / 9 : Nat) (l % 9 : Nat)
      have e1 := dig_bd x4 x5 x6 x7 (l / 9 : Nat) (l % 9 : Nat)
      have e2 := dig_bd x8 x9 x10 x11 (l / 9 : Nat) (l % 9 : Nat)
      have e3 := dig_bd x12 x13 x14 x15 (l / 9 : Nat) (l % 9 : Nat)
      unfold terF at he
      have f0 : dig x0 x1 x2 x3 (k / 9 : Nat) (k % 9 : Nat) = dig x0 x1 x2 x3 (l / 9 : Nat) (l % 9 : Nat) := by omega
      have f1 : dig x4 x5 x6 x7 (k / 9 : Nat) (k % 9 : Nat) = dig x4 x5 x6 x7 (l / 9 : Nat) (l % 9 : Nat) := by omega
      have f2 : dig x8 x9 x10 x11 (k / 9 : Nat) (k % 9 : Nat) = dig x8 x9 x10 x11 (l / 9 : Nat) (l % 9 : Nat) := by omega
      have f3 : dig x12 x13 x14 x15 (k / 9 : Nat) (k % 9 : Nat) = dig x12 x13 x14 x15 (l / 9 : Nat) (l % 9 : Nat) := by omega
      have q := h2 (vec4 (((k / 9 : Nat) : Int) / 3 - ((l / 9 : Nat) : Int) / 3) (((k / 9 : Nat) : Int) % 3 - ((l / 9 : Nat) : Int) % 3) (((k % 9 : Nat) : Int) / 3 - ((l % 9 : Nat) : Int) / 3) (((k % 9 : Nat) : Int) % 3 - ((l % 9 : Nat) : Int) % 3))
        ((hd _).2 ⟨dig_eq f0, dig_eq f1, dig_eq f2, dig_eq f3⟩)
      have q0 := q 0 (by omega)
      have q1 := q 1 (by omega)
      have q2 := q 2 (by omega)
      have q3 := q 3 (by omega)
      simp only [vec4] at q0 q1 q2 q3
      omega
  · rw [show decide (4 ≤ _) = false from decide_eq_false (by omega)]
    rw [← Bool.not_eq_true]
    intro hn
    obtain ⟨s0, s1, s2, s3⟩ := (hd x).1 hk
    have g0 := dig_sol s0
    have g1 := dig_sol s1
    have g2 := dig_sol s2
    have g3 := dig_sol s3
    have b0 := in3_mod (x 0)
    have b1 := in3_mod (x 1)
    have b2 := in3_mod (x 2)
    have b3 := in3_mod (x 3)
    have hi : 3 * (x 0 % 3) + x 1 % 3 = ((3 * (x 0 % 3) + x 1 % 3).toNat : Nat) := by omega
    have hj : 3 * (x 2 % 3) + x 3 % 3 = ((3 * (x 2 % 3) + x 3 % 3).toNat : Nat) := by omega
    have hb1 : (3 * (x 0 % 3) + x 1 % 3).toNat < 9 := by omega
    have hb2 : (3 * (x 2 % 3) + x 3 % 3).toNat < 9 := by omega
    have hne : 9 * (3 * (x 0 % 3) + x 1 % 3).toNat + (3 * (x 2 % 3) + x 3 % 3).toNat ≠ 0 := by
      have : t = 0 ∨ t = 1 ∨ t = 2 ∨ t = 3 := by omega
      rcases this with rfl | rfl | rfl | rfl <;> omega
    rw [hi, hj] at g0 g1 g2 g3
    generalize (3 * (x 0 % 3) + x 1 % 3).toNat = i at *
    generalize (3 * (x 2 % 3) + x 3 % 3).toNat = j at *
    refine norm_ne hn (i := 9 * i + j) (j := 0) (by omega) (by omega) hne ?_
    rw [madeL_get hb1 hb2, show (0 : Nat) = 9 * 0 + 0 from rfl, madeL_get (by omega) (by omega)]
    unfold terF
    rw [g0, g1, g2, g3]
    simp [dig]
end Go.Eng.YtppflbccfdbogaaGreat
namespace Go.Eng.YtppflbccfdbogaaGreat
open Go.Proofs
set_option maxRecDepth 100000
set_option maxHeartbeats 0
set_option linter.unusedVariables false
set_option linter.unusedSimpArgs false
end Go.Eng.YtppflbccfdbogaaGreat
namespace Go.Eng.YtppflbccfdbogaaGreat
open Go.Proofs
set_option maxRecDepth 100000
set_option maxHeartbeats 0
set_option linter.unusedVariables false
set_option linter.unusedSimpArgs false
theorem c23_spec (a b c d : Int) : PSpec Tryz.prog 23 [.agg [.int .i64 a, .int .i64 b, .int .i64 c, .int .i64 d]] (.agg [.int .i64 a, .int .i64 b]) := by
  refine pspec_of (md := 0) (rf := []) mixed tabOK noC_ok Tryz.func23 (by rfl) (by rfl) (by rfl) ?_
  repeat' ((conv => whnf); first | refine And.intro ?_ ?_ | with_reducible exact VC.mk rfl | exact Ok.mk | exact True.intro | refine Nx.mk ?_ | refine Fin.mk ?_ | intro _)
  all_goals ((try refine VC.mk ?_); (try simp only [CL.ncell, CL.cnt, vq] at *); (try omega))
  all_goals (refine Sup.via ?_; repeat' ((conv => whnf); first | refine And.intro ?_ ?_ | with_reducible exact VC.mk rfl | exact Ok.mk | exact True.intro | refine Nx.mk ?_ | refine Fin.mk ?_ | intro _); all_goals ((try refine VC.mk ?_); (try simp only [CL.ncell, CL.cnt, vq] at *); (try omega)); all_goals (try (simp [CL.sub]; done)))
theorem c24_spec (a b c d : Int) : PSpec Tryz.prog 24 [.agg [.int .i64 a, .int .i64 b, .int .i64 c, .int .i64 d]] (.agg [.int .i64 c, .int .i64 d]) := by
  refine pspec_of (md := 0) (rf := []) mixed tabOK noC_ok Tryz.func24 (by rfl) (by rfl) (by rfl) ?_
  repeat' ((conv => whnf); first | refine And.intro ?_ ?_ | with_reducible exact VC.mk rfl | exact Ok.mk | exact True.intro | refine Nx.mk ?_ | refine Fin.mk ?_ | intro _)
  all_goals ((try refine VC.mk ?_); (try simp only [CL.ncell, CL.cnt, vq] at *); (try omega))
  all_goals (refine Sup.via ?_; repeat' ((conv => whnf); first | refine And.intro ?_ ?_ | with_reducible exact VC.mk rfl | exact Ok.mk | exact True.intro | refine Nx.mk ?_ | refine Fin.mk ?_ | intro _); all_goals ((try refine VC.mk ?_); (try simp only [CL.ncell, CL.cnt, vq] at *); (try omega)); all_goals (try (simp [CL.sub]; done)))
theorem c25_spec (a b c d : Int) (h : (0 ≤ a ∧ a ≤ 2) ∧ (0 ≤ b ∧ b ≤ 2) ∧ (0 ≤ c ∧ c ≤ 2) ∧ (0 ≤ d ∧ d ≤ 2)) : PSpec Tryz.prog 25 [.agg [.int .i64 a, .int .i64 b, .int .i64 c, .int .i64 d]] (.agg [.int .i64 (a + c), .int .i64 (b + d)]) := by
  refine pspec_of (md := 0) (rf := []) mixed tabOK noC_ok Tryz.func25 (by rfl) (by rfl) (by rfl) ?_
  repeat' ((conv => whnf); first | refine And.intro ?_ ?_ | with_reducible exact VC.mk rfl | exact Ok.mk | exact True.intro | refine Nx.mk ?_ | refine Fin.mk ?_ | intro _)
  all_goals ((try refine VC.mk ?_); (try simp only [CL.ncell, CL.cnt, vq] at *); (try omega))
  all_goals (refine Sup.via ?_; repeat' ((conv => whnf); first | refine And.intro ?_ ?_ | with_reducible exact VC.mk rfl | exact Ok.mk | exact True.intro | refine Nx.mk ?_ | refine Fin.mk ?_ | intro _); all_goals ((try refine VC.mk ?_); (try simp only [CL.ncell, CL.cnt, vq] at *); (try omega)); all_goals (try (simp [CL.sub]; done)))
theorem c26_spec (a b c d : Int) (h : (0 ≤ a ∧ a ≤ 2) ∧ (0 ≤ b ∧ b ≤ 2) ∧ (0 ≤ c ∧ c ≤ 2) ∧ (0 ≤ d ∧ d ≤ 2)) : PSpec Tryz.prog 26 [.agg [.int .i64 a, .int .i64 b, .int .i64 c, .int .i64 d]] (.agg [.int .i64 (a - c), .int .i64 (b - d)]) := by
  refine pspec_of (md := 0) (rf := []) mixed tabOK noC_ok Tryz.func26 (by rfl) (by rfl) (by rfl) ?_
  repeat' ((conv => whnf); first | refine And.intro ?_ ?_ | with_reducible exact VC.mk rfl | exact Ok.mk | exact True.intro | refine Nx.mk ?_ | refine Fin.mk ?_ | intro _)
  all_goals ((try refine VC.mk ?_); (try simp only [CL.ncell, CL.cnt, vq] at *); (try omega))
  all_goals (refine Sup.via ?_; repeat' ((conv => whnf); first | refine And.intro ?_ ?_ | with_reducible exact VC.mk rfl | exact Ok.mk | exact True.intro | refine Nx.mk ?_ | refine Fin.mk ?_ | intro _); all_goals ((try refine VC.mk ?_); (try simp only [CL.ncell, CL.cnt, vq] at *); (try omega)); all_goals (try (simp [CL.sub]; done)))
end Go.Eng.YtppflbccfdbogaaGreat
namespace Go.Eng.YtppflbccfdbogaaGreat
open Go.Proofs
set_option maxRecDepth 100000
set_option maxHeartbeats 0
set_option linter.unusedVariables false
set_option linter.unusedSimpArgs false
theorem clone_spec (a b c d : Int) : PSpec Tryz.prog 21 [.isl (.ints .i64 [a, b, c, d]) .none] (.isl (.ints .i64 [a, b, c, d]) .none) := by
  refine pspec_of (md := 1) (rf := []) mixed tabOK noC_ok Tryz.func21 (by rfl) (by rfl) (by rfl) ?_
  repeat' ((conv => whnf); first | refine And.intro ?_ ?_ | with_reducible exact VC.mk rfl | exact Ok.mk | exact True.intro | refine Nx.mk ?_ | refine Fin.mk ?_ | intro _)
  all_goals ((try refine VC.mk ?_); (try simp only [CL.ncell, CL.cnt, vq] at *); (try omega))
  · simp
  all_goals exact Sup.of rfl
end Go.Eng.YtppflbccfdbogaaGreat
namespace Go.Eng.YtppflbccfdbogaaGreat
open Go.Proofs
set_option maxRecDepth 100000
set_option maxHeartbeats 0
set_option linter.unusedVariables false
set_option linter.unusedSimpArgs false
structure RX where
  i : Nat
  D : Mat
structure RI (m w : Nat) (M : Mat) (n c : Nat) (L : List Nat) (x : RX) : Prop where
  hi : x.i ≤ m
  hD : ∀ r, r < m → ∀ j, j < w → x.D (L.getD r 0) j = if r < x.i then clearM M n c r j else M r j
structure CX where
  c : Nat
  l : List Nat
  D : Mat
structure CI (m w : Nat) (M0 : Mat) (l0 : List Nat) (x : CX) : Prop where
  hc : x.c ≤ w
  hl : x.l.length = m
  hn : x.l.Nodup
  hi : ∀ b, b ∈ l0 → b ∈ x.l
  ho : ∀ r, r < m → x.l.getD r 0 ∈ l0
  hD : ∀ r, r < m → ∀ j, j < w → x.D (x.l.getD r 0) j = (elimE m M0 x.c).M r j
noncomputable def cpEl : CPT := cpAdd 132 (pureCC rIsZeroP) (cpAdd 131 (pureCC rInvP) (cpAdd 133 (pureCC rMulP) (cpAdd 134 (pureCC rSubP) noC)))
theorem cpEl_ok : CPOK Tryz.prog cpEl := cpAdd_ok (pureCC_ok rIsZero_ok) (cpAdd_ok (pureCC_ok rInv_ok) (cpAdd_ok (pureCC_ok rMul_ok) (cpAdd_ok (pureCC_ok rSub_ok) noC_ok)))
theorem elim_spec {m w : Nat} {M0 : Mat} (hm : 1 ≤ m ∧ m ≤ 256) (hw : 1 ≤ w ∧ w ≤ 256) (h3 : In3 m w M0) :
    LSpec Tryz.prog 49 [.agg [.int .i64 3], .rsl 0 0 m, .int .i64 (w : Int)] [.pmat m (.ints .i64 (fun r => matL w (M0 r)))]
      [.agg [.rsl 0 0 (elimE m M0 w).piv.length, .isl (.ints .i64 (elimE m M0 w).piv) .none, .isl (.ints .i64 (elimE m M0 w).heads) .none, .bp (elimE m M0 w).odd]] [.pmat m (.ints .i64 (fun r => matL w ((elimE m M0 w).M r)))] := by
  refine lspec_open_ints (pre := []) (post := []) (enters' Tryz.func49 (by rfl) (by rfl)) fun l c' hl hnd hc => ?_
  obtain ⟨D0, hD0⟩ : ∃ D0 : Mat, ∀ b, b ∈ l → c' b = matL w (D0 b) := ⟨fun b j => (c' b).getD j 0, fun b hb => by
    obtain ⟨i, hi, rfl⟩ := List.getElem_of_mem hb
    have := hc i (by omega)
    rw [List.getD_eq_getElem?_getD, List.getElem?_eq_getElem hi] at this
    simp only [Option.getD_some] at this
    rw [this]
    refine matL_congr fun j hj => ?_
    show M0 i j = (c' l[i]).getD j 0
    rw [this, matL_get _ hj]⟩
  refine lspec_of (md := 0) (rf := []) mixed tabOK cpEl_ok 1 [] Tryz.func49 (by rfl) (by rfl) (by rfl) ?_
  have h00 : ∀ i, i < m → ∀ j, j < w → D0 (l.getD i 0) j = M0 i j := fun i hi j hj => by
    have hm : l.getD i 0 ∈ l := by
      rw [List.getD_eq_getElem?_getD, List.getElem?_eq_getElem (by omega)]; exact List.getElem_mem _
    have e := (hD0 _ hm).symm.trans (hc i hi)
    have := congrArg (fun t => t.getD j 0) e
    simpa only [matL_get _ hj] using this
  conv => whnf
  refine loop_of (X := CX) (CI m w M0 l) (fun x => [(17, .int .i64 x.c)]) (fun x => [(0, .mat l x.l (.ints .i64 (fun b => matL w (x.D b)))), (3, .cells (.pv [.nils, .isl (.ints .i64 (elimE m M0 x.c).piv) (.own 4), .isl (.ints .i64 (elimE m M0 x.c).heads) (.own 5), .bp (elimE m M0 x.c).odd]) false),
    (4, .tok 1 (elimE m M0 x.c).piv.length), (5, .tok 1 (elimE m M0 x.c).heads.length)]) (fun x => w - x.c) ⟨0, l, D0⟩ ⟨anyB_ok, mixed, tabOK, cpEl_ok, noY_ok⟩ (by rfl) ?_ ?_ ?_
  · exact ⟨Nat.zero_le _, hl, hnd, fun _ h => h, fun r hr => by
      show l.getD r 0 ∈ l
      rw [List.getD_eq_getElem?_getD, List.getElem?_eq_getElem (by omega)]; exact List.getElem_mem _, h00⟩
  · repeat' ((conv => whnf); first | refine And.intro ?_ ?_ | with_reducible exact VC.mk rfl | exact Ok.mk | exact True.intro | refine Nx.mk ?_ | refine Fin.mk ?_ | intro _)
    all_goals ((try refine VC.mk ?_); (try simp only [CL.ncell, CL.cnt, vq] at *); (try omega))
  · rintro ⟨c, lx, D⟩ ⟨x1, x2, x3, x4, x5, x6⟩
    simp only at x1 x2 x3 x4 x5 x6
    obtain ⟨y1, y2, y3⟩ := elimE_in3 h3 c
    have y4 := elimE_heads m M0 c
    have hsucc : elimE m M0 (c + 1) = stepE m (elimE m M0 c) c := rfl
    by_cases hcw : c < w
    · generalize elimE m M0 c = S at *
      obtain ⟨n, hn⟩ : ∃ n, n = S.piv.length := ⟨_, rfl⟩
      have hx6 : ∀ r, r < m → (matL w (D (lx.getD r 0))).getD c 0 = S.M r c := fun r hr => by rw [matL_get _ hcw]; exact x6 r hr c hcw
      repeat' ((conv => whnf); first | refine And.intro ?_ ?_ | with_reducible exact VC.mk rfl | exact Ok.mk | exact True.intro | refine Nx.mk ?_ | refine Fin.mk ?_ | (intro hq; (try simp only [decide_eq_true_eq, decide_eq_false_iff_not, Bool.not_eq_true, Bool.not_eq_false, Bool.not_eq_true', Bool.not_eq_false', Bool.not_true, Bool.not_false, ite_true, ite_false] at hq); (try (exfalso; first | exact absurd hq (by decide) | omega))))
      all_goals ((try refine VC.mk ?_); (try simp only [CL.ncell, CL.cnt, vq] at *); (try omega))
      conv => whnf
      refine loop_of (X := Nat) (fun a => (n ≤ a ∧ a ≤ m) ∧ ∀ r, n ≤ r → r < a → S.M r c = 0) (fun a => [(10, .int .i64 a)]) (fun _ => []) (fun a => m - a) n ⟨anyB_ok, mixed, tabOK, cpEl_ok, noY_ok⟩ (by rfl) ⟨by omega, fun r h1 h2 => by omega⟩ ?_ ?_
      · repeat' ((conv => whnf); first | refine And.intro ?_ ?_ | with_reducible exact VC.mk rfl | exact Ok.mk | exact True.intro | refine Nx.mk ?_ | refine Fin.mk ?_ | intro _)
        all_goals ((try refine VC.mk ?_); (try simp only [CL.ncell, CL.cnt, vq] at *); (try omega))
        all_goals exact fun _ _ => trivial
      · rintro a ⟨⟨ha1, ha2⟩, haz⟩
        by_cases ham : a < m
        · have ea := hx6 a ham
          have hnm : S.piv.length < m := by omega
          have hL : ∀ r, r < m → (swl lx S.piv.length a).getD r 0 ∈ l := fun r hr => by
            rw [swl_get' (by omega) (by omega)]; exact x5 _ (sgw_lt hnm ham hr)
          repeat' ((conv => whnf); first | refine And.intro ?_ ?_ | with_reducible exact VC.mk rfl | exact Ok.mk | exact True.intro | refine Nx.mk ?_ | refine Fin.mk ?_ | (intro hq; (try simp only [decide_eq_true_eq, decide_eq_false_iff_not, Bool.not_eq_true, Bool.not_eq_false, Bool.not_eq_true', Bool.not_eq_false', Bool.not_true, Bool.not_false, ite_true, ite_false] at hq); (try (exfalso; first | exact absurd hq (by decide) | omega))))
          all_goals ((try refine VC.mk ?_); (try simp only [CL.ncell, CL.cnt, vq] at *); (try omega))
          all_goals (try (simp only [te24s, Nat.mul_one, Nat.zero_add, Nat.add_zero, Int.toNat_natCast, matL_len, List.length_set, x2]; first | omega | exact x5 _ (by omega)))
          · rename_i hq
            simp only [te24s, Nat.mul_one] at hq
            refine ⟨a + 1, [], ⟨⟨by omega, fun r h1 h2 => ?_⟩, by omega⟩, ?_⟩
            · by_cases er : r = a
              · subst er; rw [← ea]; exact hq
              · exact haz r h1 (by omega)
            · repeat' ((conv => whnf); first | refine And.intro ?_ ?_ | with_reducible exact VC.mk rfl | exact Ok.mk | exact True.intro | refine Nx.mk ?_ | refine Fin.mk ?_ | intro _)
              all_goals ((try refine VC.mk ?_); (try simp only [CL.ncell, CL.cnt, vq] at *); (try omega))
              all_goals exact fun _ _ => trivial
          · rfl
          · rfl
          · simp only [te24s, Nat.mul_one]; exact hL _ hnm
          · rw [List.length_append, List.length_cons, List.length_nil]; omega
          · simp only [te24s, Nat.mul_one]; exact hL _ hnm
          · rename_i hq
            simp only [te24s, Nat.mul_one] at hq ⊢
            rw [show ((lx.set S.piv.length (lx.getD a 0)).set a (lx.getD S.piv.length 0)) = swl lx S.piv.length a from rfl, swl_get (by omega) (by omega), if_pos rfl]
            have := y1 a ham c hcw
            rw [ea] at hq ⊢
            exact ⟨this.1, this.2, hq⟩
          rename_i hq
          simp only [te24s, Nat.mul_one] at hq ⊢
          rw [ea] at hq
          have g1 : ∀ r, (swl lx S.piv.length a).getD r 0 = if r = S.piv.length then lx.getD a 0 else if r = a then lx.getD S.piv.length 0 else lx.getD r 0 := fun r => swl_get (by omega) (by omega)
          have g2 : (swl lx S.piv.length a).length = m := by simp [swl, x2]
          have g3 := swl_nodup (n := S.piv.length) (a := a) (by omega) (by omega) x3
          have g4 : ∀ b, b ∈ l → b ∈ swl lx S.piv.length a := fun b hb => swl_mem (by omega) (by omega) (x4 b hb)
          have g5 : ∀ r, r < m → ∀ j, j < w → D ((swl lx S.piv.length a).getD r 0) j = swapM S.M S.piv.length a r j := fun r hr j hj => by
            rw [g1]; unfold swapM
            by_cases h1 : r = S.piv.length
            · rw [if_pos h1, if_pos h1]; exact x6 a ham j hj
            · rw [if_neg h1, if_neg h1]
              by_cases h2 : r = a
              · rw [if_pos h2, if_pos h2]; exact x6 _ hnm j hj
              · rw [if_neg h2, if_neg h2]; exact x6 r hr j hj
          have g6 := in3_swap (n := S.piv.length) (a := a) y1 hnm ham
          have hfind : findAt S.M c S.piv.length m = a := findAt_is ham (by omega) hq (fun r h1 h2 => haz r (by omega) h2)
          rw [show ((lx.set S.piv.length (lx.getD a 0)).set a (lx.getD S.piv.length 0)) = swl lx S.piv.length a from rfl]
          generalize swl lx S.piv.length a = L at *
          generalize hM1 : swapM S.M S.piv.length a = M1 at *
          have hs : (matL w (D (L.getD S.piv.length 0))).getD c 0 = M1 S.piv.length c := by rw [matL_get _ hcw]; exact g5 _ hnm c hcw
          rw [hs]
          have hs3 := g6 _ hnm c hcw
          have hbn := hL _ hnm
          generalize hbd : L.getD S.piv.length 0 = bn at *
          have e1 : ∀ j, j < w → D bn j = M1 S.piv.length j := fun j hj => by rw [← hbd]; exact g5 _ hnm j hj
          generalize hsv : M1 S.piv.length c = sv at *
          have hlw := matL_len w (D bn)
          conv => whnf
          refine loop_of (X := Nat) (fun k => k ≤ w) (fun k => [(30, .any), (80, .any), (94, .int .i64 k)]) (fun k => [(0, .mat l L (.ints .i64 (fun b => matL w (fun j => if b = bn ∧ j < k then D b j * sv % 3 else D b j))))]) (fun k => w - k) 0 ⟨anyB_ok, mixed, tabOK, cpEl_ok, noY_ok⟩ (by rfl) (by omega) ?_ ?_
          · repeat' ((conv => whnf); first | refine And.intro ?_ ?_ | with_reducible exact VC.mk rfl | exact Ok.mk | exact True.intro | refine Nx.mk ?_ | refine Fin.mk ?_ | intro _)
            all_goals ((try refine VC.mk ?_); (try simp only [CL.ncell, CL.cnt, vq] at *); (try omega))
            · intro b hb
              exact matL_congr fun j hj => by rw [if_neg (by omega)]
          · intro k hk
            by_cases hkw : k < w
            · have e2 := e1 k hkw
              have e3 := g6 _ hnm k hkw
              repeat' ((conv => whnf); first | refine And.intro ?_ ?_ | with_reducible exact VC.mk rfl | exact Ok.mk | exact True.intro | refine Nx.mk ?_ | refine Fin.mk ?_ | (intro hq; (try simp only [decide_eq_true_eq, decide_eq_false_iff_not, Bool.not_eq_true, Bool.not_eq_false, Bool.not_eq_true', Bool.not_eq_false', Bool.not_true, Bool.not_false, ite_true, ite_false] at hq); (try (exfalso; first | exact absurd hq (by decide) | omega))))
              all_goals ((try refine VC.mk ?_); (try simp only [CL.ncell, CL.cnt, vq] at *); (try omega))
              all_goals (try (simp only [te24s, Nat.mul_one, Nat.zero_add, Nat.add_zero, Int.toNat_natCast, matL_len, List.length_set, g2, hbd]; first | omega | assumption | exact hL _ (by omega)))
              · simp only [te24s, Nat.mul_one, hbd, matL_get _ hkw]
                rw [if_neg (by omega), e2]
                exact ⟨by omega, e3, hs3⟩
              · refine ⟨k + 1, [], ⟨by omega, by omega⟩, ?_⟩
                simp only [te24s, Nat.mul_one, hbd, matL_get _ hkw]
                repeat' ((conv => whnf); first | refine And.intro ?_ ?_ | with_reducible exact VC.mk rfl | exact Ok.mk | exact True.intro | refine Nx.mk ?_ | refine Fin.mk ?_ | intro _)
                all_goals ((try refine VC.mk ?_); (try simp only [CL.ncell, CL.cnt, vq] at *); (try omega))
                intro b hb
                unfold updN
                by_cases eb : b = bn
                · subst eb
                  rw [if_pos rfl, matL_set]
                  simp only [true_and]
                  refine matL_congr fun j hj => ?_
                  by_cases ej : j = k
                  · subst ej; simp
                  · rw [if_neg ej]
                    by_cases ek : j < k
                    · rw [if_pos ek, if_pos (by omega)]
                    · rw [if_neg ek, if_neg (by omega)]
                · rw [if_neg eb]
                  refine matL_congr fun j hj => ?_
                  rw [if_neg (fun h => eb h.1), if_neg (fun h => eb h.1)]
            · have hkk : k = w := by omega
              obtain ⟨D2, hD2⟩ : ∃ D2 : Mat, D2 = fun b j => if b = bn ∧ j < k then D b j * sv % 3 else D b j := ⟨_, rfl⟩
              have d1 : ∀ r, r < m → ∀ j, j < w → D2 (L.getD r 0) j = scaleM M1 S.piv.length sv r j := fun r hr j hj => by
                rw [hD2]
                unfold scaleM
                by_cases er : r = S.piv.length
                · subst er
                  simp only [hbd, if_true, true_and]
                  rw [if_pos (by omega : j < k), e1 j hj]
                · have : L.getD r 0 ≠ bn := fun h => er ((nodup_get.1 g3) r S.piv.length (by omega) (by omega) (h.trans hbd.symm))
                  simp only
                  rw [if_neg (fun h => this h.1), if_neg er]
                  exact g5 r hr j hj
              have d2 := in3_scale (n := S.piv.length) (s := sv) g6
              generalize hM2 : scaleM M1 S.piv.length sv = M2 at *
              rw [show (fun b => matL w (fun j => if b = bn ∧ j < k then D b j * sv % 3 else D b j)) = (fun b => matL w (D2 b)) by rw [hD2]]
              clear hD2
              repeat' ((conv => whnf); first | refine And.intro ?_ ?_ | with_reducible exact VC.mk rfl | exact Ok.mk | exact True.intro | refine Nx.mk ?_ | refine Fin.mk ?_ | (intro hq; (try simp only [decide_eq_true_eq, decide_eq_false_iff_not, Bool.not_eq_true, Bool.not_eq_false, Bool.not_eq_true', Bool.not_eq_false', Bool.not_true, Bool.not_false, ite_true, ite_false] at hq); (try (exfalso; first | exact absurd hq (by decide) | omega))))
              all_goals ((try refine VC.mk ?_); (try simp only [CL.ncell, CL.cnt, vq] at *); (try omega))
              conv => whnf
              refine loop_of (X := RX) (RI m w M2 S.piv.length c L) (fun x => [(117, .int .i64 x.i)]) (fun x => [(0, .mat l L (.ints .i64 (fun b => matL w (x.D b))))]) (fun x => m - x.i) ⟨0, D2⟩ ⟨anyB_ok, mixed, tabOK, cpEl_ok, noY_ok⟩ (by rfl) ⟨Nat.zero_le _, fun r hr j hj => by show _ = if r < 0 then _ else _; rw [if_neg (by omega)]; exact d1 r hr j hj⟩ ?_ ?_
              · repeat' ((conv => whnf); first | refine And.intro ?_ ?_ | with_reducible exact VC.mk rfl | exact Ok.mk | exact True.intro | refine Nx.mk ?_ | refine Fin.mk ?_ | intro _)
                all_goals ((try refine VC.mk ?_); (try simp only [CL.ncell, CL.cnt, vq] at *); (try omega))
                all_goals exact fun _ _ => trivial
              · rintro ⟨i, D3⟩ ⟨i1, i2⟩
                simp only at i1 i2
                by_cases him : i < m
                · have hiw : (matL w (D3 (L.getD i 0))).getD c 0 = M2 i c := by rw [matL_get _ hcw, i2 i him c hcw, if_neg (by omega)]
                  have hbi := hL _ him
                  have ti := d2 i him c hcw
                  have f1 : ∀ j, j < w → D3 (L.getD i 0) j = M2 i j := fun j hj => by rw [i2 i him j hj, if_neg (by omega)]
                  have f2 : ∀ j, j < w → D3 bn j = M2 S.piv.length j := fun j hj => by
                    rw [← hbd, i2 _ hnm j hj]
                    split
                    · simp [clearM]
                    · rfl
                  repeat' ((conv => whnf); first | refine And.intro ?_ ?_ | with_reducible exact VC.mk rfl | exact Ok.mk | exact True.intro | refine Nx.mk ?_ | refine Fin.mk ?_ | (intro hq; (try simp only [decide_eq_true_eq, decide_eq_false_iff_not, Bool.not_eq_true, Bool.not_eq_false, Bool.not_eq_true', Bool.not_eq_false', Bool.not_true, Bool.not_false, ite_true, ite_false] at hq); (try (exfalso; first | exact absurd hq (by decide) | omega))))
                  all_goals ((try refine VC.mk ?_); (try simp only [CL.ncell, CL.cnt, vq] at *); (try omega))
                  all_goals (try (simp only [te24s, Nat.mul_one, Nat.zero_add, Nat.add_zero, Int.toNat_natCast, matL_len, List.length_set, g2, hbd]; first | omega | assumption | exact hL _ (by omega)))
                  · have hz := hq
                    simp only [te24s, Nat.mul_one, hiw] at hz
                    refine ⟨⟨i + 1, D3⟩, [], ⟨⟨by (show i + 1 ≤ m); omega, fun r hr j hj => ?_⟩, by (show m - (i + 1) < m - i); omega⟩, ?_⟩
                    · show D3 (L.getD r 0) j = if r < i + 1 then clearM M2 S.piv.length c r j else M2 r j
                      rw [i2 r hr j hj]
                      by_cases e5 : r < i
                      · rw [if_pos e5, if_pos (by omega)]
                      · rw [if_neg e5]
                        by_cases e6 : r = i
                        · subst e6
                          rw [if_pos (by omega)]
                          unfold clearM
                          rw [if_neg (by omega)]
                          have := d2 r hr j hj
                          simp only [hz]
                          omega
                        · rw [if_neg (by omega)]
                    · repeat' ((conv => whnf); first | refine And.intro ?_ ?_ | with_reducible exact VC.mk rfl | exact Ok.mk | exact True.intro | refine Nx.mk ?_ | refine Fin.mk ?_ | intro _)
                      all_goals ((try refine VC.mk ?_); (try simp only [CL.ncell, CL.cnt, vq] at *); (try omega))
                      all_goals exact fun _ _ => trivial
                  · have hz := hq
                    simp only [te24s, Nat.mul_one, hiw] at hz ⊢
                    have hne : L.getD i 0 ≠ bn := fun h => by
                      have := (nodup_get.1 g3) i S.piv.length (by omega) (by omega) (h.trans hbd.symm)
                      omega
                    have hlw2 := matL_len w (D3 (L.getD i 0))
                    generalize hbi2 : L.getD i 0 = bi at *
                    generalize htv : M2 i c = tv at *
                    repeat' ((conv => whnf); first | refine And.intro ?_ ?_ | with_reducible exact VC.mk rfl | exact Ok.mk | exact True.intro | refine Nx.mk ?_ | refine Fin.mk ?_ | (intro hq; (try simp only [decide_eq_true_eq, decide_eq_false_iff_not, Bool.not_eq_true, Bool.not_eq_false, Bool.not_eq_true', Bool.not_eq_false', Bool.not_true, Bool.not_false, ite_true, ite_false] at hq); (try (exfalso; first | exact absurd hq (by decide) | omega))))
                    all_goals ((try refine VC.mk ?_); (try simp only [CL.ncell, CL.cnt, vq] at *); (try omega))
                    conv => whnf
                    refine loop_of (X := Nat) (fun k => k ≤ w) (fun k => [(132, .any), (141, .int .i64 k)]) (fun k => [(0, .mat l L (.ints .i64 (fun b => matL w (fun j => if b = bi ∧ j < k then (D3 b j - tv * M2 S.piv.length j % 3) % 3 else D3 b j))))]) (fun k => w - k) 0 ⟨anyB_ok, mixed, tabOK, cpEl_ok, noY_ok⟩ (by rfl) (by omega) ?_ ?_
                    · repeat' ((conv => whnf); first | refine And.intro ?_ ?_ | with_reducible exact VC.mk rfl | exact Ok.mk | exact True.intro | refine Nx.mk ?_ | refine Fin.mk ?_ | intro _)
                      all_goals ((try refine VC.mk ?_); (try simp only [CL.ncell, CL.cnt, vq] at *); (try omega))
                      · intro b hb
                        exact matL_congr fun j hj => by rw [if_neg (by omega)]
                    · intro q hq
                      by_cases hqw : q < w
                      · have u1 := f1 q hqw
                        have u2 := f2 q hqw
                        have u3 := d2 _ hnm q hqw
                        have u4 := d2 _ him q hqw
                        repeat' ((conv => whnf); first | refine And.intro ?_ ?_ | with_reducible exact VC.mk rfl | exact Ok.mk | exact True.intro | refine Nx.mk ?_ | refine Fin.mk ?_ | (intro hq; (try simp only [decide_eq_true_eq, decide_eq_false_iff_not, Bool.not_eq_true, Bool.not_eq_false, Bool.not_eq_true', Bool.not_eq_false', Bool.not_true, Bool.not_false, ite_true, ite_false] at hq); (try (exfalso; first | exact absurd hq (by decide) | omega))))
                        all_goals ((try refine VC.mk ?_); (try simp only [CL.ncell, CL.cnt, vq] at *); (try omega))
                        all_goals (try (simp only [te24s, Nat.mul_one, Nat.zero_add, Nat.add_zero, Int.toNat_natCast, matL_len, List.length_set, g2, hbd, hbi2]; first | omega | assumption | exact hL _ (by omega)))
                        · simp only [te24s, Nat.mul_one, hbd, matL_get _ hqw]
                          rw [if_neg (fun h => hne h.1.symm), u2]
                          exact ⟨by omega, ti, u3⟩
                        · simp only [te24s, Nat.mul_one, hbd, hbi2, matL_get _ hqw]
                          rw [if_neg (fun h => by have := h.2; omega), if_neg (fun h => hne h.1.symm), u1]
                          exact ⟨by omega, u4, in3_mod _⟩
                        · refine ⟨q + 1, [], ⟨by omega, by omega⟩, ?_⟩
                          simp only [te24s, Nat.mul_one, hbd, hbi2, matL_get _ hqw]
                          repeat' ((conv => whnf); first | refine And.intro ?_ ?_ | with_reducible exact VC.mk rfl | exact Ok.mk | exact True.intro | refine Nx.mk ?_ | refine Fin.mk ?_ | intro _)
                          all_goals ((try refine VC.mk ?_); (try simp only [CL.ncell, CL.cnt, vq] at *); (try omega))
                          intro b hb
                          unfold updN
                          by_cases eb : b = bi
                          · subst eb
                            rw [if_pos rfl, matL_set]
                            simp only [true_and]
                            refine matL_congr fun j hj => ?_
                            by_cases ej : j = q
                            · subst ej
                              rw [if_pos rfl]
                              simp only [Nat.lt_irrefl, and_false, if_false]
                              rw [if_pos (by omega), u2]
                            · rw [if_neg ej]
                              by_cases ek : j < q
                              · rw [if_pos ek, if_pos (by omega)]
                              · rw [if_neg ek, if_neg (by omega)]
                          · rw [if_neg eb]
                            refine matL_congr fun j hj => ?_
                            rw [if_neg (fun h => eb h.1), if_neg (fun h => eb h.1)]
                      · have hqq : q = w := by omega
                        repeat' ((conv => whnf); first | refine And.intro ?_ ?_ | with_reducible exact VC.mk rfl | exact Ok.mk | exact True.intro | refine Nx.mk ?_ | refine Fin.mk ?_ | (intro hq; (try simp only [decide_eq_true_eq, decide_eq_false_iff_not, Bool.not_eq_true, Bool.not_eq_false, Bool.not_eq_true', Bool.not_eq_false', Bool.not_true, Bool.not_false, ite_true, ite_false] at hq); (try (exfalso; first | exact absurd hq (by decide) | omega))))
                        all_goals ((try refine VC.mk ?_); (try simp only [CL.ncell, CL.cnt, vq] at *); (try omega))
                        all_goals (try (simp only [te24s, Nat.mul_one, Nat.zero_add, Nat.add_zero, Int.toNat_natCast, matL_len, List.length_set, g2, hbd, hbi2]; first | omega | assumption | exact hL _ (by omega)))
                        refine ⟨⟨i + 1, fun b j => if b = bi ∧ j < q then (D3 b j - tv * M2 S.piv.length j % 3) % 3 else D3 b j⟩, [], ⟨⟨by (show i + 1 ≤ m); omega, fun r hr j hj => ?_⟩, by (show m - (i + 1) < m - i); omega⟩, ?_⟩
                        · show (if L.getD r 0 = bi ∧ j < q then (D3 (L.getD r 0) j - tv * M2 S.piv.length j % 3) % 3 else D3 (L.getD r 0) j) = if r < i + 1 then clearM M2 S.piv.length c r j else M2 r j
                          by_cases er : r = i
                          · subst er
                            rw [hbi2, if_pos ⟨rfl, by omega⟩, if_pos (by omega), f1 j hj]
                            unfold clearM
                            rw [if_neg (by omega), htv]
                          · have : L.getD r 0 ≠ bi := fun h => er (nodup_get.1 g3 r i (by omega) (by omega) (h.trans hbi2.symm))
                            rw [if_neg (fun h => this h.1), i2 r hr j hj]
                            by_cases e5 : r < i
                            · rw [if_pos e5, if_pos (by omega)]
                            · rw [if_neg e5, if_neg (by omega)]
                        · repeat' ((conv => whnf); first | refine And.intro ?_ ?_ | with_reducible exact VC.mk rfl | exact Ok.mk | exact True.intro | refine Nx.mk ?_ | refine Fin.mk ?_ | intro _)
                          all_goals ((try refine VC.mk ?_); (try simp only [CL.ncell, CL.cnt, vq] at *); (try omega))
                          all_goals exact fun _ _ => trivial
                  · have hin : i = S.piv.length := by omega
                    refine ⟨⟨i + 1, D3⟩, [], ⟨⟨by (show i + 1 ≤ m); omega, fun r hr j hj => ?_⟩, by (show m - (i + 1) < m - i); omega⟩, ?_⟩
                    · show D3 (L.getD r 0) j = if r < i + 1 then clearM M2 S.piv.length c r j else M2 r j
                      rw [i2 r hr j hj]
                      by_cases e5 : r < i
                      · rw [if_pos e5, if_pos (by omega)]
                      · rw [if_neg e5]
                        by_cases e6 : r = i
                        · rw [if_pos (by omega)]
                          unfold clearM
                          rw [if_pos (by omega), e6, hin]
                        · rw [if_neg (by omega)]
                    · repeat' ((conv => whnf); first | refine And.intro ?_ ?_ | with_reducible exact VC.mk rfl | exact Ok.mk | exact True.intro | refine Nx.mk ?_ | refine Fin.mk ?_ | intro _)
                      all_goals ((try refine VC.mk ?_); (try simp only [CL.ncell, CL.cnt, vq] at *); (try omega))
                      all_goals exact fun _ _ => trivial
                · have hii : i = m := by omega
                  have hstep : stepE m S c = ⟨clearM M2 S.piv.length c, S.piv ++ [(c : Int)], S.heads ++ [sv], S.odd != decide ((S.piv.length : Int) ≠ (a : Nat))⟩ := by
                    unfold stepE
                    rw [hfind, if_neg (by omega), hM1, hsv, hM2]
                  repeat' ((conv => whnf); first | refine And.intro ?_ ?_ | with_reducible exact VC.mk rfl | exact Ok.mk | exact True.intro | refine Nx.mk ?_ | refine Fin.mk ?_ | (intro hq; (try simp only [decide_eq_true_eq, decide_eq_false_iff_not, Bool.not_eq_true, Bool.not_eq_false, Bool.not_eq_true', Bool.not_eq_false', Bool.not_true, Bool.not_false, ite_true, ite_false] at hq); (try (exfalso; first | exact absurd hq (by decide) | omega))))
                  all_goals ((try refine VC.mk ?_); (try simp only [CL.ncell, CL.cnt, vq] at *); (try omega))
                  all_goals (try (simp only [te24s, Nat.mul_one, Nat.zero_add, Nat.add_zero, Int.toNat_natCast, matL_len, List.length_set, g2, hbd]; first | omega | assumption | exact hL _ (by omega)))
                  · rw [List.length_append, List.length_cons, List.length_nil]; omega
                  · refine ⟨⟨c + 1, L, D3⟩, [], ⟨⟨by (show c + 1 ≤ w); omega, g2, g3, g4, hL, fun r hr j hj => ?_⟩, by (show w - (c + 1) < w - c); omega⟩, ?_⟩
                    · show D3 (L.getD r 0) j = (elimE m M0 (c + 1)).M r j
                      rw [hsucc, hstep, i2 r hr j hj, if_pos (by omega)]
                    · simp only [hsucc, hstep]
                      repeat' ((conv => whnf); first | refine And.intro ?_ ?_ | with_reducible exact VC.mk rfl | exact Ok.mk | exact True.intro | refine Nx.mk ?_ | refine Fin.mk ?_ | intro _)
                      all_goals ((try refine VC.mk ?_); (try simp only [CL.ncell, CL.cnt, vq] at *); (try omega))
                      · exact fun _ _ => trivial
                      · simp
                      · simp
        · have hstep : stepE m S c = S := by
            unfold stepE
            rw [findAt_none (fun r h1 h2 => haz r (by omega) (by omega)), if_pos rfl]
          repeat' ((conv => whnf); first | refine And.intro ?_ ?_ | with_reducible exact VC.mk rfl | exact Ok.mk | exact True.intro | refine Nx.mk ?_ | refine Fin.mk ?_ | (intro hq; (try simp only [decide_eq_true_eq, decide_eq_false_iff_not, Bool.not_eq_true, Bool.not_eq_false, Bool.not_eq_true', Bool.not_eq_false', Bool.not_true, Bool.not_false, ite_true, ite_false] at hq); (try (exfalso; first | exact absurd hq (by decide) | omega))))
          all_goals ((try refine VC.mk ?_); (try simp only [CL.ncell, CL.cnt, vq] at *); (try omega))
          all_goals (try (simp only [te24s, Nat.mul_one, Nat.zero_add, Nat.add_zero, Int.toNat_natCast, matL_len, List.length_set, x2]; first | omega | exact x5 _ (by omega)))
          refine ⟨⟨c + 1, lx, D⟩, [], ⟨⟨by (show c + 1 ≤ w); omega, x2, x3, x4, x5, fun r hr j hj => ?_⟩, by (show w - (c + 1) < w - c); omega⟩, ?_⟩
          · show D (lx.getD r 0) j = (elimE m M0 (c + 1)).M r j
            rw [hsucc, hstep]; exact x6 r hr j hj
          · simp only [hsucc, hstep]
            repeat' ((conv => whnf); first | refine And.intro ?_ ?_ | with_reducible exact VC.mk rfl | exact Ok.mk | exact True.intro | refine Nx.mk ?_ | refine Fin.mk ?_ | intro _)
            all_goals ((try refine VC.mk ?_); (try simp only [CL.ncell, CL.cnt, vq] at *); (try omega))
            all_goals exact fun _ _ => trivial
    · have hcc : c = w := by omega
      subst hcc
      repeat' ((conv => whnf); first | refine And.intro ?_ ?_ | with_reducible exact VC.mk rfl | exact Ok.mk | exact True.intro | refine Nx.mk ?_ | refine Fin.mk ?_ | (intro hq; (try simp only [decide_eq_true_eq, decide_eq_false_iff_not, Bool.not_eq_true, Bool.not_eq_false, Bool.not_eq_true', Bool.not_eq_false', Bool.not_true, Bool.not_false, ite_true, ite_false] at hq); (try (exfalso; first | exact absurd hq (by decide) | omega))))
      all_goals ((try refine VC.mk ?_); (try simp only [CL.ncell, CL.cnt, vq] at *); (try omega))
      conv => whnf
      repeat' ((conv => whnf); first | refine And.intro ?_ ?_ | with_reducible exact VC.mk rfl | exact Ok.mk | exact True.intro | refine Nx.mk ?_ | refine Fin.mk ?_ | intro _)
      all_goals ((try refine VC.mk ?_); (try simp only [CL.ncell, CL.cnt, vq] at *); (try omega))
      · exact x4 _ (by assumption)
      · exact matL_congr fun j hj => x6 _ (by assumption) j hj
end Go.Eng.YtppflbccfdbogaaGreat
namespace Go.Eng.YtppflbccfdbogaaGreat
open Go.Proofs
set_option maxRecDepth 100000
set_option maxHeartbeats 0
set_option linter.unusedVariables false
set_option linter.unusedSimpArgs false
def modL (m : List (List Int)) (w : Nat) : LSp := fun xs objs K => match xs, objs with
  | [.isl (.rows .i64 l) .none, .int .i64 p], [] => VC (l = m ∧ p = 3) ∧ K [.rsl 0 0 m.length, .agg [.int .i64 3], .int .i64 0] [.pmat m.length (.ints .i64 (fun r => matL w (resM m r)))]
  | _, _ => False
theorem modL_ok {m : List (List Int)} {w : Nat} (h : MatOK m w) : LOK Tryz.prog 48 (modL m w) := by
  intro xs objs K hk
  unfold modL at hk
  split at hk
  · obtain ⟨⟨rfl, rfl⟩, hk⟩ := hk
    exact ⟨_, _, hk, modulo_spec _ w h⟩
  · exact hk.elim
def widL (m w : Nat) (M : Mat) : LSp := fun xs objs K => match xs, objs with
  | [.rsl k o n], [.pmat q (.ints .i64 c)] => VC (k = 0 ∧ o = 0 ∧ n = m ∧ q = m ∧ c = fun r => matL w (M r)) ∧ K [.int .i64 (w : Int)] [.pmat m (.ints .i64 (fun r => matL w (M r)))]
  | _, _ => False
theorem widL_ok {m w : Nat} {M : Mat} (hm : 1 ≤ m) : LOK Tryz.prog 50 (widL m w M) := by
  intro xs objs K hk
  unfold widL at hk
  split at hk
  · obtain ⟨⟨rfl, rfl, rfl, rfl, rfl⟩, hk⟩ := hk
    exact ⟨_, _, hk, width_spec hm (fun i _ => matL_len _ _)⟩
  · exact hk.elim
def elL (m w : Nat) (M : Mat) : LSp := fun xs objs K => match xs, objs with
  | [.agg [.int .i64 p], .rsl k o n, .int .i64 v], [.pmat q (.ints .i64 c)] => VC (p = 3 ∧ k = 0 ∧ o = 0 ∧ n = m ∧ v = (w : Int) ∧ q = m ∧ c = fun r => matL w (M r)) ∧
      K [.agg [.rsl 0 0 (elimE m M w).piv.length, .isl (.ints .i64 (elimE m M w).piv) .none, .isl (.ints .i64 (elimE m M w).heads) .none, .bp (elimE m M w).odd]] [.pmat m (.ints .i64 (fun r => matL w ((elimE m M w).M r)))]
  | _, _ => False
theorem elL_ok {m w : Nat} {M : Mat} (hm : 1 ≤ m ∧ m ≤ 256) (hw : 1 ≤ w ∧ w ≤ 256) (h3 : In3 m w M) : LOK Tryz.prog 49 (elL m w M) := by
  intro xs objs K hk
  unfold elL at hk
  split at hk
  · obtain ⟨⟨rfl, rfl, rfl, rfl, rfl, rfl, rfl⟩, hk⟩ := hk
    exact ⟨_, _, hk, elim_spec hm hw h3⟩
  · exact hk.elim
theorem rank_spec (m : List (List Int)) (w : Nat) (h : MatOK m w) : PSpec Tryz.prog 22 [.isl (.rows .i64 m) .none, .int .i64 3] (.tup [.int .i64 ((elimE m.length (resM m) w).piv.length : Int), .int .i64 0]) := by
  have h3 : In3 m.length w (resM m) := fun r _ j _ => in3_mod _
  have hC := cpAdd_ok (lendCC_ok [] (modL_ok h)) (cpAdd_ok (lendCC_ok [] (widL_ok (m := m.length) (w := w) (M := resM m) h.len.1)) (cpAdd_ok (lendCC_ok [] (elL_ok h.len h.wid h3)) noC_ok))
  refine pspec_of (md := 1) (rf := []) mixed tabOK hC Tryz.func22 (by rfl) (by rfl) (by rfl) ?_
  repeat' ((conv => whnf); first | refine And.intro ?_ ?_ | with_reducible exact VC.mk rfl | exact Ok.mk | exact True.intro | refine Nx.mk ?_ | refine Fin.mk ?_ | (intro hq; (try simp only [decide_eq_true_eq, decide_eq_false_iff_not, Bool.not_eq_true, Bool.not_eq_false, Bool.not_eq_true', Bool.not_eq_false', Bool.not_true, Bool.not_false, ite_true, ite_false] at hq); (try (exfalso; first | exact absurd hq (by decide) | omega))))
  all_goals ((try refine VC.mk ?_); (try simp only [CL.ncell, CL.cnt, vq] at *); (try omega))
  exact Sup.of rfl
end Go.Eng.YtppflbccfdbogaaGreat
namespace Go.Eng.YtppflbccfdbogaaGreat
open Go.Proofs
set_option maxRecDepth 100000
set_option maxHeartbeats 0
set_option linter.unusedVariables false
set_option linter.unusedSimpArgs false
def cloneP : PSp := fun xs K => match xs with
  | [.isl (.ints .i64 [a, b, c, d]) .none] => VC (True) ∧ K (.isl (.ints .i64 [a, b, c, d]) .none)
  | _ => False
theorem clone_ok : POK Tryz.prog 21 cloneP := by
  intro xs K h
  unfold cloneP at h
  split at h
  · exact ⟨_, h.2, clone_spec _ _ _ _⟩
  · exact h.elim
def ch0P : PSp := fun xs K => match xs with
  | [.agg [.int .i64 a, .int .i64 b, .int .i64 c, .int .i64 d]] => VC (True) ∧ K (.agg [.int .i64 a, .int .i64 b])
  | _ => False
theorem ch0_ok : POK Tryz.prog 23 ch0P := by
  intro xs K h
  unfold ch0P at h
  split at h
  · exact ⟨_, h.2, c23_spec _ _ _ _⟩
  · exact h.elim
def ch1P : PSp := fun xs K => match xs with
  | [.agg [.int .i64 a, .int .i64 b, .int .i64 c, .int .i64 d]] => VC (True) ∧ K (.agg [.int .i64 c, .int .i64 d])
  | _ => False
theorem ch1_ok : POK Tryz.prog 24 ch1P := by
  intro xs K h
  unfold ch1P at h
  split at h
  · exact ⟨_, h.2, c24_spec _ _ _ _⟩
  · exact h.elim
def ch2P : PSp := fun xs K => match xs with
  | [.agg [.int .i64 a, .int .i64 b, .int .i64 c, .int .i64 d]] => VC ((0 ≤ a ∧ a ≤ 2) ∧ (0 ≤ b ∧ b ≤ 2) ∧ (0 ≤ c ∧ c ≤ 2) ∧ (0 ≤ d ∧ d ≤ 2)) ∧ K (.agg [.int .i64 (a + c), .int .i64 (b + d)])
  | _ => False
theorem ch2_ok : POK Tryz.prog 25 ch2P := by
  intro xs K h
  unfold ch2P at h
  split at h
  · exact ⟨_, h.2, c25_spec _ _ _ _ h.1.get⟩
  · exact h.elim
def ch3P : PSp := fun xs K => match xs with
  | [.agg [.int .i64 a, .int .i64 b, .int .i64 c, .int .i64 d]] => VC ((0 ≤ a ∧ a ≤ 2) ∧ (0 ≤ b ∧ b ≤ 2) ∧ (0 ≤ c ∧ c ≤ 2) ∧ (0 ≤ d ∧ d ≤ 2)) ∧ K (.agg [.int .i64 (a - c), .int .i64 (b - d)])
  | _ => False
theorem ch3_ok : POK Tryz.prog 26 ch3P := by
  intro xs K h
  unfold ch3P at h
  split at h
  · exact ⟨_, h.2, c26_spec _ _ _ _ h.1.get⟩
  · exact h.elim
def ba01 (x0 x1 x2 x3 x4 x5 x6 x7 x8 x9 x10 x11 x12 x13 x14 x15 : Int) : Bool := decide ((x4 * x1 - x5 * x0) % 3 = 0)
def ba02 (x0 x1 x2 x3 x4 x5 x6 x7 x8 x9 x10 x11 x12 x13 x14 x15 : Int) : Bool := decide ((x8 * x1 - x9 * x0) % 3 = 0) || decide ((x8 * x5 - x9 * x4) % 3 = 0)
def ba03 (x0 x1 x2 x3 x4 x5 x6 x7 x8 x9 x10 x11 x12 x13 x14 x15 : Int) : Bool := decide ((x12 * x1 - x13 * x0) % 3 = 0) || decide ((x12 * x5 - x13 * x4) % 3 = 0) || decide ((x12 * x9 - x13 * x8) % 3 = 0)
def ba11 (x0 x1 x2 x3 x4 x5 x6 x7 x8 x9 x10 x11 x12 x13 x14 x15 : Int) : Bool := decide ((x6 * x3 - x7 * x2) % 3 = 0)
def ba12 (x0 x1 x2 x3 x4 x5 x6 x7 x8 x9 x10 x11 x12 x13 x14 x15 : Int) : Bool := decide ((x10 * x3 - x11 * x2) % 3 = 0) || decide ((x10 * x7 - x11 * x6) % 3 = 0)
def ba13 (x0 x1 x2 x3 x4 x5 x6 x7 x8 x9 x10 x11 x12 x13 x14 x15 : Int) : Bool := decide ((x14 * x3 - x15 * x2) % 3 = 0) || decide ((x14 * x7 - x15 * x6) % 3 = 0) || decide ((x14 * x11 - x15 * x10) % 3 = 0)
def ba21 (x0 x1 x2 x3 x4 x5 x6 x7 x8 x9 x10 x11 x12 x13 x14 x15 : Int) : Bool := decide (((x4 + x6) * (x1 + x3) - (x5 + x7) * (x0 + x2)) % 3 = 0)
def ba22 (x0 x1 x2 x3 x4 x5 x6 x7 x8 x9 x10 x11 x12 x13 x14 x15 : Int) : Bool := decide (((x8 + x10) * (x1 + x3) - (x9 + x11) * (x0 + x2)) % 3 = 0) || decide (((x8 + x10) * (x5 + x7) - (x9 + x11) * (x4 + x6)) % 3 = 0)
def ba23 (x0 x1 x2 x3 x4 x5 x6 x7 x8 x9 x10 x11 x12 x13 x14 x15 : Int) : Bool := decide (((x12 + x14) * (x1 + x3) - (x13 + x15) * (x0 + x2)) % 3 = 0) || decide (((x12 + x14) * (x5 + x7) - (x13 + x15) * (x4 + x6)) % 3 = 0) || decide (((x12 + x14) * (x9 + x11) - (x13 + x15) * (x8 + x10)) % 3 = 0)
def ba31 (x0 x1 x2 x3 x4 x5 x6 x7 x8 x9 x10 x11 x12 x13 x14 x15 : Int) : Bool := decide (((x4 - x6) * (x1 - x3) - (x5 - x7) * (x0 - x2)) % 3 = 0)
def ba32 (x0 x1 x2 x3 x4 x5 x6 x7 x8 x9 x10 x11 x12 x13 x14 x15 : Int) : Bool := decide (((x8 - x10) * (x1 - x3) - (x9 - x11) * (x0 - x2)) % 3 = 0) || decide (((x8 - x10) * (x5 - x7) - (x9 - x11) * (x4 - x6)) % 3 = 0)
def ba33 (x0 x1 x2 x3 x4 x5 x6 x7 x8 x9 x10 x11 x12 x13 x14 x15 : Int) : Bool := decide (((x12 - x14) * (x1 - x3) - (x13 - x15) * (x0 - x2)) % 3 = 0) || decide (((x12 - x14) * (x5 - x7) - (x13 - x15) * (x4 - x6)) % 3 = 0) || decide (((x12 - x14) * (x9 - x11) - (x13 - x15) * (x8 - x10)) % 3 = 0)
def ba0 (x0 x1 x2 x3 x4 x5 x6 x7 x8 x9 x10 x11 x12 x13 x14 x15 : Int) : Bool := ba01 x0 x1 x2 x3 x4 x5 x6 x7 x8 x9 x10 x11 x12 x13 x14 x15 || ba02 x0 x1 x2 x3 x4 x5 x6 x7 x8 x9 x10 x11 x12 x13 x14 x15 || ba03 x0 x1 x2 x3 x4 x5 x6 x7 x8 x9 x10 x11 x12 x13 x14 x15
def ba1 (x0 x1 x2 x3 x4 x5 x6 x7 x8 x9 x10 x11 x12 x13 x14 x15 : Int) : Bool := ba11 x0 x1 x2 x3 x4 x5 x6 x7 x8 x9 x10 x11 x12 x13 x14 x15 || ba12 x0 x1 x2 x3 x4 x5 x6 x7 x8 x9 x10 x11 x12 x13 x14 x15 || ba13 x0 x1 x2 x3 x4 x5 x6 x7 x8 x9 x10 x11 x12 x13 x14 x15
def ba2 (x0 x1 x2 x3 x4 x5 x6 x7 x8 x9 x10 x11 x12 x13 x14 x15 : Int) : Bool := ba21 x0 x1 x2 x3 x4 x5 x6 x7 x8 x9 x10 x11 x12 x13 x14 x15 || ba22 x0 x1 x2 x3 x4 x5 x6 x7 x8 x9 x10 x11 x12 x13 x14 x15 || ba23 x0 x1 x2 x3 x4 x5 x6 x7 x8 x9 x10 x11 x12 x13 x14 x15
def ba3 (x0 x1 x2 x3 x4 x5 x6 x7 x8 x9 x10 x11 x12 x13 x14 x15 : Int) : Bool := ba31 x0 x1 x2 x3 x4 x5 x6 x7 x8 x9 x10 x11 x12 x13 x14 x15 || ba32 x0 x1 x2 x3 x4 x5 x6 x7 x8 x9 x10 x11 x12 x13 x14 x15 || ba33 x0 x1 x2 x3 x4 x5 x6 x7 x8 x9 x10 x11 x12 x13 x14 x15
def admC (x0 x1 x2 x3 x4 x5 x6 x7 x8 x9 x10 x11 x12 x13 x14 x15 : Int) : Bool := !(ba0 x0 x1 x2 x3 x4 x5 x6 x7 x8 x9 x10 x11 x12 x13 x14 x15 || ba1 x0 x1 x2 x3 x4 x5 x6 x7 x8 x9 x10 x11 x12 x13 x14 x15 || ba2 x0 x1 x2 x3 x4 x5 x6 x7 x8 x9 x10 x11 x12 x13 x14 x15 || ba3 x0 x1 x2 x3 x4 x5 x6 x7 x8 x9 x10 x11 x12 x13 x14 x15)
noncomputable def rkF (x0 x1 x2 x3 x4 x5 x6 x7 x8 x9 x10 x11 x12 x13 x14 x15 : Int) : Nat := (elimE 4 (resM [[x0, x1, x2, x3], [x4, x5, x6, x7], [x8, x9, x10, x11], [x12, x13, x14, x15]]) 4).piv.length
noncomputable def cpF6 (x0 x1 x2 x3 x4 x5 x6 x7 x8 x9 x10 x11 x12 x13 x14 x15 : Int) : CPT := cpAdd 17 (pureCC (atC True [.agg (fmL x0 x1 x2 x3 x4 x5 x6 x7 x8 x9 x10 x11 x12 x13 x14 x15)] (.int .i64 0))) (cpAdd 21 (giveCC cloneP) (cpAdd 22 (pureCC (atC True [.isl (.rows .i64 [[x0, x1, x2, x3], [x4, x5, x6, x7], [x8, x9, x10, x11], [x12, x13, x14, x15]]) .none, .int .i64 3] (.tup [.int .i64 (rkF x0 x1 x2 x3 x4 x5 x6 x7 x8 x9 x10 x11 x12 x13 x14 x15 : Int), .int .i64 0]))) (cpAdd 23 (pureCC ch0P) (cpAdd 24 (pureCC ch1P) (cpAdd 25 (pureCC ch2P) (cpAdd 26 (pureCC ch3P) (cpAdd 27 (pureCC modP) noC)))))))
theorem cpF6_ok (x0 x1 x2 x3 x4 x5 x6 x7 x8 x9 x10 x11 x12 x13 x14 x15 : Int) (h : ∀ x ∈ [x0, x1, x2, x3, x4, x5, x6, x7, x8, x9, x10, x11, x12, x13, x14, x15], 0 ≤ x ∧ x ≤ 2) : CPOK Tryz.prog (cpF6 x0 x1 x2 x3 x4 x5 x6 x7 x8 x9 x10 x11 x12 x13 x14 x15) := by
  refine cpAdd_ok (pureCC_ok (atC_ok fun _ => ?_)) (cpAdd_ok (giveCC_ok clone_ok) (cpAdd_ok (pureCC_ok (atC_ok fun _ => ?_)) (cpAdd_ok (pureCC_ok ch0_ok) (cpAdd_ok (pureCC_ok ch1_ok) (cpAdd_ok (pureCC_ok ch2_ok) (cpAdd_ok (pureCC_ok ch3_ok) (cpAdd_ok (pureCC_ok mod_ok) noC_ok)))))))
  · have := forms_spec x0 x1 x2 x3 x4 x5 x6 x7 x8 x9 x10 x11 x12 x13 x14 x15
    rwa [formErr_zero h] at this
  · simp only [List.mem_cons, List.not_mem_nil, or_false, forall_eq_or_imp, forall_eq] at h
    obtain ⟨h0, h1, h2, h3, h4, h5, h6, h7, h8, h9, h10, h11, h12, h13, h14, h15⟩ := h
    refine rank_spec [[x0, x1, x2, x3], [x4, x5, x6, x7], [x8, x9, x10, x11], [x12, x13, x14, x15]] 4 ⟨by simp, by omega, ?_, ?_⟩
    · intro i hi
      have : i = 0 ∨ i = 1 ∨ i = 2 ∨ i = 3 := by simp at hi; omega
      rcases this with rfl | rfl | rfl | rfl <;> rfl
    · intro i hi
      have : i = 0 ∨ i = 1 ∨ i = 2 ∨ i = 3 := by simp at hi; omega
      rcases this with rfl | rfl | rfl | rfl <;> (simp [isNum]; omega)
theorem mul_sb {a b : Int} (ha : -2 ≤ a ∧ a ≤ 2) (hb : -2 ≤ b ∧ b ≤ 2) : -4 ≤ a * b ∧ a * b ≤ 4 := by
  have h1 : a = -2 ∨ a = -1 ∨ a = 0 ∨ a = 1 ∨ a = 2 := by omega
  rcases h1 with rfl | rfl | rfl | rfl | rfl <;> omega
theorem sup_n {nb b : Bool} (h : nb = false) : Sup (resOf [PV.bool false, .int .i64 0]) (.tup [.bp (nb && b), .int .i64 0]) := by
  subst h
  all_goals (refine Sup.via ?_; repeat' ((conv => whnf); first | refine And.intro ?_ ?_ | with_reducible exact VC.mk rfl | exact Ok.mk | exact True.intro | refine Nx.mk ?_ | refine Fin.mk ?_ | intro _); all_goals ((try refine VC.mk ?_); (try simp only [CL.ncell, CL.cnt, vq] at *); (try omega)); all_goals (try (simp [CL.sub]; done)))
theorem sup_f {nb b : Bool} (h : b = false) : Sup (resOf [PV.bool false, .int .i64 0]) (.tup [.bp (nb && b), .int .i64 0]) := by
  rw [h, Bool.and_false]
  all_goals (refine Sup.via ?_; repeat' ((conv => whnf); first | refine And.intro ?_ ?_ | with_reducible exact VC.mk rfl | exact Ok.mk | exact True.intro | refine Nx.mk ?_ | refine Fin.mk ?_ | intro _); all_goals ((try refine VC.mk ?_); (try simp only [CL.ncell, CL.cnt, vq] at *); (try omega)); all_goals (try (simp [CL.sub]; done)))
theorem sup_t {nb b : Bool} (h : nb = true) (h1 : b = true) : Sup (resOf [PV.bool true, .int .i64 0]) (.tup [.bp (nb && b), .int .i64 0]) := by
  subst h h1
  all_goals (refine Sup.via ?_; repeat' ((conv => whnf); first | refine And.intro ?_ ?_ | with_reducible exact VC.mk rfl | exact Ok.mk | exact True.intro | refine Nx.mk ?_ | refine Fin.mk ?_ | intro _); all_goals ((try refine VC.mk ?_); (try simp only [CL.ncell, CL.cnt, vq] at *); (try omega)); all_goals (try (simp [CL.sub]; done)))
theorem adm_spec (x0 x1 x2 x3 x4 x5 x6 x7 x8 x9 x10 x11 x12 x13 x14 x15 : Int) (h : ∀ x ∈ [x0, x1, x2, x3, x4, x5, x6, x7, x8, x9, x10, x11, x12, x13, x14, x15], 0 ≤ x ∧ x ≤ 2) : PSpec Tryz.prog 6 [.agg (fmL x0 x1 x2 x3 x4 x5 x6 x7 x8 x9 x10 x11 x12 x13 x14 x15)] (.tup [.bp (decide (4 ≤ rkF x0 x1 x2 x3 x4 x5 x6 x7 x8 x9 x10 x11 x12 x13 x14 x15) && admC x0 x1 x2 x3 x4 x5 x6 x7 x8 x9 x10 x11 x12 x13 x14 x15), .int .i64 0]) := by
  have hC := cpF6_ok x0 x1 x2 x3 x4 x5 x6 x7 x8 x9 x10 x11 x12 x13 x14 x15 h
  have hrk : rkF x0 x1 x2 x3 x4 x5 x6 x7 x8 x9 x10 x11 x12 x13 x14 x15 ≤ 4 := (elimE_in3 (m := 4) (w := 4) (M := resM [[x0, x1, x2, x3], [x4, x5, x6, x7], [x8, x9, x10, x11], [x12, x13, x14, x15]]) (fun r _ j _ => in3_mod _) 4).2.1
  simp only [List.mem_cons, List.not_mem_nil, or_false, forall_eq_or_imp, forall_eq] at h
  obtain ⟨h0, h1, h2, h3, h4, h5, h6, h7, h8, h9, h10, h11, h12, h13, h14, h15⟩ := h
  unfold cpF6 at hC
  generalize rkF x0 x1 x2 x3 x4 x5 x6 x7 x8 x9 x10 x11 x12 x13 x14 x15 = rk at *
  refine pspec_of (md := 1) (rf := []) mixed tabOK hC Tryz.func6 (by rfl) (by rfl) (by rfl) ?_
  repeat' ((conv => whnf); first | refine And.intro ?_ ?_ | with_reducible exact VC.mk rfl | exact Ok.mk | exact True.intro | refine Nx.mk ?_ | refine Fin.mk ?_ | intro _)
  all_goals ((try refine VC.mk ?_); (try simp only [CL.ncell, CL.cnt, vq] at *); (try omega))
  conv => whnf
  refine loop_of (X := Nat) (fun i => i ≤ 4) (fun i => [(23, .int .i64 i), (5, .isl (.rows .i64 ([[x0, x1, x2, x3], [x4, x5, x6, x7], [x8, x9, x10, x11], [x12, x13, x14, x15]].take i)) (.own 1))]) (fun i => [(1, .tok 1 i)]) (fun i => 4 - i) 0 ⟨anyB_ok, mixed, tabOK, hC, noY_ok⟩ (by rfl) (by omega) ?_ ?_
  · repeat' ((conv => whnf); first | refine And.intro ?_ ?_ | with_reducible exact VC.mk rfl | exact Ok.mk | exact True.intro | refine Nx.mk ?_ | refine Fin.mk ?_ | intro _)
    all_goals ((try refine VC.mk ?_); (try simp only [CL.ncell, CL.cnt, vq] at *); (try omega))
  intro i hi
  have hc : i = 0 ∨ i = 1 ∨ i = 2 ∨ i = 3 ∨ i = 4 := by omega
  rcases hc with rfl | rfl | rfl | rfl | rfl
  · repeat' ((conv => whnf); first | refine And.intro ?_ ?_ | with_reducible exact VC.mk rfl | exact Ok.mk | exact True.intro | refine Nx.mk ?_ | refine Fin.mk ?_ | (intro hq; (try (exact absurd hq (by decide)))))
    all_goals (first | (refine VC.mk ?_; (try simp only [CL.ncell, CL.cnt, vp, List.length_cons, List.length_nil]); (try omega)) | ((with_reducible first | show (_ : Int) ≤ _ | show (_ : Int) < _ | show (_ : Nat) ≤ _ | show (_ : Nat) < _ | show (_ : Int) ≠ _); (try simp only [CL.ncell, CL.cnt, vp, List.length_cons, List.length_nil]); (try omega)) | skip)
    · simp [show te22.size = 4 from rfl]
    · rfl
    · simp
    refine ⟨1, [], ⟨by omega, by omega⟩, ?_⟩
    repeat' ((conv => whnf); first | refine And.intro ?_ ?_ | with_reducible exact VC.mk rfl | exact Ok.mk | exact True.intro | refine Nx.mk ?_ | refine Fin.mk ?_ | (intro hq; (try (exact absurd hq (by decide)))))
    all_goals (first | (refine VC.mk ?_; (try simp only [CL.ncell, CL.cnt, vp, List.length_cons, List.length_nil]); (try omega)) | ((with_reducible first | show (_ : Int) ≤ _ | show (_ : Int) < _ | show (_ : Nat) ≤ _ | show (_ : Nat) < _ | show (_ : Int) ≠ _); (try simp only [CL.ncell, CL.cnt, vp, List.length_cons, List.length_nil]); (try omega)) | skip)
  · repeat' ((conv => whnf); first | refine And.intro ?_ ?_ | with_reducible exact VC.mk rfl | exact Ok.mk | exact True.intro | refine Nx.mk ?_ | refine Fin.mk ?_ | (intro hq; (try (exact absurd hq (by decide)))))
    all_goals (first | (refine VC.mk ?_; (try simp only [CL.ncell, CL.cnt, vp, List.length_cons, List.length_nil]); (try omega)) | ((with_reducible first | show (_ : Int) ≤ _ | show (_ : Int) < _ | show (_ : Nat) ≤ _ | show (_ : Nat) < _ | show (_ : Int) ≠ _); (try simp only [CL.ncell, CL.cnt, vp, List.length_cons, List.length_nil]); (try omega)) | skip)
    · simp [show te22.size = 4 from rfl]
    · rfl
    · simp
    refine ⟨2, [], ⟨by omega, by omega⟩, ?_⟩
    repeat' ((conv => whnf); first | refine And.intro ?_ ?_ | with_reducible exact VC.mk rfl | exact Ok.mk | exact True.intro | refine Nx.mk ?_ | refine Fin.mk ?_ | (intro hq; (try (exact absurd hq (by decide)))))
    all_goals (first | (refine VC.mk ?_; (try simp only [CL.ncell, CL.cnt, vp, List.length_cons, List.length_nil]); (try omega)) | ((with_reducible first | show (_ : Int) ≤ _ | show (_ : Int) < _ | show (_ : Nat) ≤ _ | show (_ : Nat) < _ | show (_ : Int) ≠ _); (try simp only [CL.ncell, CL.cnt, vp, List.length_cons, List.length_nil]); (try omega)) | skip)
  · repeat' ((conv => whnf); first | refine And.intro ?_ ?_ | with_reducible exact VC.mk rfl | exact Ok.mk | exact True.intro | refine Nx.mk ?_ | refine Fin.mk ?_ | (intro hq; (try (exact absurd hq (by decide)))))
    all_goals (first | (refine VC.mk ?_; (try simp only [CL.ncell, CL.cnt, vp, List.length_cons, List.length_nil]); (try omega)) | ((with_reducible first | show (_ : Int) ≤ _ | show (_ : Int) < _ | show (_ : Nat) ≤ _ | show (_ : Nat) < _ | show (_ : Int) ≠ _); (try simp only [CL.ncell, CL.cnt, vp, List.length_cons, List.length_nil]); (try omega)) | skip)
    · simp [show te22.size = 4 from rfl]
    · rfl
    · simp
    refine ⟨3, [], ⟨by omega, by omega⟩, ?_⟩
    repeat' ((conv => whnf); first | refine And.intro ?_ ?_ | with_reducible exact VC.mk rfl | exact Ok.mk | exact True.intro | refine Nx.mk ?_ | refine Fin.mk ?_ | (intro hq; (try (exact absurd hq (by decide)))))
    all_goals (first | (refine VC.mk ?_; (try simp only [CL.ncell, CL.cnt, vp, List.length_cons, List.length_nil]); (try omega)) | ((with_reducible first | show (_ : Int) ≤ _ | show (_ : Int) < _ | show (_ : Nat) ≤ _ | show (_ : Nat) < _ | show (_ : Int) ≠ _); (try simp only [CL.ncell, CL.cnt, vp, List.length_cons, List.length_nil]); (try omega)) | skip)
  · repeat' ((conv => whnf); first | refine And.intro ?_ ?_ | with_reducible exact VC.mk rfl | exact Ok.mk | exact True.intro | refine Nx.mk ?_ | refine Fin.mk ?_ | (intro hq; (try (exact absurd hq (by decide)))))
    all_goals (first | (refine VC.mk ?_; (try simp only [CL.ncell, CL.cnt, vp, List.length_cons, List.length_nil]); (try omega)) | ((with_reducible first | show (_ : Int) ≤ _ | show (_ : Int) < _ | show (_ : Nat) ≤ _ | show (_ : Nat) < _ | show (_ : Int) ≠ _); (try simp only [CL.ncell, CL.cnt, vp, List.length_cons, List.length_nil]); (try omega)) | skip)
    · simp [show te22.size = 4 from rfl]
    · rfl
    · simp
    refine ⟨4, [], ⟨by omega, by omega⟩, ?_⟩
    repeat' ((conv => whnf); first | refine And.intro ?_ ?_ | with_reducible exact VC.mk rfl | exact Ok.mk | exact True.intro | refine Nx.mk ?_ | refine Fin.mk ?_ | (intro hq; (try (exact absurd hq (by decide)))))
    all_goals (first | (refine VC.mk ?_; (try simp only [CL.ncell, CL.cnt, vp, List.length_cons, List.length_nil]); (try omega)) | ((with_reducible first | show (_ : Int) ≤ _ | show (_ : Int) < _ | show (_ : Nat) ≤ _ | show (_ : Nat) < _ | show (_ : Int) ≠ _); (try simp only [CL.ncell, CL.cnt, vp, List.length_cons, List.length_nil]); (try omega)) | skip)
  rw [show List.take 4 [[x0, x1, x2, x3], [x4, x5, x6, x7], [x8, x9, x10, x11], [x12, x13, x14, x15]] = [[x0, x1, x2, x3], [x4, x5, x6, x7], [x8, x9, x10, x11], [x12, x13, x14, x15]] from rfl]
  repeat' ((conv => whnf); first | refine And.intro ?_ ?_ | with_reducible exact VC.mk rfl | exact Ok.mk | exact True.intro | refine Nx.mk ?_ | refine Fin.mk ?_ | intro _)
  all_goals ((try refine VC.mk ?_); (try simp only [CL.ncell, CL.cnt, vq] at *); (try omega))
  · exact sup_n (by simp; omega)
  have h4 : decide (4 ≤ rk) = true := by simp; omega
  conv => whnf
  refine loop_of (X := Nat) (fun i => i ≤ 4 ∧ VC ((0 < i → ba0 x0 x1 x2 x3 x4 x5 x6 x7 x8 x9 x10 x11 x12 x13 x14 x15 = false) ∧ (1 < i → ba1 x0 x1 x2 x3 x4 x5 x6 x7 x8 x9 x10 x11 x12 x13 x14 x15 = false) ∧ (2 < i → ba2 x0 x1 x2 x3 x4 x5 x6 x7 x8 x9 x10 x11 x12 x13 x14 x15 = false) ∧ (3 < i → ba3 x0 x1 x2 x3 x4 x5 x6 x7 x8 x9 x10 x11 x12 x13 x14 x15 = false))) (fun i => [(46, .int .i64 i), (12, .any)]) (fun _ => []) (fun i => 4 - i) 0 ⟨anyB_ok, mixed, tabOK, hC, noY_ok⟩ (by rfl) ⟨by omega, VC.mk ⟨by omega, by omega, by omega, by omega⟩⟩ ?_ ?_
  · repeat' ((conv => whnf); first | refine And.intro ?_ ?_ | with_reducible exact VC.mk rfl | exact Ok.mk | exact True.intro | refine Nx.mk ?_ | refine Fin.mk ?_ | (intro hq; (try (exact absurd hq (by decide)))))
    all_goals (first | (refine VC.mk ?_; (try simp only [CL.ncell, CL.cnt, vp]); (try omega)) | ((with_reducible first | show (_ : Int) ≤ _ | show (_ : Int) < _ | show (_ : Nat) ≤ _ | show (_ : Nat) < _ | show (_ : Int) ≠ _); (try simp only [CL.ncell, CL.cnt, vp]); (try omega)) | skip)
  rintro i ⟨hi, hv⟩
  have hc : i = 0 ∨ i = 1 ∨ i = 2 ∨ i = 3 ∨ i = 4 := by omega
  rcases hc with rfl | rfl | rfl | rfl | rfl
  · repeat' ((conv => whnf); first | refine And.intro ?_ ?_ | with_reducible exact VC.mk rfl | exact Ok.mk | exact True.intro | refine Nx.mk ?_ | refine Fin.mk ?_ | (intro hq; (try (exact absurd hq (by decide)))))
    all_goals (first | (refine VC.mk ?_; (try simp only [CL.ncell, CL.cnt, vp]); (try omega)) | ((with_reducible first | show (_ : Int) ≤ _ | show (_ : Int) < _ | show (_ : Nat) ≤ _ | show (_ : Nat) < _ | show (_ : Int) ≠ _); (try simp only [CL.ncell, CL.cnt, vp]); (try omega)) | skip)
    · simp [show te52.size = 1 from rfl]
    repeat' ((conv => whnf); first | refine And.intro ?_ ?_ | with_reducible exact VC.mk rfl | exact Ok.mk | exact True.intro | refine Nx.mk ?_ | refine Fin.mk ?_ | (intro hq; (try (exact absurd hq (by decide)))))
    all_goals (first | (refine VC.mk ?_; (try simp only [CL.ncell, CL.cnt, vp]); (try omega)) | ((with_reducible first | show (_ : Int) ≤ _ | show (_ : Int) < _ | show (_ : Nat) ≤ _ | show (_ : Nat) < _ | show (_ : Int) ≠ _); (try simp only [CL.ncell, CL.cnt, vp]); (try omega)) | skip)
    conv => whnf
    refine loop_of (X := Nat) (fun i => i ≤ 4 ∧ VC ((1 < i → ba01 x0 x1 x2 x3 x4 x5 x6 x7 x8 x9 x10 x11 x12 x13 x14 x15 = false) ∧ (2 < i → ba02 x0 x1 x2 x3 x4 x5 x6 x7 x8 x9 x10 x11 x12 x13 x14 x15 = false) ∧ (3 < i → ba03 x0 x1 x2 x3 x4 x5 x6 x7 x8 x9 x10 x11 x12 x13 x14 x15 = false))) (fun i => [(49, .int .i64 i)]) (fun _ => []) (fun i => 4 - i) 0 ⟨anyB_ok, mixed, tabOK, hC, noY_ok⟩ (by rfl) ⟨by omega, VC.mk ⟨by omega, by omega, by omega⟩⟩ ?_ ?_
    · repeat' ((conv => whnf); first | refine And.intro ?_ ?_ | with_reducible exact VC.mk rfl | exact Ok.mk | exact True.intro | refine Nx.mk ?_ | refine Fin.mk ?_ | (intro hq; (try (exact absurd hq (by decide)))))
      all_goals (first | (refine VC.mk ?_; (try simp only [CL.ncell, CL.cnt, vp]); (try omega)) | ((with_reducible first | show (_ : Int) ≤ _ | show (_ : Int) < _ | show (_ : Nat) ≤ _ | show (_ : Nat) < _ | show (_ : Int) ≠ _); (try simp only [CL.ncell, CL.cnt, vp]); (try omega)) | skip)
    rintro i ⟨hi, hw⟩
    have hc : i = 0 ∨ i = 1 ∨ i = 2 ∨ i = 3 ∨ i = 4 := by omega
    rcases hc with rfl | rfl | rfl | rfl | rfl
    · repeat' ((conv => whnf); first | refine And.intro ?_ ?_ | with_reducible exact VC.mk rfl | exact Ok.mk | exact True.intro | refine Nx.mk ?_ | refine Fin.mk ?_ | (intro hq; (try (exact absurd hq (by decide)))))
      all_goals (first | (refine VC.mk ?_; (try simp only [CL.ncell, CL.cnt, vp]); (try omega)) | ((with_reducible first | show (_ : Int) ≤ _ | show (_ : Int) < _ | show (_ : Nat) ≤ _ | show (_ : Nat) < _ | show (_ : Int) ≠ _); (try simp only [CL.ncell, CL.cnt, vp]); (try omega)) | skip)
      conv => whnf
      refine loop_rounds 5 (rounds_succ ⟨anyB_ok, mixed, tabOK, hC, noY_ok⟩ (by rfl) ?_)
      repeat' ((conv => whnf); first | refine And.intro ?_ ?_ | with_reducible exact VC.mk rfl | exact Ok.mk | exact True.intro | refine Nx.mk ?_ | refine Fin.mk ?_ | (intro hq; (try (exact absurd hq (by decide)))))
      all_goals (first | (refine VC.mk ?_; (try simp only [CL.ncell, CL.cnt, vp]); (try omega)) | ((with_reducible first | show (_ : Int) ≤ _ | show (_ : Int) < _ | show (_ : Nat) ≤ _ | show (_ : Nat) < _ | show (_ : Int) ≠ _); (try simp only [CL.ncell, CL.cnt, vp]); (try omega)) | skip)
      refine ⟨1, [], ⟨⟨by omega, VC.mk ⟨by omega, by omega, by omega⟩⟩, by omega⟩, ?_⟩
      repeat' ((conv => whnf); first | refine And.intro ?_ ?_ | with_reducible exact VC.mk rfl | exact Ok.mk | exact True.intro | refine Nx.mk ?_ | refine Fin.mk ?_ | (intro hq; (try (exact absurd hq (by decide)))))
      all_goals (first | (refine VC.mk ?_; (try simp only [CL.ncell, CL.cnt, vp]); (try omega)) | ((with_reducible first | show (_ : Int) ≤ _ | show (_ : Int) < _ | show (_ : Nat) ≤ _ | show (_ : Nat) < _ | show (_ : Int) ≠ _); (try simp only [CL.ncell, CL.cnt, vp]); (try omega)) | skip)
    · repeat' ((conv => whnf); first | refine And.intro ?_ ?_ | with_reducible exact VC.mk rfl | exact Ok.mk | exact True.intro | refine Nx.mk ?_ | refine Fin.mk ?_ | (intro hq; (try (exact absurd hq (by decide)))))
      all_goals (first | (refine VC.mk ?_; (try simp only [CL.ncell, CL.cnt, vp]); (try omega)) | ((with_reducible first | show (_ : Int) ≤ _ | show (_ : Int) < _ | show (_ : Nat) ≤ _ | show (_ : Nat) < _ | show (_ : Int) ≠ _); (try simp only [CL.ncell, CL.cnt, vp]); (try omega)) | skip)
      have q1 := mul_bd (a := x4) (b := x1) (A := 5) (B := 5) (by omega) (by omega)
      have q2 := mul_bd (a := x5) (b := x0) (A := 5) (B := 5) (by omega) (by omega)
      conv => whnf
      refine loop_rounds 5 (rounds_succ ⟨anyB_ok, mixed, tabOK, hC, noY_ok⟩ (by rfl) ?_)
      repeat' ((conv => whnf); first | refine And.intro ?_ ?_ | with_reducible exact VC.mk rfl | exact Ok.mk | exact True.intro | refine Nx.mk ?_ | refine Fin.mk ?_ | (intro hq; (try (exact absurd hq (by decide)))))
      all_goals (first | (refine VC.mk ?_; (try simp only [CL.ncell, CL.cnt, vp]); (try omega)) | ((with_reducible first | show (_ : Int) ≤ _ | show (_ : Int) < _ | show (_ : Nat) ≤ _ | show (_ : Nat) < _ | show (_ : Int) ≠ _); (try simp only [CL.ncell, CL.cnt, vp]); (try omega)) | skip)
      all_goals first | exact sup_f (by unfold admC ba0 ba01; simp only [‹decide ((x4 * x1 - x5 * x0) % 3 = 0) = true›, Bool.or_true, Bool.true_or, Bool.not_true]) | skip
      clear q1 q2
      conv => whnf
      refine rounds_succ ⟨anyB_ok, mixed, tabOK, hC, noY_ok⟩ (by rfl) ?_
      repeat' ((conv => whnf); first | refine And.intro ?_ ?_ | with_reducible exact VC.mk rfl | exact Ok.mk | exact True.intro | refine Nx.mk ?_ | refine Fin.mk ?_ | (intro hq; (try (exact absurd hq (by decide)))))
      all_goals (first | (refine VC.mk ?_; (try simp only [CL.ncell, CL.cnt, vp]); (try omega)) | ((with_reducible first | show (_ : Int) ≤ _ | show (_ : Int) < _ | show (_ : Nat) ≤ _ | show (_ : Nat) < _ | show (_ : Int) ≠ _); (try simp only [CL.ncell, CL.cnt, vp]); (try omega)) | skip)
      refine ⟨2, [], ⟨⟨by omega, VC.mk ⟨fun _ => by unfold ba01; simp only [‹decide ((x4 * x1 - x5 * x0) % 3 = 0) = false›, Bool.or_false], by omega, by omega⟩⟩, by omega⟩, ?_⟩
      repeat' ((conv => whnf); first | refine And.intro ?_ ?_ | with_reducible exact VC.mk rfl | exact Ok.mk | exact True.intro | refine Nx.mk ?_ | refine Fin.mk ?_ | (intro hq; (try (exact absurd hq (by decide)))))
      all_goals (first | (refine VC.mk ?_; (try simp only [CL.ncell, CL.cnt, vp]); (try omega)) | ((with_reducible first | show (_ : Int) ≤ _ | show (_ : Int) < _ | show (_ : Nat) ≤ _ | show (_ : Nat) < _ | show (_ : Int) ≠ _); (try simp only [CL.ncell, CL.cnt, vp]); (try omega)) | skip)
    · repeat' ((conv => whnf); first | refine And.intro ?_ ?_ | with_reducible exact VC.mk rfl | exact Ok.mk | exact True.intro | refine Nx.mk ?_ | refine Fin.mk ?_ | (intro hq; (try (exact absurd hq (by decide)))))
      all_goals (first | (refine VC.mk ?_; (try simp only [CL.ncell, CL.cnt, vp]); (try omega)) | ((with_reducible first | show (_ : Int) ≤ _ | show (_ : Int) < _ | show (_ : Nat) ≤ _ | show (_ : Nat) < _ | show (_ : Int) ≠ _); (try simp only [CL.ncell, CL.cnt, vp]); (try omega)) | skip)
      have q1 := mul_bd (a := x8) (b := x1) (A := 5) (B := 5) (by omega) (by omega)
      have q2 := mul_bd (a := x9) (b := x0) (A := 5) (B := 5) (by omega) (by omega)
      conv => whnf
      refine loop_rounds 5 (rounds_succ ⟨anyB_ok, mixed, tabOK, hC, noY_ok⟩ (by rfl) ?_)
      repeat' ((conv => whnf); first | refine And.intro ?_ ?_ | with_reducible exact VC.mk rfl | exact Ok.mk | exact True.intro | refine Nx.mk ?_ | refine Fin.mk ?_ | (intro hq; (try (exact absurd hq (by decide)))))
      all_goals (first | (refine VC.mk ?_; (try simp only [CL.ncell, CL.cnt, vp]); (try omega)) | ((with_reducible first | show (_ : Int) ≤ _ | show (_ : Int) < _ | show (_ : Nat) ≤ _ | show (_ : Nat) < _ | show (_ : Int) ≠ _); (try simp only [CL.ncell, CL.cnt, vp]); (try omega)) | skip)
      all_goals first | exact sup_f (by unfold admC ba0 ba02; simp only [‹decide ((x8 * x1 - x9 * x0) % 3 = 0) = true›, Bool.or_true, Bool.true_or, Bool.not_true]) | skip
      clear q1 q2
      have q1 := mul_bd (a := x8) (b := x5) (A := 5) (B := 5) (by omega) (by omega)
      have q2 := mul_bd (a := x9) (b := x4) (A := 5) (B := 5) (by omega) (by omega)
      conv => whnf
      refine rounds_succ ⟨anyB_ok, mixed, tabOK, hC, noY_ok⟩ (by rfl) ?_
      repeat' ((conv => whnf); first | refine And.intro ?_ ?_ | with_reducible exact VC.mk rfl | exact Ok.mk | exact True.intro | refine Nx.mk ?_ | refine Fin.mk ?_ | (intro hq; (try (exact absurd hq (by decide)))))
      all_goals (first | (refine VC.mk ?_; (try simp only [CL.ncell, CL.cnt, vp]); (try omega)) | ((with_reducible first | show (_ : Int) ≤ _ | show (_ : Int) < _ | show (_ : Nat) ≤ _ | show (_ : Nat) < _ | show (_ : Int) ≠ _); (try simp only [CL.ncell, CL.cnt, vp]); (try omega)) | skip)
      all_goals first | exact sup_f (by unfold admC ba0 ba02; simp only [‹decide ((x8 * x5 - x9 * x4) % 3 = 0) = true›, Bool.or_true, Bool.true_or, Bool.not_true]) | skip
      clear q1 q2
      conv => whnf
      refine rounds_succ ⟨anyB_ok, mixed, tabOK, hC, noY_ok⟩ (by rfl) ?_
      repeat' ((conv => whnf); first | refine And.intro ?_ ?_ | with_reducible exact VC.mk rfl | exact Ok.mk | exact True.intro | refine Nx.mk ?_ | refine Fin.mk ?_ | (intro hq; (try (exact absurd hq (by decide)))))
      all_goals (first | (refine VC.mk ?_; (try simp only [CL.ncell, CL.cnt, vp]); (try omega)) | ((with_reducible first | show (_ : Int) ≤ _ | show (_ : Int) < _ | show (_ : Nat) ≤ _ | show (_ : Nat) < _ | show (_ : Int) ≠ _); (try simp only [CL.ncell, CL.cnt, vp]); (try omega)) | skip)
      refine ⟨3, [], ⟨⟨by omega, VC.mk ⟨fun _ => hw.get.1 (by omega), fun _ => by unfold ba02; simp only [‹decide ((x8 * x1 - x9 * x0) % 3 = 0) = false›, ‹decide ((x8 * x5 - x9 * x4) % 3 = 0) = false›, Bool.or_false], by omega⟩⟩, by omega⟩, ?_⟩
      repeat' ((conv => whnf); first | refine And.intro ?_ ?_ | with_reducible exact VC.mk rfl | exact Ok.mk | exact True.intro | refine Nx.mk ?_ | refine Fin.mk ?_ | (intro hq; (try (exact absurd hq (by decide)))))
      all_goals (first | (refine VC.mk ?_; (try simp only [CL.ncell, CL.cnt, vp]); (try omega)) | ((with_reducible first | show (_ : Int) ≤ _ | show (_ : Int) < _ | show (_ : Nat) ≤ _ | show (_ : Nat) < _ | show (_ : Int) ≠ _); (try simp only [CL.ncell, CL.cnt, vp]); (try omega)) | skip)
    · repeat' ((conv => whnf); first | refine And.intro ?_ ?_ | with_reducible exact VC.mk rfl | exact Ok.mk | exact True.intro | refine Nx.mk ?_ | refine Fin.mk ?_ | (intro hq; (try (exact absurd hq (by decide)))))
      all_goals (first | (refine VC.mk ?_; (try simp only [CL.ncell, CL.cnt, vp]); (try omega)) | ((with_reducible first | show (_ : Int) ≤ _ | show (_ : Int) < _ | show (_ : Nat) ≤ _ | show (_ : Nat) < _ | show (_ : Int) ≠ _); (try simp only [CL.ncell, CL.cnt, vp]); (try omega)) | skip)
      have q1 := mul_bd (a := x12) (b := x1) (A := 5) (B := 5) (by omega) (by omega)
      have q2 := mul_bd (a := x13) (b := x0) (A := 5) (B := 5) (by omega) (by omega)
      conv => whnf
      refine loop_rounds 5 (rounds_succ ⟨anyB_ok, mixed, tabOK, hC, noY_ok⟩ (by rfl) ?_)
      repeat' ((conv => whnf); first | refine And.intro ?_ ?_ | with_reducible exact VC.mk rfl | exact Ok.mk | exact True.intro | refine Nx.mk ?_ | refine Fin.mk ?_ | (intro hq; (try (exact absurd hq (by decide)))))
      all_goals (first | (refine VC.mk ?_; (try simp only [CL.ncell, CL.cnt, vp]); (try omega)) | ((with_reducible first | show (_ : Int) ≤ _ | show (_ : Int) < _ | show (_ : Nat) ≤ _ | show (_ : Nat) < _ | show (_ : Int) ≠ _); (try simp only [CL.ncell, CL.cnt, vp]); (try omega)) | skip)
      all_goals first | exact sup_f (by unfold admC ba0 ba03; simp only [‹decide ((x12 * x1 - x13 * x0) % 3 = 0) = true›, Bool.or_true, Bool.true_or, Bool.not_true]) | skip
      clear q1 q2
      have q1 := mul_bd (a := x12) (b := x5) (A := 5) (B := 5) (by omega) (by omega)
      have q2 := mul_bd (a := x13) (b := x4) (A := 5) (B := 5) (by omega) (by omega)
      conv => whnf
      refine rounds_succ ⟨anyB_ok, mixed, tabOK, hC, noY_ok⟩ (by rfl) ?_
      repeat' ((conv => whnf); first | refine And.intro ?_ ?_ | with_reducible exact VC.mk rfl | exact Ok.mk | exact True.intro | refine Nx.mk ?_ | refine Fin.mk ?_ | (intro hq; (try (exact absurd hq (by decide)))))
      all_goals (first | (refine VC.mk ?_; (try simp only [CL.ncell, CL.cnt, vp]); (try omega)) | ((with_reducible first | show (_ : Int) ≤ _ | show (_ : Int) < _ | show (_ : Nat) ≤ _ | show (_ : Nat) < _ | show (_ : Int) ≠ _); (try simp only [CL.ncell, CL.cnt, vp]); (try omega)) | skip)
      all_goals first | exact sup_f (by unfold admC ba0 ba03; simp only [‹decide ((x12 * x5 - x13 * x4) % 3 = 0) = true›, Bool.or_true, Bool.true_or, Bool.not_true]) | skip
      clear q1 q2
      have q1 := mul_bd (a := x12) (b := x9) (A := 5) (B := 5) (by omega) (by omega)
      have q2 := mul_bd (a := x13) (b := x8) (A := 5) (B := 5) (by omega) (by omega)
      conv => whnf
      refine rounds_succ ⟨anyB_ok, mixed, tabOK, hC, noY_ok⟩ (by rfl) ?_
      repeat' ((conv => whnf); first | refine And.intro ?_ ?_ | with_reducible exact VC.mk rfl | exact Ok.mk | exact True.intro | refine Nx.mk ?_ | refine Fin.mk ?_ | (intro hq; (try (exact absurd hq (by decide)))))
      all_goals (first | (refine VC.mk ?_; (try simp only [CL.ncell, CL.cnt, vp]); (try omega)) | ((with_reducible first | show (_ : Int) ≤ _ | show (_ : Int) < _ | show (_ : Nat) ≤ _ | show (_ : Nat) < _ | show (_ : Int) ≠ _); (try simp only [CL.ncell, CL.cnt, vp]); (try omega)) | skip)
      all_goals first | exact sup_f (by unfold admC ba0 ba03; simp only [‹decide ((x12 * x9 - x13 * x8) % 3 = 0) = true›, Bool.or_true, Bool.true_or, Bool.not_true]) | skip
      clear q1 q2
      conv => whnf
      refine rounds_succ ⟨anyB_ok, mixed, tabOK, hC, noY_ok⟩ (by rfl) ?_
      repeat' ((conv => whnf); first | refine And.intro ?_ ?_ | with_reducible exact VC.mk rfl | exact Ok.mk | exact True.intro | refine Nx.mk ?_ | refine Fin.mk ?_ | (intro hq; (try (exact absurd hq (by decide)))))
      all_goals (first | (refine VC.mk ?_; (try simp only [CL.ncell, CL.cnt, vp]); (try omega)) | ((with_reducible first | show (_ : Int) ≤ _ | show (_ : Int) < _ | show (_ : Nat) ≤ _ | show (_ : Nat) < _ | show (_ : Int) ≠ _); (try simp only [CL.ncell, CL.cnt, vp]); (try omega)) | skip)
      refine ⟨4, [], ⟨⟨by omega, VC.mk ⟨fun _ => hw.get.1 (by omega), fun _ => hw.get.2.1 (by omega), fun _ => by unfold ba03; simp only [‹decide ((x12 * x1 - x13 * x0) % 3 = 0) = false›, ‹decide ((x12 * x5 - x13 * x4) % 3 = 0) = false›, ‹decide ((x12 * x9 - x13 * x8) % 3 = 0) = false›, Bool.or_false]⟩⟩, by omega⟩, ?_⟩
      repeat' ((conv => whnf); first | refine And.intro ?_ ?_ | with_reducible exact VC.mk rfl | exact Ok.mk | exact True.intro | refine Nx.mk ?_ | refine Fin.mk ?_ | (intro hq; (try (exact absurd hq (by decide)))))
      all_goals (first | (refine VC.mk ?_; (try simp only [CL.ncell, CL.cnt, vp]); (try omega)) | ((with_reducible first | show (_ : Int) ≤ _ | show (_ : Int) < _ | show (_ : Nat) ≤ _ | show (_ : Nat) < _ | show (_ : Int) ≠ _); (try simp only [CL.ncell, CL.cnt, vp]); (try omega)) | skip)
    · repeat' ((conv => whnf); first | refine And.intro ?_ ?_ | with_reducible exact VC.mk rfl | exact Ok.mk | exact True.intro | refine Nx.mk ?_ | refine Fin.mk ?_ | (intro hq; (try (exact absurd hq (by decide)))))
      all_goals (first | (refine VC.mk ?_; (try simp only [CL.ncell, CL.cnt, vp]); (try omega)) | ((with_reducible first | show (_ : Int) ≤ _ | show (_ : Int) < _ | show (_ : Nat) ≤ _ | show (_ : Nat) < _ | show (_ : Int) ≠ _); (try simp only [CL.ncell, CL.cnt, vp]); (try omega)) | skip)
      refine ⟨1, [], ⟨⟨by omega, VC.mk ⟨fun _ => by unfold ba0; rw [hw.get.1 (by omega), hw.get.2.1 (by omega), hw.get.2.2 (by omega)]; rfl, by omega, by omega, by omega⟩⟩, by omega⟩, ?_⟩
      repeat' ((conv => whnf); first | refine And.intro ?_ ?_ | with_reducible exact VC.mk rfl | exact Ok.mk | exact True.intro | refine Nx.mk ?_ | refine Fin.mk ?_ | (intro hq; (try (exact absurd hq (by decide)))))
      all_goals (first | (refine VC.mk ?_; (try simp only [CL.ncell, CL.cnt, vp]); (try omega)) | ((with_reducible first | show (_ : Int) ≤ _ | show (_ : Int) < _ | show (_ : Nat) ≤ _ | show (_ : Nat) < _ | show (_ : Int) ≠ _); (try simp only [CL.ncell, CL.cnt, vp]); (try omega)) | skip)
  · repeat' ((conv => whnf); first | refine And.intro ?_ ?_ | with_reducible exact VC.mk rfl | exact Ok.mk | exact True.intro | refine Nx.mk ?_ | refine Fin.mk ?_ | (intro hq; (try (exact absurd hq (by decide)))))
    all_goals (first | (refine VC.mk ?_; (try simp only [CL.ncell, CL.cnt, vp]); (try omega)) | ((with_reducible first | show (_ : Int) ≤ _ | show (_ : Int) < _ | show (_ : Nat) ≤ _ | show (_ : Nat) < _ | show (_ : Int) ≠ _); (try simp only [CL.ncell, CL.cnt, vp]); (try omega)) | skip)
    · simp [show te52.size = 1 from rfl]
    repeat' ((conv => whnf); first | refine And.intro ?_ ?_ | with_reducible exact VC.mk rfl | exact Ok.mk | exact True.intro | refine Nx.mk ?_ | refine Fin.mk ?_ | (intro hq; (try (exact absurd hq (by decide)))))
    all_goals (first | (refine VC.mk ?_; (try simp only [CL.ncell, CL.cnt, vp]); (try omega)) | ((with_reducible first | show (_ : Int) ≤ _ | show (_ : Int) < _ | show (_ : Nat) ≤ _ | show (_ : Nat) < _ | show (_ : Int) ≠ _); (try simp only [CL.ncell, CL.cnt, vp]); (try omega)) | skip)
    conv => whnf
    refine loop_of (X := Nat) (fun i => i ≤ 4 ∧ VC ((1 < i → ba11 x0 x1 x2 x3 x4 x5 x6 x7 x8 x9 x10 x11 x12 x13 x14 x15 = false) ∧ (2 < i → ba12 x0 x1 x2 x3 x4 x5 x6 x7 x8 x9 x10 x11 x12 x13 x14 x15 = false) ∧ (3 < i → ba13 x0 x1 x2 x3 x4 x5 x6 x7 x8 x9 x10 x11 x12 x13 x14 x15 = false))) (fun i => [(49, .int .i64 i)]) (fun _ => []) (fun i => 4 - i) 0 ⟨anyB_ok, mixed, tabOK, hC, noY_ok⟩ (by rfl) ⟨by omega, VC.mk ⟨by omega, by omega, by omega⟩⟩ ?_ ?_
    · repeat' ((conv => whnf); first | refine And.intro ?_ ?_ | with_reducible exact VC.mk rfl | exact Ok.mk | exact True.intro | refine Nx.mk ?_ | refine Fin.mk ?_ | (intro hq; (try (exact absurd hq (by decide)))))
      all_goals (first | (refine VC.mk ?_; (try simp only [CL.ncell, CL.cnt, vp]); (try omega)) | ((with_reducible first | show (_ : Int) ≤ _ | show (_ : Int) < _ | show (_ : Nat) ≤ _ | show (_ : Nat) < _ | show (_ : Int) ≠ _); (try simp only [CL.ncell, CL.cnt, vp]); (try omega)) | skip)
    rintro i ⟨hi, hw⟩
    have hc : i = 0 ∨ i = 1 ∨ i = 2 ∨ i = 3 ∨ i = 4 := by omega
    rcases hc with rfl | rfl | rfl | rfl | rfl
    · repeat' ((conv => whnf); first | refine And.intro ?_ ?_ | with_reducible exact VC.mk rfl | exact Ok.mk | exact True.intro | refine Nx.mk ?_ | refine Fin.mk ?_ | (intro hq; (try (exact absurd hq (by decide)))))
      all_goals (first | (refine VC.mk ?_; (try simp only [CL.ncell, CL.cnt, vp]); (try omega)) | ((with_reducible first | show (_ : Int) ≤ _ | show (_ : Int) < _ | show (_ : Nat) ≤ _ | show (_ : Nat) < _ | show (_ : Int) ≠ _); (try simp only [CL.ncell, CL.cnt, vp]); (try omega)) | skip)
      conv => whnf
      refine loop_rounds 5 (rounds_succ ⟨anyB_ok, mixed, tabOK, hC, noY_ok⟩ (by rfl) ?_)
      repeat' ((conv => whnf); first | refine And.intro ?_ ?_ | with_reducible exact VC.mk rfl | exact Ok.mk | exact True.intro | refine Nx.mk ?_ | refine Fin.mk ?_ | (intro hq; (try (exact absurd hq (by decide)))))
      all_goals (first | (refine VC.mk ?_; (try simp only [CL.ncell, CL.cnt, vp]); (try omega)) | ((with_reducible first | show (_ : Int) ≤ _ | show (_ : Int) < _ | show (_ : Nat) ≤ _ | show (_ : Nat) < _ | show (_ : Int) ≠ _); (try simp only [CL.ncell, CL.cnt, vp]); (try omega)) | skip)
      refine ⟨1, [], ⟨⟨by omega, VC.mk ⟨by omega, by omega, by omega⟩⟩, by omega⟩, ?_⟩
      repeat' ((conv => whnf); first | refine And.intro ?_ ?_ | with_reducible exact VC.mk rfl | exact Ok.mk | exact True.intro | refine Nx.mk ?_ | refine Fin.mk ?_ | (intro hq; (try (exact absurd hq (by decide)))))
      all_goals (first | (refine VC.mk ?_; (try simp only [CL.ncell, CL.cnt, vp]); (try omega)) | ((with_reducible first | show (_ : Int) ≤ _ | show (_ : Int) < _ | show (_ : Nat) ≤ _ | show (_ : Nat) < _ | show (_ : Int) ≠ _); (try simp only [CL.ncell, CL.cnt, vp]); (try omega)) | skip)
    · repeat' ((conv => whnf); first | refine And.intro ?_ ?_ | with_reducible exact VC.mk rfl | exact Ok.mk | exact True.intro | refine Nx.mk ?_ | refine Fin.mk ?_ | (intro hq; (try (exact absurd hq (by decide)))))
      all_goals (first | (refine VC.mk ?_; (try simp only [CL.ncell, CL.cnt, vp]); (try omega)) | ((with_reducible first | show (_ : Int) ≤ _ | show (_ : Int) < _ | show (_ : Nat) ≤ _ | show (_ : Nat) < _ | show (_ : Int) ≠ _); (try simp only [CL.ncell, CL.cnt, vp]); (try omega)) | skip)
      have q1 := mul_bd (a := x6) (b := x3) (A := 5) (B := 5) (by omega) (by omega)
      have q2 := mul_bd (a := x7) (b := x2) (A := 5) (B := 5) (by omega) (by omega)
      conv => whnf
      refine loop_rounds 5 (rounds_succ ⟨anyB_ok, mixed, tabOK, hC, noY_ok⟩ (by rfl) ?_)
      repeat' ((conv => whnf); first | refine And.intro ?_ ?_ | with_reducible exact VC.mk rfl | exact Ok.mk | exact True.intro | refine Nx.mk ?_ | refine Fin.mk ?_ | (intro hq; (try (exact absurd hq (by decide)))))
      all_goals (first | (refine VC.mk ?_; (try simp only [CL.ncell, CL.cnt, vp]); (try omega)) | ((with_reducible first | show (_ : Int) ≤ _ | show (_ : Int) < _ | show (_ : Nat) ≤ _ | show (_ : Nat) < _ | show (_ : Int) ≠ _); (try simp only [CL.ncell, CL.cnt, vp]); (try omega)) | skip)
      all_goals first | exact sup_f (by unfold admC ba1 ba11; simp only [‹decide ((x6 * x3 - x7 * x2) % 3 = 0) = true›, Bool.or_true, Bool.true_or, Bool.not_true]) | skip
      clear q1 q2
      conv => whnf
      refine rounds_succ ⟨anyB_ok, mixed, tabOK, hC, noY_ok⟩ (by rfl) ?_
      repeat' ((conv => whnf); first | refine And.intro ?_ ?_ | with_reducible exact VC.mk rfl | exact Ok.mk | exact True.intro | refine Nx.mk ?_ | refine Fin.mk ?_ | (intro hq; (try (exact absurd hq (by decide)))))
      all_goals (first | (refine VC.mk ?_; (try simp only [CL.ncell, CL.cnt, vp]); (try omega)) | ((with_reducible first | show (_ : Int) ≤ _ | show (_ : Int) < _ | show (_ : Nat) ≤ _ | show (_ : Nat) < _ | show (_ : Int) ≠ _); (try simp only [CL.ncell, CL.cnt, vp]); (try omega)) | skip)
      refine ⟨2, [], ⟨⟨by omega, VC.mk ⟨fun _ => by unfold ba11; simp only [‹decide ((x6 * x3 - x7 * x2) % 3 = 0) = false›, Bool.or_false], by omega, by omega⟩⟩, by omega⟩, ?_⟩
      repeat' ((conv => whnf); first | refine And.intro ?_ ?_ | with_reducible exact VC.mk rfl | exact Ok.mk | exact True.intro | refine Nx.mk ?_ | refine Fin.mk ?_ | (intro hq; (try (exact absurd hq (by decide)))))
      all_goals (first | (refine VC.mk ?_; (try simp only [CL.ncell, CL.cnt, vp]); (try omega)) | ((with_reducible first | show (_ : Int) ≤ _ | show (_ : Int) < _ | show (_ : Nat) ≤ _ | show (_ : Nat) < _ | show (_ : Int) ≠ _); (try simp only [CL.ncell, CL.cnt, vp]); (try omega)) | skip)
    · repeat' ((conv => whnf); first | refine And.intro ?_ ?_ | with_reducible exact VC.mk rfl | exact Ok.mk | exact True.intro | refine Nx.mk ?_ | refine Fin.mk ?_ | (intro hq; (try (exact absurd hq (by decide)))))
      all_goals (first | (refine VC.mk ?_; (try simp only [CL.ncell, CL.cnt, vp]); (try omega)) | ((with_reducible first | show (_ : Int) ≤ _ | show (_ : Int) < _ | show (_ : Nat) ≤ _ | show (_ : Nat) < _ | show (_ : Int) ≠ _); (try simp only [CL.ncell, CL.cnt, vp]); (try omega)) | skip)
      have q1 := mul_bd (a := x10) (b := x3) (A := 5) (B := 5) (by omega) (by omega)
      have q2 := mul_bd (a := x11) (b := x2) (A := 5) (B := 5) (by omega) (by omega)
      conv => whnf
      refine loop_rounds 5 (rounds_succ ⟨anyB_ok, mixed, tabOK, hC, noY_ok⟩ (by rfl) ?_)
      repeat' ((conv => whnf); first | refine And.intro ?_ ?_ | with_reducible exact VC.mk rfl | exact Ok.mk | exact True.intro | refine Nx.mk ?_ | refine Fin.mk ?_ | (intro hq; (try (exact absurd hq (by decide)))))
      all_goals (first | (refine VC.mk ?_; (try simp only [CL.ncell, CL.cnt, vp]); (try omega)) | ((with_reducible first | show (_ : Int) ≤ _ | show (_ : Int) < _ | show (_ : Nat) ≤ _ | show (_ : Nat) < _ | show (_ : Int) ≠ _); (try simp only [CL.ncell, CL.cnt, vp]); (try omega)) | skip)
      all_goals first | exact sup_f (by unfold admC ba1 ba12; simp only [‹decide ((x10 * x3 - x11 * x2) % 3 = 0) = true›, Bool.or_true, Bool.true_or, Bool.not_true]) | skip
      clear q1 q2
      have q1 := mul_bd (a := x10) (b := x7) (A := 5) (B := 5) (by omega) (by omega)
      have q2 := mul_bd (a := x11) (b := x6) (A := 5) (B := 5) (by omega) (by omega)
      conv => whnf
      refine rounds_succ ⟨anyB_ok, mixed, tabOK, hC, noY_ok⟩ (by rfl) ?_
      repeat' ((conv => whnf); first | refine And.intro ?_ ?_ | with_reducible exact VC.mk rfl | exact Ok.mk | exact True.intro | refine Nx.mk ?_ | refine Fin.mk ?_ | (intro hq; (try (exact absurd hq (by decide)))))
      all_goals (first | (refine VC.mk ?_; (try simp only [CL.ncell, CL.cnt, vp]); (try omega)) | ((with_reducible first | show (_ : Int) ≤ _ | show (_ : Int) < _ | show (_ : Nat) ≤ _ | show (_ : Nat) < _ | show (_ : Int) ≠ _); (try simp only [CL.ncell, CL.cnt, vp]); (try omega)) | skip)
      all_goals first | exact sup_f (by unfold admC ba1 ba12; simp only [‹decide ((x10 * x7 - x11 * x6) % 3 = 0) = true›, Bool.or_true, Bool.true_or, Bool.not_true]) | skip
      clear q1 q2
      conv => whnf
      refine rounds_succ ⟨anyB_ok, mixed, tabOK, hC, noY_ok⟩ (by rfl) ?_
      repeat' ((conv => whnf); first | refine And.intro ?_ ?_ | with_reducible exact VC.mk rfl | exact Ok.mk | exact True.intro | refine Nx.mk ?_ | refine Fin.mk ?_ | (intro hq; (try (exact absurd hq (by decide)))))
      all_goals (first | (refine VC.mk ?_; (try simp only [CL.ncell, CL.cnt, vp]); (try omega)) | ((with_reducible first | show (_ : Int) ≤ _ | show (_ : Int) < _ | show (_ : Nat) ≤ _ | show (_ : Nat) < _ | show (_ : Int) ≠ _); (try simp only [CL.ncell, CL.cnt, vp]); (try omega)) | skip)
      refine ⟨3, [], ⟨⟨by omega, VC.mk ⟨fun _ => hw.get.1 (by omega), fun _ => by unfold ba12; simp only [‹decide ((x10 * x3 - x11 * x2) % 3 = 0) = false›, ‹decide ((x10 * x7 - x11 * x6) % 3 = 0) = false›, Bool.or_false], by omega⟩⟩, by omega⟩, ?_⟩
      repeat' ((conv => whnf); first | refine And.intro ?_ ?_ | with_reducible exact VC.mk rfl | exact Ok.mk | exact True.intro | refine Nx.mk ?_ | refine Fin.mk ?_ | (intro hq; (try (exact absurd hq (by decide)))))
      all_goals (first | (refine VC.mk ?_; (try simp only [CL.ncell, CL.cnt, vp]); (try omega)) | ((with_reducible first | show (_ : Int) ≤ _ | show (_ : Int) < _ | show (_ : Nat) ≤ _ | show (_ : Nat) < _ | show (_ : Int) ≠ _); (try simp only [CL.ncell, CL.cnt, vp]); (try omega)) | skip)
    · repeat' ((conv => whnf); first | refine And.intro ?_ ?_ | with_reducible exact VC.mk rfl | exact Ok.mk | exact True.intro | refine Nx.mk ?_ | refine Fin.mk ?_ | (intro hq; (try (exact absurd hq (by decide)))))
      all_goals (first | (refine VC.mk ?_; (try simp only [CL.ncell, CL.cnt, vp]); (try omega)) | ((with_reducible first | show (_ : Int) ≤ _ | show (_ : Int) < _ | show (_ : Nat) ≤ _ | show (_ : Nat) < _ | show (_ : Int) ≠ _); (try simp only [CL.ncell, CL.cnt, vp]); (try omega)) | skip)
      have q1 := mul_bd (a := x14) (b := x3) (A := 5) (B := 5) (by omega) (by omega)
      have q2 := mul_bd (a := x15) (b := x2) (A := 5) (B := 5) (by omega) (by omega)
      conv => whnf
      refine loop_rounds 5 (rounds_succ ⟨anyB_ok, mixed, tabOK, hC, noY_ok⟩ (by rfl) ?_)
      repeat' ((conv => whnf); first | refine And.intro ?_ ?_ | with_reducible exact VC.mk rfl | exact Ok.mk | exact True.intro | refine Nx.mk ?_ | refine Fin.mk ?_ | (intro hq; (try (exact absurd hq (by decide)))))
      all_goals (first | (refine VC.mk ?_; (try simp only [CL.ncell, CL.cnt, vp]); (try omega)) | ((with_reducible first | show (_ : Int) ≤ _ | show (_ : Int) < _ | show (_ : Nat) ≤ _ | show (_ : Nat) < _ | show (_ : Int) ≠ _); (try simp only [CL.ncell, CL.cnt, vp]); (try omega)) | skip)
      all_goals first | exact sup_f (by unfold admC ba1 ba13; simp only [‹decide ((x14 * x3 - x15 * x2) % 3 = 0) = true›, Bool.or_true, Bool.true_or, Bool.not_true]) | skip
      clear q1 q2
      have q1 := mul_bd (a := x14) (b := x7) (A := 5) (B := 5) (by omega) (by omega)
      have q2 := mul_bd (a := x15) (b := x6) (A := 5) (B := 5) (by omega) (by omega)
      conv => whnf
      refine rounds_succ ⟨anyB_ok, mixed, tabOK, hC, noY_ok⟩ (by rfl) ?_
      repeat' ((conv => whnf); first | refine And.intro ?_ ?_ | with_reducible exact VC.mk rfl | exact Ok.mk | exact True.intro | refine Nx.mk ?_ | refine Fin.mk ?_ | (intro hq; (try (exact absurd hq (by decide)))))
      all_goals (first | (refine VC.mk ?_; (try simp only [CL.ncell, CL.cnt, vp]); (try omega)) | ((with_reducible first | show (_ : Int) ≤ _ | show (_ : Int) < _ | show (_ : Nat) ≤ _ | show (_ : Nat) < _ | show (_ : Int) ≠ _); (try simp only [CL.ncell, CL.cnt, vp]); (try omega)) | skip)
      all_goals first | exact sup_f (by unfold admC ba1 ba13; simp only [‹decide ((x14 * x7 - x15 * x6) % 3 = 0) = true›, Bool.or_true, Bool.true_or, Bool.not_true]) | skip
      clear q1 q2
      have q1 := mul_bd (a := x14) (b := x11) (A := 5) (B := 5) (by omega) (by omega)
      have q2 := mul_bd (a := x15) (b := x10) (A := 5) (B := 5) (by omega) (by omega)
      conv => whnf
      refine rounds_succ ⟨anyB_ok, mixed, tabOK, hC, noY_ok⟩ (by rfl) ?_
      repeat' ((conv => whnf); first | refine And.intro ?_ ?_ | with_reducible exact VC.mk rfl | exact Ok.mk | exact True.intro | refine Nx.mk ?_ | refine Fin.mk ?_ | (intro hq; (try (exact absurd hq (by decide)))))
      all_goals (first | (refine VC.mk ?_; (try simp only [CL.ncell, CL.cnt, vp]); (try omega)) | ((with_reducible first | show (_ : Int) ≤ _ | show (_ : Int) < _ | show (_ : Nat) ≤ _ | show (_ : Nat) < _ | show (_ : Int) ≠ _); (try simp only [CL.ncell, CL.cnt, vp]); (try omega)) | skip)
      all_goals first | exact sup_f (by unfold admC ba1 ba13; simp only [‹decide ((x14 * x11 - x15 * x10) % 3 = 0) = true›, Bool.or_true, Bool.true_or, Bool.not_true]) | skip
      clear q1 q2
      conv => whnf
      refine rounds_succ ⟨anyB_ok, mixed, tabOK, hC, noY_ok⟩ (by rfl) ?_
      repeat' ((conv => whnf); first | refine And.intro ?_ ?_ | with_reducible exact VC.mk rfl | exact Ok.mk | exact True.intro | refine Nx.mk ?_ | refine Fin.mk ?_ | (intro hq; (try (exact absurd hq (by decide)))))
      all_goals (first | (refine VC.mk ?_; (try simp only [CL.ncell, CL.cnt, vp]); (try omega)) | ((with_reducible first | show (_ : Int) ≤ _ | show (_ : Int) < _ | show (_ : Nat) ≤ _ | show (_ : Nat) < _ | show (_ : Int) ≠ _); (try simp only [CL.ncell, CL.cnt, vp]); (try omega)) | skip)
      refine ⟨4, [], ⟨⟨by omega, VC.mk ⟨fun _ => hw.get.1 (by omega), fun _ => hw.get.2.1 (by omega), fun _ => by unfold ba13; simp only [‹decide ((x14 * x3 - x15 * x2) % 3 = 0) = false›, ‹decide ((x14 * x7 - x15 * x6) % 3 = 0) = false›, ‹decide ((x14 * x11 - x15 * x10) % 3 = 0) = false›, Bool.or_false]⟩⟩, by omega⟩, ?_⟩
      repeat' ((conv => whnf); first | refine And.intro ?_ ?_ | with_reducible exact VC.mk rfl | exact Ok.mk | exact True.intro | refine Nx.mk ?_ | refine Fin.mk ?_ | (intro hq; (try (exact absurd hq (by decide)))))
      all_goals (first | (refine VC.mk ?_; (try simp only [CL.ncell, CL.cnt, vp]); (try omega)) | ((with_reducible first | show (_ : Int) ≤ _ | show (_ : Int) < _ | show (_ : Nat) ≤ _ | show (_ : Nat) < _ | show (_ : Int) ≠ _); (try simp only [CL.ncell, CL.cnt, vp]); (try omega)) | skip)
    · repeat' ((conv => whnf); first | refine And.intro ?_ ?_ | with_reducible exact VC.mk rfl | exact Ok.mk | exact True.intro | refine Nx.mk ?_ | refine Fin.mk ?_ | (intro hq; (try (exact absurd hq (by decide)))))
      all_goals (first | (refine VC.mk ?_; (try simp only [CL.ncell, CL.cnt, vp]); (try omega)) | ((with_reducible first | show (_ : Int) ≤ _ | show (_ : Int) < _ | show (_ : Nat) ≤ _ | show (_ : Nat) < _ | show (_ : Int) ≠ _); (try simp only [CL.ncell, CL.cnt, vp]); (try omega)) | skip)
      refine ⟨2, [], ⟨⟨by omega, VC.mk ⟨fun _ => hv.get.1 (by omega), fun _ => by unfold ba1; rw [hw.get.1 (by omega), hw.get.2.1 (by omega), hw.get.2.2 (by omega)]; rfl, by omega, by omega⟩⟩, by omega⟩, ?_⟩
      repeat' ((conv => whnf); first | refine And.intro ?_ ?_ | with_reducible exact VC.mk rfl | exact Ok.mk | exact True.intro | refine Nx.mk ?_ | refine Fin.mk ?_ | (intro hq; (try (exact absurd hq (by decide)))))
      all_goals (first | (refine VC.mk ?_; (try simp only [CL.ncell, CL.cnt, vp]); (try omega)) | ((with_reducible first | show (_ : Int) ≤ _ | show (_ : Int) < _ | show (_ : Nat) ≤ _ | show (_ : Nat) < _ | show (_ : Int) ≠ _); (try simp only [CL.ncell, CL.cnt, vp]); (try omega)) | skip)
  · repeat' ((conv => whnf); first | refine And.intro ?_ ?_ | with_reducible exact VC.mk rfl | exact Ok.mk | exact True.intro | refine Nx.mk ?_ | refine Fin.mk ?_ | (intro hq; (try (exact absurd hq (by decide)))))
    all_goals (first | (refine VC.mk ?_; (try simp only [CL.ncell, CL.cnt, vp]); (try omega)) | ((with_reducible first | show (_ : Int) ≤ _ | show (_ : Int) < _ | show (_ : Nat) ≤ _ | show (_ : Nat) < _ | show (_ : Int) ≠ _); (try simp only [CL.ncell, CL.cnt, vp]); (try omega)) | skip)
    · simp [show te52.size = 1 from rfl]
    repeat' ((conv => whnf); first | refine And.intro ?_ ?_ | with_reducible exact VC.mk rfl | exact Ok.mk | exact True.intro | refine Nx.mk ?_ | refine Fin.mk ?_ | (intro hq; (try (exact absurd hq (by decide)))))
    all_goals (first | (refine VC.mk ?_; (try simp only [CL.ncell, CL.cnt, vp]); (try omega)) | ((with_reducible first | show (_ : Int) ≤ _ | show (_ : Int) < _ | show (_ : Nat) ≤ _ | show (_ : Nat) < _ | show (_ : Int) ≠ _); (try simp only [CL.ncell, CL.cnt, vp]); (try omega)) | skip)
    conv => whnf
    refine loop_of (X := Nat) (fun i => i ≤ 4 ∧ VC ((1 < i → ba21 x0 x1 x2 x3 x4 x5 x6 x7 x8 x9 x10 x11 x12 x13 x14 x15 = false) ∧ (2 < i → ba22 x0 x1 x2 x3 x4 x5 x6 x7 x8 x9 x10 x11 x12 x13 x14 x15 = false) ∧ (3 < i → ba23 x0 x1 x2 x3 x4 x5 x6 x7 x8 x9 x10 x11 x12 x13 x14 x15 = false))) (fun i => [(49, .int .i64 i)]) (fun _ => []) (fun i => 4 - i) 0 ⟨anyB_ok, mixed, tabOK, hC, noY_ok⟩ (by rfl) ⟨by omega, VC.mk ⟨by omega, by omega, by omega⟩⟩ ?_ ?_
    · repeat' ((conv => whnf); first | refine And.intro ?_ ?_ | with_reducible exact VC.mk rfl | exact Ok.mk | exact True.intro | refine Nx.mk ?_ | refine Fin.mk ?_ | (intro hq; (try (exact absurd hq (by decide)))))
      all_goals (first | (refine VC.mk ?_; (try simp only [CL.ncell, CL.cnt, vp]); (try omega)) | ((with_reducible first | show (_ : Int) ≤ _ | show (_ : Int) < _ | show (_ : Nat) ≤ _ | show (_ : Nat) < _ | show (_ : Int) ≠ _); (try simp only [CL.ncell, CL.cnt, vp]); (try omega)) | skip)
    rintro i ⟨hi, hw⟩
    have hc : i = 0 ∨ i = 1 ∨ i = 2 ∨ i = 3 ∨ i = 4 := by omega
    rcases hc with rfl | rfl | rfl | rfl | rfl
    · repeat' ((conv => whnf); first | refine And.intro ?_ ?_ | with_reducible exact VC.mk rfl | exact Ok.mk | exact True.intro | refine Nx.mk ?_ | refine Fin.mk ?_ | (intro hq; (try (exact absurd hq (by decide)))))
      all_goals (first | (refine VC.mk ?_; (try simp only [CL.ncell, CL.cnt, vp]); (try omega)) | ((with_reducible first | show (_ : Int) ≤ _ | show (_ : Int) < _ | show (_ : Nat) ≤ _ | show (_ : Nat) < _ | show (_ : Int) ≠ _); (try simp only [CL.ncell, CL.cnt, vp]); (try omega)) | skip)
      conv => whnf
      refine loop_rounds 5 (rounds_succ ⟨anyB_ok, mixed, tabOK, hC, noY_ok⟩ (by rfl) ?_)
      repeat' ((conv => whnf); first | refine And.intro ?_ ?_ | with_reducible exact VC.mk rfl | exact Ok.mk | exact True.intro | refine Nx.mk ?_ | refine Fin.mk ?_ | (intro hq; (try (exact absurd hq (by decide)))))
      all_goals (first | (refine VC.mk ?_; (try simp only [CL.ncell, CL.cnt, vp]); (try omega)) | ((with_reducible first | show (_ : Int) ≤ _ | show (_ : Int) < _ | show (_ : Nat) ≤ _ | show (_ : Nat) < _ | show (_ : Int) ≠ _); (try simp only [CL.ncell, CL.cnt, vp]); (try omega)) | skip)
      refine ⟨1, [], ⟨⟨by omega, VC.mk ⟨by omega, by omega, by omega⟩⟩, by omega⟩, ?_⟩
      repeat' ((conv => whnf); first | refine And.intro ?_ ?_ | with_reducible exact VC.mk rfl | exact Ok.mk | exact True.intro | refine Nx.mk ?_ | refine Fin.mk ?_ | (intro hq; (try (exact absurd hq (by decide)))))
      all_goals (first | (refine VC.mk ?_; (try simp only [CL.ncell, CL.cnt, vp]); (try omega)) | ((with_reducible first | show (_ : Int) ≤ _ | show (_ : Int) < _ | show (_ : Nat) ≤ _ | show (_ : Nat) < _ | show (_ : Int) ≠ _); (try simp only [CL.ncell, CL.cnt, vp]); (try omega)) | skip)
    · repeat' ((conv => whnf); first | refine And.intro ?_ ?_ | with_reducible exact VC.mk rfl | exact Ok.mk | exact True.intro | refine Nx.mk ?_ | refine Fin.mk ?_ | (intro hq; (try (exact absurd hq (by decide)))))
      all_goals (first | (refine VC.mk ?_; (try simp only [CL.ncell, CL.cnt, vp]); (try omega)) | ((with_reducible first | show (_ : Int) ≤ _ | show (_ : Int) < _ | show (_ : Nat) ≤ _ | show (_ : Nat) < _ | show (_ : Int) ≠ _); (try simp only [CL.ncell, CL.cnt, vp]); (try omega)) | skip)
      have q1 := mul_bd (a := (x4 + x6)) (b := (x1 + x3)) (A := 5) (B := 5) (by omega) (by omega)
      have q2 := mul_bd (a := (x5 + x7)) (b := (x0 + x2)) (A := 5) (B := 5) (by omega) (by omega)
      conv => whnf
      refine loop_rounds 5 (rounds_succ ⟨anyB_ok, mixed, tabOK, hC, noY_ok⟩ (by rfl) ?_)
      repeat' ((conv => whnf); first | refine And.intro ?_ ?_ | with_reducible exact VC.mk rfl | exact Ok.mk | exact True.intro | refine Nx.mk ?_ | refine Fin.mk ?_ | (intro hq; (try (exact absurd hq (by decide)))))
      all_goals (first | (refine VC.mk ?_; (try simp only [CL.ncell, CL.cnt, vp]); (try omega)) | ((with_reducible first | show (_ : Int) ≤ _ | show (_ : Int) < _ | show (_ : Nat) ≤ _ | show (_ : Nat) < _ | show (_ : Int) ≠ _); (try simp only [CL.ncell, CL.cnt, vp]); (try omega)) | skip)
      all_goals first | exact sup_f (by unfold admC ba2 ba21; simp only [‹decide (((x4 + x6) * (x1 + x3) - (x5 + x7) * (x0 + x2)) % 3 = 0) = true›, Bool.or_true, Bool.true_or, Bool.not_true]) | skip
      clear q1 q2
      conv => whnf
      refine rounds_succ ⟨anyB_ok, mixed, tabOK, hC, noY_ok⟩ (by rfl) ?_
      repeat' ((conv => whnf); first | refine And.intro ?_ ?_ | with_reducible exact VC.mk rfl | exact Ok.mk | exact True.intro | refine Nx.mk ?_ | refine Fin.mk ?_ | (intro hq; (try (exact absurd hq (by decide)))))
      all_goals (first | (refine VC.mk ?_; (try simp only [CL.ncell, CL.cnt, vp]); (try omega)) | ((with_reducible first | show (_ : Int) ≤ _ | show (_ : Int) < _ | show (_ : Nat) ≤ _ | show (_ : Nat) < _ | show (_ : Int) ≠ _); (try simp only [CL.ncell, CL.cnt, vp]); (try omega)) | skip)
      refine ⟨2, [], ⟨⟨by omega, VC.mk ⟨fun _ => by unfold ba21; simp only [‹decide (((x4 + x6) * (x1 + x3) - (x5 + x7) * (x0 + x2)) % 3 = 0) = false›, Bool.or_false], by omega, by omega⟩⟩, by omega⟩, ?_⟩
      repeat' ((conv => whnf); first | refine And.intro ?_ ?_ | with_reducible exact VC.mk rfl | exact Ok.mk | exact True.intro | refine Nx.mk ?_ | refine Fin.mk ?_ | (intro hq; (try (exact absurd hq (by decide)))))
      all_goals (first | (refine VC.mk ?_; (try simp only [CL.ncell, CL.cnt, vp]); (try omega)) | ((with_reducible first | show (_ : Int) ≤ _ | show (_ : Int) < _ | show (_ : Nat) ≤ _ | show (_ : Nat) < _ | show (_ : Int) ≠ _); (try simp only [CL.ncell, CL.cnt, vp]); (try omega)) | skip)
    · repeat' ((conv => whnf); first | refine And.intro ?_ ?_ | with_reducible exact VC.mk rfl | exact Ok.mk | exact True.intro | refine Nx.mk ?_ | refine Fin.mk ?_ | (intro hq; (try (exact absurd hq (by decide)))))
      all_goals (first | (refine VC.mk ?_; (try simp only [CL.ncell, CL.cnt, vp]); (try omega)) | ((with_reducible first | show (_ : Int) ≤ _ | show (_ : Int) < _ | show (_ : Nat) ≤ _ | show (_ : Nat) < _ | show (_ : Int) ≠ _); (try simp only [CL.ncell, CL.cnt, vp]); (try omega)) | skip)
      have q1 := mul_bd (a := (x8 + x10)) (b := (x1 + x3)) (A := 5) (B := 5) (by omega) (by omega)
      have q2 := mul_bd (a := (x9 + x11)) (b := (x0 + x2)) (A := 5) (B := 5) (by omega) (by omega)
      conv => whnf
      refine loop_rounds 5 (rounds_succ ⟨anyB_ok, mixed, tabOK, hC, noY_ok⟩ (by rfl) ?_)
      repeat' ((conv => whnf); first | refine And.intro ?_ ?_ | with_reducible exact VC.mk rfl | exact Ok.mk | exact True.intro | refine Nx.mk ?_ | refine Fin.mk ?_ | (intro hq; (try (exact absurd hq (by decide)))))
      all_goals (first | (refine VC.mk ?_; (try simp only [CL.ncell, CL.cnt, vp]); (try omega)) | ((with_reducible first | show (_ : Int) ≤ _ | show (_ : Int) < _ | show (_ : Nat) ≤ _ | show (_ : Nat) < _ | show (_ : Int) ≠ _); (try simp only [CL.ncell, CL.cnt, vp]); (try omega)) | skip)
      all_goals first | exact sup_f (by unfold admC ba2 ba22; simp only [‹decide (((x8 + x10) * (x1 + x3) - (x9 + x11) * (x0 + x2)) % 3 = 0) = true›, Bool.or_true, Bool.true_or, Bool.not_true]) | skip
      clear q1 q2
      have q1 := mul_bd (a := (x8 + x10)) (b := (x5 + x7)) (A := 5) (B := 5) (by omega) (by omega)
      have q2 := mul_bd (a := (x9 + x11)) (b := (x4 + x6)) (A := 5) (B := 5) (by omega) (by omega)
      conv => whnf
      refine rounds_succ ⟨anyB_ok, mixed, tabOK, hC, noY_ok⟩ (by rfl) ?_
      repeat' ((conv => whnf); first | refine And.intro ?_ ?_ | with_reducible exact VC.mk rfl | exact Ok.mk | exact True.intro | refine Nx.mk ?_ | refine Fin.mk ?_ | (intro hq; (try (exact absurd hq (by decide)))))
      all_goals (first | (refine VC.mk ?_; (try simp only [CL.ncell, CL.cnt, vp]); (try omega)) | ((with_reducible first | show (_ : Int) ≤ _ | show (_ : Int) < _ | show (_ : Nat) ≤ _ | show (_ : Nat) < _ | show (_ : Int) ≠ _); (try simp only [CL.ncell, CL.cnt, vp]); (try omega)) | skip)
      all_goals first | exact sup_f (by unfold admC ba2 ba22; simp only [‹decide (((x8 + x10) * (x5 + x7) - (x9 + x11) * (x4 + x6)) % 3 = 0) = true›, Bool.or_true, Bool.true_or, Bool.not_true]) | skip
      clear q1 q2
      conv => whnf
      refine rounds_succ ⟨anyB_ok, mixed, tabOK, hC, noY_ok⟩ (by rfl) ?_
      repeat' ((conv => whnf); first | refine And.intro ?_ ?_ | with_reducible exact VC.mk rfl | exact Ok.mk | exact True.intro | refine Nx.mk ?_ | refine Fin.mk ?_ | (intro hq; (try (exact absurd hq (by decide)))))
      all_goals (first | (refine VC.mk ?_; (try simp only [CL.ncell, CL.cnt, vp]); (try omega)) | ((with_reducible first | show (_ : Int) ≤ _ | show (_ : Int) < _ | show (_ : Nat) ≤ _ | show (_ : Nat) < _ | show (_ : Int) ≠ _); (try simp only [CL.ncell, CL.cnt, vp]); (try omega)) | skip)
      refine ⟨3, [], ⟨⟨by omega, VC.mk ⟨fun _ => hw.get.1 (by omega), fun _ => by unfold ba22; simp only [‹decide (((x8 + x10) * (x1 + x3) - (x9 + x11) * (x0 + x2)) % 3 = 0) = false›, ‹decide (((x8 + x10) * (x5 + x7) - (x9 + x11) * (x4 + x6)) % 3 = 0) = false›, Bool.or_false], by omega⟩⟩, by omega⟩, ?_⟩
      repeat' ((conv => whnf); first | refine And.intro ?_ ?_ | with_reducible exact VC.mk rfl | exact Ok.mk | exact True.intro | refine Nx.mk ?_ | refine Fin.mk ?_ | (intro hq; (try (exact absurd hq (by decide)))))
      all_goals (first | (refine VC.mk ?_; (try simp only [CL.ncell, CL.cnt, vp]); (try omega)) | ((with_reducible first | show (_ : Int) ≤ _ | show (_ : Int) < _ | show (_ : Nat) ≤ _ | show (_ : Nat) < _ | show (_ : Int) ≠ _); (try simp only [CL.ncell, CL.cnt, vp]); (try omega)) | skip)
    · repeat' ((conv => whnf); first | refine And.intro ?_ ?_ | with_reducible exact VC.mk rfl | exact Ok.mk | exact True.intro | refine Nx.mk ?_ | refine Fin.mk ?_ | (intro hq; (try (exact absurd hq (by decide)))))
      all_goals (first | (refine VC.mk ?_; (try simp only [CL.ncell, CL.cnt, vp]); (try omega)) | ((with_reducible first | show (_ : Int) ≤ _ | show (_ : Int) < _ | show (_ : Nat) ≤ _ | show (_ : Nat) < _ | show (_ : Int) ≠ _); (try simp only [CL.ncell, CL.cnt, vp]); (try omega)) | skip)
      have q1 := mul_bd (a := (x12 + x14)) (b := (x1 + x3)) (A := 5) (B := 5) (by omega) (by omega)
      have q2 := mul_bd (a := (x13 + x15)) (b := (x0 + x2)) (A := 5) (B := 5) (by omega) (by omega)
      conv => whnf
      refine loop_rounds 5 (rounds_succ ⟨anyB_ok, mixed, tabOK, hC, noY_ok⟩ (by rfl) ?_)
      repeat' ((conv => whnf); first | refine And.intro ?_ ?_ | with_reducible exact VC.mk rfl | exact Ok.mk | exact True.intro | refine Nx.mk ?_ | refine Fin.mk ?_ | (intro hq; (try (exact absurd hq (by decide)))))
      all_goals (first | (refine VC.mk ?_; (try simp only [CL.ncell, CL.cnt, vp]); (try omega)) | ((with_reducible first | show (_ : Int) ≤ _ | show (_ : Int) < _ | show (_ : Nat) ≤ _ | show (_ : Nat) < _ | show (_ : Int) ≠ _); (try simp only [CL.ncell, CL.cnt, vp]); (try omega)) | skip)
      all_goals first | exact sup_f (by unfold admC ba2 ba23; simp only [‹decide (((x12 + x14) * (x1 + x3) - (x13 + x15) * (x0 + x2)) % 3 = 0) = true›, Bool.or_true, Bool.true_or, Bool.not_true]) | skip
      clear q1 q2
      have q1 := mul_bd (a := (x12 + x14)) (b := (x5 + x7)) (A := 5) (B := 5) (by omega) (by omega)
      have q2 := mul_bd (a := (x13 + x15)) (b := (x4 + x6)) (A := 5) (B := 5) (by omega) (by omega)
      conv => whnf
      refine rounds_succ ⟨anyB_ok, mixed, tabOK, hC, noY_ok⟩ (by rfl) ?_
      repeat' ((conv => whnf); first | refine And.intro ?_ ?_ | with_reducible exact VC.mk rfl | exact Ok.mk | exact True.intro | refine Nx.mk ?_ | refine Fin.mk ?_ | (intro hq; (try (exact absurd hq (by decide)))))
      all_goals (first | (refine VC.mk ?_; (try simp only [CL.ncell, CL.cnt, vp]); (try omega)) | ((with_reducible first | show (_ : Int) ≤ _ | show (_ : Int) < _ | show (_ : Nat) ≤ _ | show (_ : Nat) < _ | show (_ : Int) ≠ _); (try simp only [CL.ncell, CL.cnt, vp]); (try omega)) | skip)
      all_goals first | exact sup_f (by unfold admC ba2 ba23; simp only [‹decide (((x12 + x14) * (x5 + x7) - (x13 + x15) * (x4 + x6)) % 3 = 0) = true›, Bool.or_true, Bool.true_or, Bool.not_true]) | skip
      clear q1 q2
      have q1 := mul_bd (a := (x12 + x14)) (b := (x9 + x11)) (A := 5) (B := 5) (by omega) (by omega)
      have q2 := mul_bd (a := (x13 + x15)) (b := (x8 + x10)) (A := 5) (B := 5) (by omega) (by omega)
      conv => whnf
      refine rounds_succ ⟨anyB_ok, mixed, tabOK, hC, noY_ok⟩ (by rfl) ?_
      repeat' ((conv => whnf); first | refine And.intro ?_ ?_ | with_reducible exact VC.mk rfl | exact Ok.mk | exact True.intro | refine Nx.mk ?_ | refine Fin.mk ?_ | (intro hq; (try (exact absurd hq (by decide)))))
      all_goals (first | (refine VC.mk ?_; (try simp only [CL.ncell, CL.cnt, vp]); (try omega)) | ((with_reducible first | show (_ : Int) ≤ _ | show (_ : Int) < _ | show (_ : Nat) ≤ _ | show (_ : Nat) < _ | show (_ : Int) ≠ _); (try simp only [CL.ncell, CL.cnt, vp]); (try omega)) | skip)
      all_goals first | exact sup_f (by unfold admC ba2 ba23; simp only [‹decide (((x12 + x14) * (x9 + x11) - (x13 + x15) * (x8 + x10)) % 3 = 0) = true›, Bool.or_true, Bool.true_or, Bool.not_true]) | skip
      clear q1 q2
      conv => whnf
      refine rounds_succ ⟨anyB_ok, mixed, tabOK, hC, noY_ok⟩ (by rfl) ?_
      repeat' ((conv => whnf); first | refine And.intro ?_ ?_ | with_reducible exact VC.mk rfl | exact Ok.mk | exact True.intro | refine Nx.mk ?_ | refine Fin.mk ?_ | (intro hq; (try (exact absurd hq (by decide)))))
      all_goals (first | (refine VC.mk ?_; (try simp only [CL.ncell, CL.cnt, vp]); (try omega)) | ((with_reducible first | show (_ : Int) ≤ _ | show (_ : Int) < _ | show (_ : Nat) ≤ _ | show (_ : Nat) < _ | show (_ : Int) ≠ _); (try simp only [CL.ncell, CL.cnt, vp]); (try omega)) | skip)
      refine ⟨4, [], ⟨⟨by omega, VC.mk ⟨fun _ => hw.get.1 (by omega), fun _ => hw.get.2.1 (by omega), fun _ => by unfold ba23; simp only [‹decide (((x12 + x14) * (x1 + x3) - (x13 + x15) * (x0 + x2)) % 3 = 0) = false›, ‹decide (((x12 + x14) * (x5 + x7) - (x13 + x15) * (x4 + x6)) % 3 = 0) = false›, ‹decide (((x12 + x14) * (x9 + x11) - (x13 + x15) * (x8 + x10)) % 3 = 0) = false›, Bool.or_false]⟩⟩, by omega⟩, ?_⟩
      repeat' ((conv => whnf); first | refine And.intro ?_ ?_ | with_reducible exact VC.mk rfl | exact Ok.mk | exact True.intro | refine Nx.mk ?_ | refine Fin.mk ?_ | (intro hq; (try (exact absurd hq (by decide)))))
      all_goals (first | (refine VC.mk ?_; (try simp only [CL.ncell, CL.cnt, vp]); (try omega)) | ((with_reducible first | show (_ : Int) ≤ _ | show (_ : Int) < _ | show (_ : Nat) ≤ _ | show (_ : Nat) < _ | show (_ : Int) ≠ _); (try simp only [CL.ncell, CL.cnt, vp]); (try omega)) | skip)
    · repeat' ((conv => whnf); first | refine And.intro ?_ ?_ | with_reducible exact VC.mk rfl | exact Ok.mk | exact True.intro | refine Nx.mk ?_ | refine Fin.mk ?_ | (intro hq; (try (exact absurd hq (by decide)))))
      all_goals (first | (refine VC.mk ?_; (try simp only [CL.ncell, CL.cnt, vp]); (try omega)) | ((with_reducible first | show (_ : Int) ≤ _ | show (_ : Int) < _ | show (_ : Nat) ≤ _ | show (_ : Nat) < _ | show (_ : Int) ≠ _); (try simp only [CL.ncell, CL.cnt, vp]); (try omega)) | skip)
      refine ⟨3, [], ⟨⟨by omega, VC.mk ⟨fun _ => hv.get.1 (by omega), fun _ => hv.get.2.1 (by omega), fun _ => by unfold ba2; rw [hw.get.1 (by omega), hw.get.2.1 (by omega), hw.get.2.2 (by omega)]; rfl, by omega⟩⟩, by omega⟩, ?_⟩
      repeat' ((conv => whnf); first | refine And.intro ?_ ?_ | with_reducible exact VC.mk rfl | exact Ok.mk | exact True.intro | refine Nx.mk ?_ | refine Fin.mk ?_ | (intro hq; (try (exact absurd hq (by decide)))))
      all_goals (first | (refine VC.mk ?_; (try simp only [CL.ncell, CL.cnt, vp]); (try omega)) | ((with_reducible first | show (_ : Int) ≤ _ | show (_ : Int) < _ | show (_ : Nat) ≤ _ | show (_ : Nat) < _ | show (_ : Int) ≠ _); (try simp only [CL.ncell, CL.cnt, vp]); (try omega)) | skip)
  · repeat' ((conv => whnf); first | refine And.intro ?_ ?_ | with_reducible exact VC.mk rfl | exact Ok.mk | exact True.intro | refine Nx.mk ?_ | refine Fin.mk ?_ | (intro hq; (try (exact absurd hq (by decide)))))
    all_goals (first | (refine VC.mk ?_; (try simp only [CL.ncell, CL.cnt, vp]); (try omega)) | ((with_reducible first | show (_ : Int) ≤ _ | show (_ : Int) < _ | show (_ : Nat) ≤ _ | show (_ : Nat) < _ | show (_ : Int) ≠ _); (try simp only [CL.ncell, CL.cnt, vp]); (try omega)) | skip)
    · simp [show te52.size = 1 from rfl]
    repeat' ((conv => whnf); first | refine And.intro ?_ ?_ | with_reducible exact VC.mk rfl | exact Ok.mk | exact True.intro | refine Nx.mk ?_ | refine Fin.mk ?_ | (intro hq; (try (exact absurd hq (by decide)))))
    all_goals (first | (refine VC.mk ?_; (try simp only [CL.ncell, CL.cnt, vp]); (try omega)) | ((with_reducible first | show (_ : Int) ≤ _ | show (_ : Int) < _ | show (_ : Nat) ≤ _ | show (_ : Nat) < _ | show (_ : Int) ≠ _); (try simp only [CL.ncell, CL.cnt, vp]); (try omega)) | skip)
    conv => whnf
    refine loop_of (X := Nat) (fun i => i ≤ 4 ∧ VC ((1 < i → ba31 x0 x1 x2 x3 x4 x5 x6 x7 x8 x9 x10 x11 x12 x13 x14 x15 = false) ∧ (2 < i → ba32 x0 x1 x2 x3 x4 x5 x6 x7 x8 x9 x10 x11 x12 x13 x14 x15 = false) ∧ (3 < i → ba33 x0 x1 x2 x3 x4 x5 x6 x7 x8 x9 x10 x11 x12 x13 x14 x15 = false))) (fun i => [(49, .int .i64 i)]) (fun _ => []) (fun i => 4 - i) 0 ⟨anyB_ok, mixed, tabOK, hC, noY_ok⟩ (by rfl) ⟨by omega, VC.mk ⟨by omega, by omega, by omega⟩⟩ ?_ ?_
    · repeat' ((conv => whnf); first | refine And.intro ?_ ?_ | with_reducible exact VC.mk rfl | exact Ok.mk | exact True.intro | refine Nx.mk ?_ | refine Fin.mk ?_ | (intro hq; (try (exact absurd hq (by decide)))))
      all_goals (first | (refine VC.mk ?_; (try simp only [CL.ncell, CL.cnt, vp]); (try omega)) | ((with_reducible first | show (_ : Int) ≤ _ | show (_ : Int) < _ | show (_ : Nat) ≤ _ | show (_ : Nat) < _ | show (_ : Int) ≠ _); (try simp only [CL.ncell, CL.cnt, vp]); (try omega)) | skip)
    rintro i ⟨hi, hw⟩
    have hc : i = 0 ∨ i = 1 ∨ i = 2 ∨ i = 3 ∨ i = 4 := by omega
    rcases hc with rfl | rfl | rfl | rfl | rfl
    · repeat' ((conv => whnf); first | refine And.intro ?_ ?_ | with_reducible exact VC.mk rfl | exact Ok.mk | exact True.intro | refine Nx.mk ?_ | refine Fin.mk ?_ | (intro hq; (try (exact absurd hq (by decide)))))
      all_goals (first | (refine VC.mk ?_; (try simp only [CL.ncell, CL.cnt, vp]); (try omega)) | ((with_reducible first | show (_ : Int) ≤ _ | show (_ : Int) < _ | show (_ : Nat) ≤ _ | show (_ : Nat) < _ | show (_ : Int) ≠ _); (try simp only [CL.ncell, CL.cnt, vp]); (try omega)) | skip)
      conv => whnf
      refine loop_rounds 5 (rounds_succ ⟨anyB_ok, mixed, tabOK, hC, noY_ok⟩ (by rfl) ?_)
      repeat' ((conv => whnf); first | refine And.intro ?_ ?_ | with_reducible exact VC.mk rfl | exact Ok.mk | exact True.intro | refine Nx.mk ?_ | refine Fin.mk ?_ | (intro hq; (try (exact absurd hq (by decide)))))
      all_goals (first | (refine VC.mk ?_; (try simp only [CL.ncell, CL.cnt, vp]); (try omega)) | ((with_reducible first | show (_ : Int) ≤ _ | show (_ : Int) < _ | show (_ : Nat) ≤ _ | show (_ : Nat) < _ | show (_ : Int) ≠ _); (try simp only [CL.ncell, CL.cnt, vp]); (try omega)) | skip)
      refine ⟨1, [], ⟨⟨by omega, VC.mk ⟨by omega, by omega, by omega⟩⟩, by omega⟩, ?_⟩
      repeat' ((conv => whnf); first | refine And.intro ?_ ?_ | with_reducible exact VC.mk rfl | exact Ok.mk | exact True.intro | refine Nx.mk ?_ | refine Fin.mk ?_ | (intro hq; (try (exact absurd hq (by decide)))))
      all_goals (first | (refine VC.mk ?_; (try simp only [CL.ncell, CL.cnt, vp]); (try omega)) | ((with_reducible first | show (_ : Int) ≤ _ | show (_ : Int) < _ | show (_ : Nat) ≤ _ | show (_ : Nat) < _ | show (_ : Int) ≠ _); (try simp only [CL.ncell, CL.cnt, vp]); (try omega)) | skip)
    · repeat' ((conv => whnf); first | refine And.intro ?_ ?_ | with_reducible exact VC.mk rfl | exact Ok.mk | exact True.intro | refine Nx.mk ?_ | refine Fin.mk ?_ | (intro hq; (try (exact absurd hq (by decide)))))
      all_goals (first | (refine VC.mk ?_; (try simp only [CL.ncell, CL.cnt, vp]); (try omega)) | ((with_reducible first | show (_ : Int) ≤ _ | show (_ : Int) < _ | show (_ : Nat) ≤ _ | show (_ : Nat) < _ | show (_ : Int) ≠ _); (try simp only [CL.ncell, CL.cnt, vp]); (try omega)) | skip)
      have q1 := mul_sb (a := (x4 - x6)) (b := (x1 - x3)) (by omega) (by omega)
      have q2 := mul_sb (a := (x5 - x7)) (b := (x0 - x2)) (by omega) (by omega)
      conv => whnf
      refine loop_rounds 5 (rounds_succ ⟨anyB_ok, mixed, tabOK, hC, noY_ok⟩ (by rfl) ?_)
      repeat' ((conv => whnf); first | refine And.intro ?_ ?_ | with_reducible exact VC.mk rfl | exact Ok.mk | exact True.intro | refine Nx.mk ?_ | refine Fin.mk ?_ | (intro hq; (try (exact absurd hq (by decide)))))
      all_goals (first | (refine VC.mk ?_; (try simp only [CL.ncell, CL.cnt, vp]); (try omega)) | ((with_reducible first | show (_ : Int) ≤ _ | show (_ : Int) < _ | show (_ : Nat) ≤ _ | show (_ : Nat) < _ | show (_ : Int) ≠ _); (try simp only [CL.ncell, CL.cnt, vp]); (try omega)) | skip)
      all_goals first | exact sup_f (by unfold admC ba3 ba31; simp only [‹decide (((x4 - x6) * (x1 - x3) - (x5 - x7) * (x0 - x2)) % 3 = 0) = true›, Bool.or_true, Bool.true_or, Bool.not_true]) | skip
      clear q1 q2
      conv => whnf
      refine rounds_succ ⟨anyB_ok, mixed, tabOK, hC, noY_ok⟩ (by rfl) ?_
      repeat' ((conv => whnf); first | refine And.intro ?_ ?_ | with_reducible exact VC.mk rfl | exact Ok.mk | exact True.intro | refine Nx.mk ?_ | refine Fin.mk ?_ | (intro hq; (try (exact absurd hq (by decide)))))
      all_goals (first | (refine VC.mk ?_; (try simp only [CL.ncell, CL.cnt, vp]); (try omega)) | ((with_reducible first | show (_ : Int) ≤ _ | show (_ : Int) < _ | show (_ : Nat) ≤ _ | show (_ : Nat) < _ | show (_ : Int) ≠ _); (try simp only [CL.ncell, CL.cnt, vp]); (try omega)) | skip)
      refine ⟨2, [], ⟨⟨by omega, VC.mk ⟨fun _ => by unfold ba31; simp only [‹decide (((x4 - x6) * (x1 - x3) - (x5 - x7) * (x0 - x2)) % 3 = 0) = false›, Bool.or_false], by omega, by omega⟩⟩, by omega⟩, ?_⟩
      repeat' ((conv => whnf); first | refine And.intro ?_ ?_ | with_reducible exact VC.mk rfl | exact Ok.mk | exact True.intro | refine Nx.mk ?_ | refine Fin.mk ?_ | (intro hq; (try (exact absurd hq (by decide)))))
      all_goals (first | (refine VC.mk ?_; (try simp only [CL.ncell, CL.cnt, vp]); (try omega)) | ((with_reducible first | show (_ : Int) ≤ _ | show (_ : Int) < _ | show (_ : Nat) ≤ _ | show (_ : Nat) < _ | show (_ : Int) ≠ _); (try simp only [CL.ncell, CL.cnt, vp]); (try omega)) | skip)
    · repeat' ((conv => whnf); first | refine And.intro ?_ ?_ | with_reducible exact VC.mk rfl | exact Ok.mk | exact True.intro | refine Nx.mk ?_ | refine Fin.mk ?_ | (intro hq; (try (exact absurd hq (by decide)))))
      all_goals (first | (refine VC.mk ?_; (try simp only [CL.ncell, CL.cnt, vp]); (try omega)) | ((with_reducible first | show (_ : Int) ≤ _ | show (_ : Int) < _ | show (_ : Nat) ≤ _ | show (_ : Nat) < _ | show (_ : Int) ≠ _); (try simp only [CL.ncell, CL.cnt, vp]); (try omega)) | skip)
      have q1 := mul_sb (a := (x8 - x10)) (b := (x1 - x3)) (by omega) (by omega)
      have q2 := mul_sb (a := (x9 - x11)) (b := (x0 - x2)) (by omega) (by omega)
      conv => whnf
      refine loop_rounds 5 (rounds_succ ⟨anyB_ok, mixed, tabOK, hC, noY_ok⟩ (by rfl) ?_)
      repeat' ((conv => whnf); first | refine And.intro ?_ ?_ | with_reducible exact VC.mk rfl | exact Ok.mk | exact True.intro | refine Nx.mk ?_ | refine Fin.mk ?_ | (intro hq; (try (exact absurd hq (by decide)))))
      all_goals (first | (refine VC.mk ?_; (try simp only [CL.ncell, CL.cnt, vp]); (try omega)) | ((with_reducible first | show (_ : Int) ≤ _ | show (_ : Int) < _ | show (_ : Nat) ≤ _ | show (_ : Nat) < _ | show (_ : Int) ≠ _); (try simp only [CL.ncell, CL.cnt, vp]); (try omega)) | skip)
      all_goals first | exact sup_f (by unfold admC ba3 ba32; simp only [‹decide (((x8 - x10) * (x1 - x3) - (x9 - x11) * (x0 - x2)) % 3 = 0) = true›, Bool.or_true, Bool.true_or, Bool.not_true]) | skip
      clear q1 q2
      have q1 := mul_sb (a := (x8 - x10)) (b := (x5 - x7)) (by omega) (by omega)
      have q2 := mul_sb (a := (x9 - x11)) (b := (x4 - x6)) (by omega) (by omega)
      conv => whnf
      refine rounds_succ ⟨anyB_ok, mixed, tabOK, hC, noY_ok⟩ (by rfl) ?_
      repeat' ((conv => whnf); first | refine And.intro ?_ ?_ | with_reducible exact VC.mk rfl | exact Ok.mk | exact True.intro | refine Nx.mk ?_ | refine Fin.mk ?_ | (intro hq; (try (exact absurd hq (by decide)))))
      all_goals (first | (refine VC.mk ?_; (try simp only [CL.ncell, CL.cnt, vp]); (try omega)) | ((with_reducible first | show (_ : Int) ≤ _ | show (_ : Int) < _ | show (_ : Nat) ≤ _ | show (_ : Nat) < _ | show (_ : Int) ≠ _); (try simp only [CL.ncell, CL.cnt, vp]); (try omega)) | skip)
      all_goals first | exact sup_f (by unfold admC ba3 ba32; simp only [‹decide (((x8 - x10) * (x5 - x7) - (x9 - x11) * (x4 - x6)) % 3 = 0) = true›, Bool.or_true, Bool.true_or, Bool.not_true]) | skip
      clear q1 q2
      conv => whnf
      refine rounds_succ ⟨anyB_ok, mixed, tabOK, hC, noY_ok⟩ (by rfl) ?_
      repeat' ((conv => whnf); first | refine And.intro ?_ ?_ | with_reducible exact VC.mk rfl | exact Ok.mk | exact True.intro | refine Nx.mk ?_ | refine Fin.mk ?_ | (intro hq; (try (exact absurd hq (by decide)))))
      all_goals (first | (refine VC.mk ?_; (try simp only [CL.ncell, CL.cnt, vp]); (try omega)) | ((with_reducible first | show (_ : Int) ≤ _ | show (_ : Int) < _ | show (_ : Nat) ≤ _ | show (_ : Nat) < _ | show (_ : Int) ≠ _); (try simp only [CL.ncell, CL.cnt, vp]); (try omega)) | skip)
      refine ⟨3, [], ⟨⟨by omega, VC.mk ⟨fun _ => hw.get.1 (by omega), fun _ => by unfold ba32; simp only [‹decide (((x8 - x10) * (x1 - x3) - (x9 - x11) * (x0 - x2)) % 3 = 0) = false›, ‹decide (((x8 - x10) * (x5 - x7) - (x9 - x11) * (x4 - x6)) % 3 = 0) = false›, Bool.or_false], by omega⟩⟩, by omega⟩, ?_⟩
      repeat' ((conv => whnf); first | refine And.intro ?_ ?_ | with_reducible exact VC.mk rfl | exact Ok.mk | exact True.intro | refine Nx.mk ?_ | refine Fin.mk ?_ | (intro hq; (try (exact absurd hq (by decide)))))
      all_goals (first | (refine VC.mk ?_; (try simp only [CL.ncell, CL.cnt, vp]); (try omega)) | ((with_reducible first | show (_ : Int) ≤ _ | show (_ : Int) < _ | show (_ : Nat) ≤ _ | show (_ : Nat) < _ | show (_ : Int) ≠ _); (try simp only [CL.ncell, CL.cnt, vp]); (try omega)) | skip)
    · repeat' ((conv => whnf); first | refine And.intro ?_ ?_ | with_reducible exact VC.mk rfl | exact Ok.mk | exact True.intro | refine Nx.mk ?_ | refine Fin.mk ?_ | (intro hq; (try (exact absurd hq (by decide)))))
      all_goals (first | (refine VC.mk ?_; (try simp only [CL.ncell, CL.cnt, vp]); (try omega)) | ((with_reducible first | show (_ : Int) ≤ _ | show (_ : Int) < _ | show (_ : Nat) ≤ _ | show (_ : Nat) < _ | show (_ : Int) ≠ _); (try simp only [CL.ncell, CL.cnt, vp]); (try omega)) | skip)
      have q1 := mul_sb (a := (x12 - x14)) (b := (x1 - x3)) (by omega) (by omega)
      have q2 := mul_sb (a := (x13 - x15)) (b := (x0 - x2)) (by omega) (by omega)
      conv => whnf
      refine loop_rounds 5 (rounds_succ ⟨anyB_ok, mixed, tabOK, hC, noY_ok⟩ (by rfl) ?_)
      repeat' ((conv => whnf); first | refine And.intro ?_ ?_ | with_reducible exact VC.mk rfl | exact Ok.mk | exact True.intro | refine Nx.mk ?_ | refine Fin.mk ?_ | (intro hq; (try (exact absurd hq (by decide)))))
      all_goals (first | (refine VC.mk ?_; (try simp only [CL.ncell, CL.cnt, vp]); (try omega)) | ((with_reducible first | show (_ : Int) ≤ _ | show (_ : Int) < _ | show (_ : Nat) ≤ _ | show (_ : Nat) < _ | show (_ : Int) ≠ _); (try simp only [CL.ncell, CL.cnt, vp]); (try omega)) | skip)
      all_goals first | exact sup_f (by unfold admC ba3 ba33; simp only [‹decide (((x12 - x14) * (x1 - x3) - (x13 - x15) * (x0 - x2)) % 3 = 0) = true›, Bool.or_true, Bool.true_or, Bool.not_true]) | skip
      clear q1 q2
      have q1 := mul_sb (a := (x12 - x14)) (b := (x5 - x7)) (by omega) (by omega)
      have q2 := mul_sb (a := (x13 - x15)) (b := (x4 - x6)) (by omega) (by omega)
      conv => whnf
      refine rounds_succ ⟨anyB_ok, mixed, tabOK, hC, noY_ok⟩ (by rfl) ?_
      repeat' ((conv => whnf); first | refine And.intro ?_ ?_ | with_reducible exact VC.mk rfl | exact Ok.mk | exact True.intro | refine Nx.mk ?_ | refine Fin.mk ?_ | (intro hq; (try (exact absurd hq (by decide)))))
      all_goals (first | (refine VC.mk ?_; (try simp only [CL.ncell, CL.cnt, vp]); (try omega)) | ((with_reducible first | show (_ : Int) ≤ _ | show (_ : Int) < _ | show (_ : Nat) ≤ _ | show (_ : Nat) < _ | show (_ : Int) ≠ _); (try simp only [CL.ncell, CL.cnt, vp]); (try omega)) | skip)
      all_goals first | exact sup_f (by unfold admC ba3 ba33; simp only [‹decide (((x12 - x14) * (x5 - x7) - (x13 - x15) * (x4 - x6)) % 3 = 0) = true›, Bool.or_true, Bool.true_or, Bool.not_true]) | skip
      clear q1 q2
      have q1 := mul_sb (a := (x12 - x14)) (b := (x9 - x11)) (by omega) (by omega)
      have q2 := mul_sb (a := (x13 - x15)) (b := (x8 - x10)) (by omega) (by omega)
      conv => whnf
      refine rounds_succ ⟨anyB_ok, mixed, tabOK, hC, noY_ok⟩ (by rfl) ?_
      repeat' ((conv => whnf); first | refine And.intro ?_ ?_ | with_reducible exact VC.mk rfl | exact Ok.mk | exact True.intro | refine Nx.mk ?_ | refine Fin.mk ?_ | (intro hq; (try (exact absurd hq (by decide)))))
      all_goals (first | (refine VC.mk ?_; (try simp only [CL.ncell, CL.cnt, vp]); (try omega)) | ((with_reducible first | show (_ : Int) ≤ _ | show (_ : Int) < _ | show (_ : Nat) ≤ _ | show (_ : Nat) < _ | show (_ : Int) ≠ _); (try simp only [CL.ncell, CL.cnt, vp]); (try omega)) | skip)
      all_goals first | exact sup_f (by unfold admC ba3 ba33; simp only [‹decide (((x12 - x14) * (x9 - x11) - (x13 - x15) * (x8 - x10)) % 3 = 0) = true›, Bool.or_true, Bool.true_or, Bool.not_true]) | skip
      clear q1 q2
      conv => whnf
      refine rounds_succ ⟨anyB_ok, mixed, tabOK, hC, noY_ok⟩ (by rfl) ?_
      repeat' ((conv => whnf); first | refine And.intro ?_ ?_ | with_reducible exact VC.mk rfl | exact Ok.mk | exact True.intro | refine Nx.mk ?_ | refine Fin.mk ?_ | (intro hq; (try (exact absurd hq (by decide)))))
      all_goals (first | (refine VC.mk ?_; (try simp only [CL.ncell, CL.cnt, vp]); (try omega)) | ((with_reducible first | show (_ : Int) ≤ _ | show (_ : Int) < _ | show (_ : Nat) ≤ _ | show (_ : Nat) < _ | show (_ : Int) ≠ _); (try simp only [CL.ncell, CL.cnt, vp]); (try omega)) | skip)
      refine ⟨4, [], ⟨⟨by omega, VC.mk ⟨fun _ => hw.get.1 (by omega), fun _ => hw.get.2.1 (by omega), fun _ => by unfold ba33; simp only [‹decide (((x12 - x14) * (x1 - x3) - (x13 - x15) * (x0 - x2)) % 3 = 0) = false›, ‹decide (((x12 - x14) * (x5 - x7) - (x13 - x15) * (x4 - x6)) % 3 = 0) = false›, ‹decide (((x12 - x14) * (x9 - x11) - (x13 - x15) * (x8 - x10)) % 3 = 0) = false›, Bool.or_false]⟩⟩, by omega⟩, ?_⟩
      repeat' ((conv => whnf); first | refine And.intro ?_ ?_ | with_reducible exact VC.mk rfl | exact Ok.mk | exact True.intro | refine Nx.mk ?_ | refine Fin.mk ?_ | (intro hq; (try (exact absurd hq (by decide)))))
      all_goals (first | (refine VC.mk ?_; (try simp only [CL.ncell, CL.cnt, vp]); (try omega)) | ((with_reducible first | show (_ : Int) ≤ _ | show (_ : Int) < _ | show (_ : Nat) ≤ _ | show (_ : Nat) < _ | show (_ : Int) ≠ _); (try simp only [CL.ncell, CL.cnt, vp]); (try omega)) | skip)
    · repeat' ((conv => whnf); first | refine And.intro ?_ ?_ | with_reducible exact VC.mk rfl | exact Ok.mk | exact True.intro | refine Nx.mk ?_ | refine Fin.mk ?_ | (intro hq; (try (exact absurd hq (by decide)))))
      all_goals (first | (refine VC.mk ?_; (try simp only [CL.ncell, CL.cnt, vp]); (try omega)) | ((with_reducible first | show (_ : Int) ≤ _ | show (_ : Int) < _ | show (_ : Nat) ≤ _ | show (_ : Nat) < _ | show (_ : Int) ≠ _); (try simp only [CL.ncell, CL.cnt, vp]); (try omega)) | skip)
      refine ⟨4, [], ⟨⟨by omega, VC.mk ⟨fun _ => hv.get.1 (by omega), fun _ => hv.get.2.1 (by omega), fun _ => hv.get.2.2.1 (by omega), fun _ => by unfold ba3; rw [hw.get.1 (by omega), hw.get.2.1 (by omega), hw.get.2.2 (by omega)]; rfl⟩⟩, by omega⟩, ?_⟩
      repeat' ((conv => whnf); first | refine And.intro ?_ ?_ | with_reducible exact VC.mk rfl | exact Ok.mk | exact True.intro | refine Nx.mk ?_ | refine Fin.mk ?_ | (intro hq; (try (exact absurd hq (by decide)))))
      all_goals (first | (refine VC.mk ?_; (try simp only [CL.ncell, CL.cnt, vp]); (try omega)) | ((with_reducible first | show (_ : Int) ≤ _ | show (_ : Int) < _ | show (_ : Nat) ≤ _ | show (_ : Nat) < _ | show (_ : Int) ≠ _); (try simp only [CL.ncell, CL.cnt, vp]); (try omega)) | skip)
  · repeat' ((conv => whnf); first | refine And.intro ?_ ?_ | with_reducible exact VC.mk rfl | exact Ok.mk | exact True.intro | refine Nx.mk ?_ | refine Fin.mk ?_ | (intro hq; (try (exact absurd hq (by decide)))))
    all_goals (first | (refine VC.mk ?_; (try simp only [CL.ncell, CL.cnt, vp]); (try omega)) | ((with_reducible first | show (_ : Int) ≤ _ | show (_ : Int) < _ | show (_ : Nat) ≤ _ | show (_ : Nat) < _ | show (_ : Int) ≠ _); (try simp only [CL.ncell, CL.cnt, vp]); (try omega)) | skip)
    exact sup_t h4 (by unfold admC; rw [hv.get.1 (by omega), hv.get.2.1 (by omega), hv.get.2.2.1 (by omega), hv.get.2.2.2 (by omega)]; rfl)
end Go.Eng.YtppflbccfdbogaaGreat
namespace Go.Eng.YtppflbccfdbogaaGreat
open Go.Proofs
end Go.Eng.YtppflbccfdbogaaGreat
namespace Go.Eng.YtppflbccfdbogaaGreat
open Go.Proofs
set_option maxRecDepth 100000
set_option maxHeartbeats 0
set_option linter.unusedVariables false
set_option linter.unusedSimpArgs false
end Go.Eng.YtppflbccfdbogaaGreat
namespace Go.Eng.YtppflbccfdbogaaGreat
open Go.Proofs
set_option maxRecDepth 100000
set_option maxHeartbeats 0
set_option linter.unusedVariables false
set_option linter.unusedSimpArgs false
/-- the squares of numbers -/
def qsL (l : List Int) : List Int := l.map fun x => x * x
theorem qsL_get (l : List Int) (i : Nat) (h : i < l.length) : (qsL l).getD i 0 = l.getD i 0 * l.getD i 0 := by
  rw [List.getD_eq_getElem?_getD, List.getD_eq_getElem?_getD, qsL, List.getElem?_map, List.getElem?_eq_getElem h]; rfl
theorem sq_bd {x : Int} (h : 1 ≤ x ∧ x ≤ 81) : 0 ≤ x * x ∧ x * x ≤ 6561 :=
  ⟨Int.mul_nonneg (by omega) (by omega), by have := Int.mul_le_mul h.2 h.2 (by omega) (by omega); omega⟩
theorem sumSq_bd (cs l : List Int) (hb : ∀ k, k < cs.length → 1 ≤ cs.getD k 0 ∧ cs.getD k 0 ≤ 81) (hc : ∀ k, k < l.length → 0 ≤ l.getD k 0 ∧ l.getD k 0 < cs.length) : ∀ k, k ≤ l.length → 0 ≤ sumAt (qsL cs) l k ∧ sumAt (qsL cs) l k ≤ 6561 * k := by
  intro k
  induction k with
  | zero => intro _; exact ⟨Int.le_refl 0, Int.le_refl 0⟩
  | succ k ih =>
    intro hk
    rw [sumAt_succ _ _ _ (by omega)]
    have h1 := ih (by omega)
    have h2 := hc k (by omega)
    rw [qsL_get _ _ (by omega)]
    have h3 := sq_bd (hb (l.getD k 0).toNat (by omega))
    omega
theorem fails2_rows (cs : List Int) (S : Int) (rows : List (List Int)) (hl : cs.length = 81) (hb : ∀ k, k < cs.length → 1 ≤ cs.getD k 0 ∧ cs.getD k 0 ≤ 81)
    (hr : rows.length = 20) (hn : ∀ i, i < 20 → (rows.getD i []).length = 9) (hc : ∀ i, i < 20 → ∀ k, k < 9 → 0 ≤ (rows.getD i []).getD k 0 ∧ (rows.getD i []).getD k 0 < 81)
    (hs : ∀ i, i < 20 → sumAt (qsL cs) (rows.getD i []) 9 = S)
    (hL : PSpec Tryz.prog 43 [.int .i64 9, .str kMag] (.isl (.rows .i64 rows) .none)) : PSpec Tryz.prog 16 [gridV 9 9 cs] (.bool false) := by
  have hC := cpAdd_ok (pureCC_ok (atC_ok (C := True) fun _ => hL)) noC_ok
  refine pspec_of (md := 0) (rf := []) mixed tabOK hC Tryz.func16 (by rfl) (by rfl) (by rfl) ?_
  repeat' ((conv => whnf); first | refine And.intro ?_ ?_ | with_reducible exact VC.mk rfl | exact Ok.mk | exact True.intro | refine Nx.mk ?_ | refine Fin.mk ?_ | intro _)
  all_goals ((try refine VC.mk ?_); (try simp only [CL.ncell, CL.cnt, vq] at *); (try omega))
  conv => whnf
  refine loop_of (X := Nat) (fun i => i ≤ 20) (fun i => [(5, .int .i64 i), (4, .int .i64 (if i = 0 then 0 else S)), (6, .any), (7, .any)]) (fun i => []) (fun i => 20 - i) 0 ⟨anyB_ok, mixed, tabOK, hC, noY_ok⟩ (by rfl) (by omega) ?_ ?_
  · repeat' ((conv => whnf); first | refine And.intro ?_ ?_ | with_reducible exact VC.mk rfl | exact Ok.mk | exact True.intro | refine Nx.mk ?_ | refine Fin.mk ?_ | intro _)
    all_goals ((try refine VC.mk ?_); (try simp only [CL.ncell, CL.cnt, vq] at *); (try omega))
  intro i hi
  by_cases hlt : i < 20
  · have h1 := hn i hlt
    have h2 := hc i hlt
    have h3 := hs i hlt
    have h4 := sumSq_bd cs (rows.getD i []) hb (by rw [h1, hl]; exact h2)
    have h5 := sumAt_succ (qsL cs) (rows.getD i [])
    rw [h1] at h4
    repeat' ((conv => whnf); first | refine And.intro ?_ ?_ | with_reducible exact VC.mk rfl | exact Ok.mk | exact True.intro | refine Nx.mk ?_ | refine Fin.mk ?_ | intro _)
    all_goals ((try refine VC.mk ?_); (try simp only [CL.ncell, CL.cnt, vq] at *); (try omega))
    conv => whnf
    refine loop_of (X := Nat) (fun j => j ≤ 9) (fun j => [(7, .int .i64 j), (6, .int .i64 (sumAt (qsL cs) (rows.getD i []) j))]) (fun j => []) (fun j => 9 - j) 0 ⟨anyB_ok, mixed, tabOK, hC, noY_ok⟩ (by rfl) (by omega) ?_ ?_
    · repeat' ((conv => whnf); first | refine And.intro ?_ ?_ | with_reducible exact VC.mk rfl | exact Ok.mk | exact True.intro | refine Nx.mk ?_ | refine Fin.mk ?_ | intro _)
      all_goals ((try refine VC.mk ?_); (try simp only [CL.ncell, CL.cnt, vq] at *); (try omega))
    intro j hj
    by_cases hlj : j < 9
    · have h6 := h4 j (by omega)
      have h7 := h4 (j + 1) (by omega)
      have h8 := h2 j hlj
      have h9 := h5 j (by omega)
      rw [qsL_get _ _ (by omega)] at h9
      have h10 := sq_bd (hb ((rows.getD i []).getD j 0).toNat (by omega))
      repeat' ((conv => whnf); first | refine And.intro ?_ ?_ | with_reducible exact VC.mk rfl | exact Ok.mk | exact True.intro | refine Nx.mk ?_ | refine Fin.mk ?_ | intro _)
      all_goals ((try refine VC.mk ?_); (try simp only [CL.ncell, CL.cnt, vq] at *); (try omega))
      refine ⟨j + 1, [], ⟨by omega, by omega⟩, ?_⟩
      repeat' ((conv => whnf); first | refine And.intro ?_ ?_ | with_reducible exact VC.mk rfl | exact Ok.mk | exact True.intro | refine Nx.mk ?_ | refine Fin.mk ?_ | intro _)
      all_goals ((try refine VC.mk ?_); (try simp only [CL.ncell, CL.cnt, vq] at *); (try omega))
      all_goals (try (rw [h9]))
    · have : 9 = j := by omega
      subst this
      repeat' ((conv => whnf); first | refine And.intro ?_ ?_ | with_reducible exact VC.mk rfl | exact Ok.mk | exact True.intro | refine Nx.mk ?_ | refine Fin.mk ?_ | intro _)
      all_goals ((try refine VC.mk ?_); (try simp only [CL.ncell, CL.cnt, vq] at *); (try omega))
      all_goals (refine ⟨i + 1, [], ⟨by omega, by omega⟩, ?_⟩; repeat' ((conv => whnf); first | refine And.intro ?_ ?_ | with_reducible exact VC.mk rfl | exact Ok.mk | exact True.intro | refine Nx.mk ?_ | refine Fin.mk ?_ | intro _); all_goals ((try refine VC.mk ?_); (try simp only [CL.ncell, CL.cnt, vq] at *); (try omega)); all_goals (try (rw [if_neg (by omega)]; first | done | assumption | (rename_i hq; rw [if_neg (by omega)] at hq; omega))))
  · repeat' ((conv => whnf); first | refine And.intro ?_ ?_ | with_reducible exact VC.mk rfl | exact Ok.mk | exact True.intro | refine Nx.mk ?_ | refine Fin.mk ?_ | intro _)
    all_goals ((try refine VC.mk ?_); (try simp only [CL.ncell, CL.cnt, vq] at *); (try omega))
    exact Sup.of rfl
theorem fails2_spec (cs : List Int) (S : Int) (hl : cs.length = 81) (hb : ∀ k, k < cs.length → 1 ≤ cs.getD k 0 ∧ cs.getD k 0 ≤ 81)
    (hs : ∀ i, i < 20 → sumAt (qsL cs) (lineAt 9 i) 9 = S) : PSpec Tryz.prog 16 [gridV 9 9 cs] (.bool false) := by
  have hg : ∀ i, i < 20 → (linesTo 9 20).getD i [] = lineAt 9 i := fun i hi => linesTo_get 9 20 i hi
  have hd : ∀ i < 20, (lineAt 9 i).length = 9 ∧ ∀ k < 9, 0 ≤ (lineAt 9 i).getD k 0 ∧ (lineAt 9 i).getD k 0 < 81 := by decide +kernel
  refine fails2_rows cs S (linesTo 9 20) hl hb (linesTo_len 9 20) (fun i hi => ?_) (fun i hi k hk => ?_) (fun i hi => ?_) ?_
  · rw [hg i hi]; exact (hd i hi).1
  · rw [hg i hi]; exact (hd i hi).2 k hk
  · rw [hg i hi]; exact hs i hi
  · have := Lines_spec 9 (by omega) kMag
    have e : lineCnt 9 (gOf kMag) = 20 := by rfl
    rw [e] at this
    exact this
end Go.Eng.YtppflbccfdbogaaGreat
namespace Go.Eng.YtppflbccfdbogaaGreat
open Go.Proofs
set_option maxRecDepth 100000
set_option maxHeartbeats 0
set_option linter.unusedVariables false
set_option linter.unusedSimpArgs false
structure GoodSq (n : Nat) (g : Int) (l : List Int) : Prop where
  len : l.length = n * n
  norm : isNorm l = true
  bad : badLine n g l = none
/-- a normal square -/
structure NormG (r c : Int) (l : List Int) (n : Nat) : Prop where
  er : r = n
  ec : c = n
  en : 1 ≤ n ∧ n ≤ 16
  el : l.length = n * n
  eb : ∀ x ∈ l, 1 ≤ x ∧ x ≤ 256
end Go.Eng.YtppflbccfdbogaaGreat
namespace Go.Eng.YtppflbccfdbogaaGreat
open Go.Proofs
set_option maxRecDepth 100000
set_option maxHeartbeats 0
set_option linter.unusedVariables false
set_option linter.unusedSimpArgs false
theorem good_err {n : Nat} (hn : 1 ≤ n ∧ n ≤ 16) {g : Int} {l : List Int} (h : GoodSq n g l) : normErr n n l = 0 := by
  have hl : (l.length : Int) = (n : Int) * n := by rw [h.len]; push_cast; rfl
  unfold normErr
  rw [if_pos, if_pos h.norm]
  unfold sqErr
  rw [if_neg (by omega)]
theorem magic_yes (n : Nat) (g : Int) (l : List Int) (s : ByteArray) (hn : 1 ≤ n ∧ n ≤ 16) (hg : gOf s = g) (h : GoodSq n g l) : PSpec Tryz.prog 15 [gridV n n l, .int .i64 n, .str s] (.bp true) := by
  have he := good_err hn h
  have hF := Fails_spec n n l s hn h.len (fun x hx => by
    have h1 := isNorm_bd h.norm x hx
    have h2 := Nat.mul_le_mul hn.2 hn.2
    rw [h.len] at h1
    omega)
  rw [failsV_eq, hg, h.bad] at hF
  unfold failsL at hF
  rw [h.bad] at hF
  have hC := cpAdd_ok (pureCC_ok (atC_ok (C := True) fun _ => hF)) (cpAdd_ok (pureCC_ok CheckNormal_ok) noC_ok)
  refine pspec_of (md := 1) (rf := []) mixed tabOK hC Tryz.func15 (by rfl) (by rfl) (by rfl) ?_
  repeat' ((conv => whnf); first | refine And.intro ?_ ?_ | with_reducible exact VC.mk rfl | exact Ok.mk | exact True.intro | refine Nx.mk ?_ | refine Fin.mk ?_ | (intro hq; (try simp only [decide_eq_true_eq, decide_eq_false_iff_not, Bool.not_eq_true, Bool.not_eq_false, Bool.not_eq_true', Bool.not_eq_false', Bool.not_true, Bool.not_false, ite_true, ite_false] at hq); (try (exfalso; first | exact absurd hq (by decide) | omega))))
  all_goals ((try refine VC.mk ?_); (try simp only [CL.ncell, CL.cnt, vq] at *); (try omega))
  exact Sup.of rfl
structure MagOK (r c : Int) (l : List Int) (m g : Int) : Prop where
  ex : ∃ n : Nat, (1 ≤ n ∧ n ≤ 16) ∧ r = n ∧ c = n ∧ m = n ∧ GoodSq n g l
def magT : PSp := fun xs K => match xs with
  | [.agg [.int .i64 r, .int .i64 c, .isl (.ints .i64 l) .none], .int .i64 m, .str s] => VC (MagOK r c l m (gOf s)) ∧ K (.bool true)
  | _ => False
theorem magT_ok : POK Tryz.prog 15 magT := by
  intro xs K h
  unfold magT at h
  split at h
  · obtain ⟨⟨⟨n, hn, rfl, rfl, rfl, hg⟩⟩, h⟩ := h
    exact ⟨_, h, pspec_sup (magic_yes n _ _ _ hn rfl hg) sup_b⟩
  · exact h.elim
end Go.Eng.YtppflbccfdbogaaGreat
