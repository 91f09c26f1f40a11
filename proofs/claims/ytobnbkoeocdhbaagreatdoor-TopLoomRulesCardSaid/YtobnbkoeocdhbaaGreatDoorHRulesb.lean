/-
  Contracts of functions of the program: what each returns. Their conditions stand in them.
-/
import Derived.Test.YtobnbkoeocdhbaaGreatDoorHRulesa
namespace Go.Eng.YtobnbkoeocdhbaaGreatDoor
open Go.Proofs
set_option maxRecDepth 100000
set_option maxHeartbeats 0
set_option linter.unusedVariables false
set_option linter.unusedSimpArgs false
theorem lfirst_spec (l : List Int) (hl : l.length < 1000000) : PSpec Tryz.prog 45 [.isl (.ints .i64 l) .none] (.int .i64 (firstOf l)) := by
  refine pspec_of (md := 1) (rf := []) mixed tabOK noC_ok Tryz.func45 (by rfl) (by rfl) (by rfl) ?_
  repeat' ((conv => whnf); first | refine And.intro ?_ ?_ | with_reducible exact VC.mk rfl | exact Ok.mk | exact True.intro | refine Nx.mk ?_ | refine Fin.mk ?_ | intro _)
  all_goals ((try refine VC.mk ?_); (try simp only [CL.ncell, CL.cnt, vq] at *); (try omega))
  conv => whnf
  refine loop_of (X := Nat) (fun i => i ≤ l.length ∧ ∀ j, j < i → l.getD j 0 = 0) (fun i => [(7, .int .i64 i)]) (fun _ => []) (fun i => l.length - i) 0 ⟨anyB_ok, mixed, tabOK, noC_ok, noY_ok⟩ (by rfl) ⟨by omega, fun j hj => by omega⟩ ?_ ?_
  · repeat' ((conv => whnf); first | refine And.intro ?_ ?_ | with_reducible exact VC.mk rfl | exact Ok.mk | exact True.intro | refine Nx.mk ?_ | refine Fin.mk ?_ | intro _)
    all_goals ((try refine VC.mk ?_); (try simp only [CL.ncell, CL.cnt, vq] at *); (try omega))
  · intro i hi
    obtain ⟨hi, hz⟩ := hi
    repeat' ((conv => whnf); first | refine And.intro ?_ ?_ | with_reducible exact VC.mk rfl | exact Ok.mk | exact True.intro | refine Nx.mk ?_ | refine Fin.mk ?_ | intro _)
    all_goals ((try refine VC.mk ?_); (try simp only [CL.ncell, CL.cnt, vq] at *); (try omega))
    · rename_i hne
      have := firstOf_at l i (by omega) hz (by simpa using hne)
      rw [this]; exact Sup.of rfl
    · rename_i hne
      have hne : l.getD i 0 = 0 := by simpa using hne
      refine ⟨i + 1, [], ⟨⟨by omega, fun j hj => ?_⟩, by omega⟩, ?_⟩
      · by_cases e : j = i
        · subst e; exact hne
        · exact hz j (by omega)
      · repeat' ((conv => whnf); first | refine And.intro ?_ ?_ | with_reducible exact VC.mk rfl | exact Ok.mk | exact True.intro | refine Nx.mk ?_ | refine Fin.mk ?_ | intro _)
        all_goals ((try refine VC.mk ?_); (try simp only [CL.ncell, CL.cnt, vq] at *); (try omega))
    · have : i = l.length := by omega
      subst this
      rw [firstOf_zero l hz]; exact Sup.of rfl
def lfirstP : PSp := fun xs K => match xs with
  | [.isl (.ints .i64 l) .none] => VC (l.length < 1000000) ∧ K (.int .i64 (firstOf l))
  | _ => False
theorem lfirst_ok : POK Tryz.prog 45 lfirstP := by
  intro xs K h
  unfold lfirstP at h
  split at h
  · exact ⟨_, h.2, lfirst_spec _ h.1.get⟩
  · exact h.elim
def outB (lo hi x : Int) : Bool := decide (x < lo) || decide (hi < x)
theorem c87_spec (lo hi x : Int) : PSpec Tryz.prog 87 ([] ++ [.int .i64 x] ++ [.ip (.pv [.int .i64 lo]) 0, .ip (.pv [.int .i64 hi]) 0]) (.bp (outB lo hi x)) := by
  refine pspec_of (md := 1) (rf := []) mixed tabOK noC_ok Tryz.func87 (by rfl) (by rfl) (by rfl) ?_
  unfold outB
  repeat' ((conv => whnf); first | refine And.intro ?_ ?_ | with_reducible exact VC.mk rfl | exact Ok.mk | exact True.intro | refine Nx.mk ?_ | refine Fin.mk ?_ | intro _)
  · rename_i hq
    rw [show (decide (x < lo)) = false from hq, Bool.false_or]
    exact Sup.of rfl
  · rename_i hq
    rw [show (decide (x < lo)) = true from hq, Bool.true_or]
    all_goals (refine Sup.via ?_; repeat' ((conv => whnf); first | refine And.intro ?_ ?_ | with_reducible exact VC.mk rfl | exact Ok.mk | exact True.intro | refine Nx.mk ?_ | refine Fin.mk ?_ | intro _); all_goals ((try refine VC.mk ?_); (try simp only [CL.ncell, CL.cnt, vq] at *); (try omega)); all_goals (try (simp [CL.sub]; done)))
noncomputable def cpFr : CPT := cpAdd 86 (viewCC hasFP) (cpAdd 46 (pureCC whenP) noC)
theorem cpFr_ok : CPOK Tryz.prog cpFr := cpAdd_ok (viewCC_ok hasF_ok) (cpAdd_ok (pureCC_ok lwhen_ok) noC_ok)
theorem from_spec (lo hi : Int) (l : List Int) (hl : l.length ≤ 2000000) : PSpec Tryz.prog 47 [.int .i64 lo, .int .i64 hi, .isl (.ints .i64 l) .none] (.int .i64 (if l.any (outB lo hi) then 3 else 0)) := by
  refine pspec_of (md := 1) (rf := []) mixed tabOK cpFr_ok Tryz.func47 (by rfl) (by rfl) (by rfl) ?_
  repeat' ((conv => whnf); first | refine And.intro ?_ ?_ | with_reducible exact VC.mk rfl | exact Ok.mk | exact True.intro | refine Nx.mk ?_ | refine Fin.mk ?_ | intro _)
  all_goals ((try refine VC.mk ?_); (try simp only [CL.ncell, CL.cnt, vq] at *); (try omega))
  · exact ⟨hl, rfl, rfl⟩
  refine ⟨outB lo hi, fun x _ => c87_spec lo hi x, ?_⟩
  repeat' ((conv => whnf); first | refine And.intro ?_ ?_ | with_reducible exact VC.mk rfl | exact Ok.mk | exact True.intro | refine Nx.mk ?_ | refine Fin.mk ?_ | intro _)
  all_goals ((try refine VC.mk ?_); (try simp only [CL.ncell, CL.cnt, vq] at *); (try omega))
  all_goals (first | (refine Sup.of ?_; first | rfl | (simp [*, resOf]; done)) | (refine Sup.via ?_; repeat' ((conv => whnf); first | refine And.intro ?_ ?_ | with_reducible exact VC.mk rfl | exact Ok.mk | exact True.intro | refine Nx.mk ?_ | refine Fin.mk ?_ | intro _); all_goals ((try refine VC.mk ?_); (try simp only [CL.ncell, CL.cnt, vq] at *); (try omega)); all_goals (try (simp [CL.sub]; done))))
def fromP : PSp := fun xs K => match xs with
  | [.int .i64 lo, .int .i64 hi, .isl (.ints .i64 l) .none] => VC (l.length ≤ 2000000) ∧ K (.int .i64 (if l.any (outB lo hi) then 3 else 0))
  | _ => False
theorem from_ok : POK Tryz.prog 47 fromP := by
  intro xs K h
  unfold fromP at h
  split at h
  · exact ⟨_, h.2, from_spec _ _ _ h.1.get⟩
  · exact h.elim
noncomputable def cpCn : CPT := cpAdd 47 (pureCC fromP) noC
theorem cpCn_ok : CPOK Tryz.prog cpCn := cpAdd_ok (pureCC_ok from_ok) noC_ok
def numsE (l : List Int) : Int := if l.any (outB (-999999999) 999999999) then 3 else 0
theorem numbers_spec (l : List Int) (hl : l.length ≤ 2000000) : PSpec Tryz.prog 94 [.isl (.ints .i64 l) .none] (.int .i64 (numsE l)) := by
  refine pspec_of (md := 1) (rf := []) mixed tabOK cpCn_ok Tryz.func94 (by rfl) (by rfl) (by rfl) ?_
  unfold numsE
  repeat' ((conv => whnf); first | refine And.intro ?_ ?_ | with_reducible exact VC.mk rfl | exact Ok.mk | exact True.intro | refine Nx.mk ?_ | refine Fin.mk ?_ | intro _)
  all_goals ((try refine VC.mk ?_); (try simp only [CL.ncell, CL.cnt, vq] at *); (try omega))
  all_goals (first | (refine Sup.of ?_; first | rfl | (simp [*, resOf]; done)) | (refine Sup.via ?_; repeat' ((conv => whnf); first | refine And.intro ?_ ?_ | with_reducible exact VC.mk rfl | exact Ok.mk | exact True.intro | refine Nx.mk ?_ | refine Fin.mk ?_ | intro _); all_goals ((try refine VC.mk ?_); (try simp only [CL.ncell, CL.cnt, vq] at *); (try omega)); all_goals (try (simp [CL.sub]; done))))
def numbersP : PSp := fun xs K => match xs with
  | [.isl (.ints .i64 l) .none] => VC (l.length ≤ 2000000) ∧ K (.int .i64 (numsE l))
  | _ => False
theorem numbers_ok : POK Tryz.prog 94 numbersP := by
  intro xs K h
  unfold numbersP at h
  split at h
  · exact ⟨_, h.2, numbers_spec _ h.1.get⟩
  · exact h.elim
noncomputable def cpSqr : CPT := cpAdd 45 (pureCC lfirstP) (cpAdd 47 (pureCC fromP) (cpAdd 94 (pureCC numbersP) noC))
theorem cpSqr_ok : CPOK Tryz.prog cpSqr := cpAdd_ok (pureCC_ok lfirst_ok) (cpAdd_ok (pureCC_ok from_ok) (cpAdd_ok (pureCC_ok numbers_ok) noC_ok))
/-- the error of a square whose numbers are in range -/
theorem chkSq_spec (n : Int) (f : List Int) (hn : 1 ≤ n ∧ n ≤ 16) (hl : (f.length : Int) = n * n) (hf : ∀ x ∈ f, -1000 ≤ x ∧ x ≤ 1000) : PSpec Tryz.prog 64 [.agg [.int .i64 n, .int .i64 n, .isl (.ints .i64 f) .none]] (.int .i64 0) := by
  have h1 := mul_bd (show 0 ≤ n ∧ n ≤ 16 by omega) (show 0 ≤ n ∧ n ≤ 16 by omega)
  have hz : numsE f = 0 := if_neg (by
    rw [List.any_eq_true]
    rintro ⟨x, hx, h⟩
    have := hf x hx
    simp only [outB, Bool.or_eq_true, decide_eq_true_eq] at h
    omega)
  have hz2 : (if [n].any (outB 1 16) then (3 : Int) else 0) = 0 := if_neg (by
    simp only [List.any_cons, List.any_nil, Bool.or_false, outB, Bool.or_eq_true, decide_eq_true_eq]
    omega)
  refine pspec_of (md := 1) (rf := []) mixed tabOK cpSqr_ok Tryz.func64 (by rfl) (by rfl) (by rfl) ?_
  repeat' ((conv => whnf); first | refine And.intro ?_ ?_ | with_reducible exact VC.mk rfl | exact Ok.mk | exact True.intro | refine Nx.mk ?_ | refine Fin.mk ?_ | intro _)
  all_goals ((try refine VC.mk ?_); (try simp only [CL.ncell, CL.cnt, vq] at *); (try omega))
  rw [hz, hz2]
  exact Sup.of rfl
def chkSqP : PSp := fun xs K => match xs with
  | [.agg [.int .i64 n, .int .i64 m, .isl (.ints .i64 f) .none]] => VC ((1 ≤ n ∧ n ≤ 16) ∧ m = n ∧ (f.length : Int) = n * n ∧ ∀ x ∈ f, -1000 ≤ x ∧ x ≤ 1000) ∧ K (.int .i64 0)
  | _ => False
theorem chkSq_ok : POK Tryz.prog 64 chkSqP := by
  intro xs K h
  unfold chkSqP at h
  split at h
  · exact ⟨_, h.2, (by obtain ⟨h1, h2, h3, h4⟩ := h.1.get; subst h2; exact chkSq_spec _ _ h1 h3 h4)⟩
  · exact h.elim
noncomputable def cpMm : CPT := cpAdd 64 (pureCC chkSqP) (cpAdd 65 (pureCC isP) (cpAdd 66 (pureCC powerP) noC))
theorem cpMm_ok : CPOK Tryz.prog cpMm := cpAdd_ok (pureCC_ok chkSq_ok) (cpAdd_ok (pureCC_ok is_ok) (cpAdd_ok (pureCC_ok power_ok) noC_ok))
def mulM (n : Int) (f : List Int) : Int := if pwrB n 2 f then if pwrB n 3 f then if pwrB n 4 f then 4 else 3 else 2 else 1
theorem pow_all {n : Int} {f : List Int} (h : FigOK n f) (h4 : ∀ x ∈ f, -100 ≤ x ∧ x ≤ 100) (k : Int) (hk : 2 ≤ k ∧ k ≤ 4) (i : Nat) : PowOK (f.getD i 0) k := by
  refine ⟨hk, h.get i, fun _ => ?_⟩
  rw [List.getD_eq_getElem?_getD]
  by_cases hi : i < f.length
  · rw [List.getElem?_eq_getElem hi]; exact h4 _ (List.getElem_mem hi)
  · rw [List.getElem?_eq_none (by omega)]; simp
theorem mm_spec (n : Int) (f : List Int) (h : FigOK n f) (h4 : ∀ x ∈ f, -100 ≤ x ∧ x ≤ 100) : PSpec Tryz.prog 24 [.agg [.int .i64 n, .int .i64 n, .isl (.ints .i64 f) .none]] (.tup (if isB n kMag1 f then [.int .i64 (mulM n f), .int .i64 0] else [.int .i64 0, .int .i64 16])) := by
  have h1 := h.ord
  have hp := pow_all h h4
  have h5 := h.len
  have h6 := h.num
  refine pspec_of (md := 1) (rf := []) mixed tabOK cpMm_ok Tryz.func24 (by rfl) (by rfl) (by rfl) ?_
  repeat' ((conv => whnf); first | refine And.intro ?_ ?_ | with_reducible exact VC.mk rfl | exact Ok.mk | exact True.intro | refine Nx.mk ?_ | refine Fin.mk ?_ | intro _)
  all_goals ((try refine VC.mk ?_); (try simp only [CL.ncell, CL.cnt, vq] at *); (try omega))
  · exact ⟨by omega, h5, h6⟩
  · rename_i hq _
    rw [if_neg (by simpa using hq)]
    exact Sup.of rfl
  rename_i hq _
  rw [if_pos (by simpa using hq)]
  unfold mulM
  conv => whnf
  refine loop_rounds 5 (rounds_succ ⟨anyB_ok, mixed, tabOK, cpMm_ok, noY_ok⟩ (by rfl) ?_)
  repeat' ((conv => whnf); first | refine And.intro ?_ ?_ | with_reducible exact VC.mk rfl | exact Ok.mk | exact True.intro | refine Nx.mk ?_ | refine Fin.mk ?_ | (intro hq; (try (exact absurd hq (by decide)))))
  all_goals ((try refine VC.mk ?_); (try simp only [CL.ncell, CL.cnt, vq] at *); (try omega))
  · exact ⟨h, hp _ (by omega)⟩
  rotate_left
  · have hb : pwrB n 2 f = false := ‹pwrB n (1 + 1) f = false›
    rw [hb, if_neg (by decide)]
    exact Sup.of rfl
  have hb2 : pwrB n 2 f = true := ‹pwrB n (1 + 1) f = true›
  rw [hb2, if_pos rfl]
  conv => whnf
  refine rounds_succ ⟨anyB_ok, mixed, tabOK, cpMm_ok, noY_ok⟩ (by rfl) ?_
  repeat' ((conv => whnf); first | refine And.intro ?_ ?_ | with_reducible exact VC.mk rfl | exact Ok.mk | exact True.intro | refine Nx.mk ?_ | refine Fin.mk ?_ | (intro hq; (try (exact absurd hq (by decide)))))
  all_goals ((try refine VC.mk ?_); (try simp only [CL.ncell, CL.cnt, vq] at *); (try omega))
  · exact ⟨h, hp _ (by omega)⟩
  rotate_left
  · have hb : pwrB n 3 f = false := ‹pwrB n (1 + 1 + 1) f = false›
    rw [hb, if_neg (by decide)]
    exact Sup.of rfl
  have hb3 : pwrB n 3 f = true := ‹pwrB n (1 + 1 + 1) f = true›
  rw [hb3, if_pos rfl]
  conv => whnf
  refine rounds_succ ⟨anyB_ok, mixed, tabOK, cpMm_ok, noY_ok⟩ (by rfl) ?_
  repeat' ((conv => whnf); first | refine And.intro ?_ ?_ | with_reducible exact VC.mk rfl | exact Ok.mk | exact True.intro | refine Nx.mk ?_ | refine Fin.mk ?_ | (intro hq; (try (exact absurd hq (by decide)))))
  all_goals ((try refine VC.mk ?_); (try simp only [CL.ncell, CL.cnt, vq] at *); (try omega))
  · exact ⟨h, hp _ (by omega)⟩
  rotate_left
  · have hb : pwrB n 4 f = false := ‹pwrB n (1 + 1 + 1 + 1) f = false›
    rw [hb, if_neg (by decide)]
    exact Sup.of rfl
  have hb4 : pwrB n 4 f = true := ‹pwrB n (1 + 1 + 1 + 1) f = true›
  rw [hb4, if_pos rfl]
  conv => whnf
  refine rounds_succ ⟨anyB_ok, mixed, tabOK, cpMm_ok, noY_ok⟩ (by rfl) ?_
  repeat' ((conv => whnf); first | refine And.intro ?_ ?_ | with_reducible exact VC.mk rfl | exact Ok.mk | exact True.intro | refine Nx.mk ?_ | refine Fin.mk ?_ | (intro hq; (try (exact absurd hq (by decide)))))
  all_goals exact Sup.of rfl
end Go.Eng.YtobnbkoeocdhbaaGreatDoor
namespace Go.Eng.YtobnbkoeocdhbaaGreatDoor
open Go.Proofs
set_option maxRecDepth 100000
set_option maxHeartbeats 0
set_option linter.unusedVariables false
set_option linter.unusedSimpArgs false
/-- the square without its border, its first rows -/
def innT (n : Nat) (f : List Int) : Nat → List Int
  | 0 => []
  | k + 1 => innT n f k ++ (f.drop ((k + 1) * n + 1)).take (n - 2)
def innL (n : Nat) (f : List Int) : List Int := innT n f (n - 2)
theorem innT_len (n : Nat) (f : List Int) (hf : f.length = n * n) (hn : 2 ≤ n) : ∀ k, k ≤ n - 2 → (innT n f k).length = k * (n - 2) := by
  intro k
  induction k with
  | zero => intro _; simp [innT]
  | succ k ih =>
    intro hk
    have h1 : (k + 1) * n + n ≤ n * n := by
      have : (k + 2) * n ≤ n * n := Nat.mul_le_mul_right n (by omega)
      have e : (k + 2) * n = (k + 1) * n + n := by rw [show k + 2 = k + 1 + 1 from rfl, Nat.succ_mul (k + 1)]
      omega
    show (innT n f k ++ _).length = _
    rw [List.length_append, ih (by omega), List.length_take, List.length_drop, hf, Nat.succ_mul k (n - 2), Nat.min_eq_left (by omega)]
theorem innT_mem (n : Nat) (f : List Int) : ∀ k, ∀ x ∈ innT n f k, x ∈ f := by
  intro k
  induction k with
  | zero => intro x hx; simp [innT] at hx
  | succ k ih =>
    intro x hx
    rcases List.mem_append.1 hx with h | h
    · exact ih x h
    · exact List.mem_of_mem_drop (List.mem_of_mem_take h)
theorem FigOK.inner {n : Nat} {f : List Int} (h : FigOK n f) (h4 : 4 ≤ n) : FigOK ((n : Int) - 2) (innL n f) := by
  have h0 := h.ord
  refine ⟨by omega, ?_, fun x hx => h.num x (innT_mem n f _ x hx)⟩
  have hl := h.len
  have := innT_len n f (by have : ((f.length : Nat) : Int) = ((n * n : Nat) : Int) := by rw [hl]; simp
                           exact_mod_cast this) (by omega) (n - 2) (Nat.le_refl _)
  show ((innT n f (n - 2)).length : Int) = _
  rw [this]
  have : ((n - 2 : Nat) : Int) = (n : Int) - 2 := by omega
  rw [Int.natCast_mul, this]
theorem inner_spec (n : Nat) (f : List Int) (h : FigOK n f) (h4 : 3 ≤ n) : PSpec Tryz.prog 160 [figV n f] (figV ((n : Int) - 2) (innL n f)) := by
  have h0 := h.ord
  have h1 := h.cnt
  have hl := h.len
  have hl' : f.length = n * n := by
    have : ((f.length : Nat) : Int) = ((n * n : Nat) : Int) := by rw [hl]; simp
    exact_mod_cast this
  refine pspec_of (md := 1) (rf := []) mixed tabOK noC_ok Tryz.func160 (by rfl) (by rfl) (by rfl) ?_
  repeat' ((conv => whnf); first | refine And.intro ?_ ?_ | with_reducible exact VC.mk rfl | exact Ok.mk | exact True.intro | refine Nx.mk ?_ | refine Fin.mk ?_ | intro _)
  all_goals ((try refine VC.mk ?_); (try simp only [CL.ncell, CL.cnt, vq] at *); (try omega))
  conv => whnf
  refine loop_of (X := Nat) (fun k => k ≤ n - 2) (fun k => [(4, .int .i64 ((k : Int) + 1))]) (fun k => [(2, .cells (.pv [.int .i64 ((n : Int) - 2), .isl (.ints .i64 (innT n f k)) (.own 19)]) false), (19, .tok 1 (innT n f k).length)]) (fun k => n - k) 0 ⟨anyB_ok, mixed, tabOK, noC_ok, noY_ok⟩ (by rfl) (by omega) ?_ ?_
  · repeat' ((conv => whnf); first | refine And.intro ?_ ?_ | with_reducible exact VC.mk rfl | exact Ok.mk | exact True.intro | refine Nx.mk ?_ | refine Fin.mk ?_ | intro _)
    all_goals ((try refine VC.mk ?_); (try simp only [CL.ncell, CL.cnt, vq] at *); (try omega))
  intro k hk
  have hn2 : (n : Int) * n ≤ 100 := by omega
  by_cases hlt : k < n - 2
  · have h5 : ((k : Int) + 1) * n + n ≤ n * n := by
      have : ((k : Int) + 1) * n ≤ (n - 1) * n := Int.mul_le_mul_of_nonneg_right (by omega) (by omega)
      have e : ((n : Int) - 1) * n = n * n - n := by rw [Int.sub_mul, Int.one_mul]
      omega
    have h6 : 0 ≤ ((k : Int) + 1) * n := Int.mul_nonneg (by omega) (by omega)
    have h7 := innT_len n f hl' (by omega) k (by omega)
    have h8 : k * (n - 2) ≤ 100 := Nat.le_trans (Nat.mul_le_mul (show k ≤ 10 by omega) (show n - 2 ≤ 10 by omega)) (by decide)
    have e3 : (((k : Int) + 1) * n + n - 1).toNat - (((k : Int) + 1) * n + 1).toNat = n - 2 := by omega
    have e4 : (((k : Int) + 1) * n + 1).toNat = (k + 1) * n + 1 := by
      have : ((k : Int) + 1) * n = (((k + 1) * n : Nat) : Int) := by rw [Int.natCast_mul]; rfl
      omega
    have h9 : (k + 1) * n + n ≤ n * n := by
      have : (k + 2) * n ≤ n * n := Nat.mul_le_mul_right n (by omega)
      have e : (k + 2) * n = (k + 1) * n + n := by rw [show k + 2 = k + 1 + 1 from rfl, Nat.succ_mul (k + 1)]
      omega
    have h10 : (List.take (n - 2) (List.drop ((k + 1) * n + 1) f)).length = n - 2 := by
      rw [List.length_take, List.length_drop, hl', Nat.min_eq_left (by omega)]
    have e5 : innT n f (k + 1) = innT n f k ++ List.take (n - 2) (List.drop ((k + 1) * n + 1) f) := rfl
    repeat' ((conv => whnf); first | refine And.intro ?_ ?_ | with_reducible exact VC.mk rfl | exact Ok.mk | exact True.intro | refine Nx.mk ?_ | refine Fin.mk ?_ | intro _)
    all_goals ((try refine VC.mk ?_); (try simp only [CL.ncell, CL.cnt, vq] at *); (try omega))
    · rw [e3, e4, List.length_append, h10]; omega
    rw [e3, e4]
    refine ⟨k + 1, [], ⟨by omega, by omega⟩, ?_⟩
    rw [e5, List.length_append]
    repeat' ((conv => whnf); first | refine And.intro ?_ ?_ | with_reducible exact VC.mk rfl | exact Ok.mk | exact True.intro | refine Nx.mk ?_ | refine Fin.mk ?_ | intro _)
    all_goals ((try refine VC.mk ?_); (try simp only [CL.ncell, CL.cnt, vq] at *); (try omega))
  · have ek : k = n - 2 := by omega
    subst ek
    repeat' ((conv => whnf); first | refine And.intro ?_ ?_ | with_reducible exact VC.mk rfl | exact Ok.mk | exact True.intro | refine Nx.mk ?_ | refine Fin.mk ?_ | intro _)
    all_goals ((try refine VC.mk ?_); (try simp only [CL.ncell, CL.cnt, vq] at *); (try omega))
    exact Sup.of rfl
theorem inner_spec' {n : Int} {f : List Int} (h : FigOK n f) (h3 : 3 ≤ n) : PSpec Tryz.prog 160 [figV n f] (figV (n - 2) (innL n.toNat f)) := by
  have e : ((n.toNat : Nat) : Int) = n := Int.toNat_of_nonneg (by omega)
  have := inner_spec n.toNat f (by rw [e]; exact h) (by omega)
  rw [e] at this
  exact this
def innerP : PSp := fun xs K => match xs with
  | [.agg [.int .i64 n, .isl (.ints .i64 f) .none]] => VC (FigOK n f ∧ 3 ≤ n) ∧ K (.agg [.int .i64 (n - 2), .isl (.ints .i64 (innL n.toNat f)) .none])
  | _ => False
theorem inner_ok : POK Tryz.prog 160 innerP := by
  intro xs K h
  unfold innerP at h
  split at h
  · exact ⟨_, h.2, inner_spec' h.1.get.1 h.1.get.2⟩
  · exact h.elim
/-- are all squares within the borders magic -/
def brF : Nat → Nat → List Int → Bool
  | 0, _, _ => true
  | t + 1, n, f => if 3 ≤ n then isB n kMag1 f && brF t (n - 2) (innL n f) else true
theorem brF_lo (t : Nat) {n : Nat} (f : List Int) (h : ¬ 3 ≤ n) : brF t n f = true := by cases t with | zero => rfl | succ t => unfold brF; rw [if_neg h]
def brB (n : Nat) (f : List Int) : Bool := decide (5 ≤ n) && brF 10 n f
noncomputable def cpBr : CPT := cpAdd 65 (pureCC isP) (cpAdd 160 (pureCC innerP) noC)
theorem cpBr_ok : CPOK Tryz.prog cpBr := cpAdd_ok (pureCC_ok is_ok) (cpAdd_ok (pureCC_ok inner_ok) noC_ok)
theorem bord_spec (n : Nat) (f : List Int) (h : FigOK n f) : PSpec Tryz.prog 122 [figV n f] (.bp (brB n f)) := by
  have h0 := h.ord
  unfold brB
  refine pspec_of (md := 1) (rf := []) mixed tabOK cpBr_ok Tryz.func122 (by rfl) (by rfl) (by rfl) ?_
  repeat' ((conv => whnf); first | refine And.intro ?_ ?_ | with_reducible exact VC.mk rfl | exact Ok.mk | exact True.intro | refine Nx.mk ?_ | refine Fin.mk ?_ | intro _)
  all_goals ((try refine VC.mk ?_); (try simp only [CL.ncell, CL.cnt, vq] at *); (try omega))
  · rename_i hq
    rw [show decide (5 ≤ n) = false from decide_eq_false (by omega), Bool.false_and]
    all_goals (refine Sup.via ?_; repeat' ((conv => whnf); first | refine And.intro ?_ ?_ | with_reducible exact VC.mk rfl | exact Ok.mk | exact True.intro | refine Nx.mk ?_ | refine Fin.mk ?_ | intro _); all_goals ((try refine VC.mk ?_); (try simp only [CL.ncell, CL.cnt, vq] at *); (try omega)); all_goals (try (simp [CL.sub]; done)))
  rename_i hq
  rw [show decide (5 ≤ n) = true from decide_eq_true (by omega), Bool.true_and]
  conv => whnf
  refine loop_of (X := Nat × Nat × List Int) (fun x => x.2.1 ≤ 2 * x.1 ∧ x.1 ≤ 10 ∧ (3 ≤ x.2.1 → FigOK x.2.1 x.2.2) ∧ brF x.1 x.2.1 x.2.2 = brF 10 n f) (fun x => []) (fun x => [(0, .cells (.pv [.int .i64 x.2.1, .isl (.ints .i64 x.2.2) .none]) false)]) (fun x => x.1) (10, n, f) ⟨anyB_ok, mixed, tabOK, cpBr_ok, noY_ok⟩ (by rfl) ⟨show n ≤ 2 * 10 by omega, Nat.le_refl _, fun _ => h, rfl⟩ ?_ ?_
  · repeat' ((conv => whnf); first | refine And.intro ?_ ?_ | with_reducible exact VC.mk rfl | exact Ok.mk | exact True.intro | refine Nx.mk ?_ | refine Fin.mk ?_ | intro _)
    all_goals ((try refine VC.mk ?_); (try simp only [CL.ncell, CL.cnt, vq] at *); (try omega))
  intro ⟨t, m, g⟩ ⟨hm, ht, hf, he⟩
  simp only at hm ht hf he
  rw [← he]
  by_cases h3 : 3 ≤ m
  · have hf := hf h3
    obtain ⟨t, rfl⟩ : ∃ t', t = t' + 1 := ⟨t - 1, by omega⟩
    have e : brF (t + 1) m g = (isB m kMag1 g && brF t (m - 2) (innL m g)) := by
      show (if 3 ≤ m then _ else _) = _
      rw [if_pos h3]
    rw [e]
    repeat' ((conv => whnf); first | refine And.intro ?_ ?_ | with_reducible exact VC.mk rfl | exact Ok.mk | exact True.intro | refine Nx.mk ?_ | refine Fin.mk ?_ | intro _)
    all_goals ((try refine VC.mk ?_); (try simp only [CL.ncell, CL.cnt, vq] at *); (try omega))
    · rename_i hq _
      rw [show isB m kMag1 g = false from by simpa using hq, Bool.false_and]
      all_goals (refine Sup.via ?_; repeat' ((conv => whnf); first | refine And.intro ?_ ?_ | with_reducible exact VC.mk rfl | exact Ok.mk | exact True.intro | refine Nx.mk ?_ | refine Fin.mk ?_ | intro _); all_goals ((try refine VC.mk ?_); (try simp only [CL.ncell, CL.cnt, vq] at *); (try omega)); all_goals (try (simp [CL.sub]; done)))
    · exact ⟨hf, by omega⟩
    · rename_i hq _
      rw [show isB m kMag1 g = true from by simpa using hq, Bool.true_and]
      refine ⟨(t, m - 2, innL m g), [], ⟨⟨show m - 2 ≤ 2 * t by omega, show t ≤ 10 by omega, fun h5 => ?_, rfl⟩, show t < t + 1 by omega⟩, ?_⟩
      · have h5 : 3 ≤ m - 2 := h5
        have := hf.inner (by omega)
        rw [show ((m : Int) - 2) = ((m - 2 : Nat) : Int) by omega] at this
        exact this
      rw [show ((m : Int) - 2) = ((m - 2 : Nat) : Int) by omega]
      repeat' ((conv => whnf); first | refine And.intro ?_ ?_ | with_reducible exact VC.mk rfl | exact Ok.mk | exact True.intro | refine Nx.mk ?_ | refine Fin.mk ?_ | intro _)
      all_goals ((try refine VC.mk ?_); (try simp only [CL.ncell, CL.cnt, vq] at *); (try omega))
  · rw [brF_lo _ _ h3]
    repeat' ((conv => whnf); first | refine And.intro ?_ ?_ | with_reducible exact VC.mk rfl | exact Ok.mk | exact True.intro | refine Nx.mk ?_ | refine Fin.mk ?_ | intro _)
    all_goals ((try refine VC.mk ?_); (try simp only [CL.ncell, CL.cnt, vq] at *); (try omega))
    all_goals (refine Sup.via ?_; repeat' ((conv => whnf); first | refine And.intro ?_ ?_ | with_reducible exact VC.mk rfl | exact Ok.mk | exact True.intro | refine Nx.mk ?_ | refine Fin.mk ?_ | intro _); all_goals ((try refine VC.mk ?_); (try simp only [CL.ncell, CL.cnt, vq] at *); (try omega)); all_goals (try (simp [CL.sub]; done)))
end Go.Eng.YtobnbkoeocdhbaaGreatDoor
namespace Go.Eng.YtobnbkoeocdhbaaGreatDoor
open Go.Proofs
set_option maxRecDepth 100000
set_option maxHeartbeats 0
set_option linter.unusedVariables false
set_option linter.unusedSimpArgs false
theorem cln_spec (l : List Int) (hl : 1 ≤ l.length ∧ l.length ≤ 1000000) : PSpec Tryz.prog 56 [.isl (.ints .i64 l) .none] (.isl (.ints .i64 l) .none) := by
  refine pspec_of (md := 1) (rf := []) mixed tabOK noC_ok Tryz.func56 (by rfl) (by rfl) (by rfl) ?_
  repeat' ((conv => whnf); first | refine And.intro ?_ ?_ | with_reducible exact VC.mk rfl | exact Ok.mk | exact True.intro | refine Nx.mk ?_ | refine Fin.mk ?_ | intro _)
  all_goals ((try refine VC.mk ?_); (try simp only [CL.ncell, CL.cnt, vq] at *); (try omega))
  all_goals first | (simp; omega) | exact Sup.of rfl
def clnP : PSp := fun xs K => match xs with
  | [.isl (.ints .i64 l) .none] => VC (1 ≤ l.length ∧ l.length ≤ 1000000) ∧ K (.isl (.ints .i64 l) .none)
  | _ => False
theorem cln_ok : POK Tryz.prog 56 clnP := by
  intro xs K h
  unfold clnP at h
  split at h
  · exact ⟨_, h.2, cln_spec _ h.1.get⟩
  · exact h.elim
def biB (n : Int) (f : List Int) : Bool := isB n kMag1 f && pwrB n 2 f
noncomputable def cpBi : CPT := cpAdd 65 (pureCC isP) (cpAdd 66 (pureCC powerP) noC)
theorem cpBi_ok : CPOK Tryz.prog cpBi := cpAdd_ok (pureCC_ok is_ok) (cpAdd_ok (pureCC_ok power_ok) noC_ok)
theorem k8_spec (n : Int) (f : List Int) (h : FigOK n f) : PSpec Tryz.prog 123 [figV n f] (.bp (biB n f)) := by
  have hp : ∀ i, PowOK (f.getD i 0) 2 := fun i => ⟨by omega, h.get i, fun e => by omega⟩
  unfold biB
  refine pspec_of (md := 1) (rf := []) mixed tabOK cpBi_ok Tryz.func123 (by rfl) (by rfl) (by rfl) ?_
  repeat' ((conv => whnf); first | refine And.intro ?_ ?_ | with_reducible exact VC.mk rfl | exact Ok.mk | exact True.intro | refine Nx.mk ?_ | refine Fin.mk ?_ | intro _)
  all_goals ((try refine VC.mk ?_); (try simp only [CL.ncell, CL.cnt, vq] at *); (try omega))
  · exact ⟨h, hp⟩
  · rename_i hq
    rw [show isB n kMag1 f = true from hq, Bool.true_and]
    exact Sup.of rfl
  · rename_i hq
    rw [show isB n kMag1 f = false from hq, Bool.false_and]
    all_goals (refine Sup.via ?_; repeat' ((conv => whnf); first | refine And.intro ?_ ?_ | with_reducible exact VC.mk rfl | exact Ok.mk | exact True.intro | refine Nx.mk ?_ | refine Fin.mk ?_ | intro _); all_goals ((try refine VC.mk ?_); (try simp only [CL.ncell, CL.cnt, vq] at *); (try omega)); all_goals (try (simp [CL.sub]; done)))
def knd1P : PSp := fun xs K => match xs with
  | [.agg [.int .i64 n, .isl (.ints .i64 f) .none]] => VC (FigOK n f) ∧ K (.bp (nrmB f))
  | _ => False
theorem knd1_ok : POK Tryz.prog 115 knd1P := by
  intro xs K h
  unfold knd1P at h
  split at h
  · exact ⟨_, h.2, k1_spec _ _ h.1.get⟩
  · exact h.elim
def knd2P : PSp := fun xs K => match xs with
  | [.agg [.int .i64 n, .isl (.ints .i64 f) .none]] => VC (FigOK n f) ∧ K (.bp (isB n kSem1 f))
  | _ => False
theorem knd2_ok : POK Tryz.prog 117 knd2P := by
  intro xs K h
  unfold knd2P at h
  split at h
  · exact ⟨_, h.2, k2_spec _ _ h.1.get⟩
  · exact h.elim
def knd3P : PSp := fun xs K => match xs with
  | [.agg [.int .i64 n, .isl (.ints .i64 f) .none]] => VC (FigOK n f) ∧ K (.bp (isB n kMag1 f))
  | _ => False
theorem knd3_ok : POK Tryz.prog 118 knd3P := by
  intro xs K h
  unfold knd3P at h
  split at h
  · exact ⟨_, h.2, k3_spec _ _ h.1.get⟩
  · exact h.elim
def knd4P : PSp := fun xs K => match xs with
  | [.agg [.int .i64 n, .isl (.ints .i64 f) .none]] => VC (FigOK n f) ∧ K (.bp (isB n kPan1 f))
  | _ => False
theorem knd4_ok : POK Tryz.prog 119 knd4P := by
  intro xs K h
  unfold knd4P at h
  split at h
  · exact ⟨_, h.2, k4_spec _ _ h.1.get⟩
  · exact h.elim
def knd5P : PSp := fun xs K => match xs with
  | [.agg [.int .i64 n, .isl (.ints .i64 f) .none]] => VC (FigOK n f) ∧ K (.bp (assB n f))
  | _ => False
theorem knd5_ok : POK Tryz.prog 120 knd5P := by
  intro xs K h
  unfold knd5P at h
  split at h
  · exact ⟨_, h.2, k5_spec _ _ h.1.get⟩
  · exact h.elim
def knd6P : PSp := fun xs K => match xs with
  | [.agg [.int .i64 n, .isl (.ints .i64 f) .none]] => VC (FigOK n f) ∧ K (.bp (mpB n f))
  | _ => False
theorem knd6_ok : POK Tryz.prog 121 knd6P := by
  intro xs K h
  unfold knd6P at h
  split at h
  · exact ⟨_, h.2, k6_spec _ _ h.1.get⟩
  · exact h.elim
theorem bord_spec' {n : Int} {f : List Int} (h : FigOK n f) : PSpec Tryz.prog 122 [figV n f] (.bp (brB n.toNat f)) := by
  have h0 := h.ord
  have e : ((n.toNat : Nat) : Int) = n := Int.toNat_of_nonneg (by omega)
  have := bord_spec n.toNat f (by rw [e]; exact h)
  rw [e] at this
  exact this
def knd7P : PSp := fun xs K => match xs with
  | [.agg [.int .i64 n, .isl (.ints .i64 f) .none]] => VC (FigOK n f) ∧ K (.bp (brB n.toNat f))
  | _ => False
theorem knd7_ok : POK Tryz.prog 122 knd7P := by
  intro xs K h
  unfold knd7P at h
  split at h
  · exact ⟨_, h.2, bord_spec' h.1.get⟩
  · exact h.elim
def knd8P : PSp := fun xs K => match xs with
  | [.agg [.int .i64 n, .isl (.ints .i64 f) .none]] => VC (FigOK n f) ∧ K (.bp (biB n f))
  | _ => False
theorem knd8_ok : POK Tryz.prog 123 knd8P := by
  intro xs K h
  unfold knd8P at h
  split at h
  · exact ⟨_, h.2, k8_spec _ _ h.1.get⟩
  · exact h.elim
abbrev sNor : ByteArray := ⟨#[110, 111, 114, 109, 97, 108]⟩
abbrev sAss : ByteArray := ⟨#[97, 115, 115, 111, 99, 105, 97, 116, 105, 118, 101]⟩
abbrev sMos : ByteArray := ⟨#[109, 111, 115, 116, 45, 112, 101, 114, 102, 101, 99, 116]⟩
abbrev sBor : ByteArray := ⟨#[98, 111, 114, 100, 101, 114, 101, 100]⟩
abbrev sBim : ByteArray := ⟨#[98, 105, 109, 97, 103, 105, 99]⟩
abbrev kFn (k : Nat) : PV := .fn (.func k) [] []
abbrev kRecs : List (List PV) := [[.str sNor, kFn 115], [.str kSem1, kFn 117], [.str kMag1, kFn 118], [.str kPan1, kFn 119], [.str sAss, kFn 120], [.str sMos, kFn 121], [.str sBor, kFn 122], [.str sBim, kFn 123]]
theorem ktab_spec : PSpec Tryz.prog 74 [] (.isl (.recs 2 kRecs) .full) := by
  refine pspec_of (md := 1) (rf := []) mixed tabOK noC_ok Tryz.func74 (by rfl) (by rfl) (by rfl) ?_
  repeat' ((conv => whnf); first | refine And.intro ?_ ?_ | with_reducible exact VC.mk rfl | exact Ok.mk | exact True.intro | refine Nx.mk ?_ | refine Fin.mk ?_ | intro _)
  all_goals ((try refine VC.mk ?_); (try simp only [CL.ncell, CL.cnt, vq] at *); (try omega))
  exact Sup.of (show (PV.isl (.recs 2 kRecs) .full) = _ from rfl)
def ktabP : PSp := fun xs K => match xs with
  | [] => VC (True) ∧ K (.isl (.recs 2 kRecs) .full)
  | _ => False
theorem ktab_ok : POK Tryz.prog 74 ktabP := by
  intro xs K h
  unfold ktabP at h
  split at h
  · exact ⟨_, h.2, ktab_spec⟩
  · exact h.elim
/-- the kinds that a square has, the first ones of the table -/
def kdB (n : Int) (f : List Int) : List (ByteArray × Bool) := [(sNor, nrmB f), (kSem1, isB n kSem1 f), (kMag1, isB n kMag1 f), (kPan1, isB n kPan1 f), (sAss, assB n f), (sMos, mpB n f), (sBor, brB n.toNat f), (sBim, biB n f)]
def kdT (n : Int) (f : List Int) (i : Nat) : List ByteArray := (((kdB n f).take i).filter fun x => x.2).map fun x => x.1
theorem kdT_succ (n : Int) (f : List Int) (i : Nat) (hi : i < 8) : kdT n f (i + 1) = if ((kdB n f).getD i (sNor, false)).2 then kdT n f i ++ [((kdB n f).getD i (sNor, false)).1] else kdT n f i := by
  have hl : i < (kdB n f).length := hi
  unfold kdT
  rw [List.take_add_one, List.filter_append, List.map_append, List.getD_eq_getElem?_getD, List.getElem?_eq_getElem hl]
  simp only [Option.toList_some, Option.getD_some, List.filter_cons, List.filter_nil]
  split <;> simp
theorem kdT_len (n : Int) (f : List Int) (i : Nat) : (kdT n f i).length ≤ i := by
  unfold kdT
  rw [List.length_map]
  refine Nat.le_trans (List.length_filter_le _ _) ?_
  rw [List.length_take]; omega
noncomputable def cpKd : CPT := cpAdd 56 (pureCC clnP) (cpAdd 64 (pureCC chkSqP) (cpAdd 74 (pureCC ktabP) (cpAdd 115 (pureCC knd1P) (cpAdd 117 (pureCC knd2P) (cpAdd 118 (pureCC knd3P) (cpAdd 119 (pureCC knd4P) (cpAdd 120 (pureCC knd5P) (cpAdd 121 (pureCC knd6P) (cpAdd 122 (pureCC knd7P) (cpAdd 123 (pureCC knd8P) noC))))))))))
theorem cpKd_ok : CPOK Tryz.prog cpKd := cpAdd_ok (pureCC_ok cln_ok) (cpAdd_ok (pureCC_ok chkSq_ok) (cpAdd_ok (pureCC_ok ktab_ok) (cpAdd_ok (pureCC_ok knd1_ok) (cpAdd_ok (pureCC_ok knd2_ok) (cpAdd_ok (pureCC_ok knd3_ok) (cpAdd_ok (pureCC_ok knd4_ok) (cpAdd_ok (pureCC_ok knd5_ok) (cpAdd_ok (pureCC_ok knd6_ok) (cpAdd_ok (pureCC_ok knd7_ok) (cpAdd_ok (pureCC_ok knd8_ok) noC_ok))))))))))
theorem lkinds_spec (n : Int) (f : List Int) (h : FigOK n f) : PSpec Tryz.prog 35 [.agg [.int .i64 n, .int .i64 n, .isl (.ints .i64 f) .none]] (.tup [.isl (.strs (kdT n f 8)) .none, .int .i64 0]) := by
  have h0 := h.ord
  have h1 := h.len
  have h2 := h.num
  have h3 := h.cnt
  refine pspec_of (md := 1) (rf := []) mixed tabOK cpKd_ok Tryz.func35 (by rfl) (by rfl) (by rfl) ?_
  repeat' ((conv => whnf); first | refine And.intro ?_ ?_ | with_reducible exact VC.mk rfl | exact Ok.mk | exact True.intro | refine Nx.mk ?_ | refine Fin.mk ?_ | intro _)
  all_goals ((try refine VC.mk ?_); (try simp only [CL.ncell, CL.cnt, vq] at *); (try omega))
  · exact ⟨by omega, h1, h2⟩
  conv => whnf
  refine loop_of (X := Nat) (fun i => i ≤ 8) (fun i => [(15, .int .i64 i), (5, .isl (.strs (kdT n f i)) (.own 3)), (7, .any)]) (fun i => [(3, .tok 1 (kdT n f i).length)]) (fun i => 8 - i) 0 ⟨anyB_ok, mixed, tabOK, cpKd_ok, noY_ok⟩ (by rfl) (by omega) ?_ ?_
  · repeat' ((conv => whnf); first | refine And.intro ?_ ?_ | with_reducible exact VC.mk rfl | exact Ok.mk | exact True.intro | refine Nx.mk ?_ | refine Fin.mk ?_ | intro _)
    all_goals ((try refine VC.mk ?_); (try simp only [CL.ncell, CL.cnt, vq] at *); (try omega))
  intro i hi
  obtain rfl | rfl | rfl | rfl | rfl | rfl | rfl | rfl | rfl : i = 0 ∨ i = 1 ∨ i = 2 ∨ i = 3 ∨ i = 4 ∨ i = 5 ∨ i = 6 ∨ i = 7 ∨ i = 8 := by omega
  · have e : kdT n f (0 + 1) = if nrmB f then kdT n f 0 ++ [sNor] else kdT n f 0 := kdT_succ n f 0 (by omega)
    have el := kdT_len n f 0
    repeat' ((conv => whnf); first | refine And.intro ?_ ?_ | with_reducible exact VC.mk rfl | exact Ok.mk | exact True.intro | refine Nx.mk ?_ | refine Fin.mk ?_ | intro _)
    all_goals ((try refine VC.mk ?_); (try simp only [CL.ncell, CL.cnt, vq] at *); (try omega))
    · rfl
    all_goals first | exact h | (simp only [List.length_append, List.length_cons, List.length_nil]; omega) | skip
    · rename_i hq _
      rw [if_pos (show nrmB f = true from hq)] at e
      refine ⟨0 + 1, [], ⟨by omega, by omega⟩, ?_⟩
      rw [e, List.length_append]
      repeat' ((conv => whnf); first | refine And.intro ?_ ?_ | with_reducible exact VC.mk rfl | exact Ok.mk | exact True.intro | refine Nx.mk ?_ | refine Fin.mk ?_ | intro _)
      all_goals ((try refine VC.mk ?_); (try simp only [CL.ncell, CL.cnt, vq] at *); (try omega))
    · rename_i hq _
      rw [if_neg (by rw [show nrmB f = false from hq]; decide)] at e
      refine ⟨0 + 1, [], ⟨by omega, by omega⟩, ?_⟩
      rw [e]
      repeat' ((conv => whnf); first | refine And.intro ?_ ?_ | with_reducible exact VC.mk rfl | exact Ok.mk | exact True.intro | refine Nx.mk ?_ | refine Fin.mk ?_ | intro _)
      all_goals ((try refine VC.mk ?_); (try simp only [CL.ncell, CL.cnt, vq] at *); (try omega))
  · have e : kdT n f (1 + 1) = if isB n kSem1 f then kdT n f 1 ++ [kSem1] else kdT n f 1 := kdT_succ n f 1 (by omega)
    have el := kdT_len n f 1
    repeat' ((conv => whnf); first | refine And.intro ?_ ?_ | with_reducible exact VC.mk rfl | exact Ok.mk | exact True.intro | refine Nx.mk ?_ | refine Fin.mk ?_ | intro _)
    all_goals ((try refine VC.mk ?_); (try simp only [CL.ncell, CL.cnt, vq] at *); (try omega))
    · rfl
    all_goals first | exact h | (simp only [List.length_append, List.length_cons, List.length_nil]; omega) | skip
    · rename_i hq _
      rw [if_pos (show isB n kSem1 f = true from hq)] at e
      refine ⟨1 + 1, [], ⟨by omega, by omega⟩, ?_⟩
      rw [e, List.length_append]
      repeat' ((conv => whnf); first | refine And.intro ?_ ?_ | with_reducible exact VC.mk rfl | exact Ok.mk | exact True.intro | refine Nx.mk ?_ | refine Fin.mk ?_ | intro _)
      all_goals ((try refine VC.mk ?_); (try simp only [CL.ncell, CL.cnt, vq] at *); (try omega))
    · rename_i hq _
      rw [if_neg (by rw [show isB n kSem1 f = false from hq]; decide)] at e
      refine ⟨1 + 1, [], ⟨by omega, by omega⟩, ?_⟩
      rw [e]
      repeat' ((conv => whnf); first | refine And.intro ?_ ?_ | with_reducible exact VC.mk rfl | exact Ok.mk | exact True.intro | refine Nx.mk ?_ | refine Fin.mk ?_ | intro _)
      all_goals ((try refine VC.mk ?_); (try simp only [CL.ncell, CL.cnt, vq] at *); (try omega))
  · have e : kdT n f (2 + 1) = if isB n kMag1 f then kdT n f 2 ++ [kMag1] else kdT n f 2 := kdT_succ n f 2 (by omega)
    have el := kdT_len n f 2
    repeat' ((conv => whnf); first | refine And.intro ?_ ?_ | with_reducible exact VC.mk rfl | exact Ok.mk | exact True.intro | refine Nx.mk ?_ | refine Fin.mk ?_ | intro _)
    all_goals ((try refine VC.mk ?_); (try simp only [CL.ncell, CL.cnt, vq] at *); (try omega))
    · rfl
    all_goals first | exact h | (simp only [List.length_append, List.length_cons, List.length_nil]; omega) | skip
    · rename_i hq _
      rw [if_pos (show isB n kMag1 f = true from hq)] at e
      refine ⟨2 + 1, [], ⟨by omega, by omega⟩, ?_⟩
      rw [e, List.length_append]
      repeat' ((conv => whnf); first | refine And.intro ?_ ?_ | with_reducible exact VC.mk rfl | exact Ok.mk | exact True.intro | refine Nx.mk ?_ | refine Fin.mk ?_ | intro _)
      all_goals ((try refine VC.mk ?_); (try simp only [CL.ncell, CL.cnt, vq] at *); (try omega))
    · rename_i hq _
      rw [if_neg (by rw [show isB n kMag1 f = false from hq]; decide)] at e
      refine ⟨2 + 1, [], ⟨by omega, by omega⟩, ?_⟩
      rw [e]
      repeat' ((conv => whnf); first | refine And.intro ?_ ?_ | with_reducible exact VC.mk rfl | exact Ok.mk | exact True.intro | refine Nx.mk ?_ | refine Fin.mk ?_ | intro _)
      all_goals ((try refine VC.mk ?_); (try simp only [CL.ncell, CL.cnt, vq] at *); (try omega))
  · have e : kdT n f (3 + 1) = if isB n kPan1 f then kdT n f 3 ++ [kPan1] else kdT n f 3 := kdT_succ n f 3 (by omega)
    have el := kdT_len n f 3
    repeat' ((conv => whnf); first | refine And.intro ?_ ?_ | with_reducible exact VC.mk rfl | exact Ok.mk | exact True.intro | refine Nx.mk ?_ | refine Fin.mk ?_ | intro _)
    all_goals ((try refine VC.mk ?_); (try simp only [CL.ncell, CL.cnt, vq] at *); (try omega))
    · rfl
    all_goals first | exact h | (simp only [List.length_append, List.length_cons, List.length_nil]; omega) | skip
    · rename_i hq _
      rw [if_pos (show isB n kPan1 f = true from hq)] at e
      refine ⟨3 + 1, [], ⟨by omega, by omega⟩, ?_⟩
      rw [e, List.length_append]
      repeat' ((conv => whnf); first | refine And.intro ?_ ?_ | with_reducible exact VC.mk rfl | exact Ok.mk | exact True.intro | refine Nx.mk ?_ | refine Fin.mk ?_ | intro _)
      all_goals ((try refine VC.mk ?_); (try simp only [CL.ncell, CL.cnt, vq] at *); (try omega))
    · rename_i hq _
      rw [if_neg (by rw [show isB n kPan1 f = false from hq]; decide)] at e
      refine ⟨3 + 1, [], ⟨by omega, by omega⟩, ?_⟩
      rw [e]
      repeat' ((conv => whnf); first | refine And.intro ?_ ?_ | with_reducible exact VC.mk rfl | exact Ok.mk | exact True.intro | refine Nx.mk ?_ | refine Fin.mk ?_ | intro _)
      all_goals ((try refine VC.mk ?_); (try simp only [CL.ncell, CL.cnt, vq] at *); (try omega))
  · have e : kdT n f (4 + 1) = if assB n f then kdT n f 4 ++ [sAss] else kdT n f 4 := kdT_succ n f 4 (by omega)
    have el := kdT_len n f 4
    repeat' ((conv => whnf); first | refine And.intro ?_ ?_ | with_reducible exact VC.mk rfl | exact Ok.mk | exact True.intro | refine Nx.mk ?_ | refine Fin.mk ?_ | intro _)
    all_goals ((try refine VC.mk ?_); (try simp only [CL.ncell, CL.cnt, vq] at *); (try omega))
    · rfl
    all_goals first | exact h | (simp only [List.length_append, List.length_cons, List.length_nil]; omega) | skip
    · rename_i hq _
      rw [if_pos (show assB n f = true from hq)] at e
      refine ⟨4 + 1, [], ⟨by omega, by omega⟩, ?_⟩
      rw [e, List.length_append]
      repeat' ((conv => whnf); first | refine And.intro ?_ ?_ | with_reducible exact VC.mk rfl | exact Ok.mk | exact True.intro | refine Nx.mk ?_ | refine Fin.mk ?_ | intro _)
      all_goals ((try refine VC.mk ?_); (try simp only [CL.ncell, CL.cnt, vq] at *); (try omega))
    · rename_i hq _
      rw [if_neg (by rw [show assB n f = false from hq]; decide)] at e
      refine ⟨4 + 1, [], ⟨by omega, by omega⟩, ?_⟩
      rw [e]
      repeat' ((conv => whnf); first | refine And.intro ?_ ?_ | with_reducible exact VC.mk rfl | exact Ok.mk | exact True.intro | refine Nx.mk ?_ | refine Fin.mk ?_ | intro _)
      all_goals ((try refine VC.mk ?_); (try simp only [CL.ncell, CL.cnt, vq] at *); (try omega))
  · have e : kdT n f (5 + 1) = if mpB n f then kdT n f 5 ++ [sMos] else kdT n f 5 := kdT_succ n f 5 (by omega)
    have el := kdT_len n f 5
    repeat' ((conv => whnf); first | refine And.intro ?_ ?_ | with_reducible exact VC.mk rfl | exact Ok.mk | exact True.intro | refine Nx.mk ?_ | refine Fin.mk ?_ | intro _)
    all_goals ((try refine VC.mk ?_); (try simp only [CL.ncell, CL.cnt, vq] at *); (try omega))
    · rfl
    all_goals first | exact h | (simp only [List.length_append, List.length_cons, List.length_nil]; omega) | skip
    · rename_i hq _
      rw [if_pos (show mpB n f = true from hq)] at e
      refine ⟨5 + 1, [], ⟨by omega, by omega⟩, ?_⟩
      rw [e, List.length_append]
      repeat' ((conv => whnf); first | refine And.intro ?_ ?_ | with_reducible exact VC.mk rfl | exact Ok.mk | exact True.intro | refine Nx.mk ?_ | refine Fin.mk ?_ | intro _)
      all_goals ((try refine VC.mk ?_); (try simp only [CL.ncell, CL.cnt, vq] at *); (try omega))
    · rename_i hq _
      rw [if_neg (by rw [show mpB n f = false from hq]; decide)] at e
      refine ⟨5 + 1, [], ⟨by omega, by omega⟩, ?_⟩
      rw [e]
      repeat' ((conv => whnf); first | refine And.intro ?_ ?_ | with_reducible exact VC.mk rfl | exact Ok.mk | exact True.intro | refine Nx.mk ?_ | refine Fin.mk ?_ | intro _)
      all_goals ((try refine VC.mk ?_); (try simp only [CL.ncell, CL.cnt, vq] at *); (try omega))
  · have e : kdT n f (6 + 1) = if brB n.toNat f then kdT n f 6 ++ [sBor] else kdT n f 6 := kdT_succ n f 6 (by omega)
    have el := kdT_len n f 6
    repeat' ((conv => whnf); first | refine And.intro ?_ ?_ | with_reducible exact VC.mk rfl | exact Ok.mk | exact True.intro | refine Nx.mk ?_ | refine Fin.mk ?_ | intro _)
    all_goals ((try refine VC.mk ?_); (try simp only [CL.ncell, CL.cnt, vq] at *); (try omega))
    · rfl
    all_goals first | exact h | (simp only [List.length_append, List.length_cons, List.length_nil]; omega) | skip
    · rename_i hq _
      rw [if_pos (show brB n.toNat f = true from hq)] at e
      refine ⟨6 + 1, [], ⟨by omega, by omega⟩, ?_⟩
      rw [e, List.length_append]
      repeat' ((conv => whnf); first | refine And.intro ?_ ?_ | with_reducible exact VC.mk rfl | exact Ok.mk | exact True.intro | refine Nx.mk ?_ | refine Fin.mk ?_ | intro _)
      all_goals ((try refine VC.mk ?_); (try simp only [CL.ncell, CL.cnt, vq] at *); (try omega))
    · rename_i hq _
      rw [if_neg (by rw [show brB n.toNat f = false from hq]; decide)] at e
      refine ⟨6 + 1, [], ⟨by omega, by omega⟩, ?_⟩
      rw [e]
      repeat' ((conv => whnf); first | refine And.intro ?_ ?_ | with_reducible exact VC.mk rfl | exact Ok.mk | exact True.intro | refine Nx.mk ?_ | refine Fin.mk ?_ | intro _)
      all_goals ((try refine VC.mk ?_); (try simp only [CL.ncell, CL.cnt, vq] at *); (try omega))
  · have e : kdT n f (7 + 1) = if biB n f then kdT n f 7 ++ [sBim] else kdT n f 7 := kdT_succ n f 7 (by omega)
    have el := kdT_len n f 7
    repeat' ((conv => whnf); first | refine And.intro ?_ ?_ | with_reducible exact VC.mk rfl | exact Ok.mk | exact True.intro | refine Nx.mk ?_ | refine Fin.mk ?_ | intro _)
    all_goals ((try refine VC.mk ?_); (try simp only [CL.ncell, CL.cnt, vq] at *); (try omega))
    · rfl
    all_goals first | exact h | (simp only [List.length_append, List.length_cons, List.length_nil]; omega) | skip
    · rename_i hq _
      rw [if_pos (show biB n f = true from hq)] at e
      refine ⟨7 + 1, [], ⟨by omega, by omega⟩, ?_⟩
      rw [e, List.length_append]
      repeat' ((conv => whnf); first | refine And.intro ?_ ?_ | with_reducible exact VC.mk rfl | exact Ok.mk | exact True.intro | refine Nx.mk ?_ | refine Fin.mk ?_ | intro _)
      all_goals ((try refine VC.mk ?_); (try simp only [CL.ncell, CL.cnt, vq] at *); (try omega))
    · rename_i hq _
      rw [if_neg (by rw [show biB n f = false from hq]; decide)] at e
      refine ⟨7 + 1, [], ⟨by omega, by omega⟩, ?_⟩
      rw [e]
      repeat' ((conv => whnf); first | refine And.intro ?_ ?_ | with_reducible exact VC.mk rfl | exact Ok.mk | exact True.intro | refine Nx.mk ?_ | refine Fin.mk ?_ | intro _)
      all_goals ((try refine VC.mk ?_); (try simp only [CL.ncell, CL.cnt, vq] at *); (try omega))
  · repeat' ((conv => whnf); first | refine And.intro ?_ ?_ | with_reducible exact VC.mk rfl | exact Ok.mk | exact True.intro | refine Nx.mk ?_ | refine Fin.mk ?_ | intro _)
    all_goals ((try refine VC.mk ?_); (try simp only [CL.ncell, CL.cnt, vq] at *); (try omega))
    exact Sup.of rfl
def lkindsP : PSp := fun xs K => match xs with
  | [.agg [.int .i64 n, .int .i64 m, .isl (.ints .i64 f) .none]] => VC (FigOK n f ∧ m = n) ∧ K (.tup [.isl (.strs (kdT n f 8)) .none, .int .i64 0])
  | _ => False
theorem lkinds_ok : POK Tryz.prog 35 lkindsP := by
  intro xs K h
  unfold lkindsP at h
  split at h
  · exact ⟨_, h.2, (by obtain ⟨h1, h2⟩ := h.1.get; subst h2; exact lkinds_spec _ _ h1)⟩
  · exact h.elim
/-- has a list a text among its first ones -/
def anyT (L : List ByteArray) (k : ByteArray) (j : Nat) : Bool := (L.take j).any fun x => decide (x = k)
theorem anyT_succ (L : List ByteArray) (k : ByteArray) (j : Nat) (h : j < L.length) : anyT L k (j + 1) = (anyT L k j || decide (L.getD j .empty = k)) := by
  unfold anyT
  rw [List.take_add_one, List.any_append, List.getD_eq_getElem?_getD, List.getElem?_eq_getElem h]
  simp
def hasL (L : List ByteArray) (k : ByteArray) : Bool := L.any fun x => decide (x = k)
def hasB (n : Int) (f : List Int) (ks : List ByteArray) : Bool := ks.all (hasL (kdT n f 8))
theorem allS_true {ks : List ByteArray} {q : ByteArray → Bool} (h : ∀ j, j < ks.length → q (ks.getD j .empty) = true) : ks.all q = true := by
  refine List.all_eq_true.2 fun l hl => ?_
  obtain ⟨i, hi, rfl⟩ := List.getElem_of_mem hl
  have := h i hi
  rwa [List.getD_eq_getElem?_getD, List.getElem?_eq_getElem hi] at this
theorem allS_false {ks : List ByteArray} {q : ByteArray → Bool} {i : Nat} (hi : i < ks.length) (h : q (ks.getD i .empty) = false) : ks.all q = false := by
  refine Bool.eq_false_iff.2 fun e => ?_
  have hm : ks.getD i .empty ∈ ks := by rw [List.getD_eq_getElem?_getD, List.getElem?_eq_getElem hi]; exact List.getElem_mem _
  have := List.all_eq_true.1 e _ hm
  rw [h] at this; cases this
noncomputable def cpHs : CPT := cpAdd 35 (pureCC lkindsP) noC
theorem cpHs_ok : CPOK Tryz.prog cpHs := cpAdd_ok (pureCC_ok lkinds_ok) noC_ok
theorem has_spec (n : Int) (f : List Int) (ks : List ByteArray) (h : FigOK n f) (hk : ks.length ≤ 100) : PSpec Tryz.prog 9 [.agg [.int .i64 n, .int .i64 n, .isl (.ints .i64 f) .none], .isl (.strs ks) .none] (.bp (hasB n f ks)) := by
  have hlen := kdT_len n f 8
  unfold hasB
  refine pspec_of (md := 1) (rf := []) mixed tabOK cpHs_ok Tryz.func9 (by rfl) (by rfl) (by rfl) ?_
  repeat' ((conv => whnf); first | refine And.intro ?_ ?_ | with_reducible exact VC.mk rfl | exact Ok.mk | exact True.intro | refine Nx.mk ?_ | refine Fin.mk ?_ | intro _)
  all_goals ((try refine VC.mk ?_); (try simp only [CL.ncell, CL.cnt, vq] at *); (try omega))
  conv => whnf
  obtain ⟨L, hL⟩ : ∃ L, kdT n f 8 = L := ⟨_, rfl⟩
  simp only [hL] at *
  refine loop_of (X := Nat) (fun i => i ≤ ks.length ∧ ∀ j, j < i → hasL L (ks.getD j .empty) = true) (fun i => [(21, .int .i64 i), (12, .any), (14, .any)]) (fun i => []) (fun i => ks.length - i) 0 ⟨anyB_ok, mixed, tabOK, cpHs_ok, noY_ok⟩ (by rfl) ⟨by omega, fun j hj => by omega⟩ ?_ ?_
  · repeat' ((conv => whnf); first | refine And.intro ?_ ?_ | with_reducible exact VC.mk rfl | exact Ok.mk | exact True.intro | refine Nx.mk ?_ | refine Fin.mk ?_ | intro _)
    all_goals ((try refine VC.mk ?_); (try simp only [CL.ncell, CL.cnt, vq] at *); (try omega))
  intro i ⟨hi, hall⟩
  by_cases hlt : i < ks.length
  · repeat' ((conv => whnf); first | refine And.intro ?_ ?_ | with_reducible exact VC.mk rfl | exact Ok.mk | exact True.intro | refine Nx.mk ?_ | refine Fin.mk ?_ | intro _)
    all_goals ((try refine VC.mk ?_); (try simp only [CL.ncell, CL.cnt, vq] at *); (try omega))
    conv => whnf
    refine loop_of (X := Nat) (fun j => j ≤ L.length) (fun j => [(27, .int .i64 j), (12, .any), (14, .any), (9, .bp (anyT L (ks.getD i .empty) j))]) (fun j => []) (fun j => L.length - j) 0 ⟨anyB_ok, mixed, tabOK, cpHs_ok, noY_ok⟩ (by rfl) (by omega) ?_ ?_
    · repeat' ((conv => whnf); first | refine And.intro ?_ ?_ | with_reducible exact VC.mk rfl | exact Ok.mk | exact True.intro | refine Nx.mk ?_ | refine Fin.mk ?_ | intro _)
      all_goals ((try refine VC.mk ?_); (try simp only [CL.ncell, CL.cnt, vq] at *); (try omega))
    intro j hj
    by_cases hjl : j < L.length
    · have e := anyT_succ L (ks.getD i .empty) j hjl
      repeat' ((conv => whnf); first | refine And.intro ?_ ?_ | with_reducible exact VC.mk rfl | exact Ok.mk | exact True.intro | refine Nx.mk ?_ | refine Fin.mk ?_ | intro _)
      all_goals ((try refine VC.mk ?_); (try simp only [CL.ncell, CL.cnt, vq] at *); (try omega))
      · rename_i hq
        rw [show anyT L (ks.getD i .empty) j = false from by assumption, Bool.false_or] at e
        refine ⟨j + 1, [], ⟨by omega, by omega⟩, ?_⟩
        rw [e]
        repeat' ((conv => whnf); first | refine And.intro ?_ ?_ | with_reducible exact VC.mk rfl | exact Ok.mk | exact True.intro | refine Nx.mk ?_ | refine Fin.mk ?_ | intro _)
        all_goals ((try refine VC.mk ?_); (try simp only [CL.ncell, CL.cnt, vq] at *); (try omega))
      · rename_i hq
        rw [show anyT L (ks.getD i .empty) j = true from by assumption, Bool.true_or] at e
        refine ⟨j + 1, [], ⟨by omega, by omega⟩, ?_⟩
        rw [e]
        repeat' ((conv => whnf); first | refine And.intro ?_ ?_ | with_reducible exact VC.mk rfl | exact Ok.mk | exact True.intro | refine Nx.mk ?_ | refine Fin.mk ?_ | intro _)
        all_goals ((try refine VC.mk ?_); (try simp only [CL.ncell, CL.cnt, vq] at *); (try omega))
    · have ej : anyT L (ks.getD i .empty) j = hasL L (ks.getD i .empty) := by
        unfold anyT hasL
        rw [List.take_of_length_le (by omega)]
      rw [ej]
      repeat' ((conv => whnf); first | refine And.intro ?_ ?_ | with_reducible exact VC.mk rfl | exact Ok.mk | exact True.intro | refine Nx.mk ?_ | refine Fin.mk ?_ | intro _)
      all_goals ((try refine VC.mk ?_); (try simp only [CL.ncell, CL.cnt, vq] at *); (try omega))
      · rename_i hq _
        have hq : hasL L (ks.getD i .empty) = false := by simpa using hq
        rw [show ks.all (hasL L) = false from allS_false hlt hq]
        all_goals (refine Sup.via ?_; repeat' ((conv => whnf); first | refine And.intro ?_ ?_ | with_reducible exact VC.mk rfl | exact Ok.mk | exact True.intro | refine Nx.mk ?_ | refine Fin.mk ?_ | intro _); all_goals ((try refine VC.mk ?_); (try simp only [CL.ncell, CL.cnt, vq] at *); (try omega)); all_goals (try (simp [CL.sub]; done)))
      · rename_i hq _
        have hq : hasL L (ks.getD i .empty) = true := by simpa using hq
        refine ⟨i + 1, [], ⟨⟨by omega, fun j hj => ?_⟩, by omega⟩, ?_⟩
        · by_cases e : j = i
          · subst e; exact hq
          · exact hall j (by omega)
        repeat' ((conv => whnf); first | refine And.intro ?_ ?_ | with_reducible exact VC.mk rfl | exact Ok.mk | exact True.intro | refine Nx.mk ?_ | refine Fin.mk ?_ | intro _)
        all_goals ((try refine VC.mk ?_); (try simp only [CL.ncell, CL.cnt, vq] at *); (try omega))
  · have : ks.length = i := by omega
    rw [show ks.all (hasL L) = true from allS_true (by rw [this]; exact hall)]
    repeat' ((conv => whnf); first | refine And.intro ?_ ?_ | with_reducible exact VC.mk rfl | exact Ok.mk | exact True.intro | refine Nx.mk ?_ | refine Fin.mk ?_ | intro _)
    all_goals ((try refine VC.mk ?_); (try simp only [CL.ncell, CL.cnt, vq] at *); (try omega))
    all_goals (refine Sup.via ?_; repeat' ((conv => whnf); first | refine And.intro ?_ ?_ | with_reducible exact VC.mk rfl | exact Ok.mk | exact True.intro | refine Nx.mk ?_ | refine Fin.mk ?_ | intro _); all_goals ((try refine VC.mk ?_); (try simp only [CL.ncell, CL.cnt, vq] at *); (try omega)); all_goals (try (simp [CL.sub]; done)))
end Go.Eng.YtobnbkoeocdhbaaGreatDoor
namespace Go.Eng.YtobnbkoeocdhbaaGreatDoor
open Go.Proofs
set_option maxRecDepth 100000
set_option maxHeartbeats 0
set_option linter.unusedVariables false
set_option linter.unusedSimpArgs false
theorem sum_ok : POK Tryz.prog 52 sumP := by
  intro xs K h
  unfold sumP at h
  split at h
  · exact ⟨_, h.2, sum_spec _ _ _ _ h.1.get.1 h.1.get.2.1 h.1.get.2.2⟩
  · exact h.elim
theorem sumAt_bd (cs l : List Int) (hc : ∀ c ∈ l, 0 ≤ cs.getD c.toNat 0 ∧ cs.getD c.toNat 0 ≤ 1000) : ∀ i, i ≤ l.length → 0 ≤ sumAt cs l i ∧ sumAt cs l i ≤ 1000 * i := by
  intro i
  induction i with
  | zero => intro _; simp [sumAt]
  | succ i ih =>
    intro hi
    have := ih (by omega)
    have h2 := hc (l.getD i 0) (by rw [List.getD_eq_getElem?_getD, List.getElem?_eq_getElem (by omega)]; exact List.getElem_mem _)
    rw [sumAt_succ cs l i (by omega)]
    omega
theorem lineAt_len (n i : Nat) : (lineAt n i).length = n := by
  unfold lineAt
  repeat' split
  all_goals simp [rowL, colL]
theorem mul_lt_sq {n i : Nat} {j : Int} (hi : i < n) (hj : 0 ≤ j ∧ j < n) : 0 ≤ (n : Int) * i + j ∧ (n : Int) * i + j < (n : Int) * n := by
  have h1 := Int.mul_le_mul_of_nonneg_left (show (i : Int) + 1 ≤ n by omega) (show 0 ≤ (n : Int) by omega)
  have h2 := Int.mul_nonneg (show 0 ≤ (n : Int) by omega) (show 0 ≤ (i : Int) by omega)
  rw [Int.mul_add] at h1
  omega
theorem colL_mem {n : Nat} {h : Nat → Int} (c : Int) (hc : c ∈ colL n h n) : 0 ≤ c ∧ c < (n : Int) * n := by
  unfold colL at hc
  obtain ⟨i, hi, rfl⟩ := List.mem_map.1 hc
  have hi := List.mem_range.1 hi
  exact mul_lt_sq hi ⟨Int.emod_nonneg _ (by omega), Int.emod_lt_of_pos _ (by omega)⟩
theorem lineAt_mem {n i : Nat} (c : Int) (hc : c ∈ lineAt n i) : 0 ≤ c ∧ c < (n : Int) * n := by
  unfold lineAt at hc
  split at hc
  · rename_i hlt
    unfold rowL at hc
    obtain ⟨j, hj, rfl⟩ := List.mem_map.1 hc
    have hj := List.mem_range.1 hj
    exact mul_lt_sq hlt ⟨by omega, by omega⟩
  · repeat' (split at hc)
    all_goals exact colL_mem c hc
theorem linesV_get {n : Nat} {g : Int} {i : Nat} {x : PV} (h : (linesV n g)[i]? = some x) : i < lineCnt n g ∧ x = .isl (.ints .i64 (lineAt n i)) .none := by
  unfold linesV at h
  rw [List.getElem?_map] at h
  cases hr : (List.range (lineCnt n g))[i]? with
  | none => rw [hr] at h; simp at h
  | some j =>
    rw [hr] at h
    obtain ⟨h1, h2⟩ := List.getElem?_eq_some_iff.1 hr
    simp at h1 h2
    subst h2
    simp at h
    exact ⟨h1, h.symm⟩
theorem linesV_len (n : Nat) (g : Int) : (linesV n g).length = lineCnt n g := by simp [linesV]
/-- the sum of a line -/
def lineSum (n : Nat) (l : List Int) (i : Nat) : Int := sumAt l (lineAt n i) n
def lineOk (n : Nat) (l : List Int) (i : Nat) : Bool := decide (lineSum n l i = constOf n)
noncomputable def cpQ : CPT := cpAdd 51 (pureCC linesP) (cpAdd 52 (pureCC sumP) (cpAdd 53 (pureCC constantP) noC))
theorem cpQ_ok : CPOK Tryz.prog cpQ := cpAdd_ok (pureCC_ok lines_ok) (cpAdd_ok (pureCC_ok sum_ok) (cpAdd_ok (pureCC_ok constant_ok) noC_ok))
end Go.Eng.YtobnbkoeocdhbaaGreatDoor
namespace Go.Eng.YtobnbkoeocdhbaaGreatDoor
open Go.Proofs
set_option maxRecDepth 100000
set_option maxHeartbeats 0
set_option linter.unusedVariables false
set_option linter.unusedSimpArgs false
def stepErr (n s0 s1 x0 x1 b0 b1 : Int) : Int := if (n < 1 ∨ 16 < n) ∨ [s0, s1, x0, x1, b0, b1].any farB = true then 3 else 0
theorem stepErr_zero {n s0 s1 x0 x1 b0 b1 : Int} (h : stepErr n s0 s1 x0 x1 b0 b1 = 0) : (1 ≤ n ∧ n ≤ 16) ∧ ∀ x ∈ [s0, s1, x0, x1, b0, b1], -999999999 ≤ x ∧ x ≤ 999999999 := by
  unfold stepErr at h
  split at h
  · cases h
  · rename_i hh
    simp only [not_or, List.any_eq_true, not_exists, not_and] at hh
    refine ⟨by omega, fun x hx => ?_⟩
    have := hh.2 x hx
    unfold farB at this
    simp at this
    omega
noncomputable def cpS1 : CPT := cpAdd 81 (pureCC farP) cp2
theorem cpS1_ok : CPOK Tryz.prog cpS1 := cpAdd_ok (pureCC_ok far_ok) cp2_ok
theorem checkStep_spec (n s0 s1 x0 x1 b0 b1 : Int) : PSpec Tryz.prog 40 [.agg [.int .i64 n, .int .i64 s0, .int .i64 s1, .int .i64 x0, .int .i64 x1, .int .i64 b0, .int .i64 b1]] (.int .i64 (stepErr n s0 s1 x0 x1 b0 b1)) := by
  refine pspec_of (md := 1) (rf := []) mixed tabOK cpS1_ok Tryz.func40 (by rfl) (by rfl) (by rfl) ?_
  repeat' ((conv => whnf); first | refine And.intro ?_ ?_ | with_reducible exact VC.mk rfl | exact Ok.mk | exact True.intro | refine Nx.mk ?_ | refine Fin.mk ?_ | intro _)
  all_goals ((try refine VC.mk ?_); (try simp only [CL.ncell, CL.cnt, vq] at *); (try omega))
  all_goals refine Sup.of ?_
  all_goals simp_all [resOf, stepErr, firstOf]
  all_goals (try (by_cases hn : n < 1 ∨ 16 < n <;> cases hf : farB b1 <;> simp_all <;> omega))
def checkStepP : PSp := fun xs K => match xs with
  | [.agg [.int .i64 n, .int .i64 s0, .int .i64 s1, .int .i64 x0, .int .i64 x1, .int .i64 b0, .int .i64 b1]] => VC (True) ∧ K (.int .i64 (stepErr n s0 s1 x0 x1 b0 b1))
  | _ => False
theorem checkStep_ok : POK Tryz.prog 40 checkStepP := by
  intro xs K h
  unfold checkStepP at h
  split at h
  · exact ⟨_, h.2, checkStep_spec _ _ _ _ _ _ _⟩
  · exact h.elim
theorem emod_all {n : Int} (hn : 1 ≤ n) (s0 s1 x0 x1 b0 b1 : Int) : ∀ x ∈ [s0 % n, s1 % n, x0 % n, x1 % n, b0 % n, b1 % n], 0 ≤ x ∧ x < n := by
  have hm : ∀ y : Int, 0 ≤ y % n ∧ y % n < n := fun y => ⟨Int.emod_nonneg _ (by omega), Int.emod_lt_of_pos _ (by omega)⟩
  intro x hx
  simp only [List.mem_cons, List.not_mem_nil, or_false] at hx
  rcases hx with rfl | rfl | rfl | rfl | rfl | rfl <;> exact hm _
/-- the cells of a rule -/
abbrev cellS (n s0 s1 x0 x1 b0 b1 : Int) : Nat → Nat := cellN n (s0 % n) (s1 % n) (x0 % n) (x1 % n) (b0 % n) (b1 % n)
/-! Uniform -/
def uniV (n : Int) (c : Nat → Nat) (N : Nat) : PV := match meetOf c N with
  | some _ => .tup [gridV 0 0 [], .int .i64 18]
  | none => .tup [gridV n n (gAt c N N), .int .i64 0]
def uniformV (n s0 s1 x0 x1 b0 b1 : Int) : PV := if stepErr n s0 s1 x0 x1 b0 b1 = 0 then uniV n (cellS n s0 s1 x0 x1 b0 b1) (n * n).toNat else .tup [gridV 0 0 [], .int .i64 (stepErr n s0 s1 x0 x1 b0 b1)]
noncomputable def cpS2 : CPT := cpAdd 40 (pureCC checkStepP) (cpAdd 41 (pureCC reducedP) (cpAdd 42 (pureCC layP) (cpAdd 83 (pureCC cellP) cp2)))
theorem cpS2_ok : CPOK Tryz.prog cpS2 := cpAdd_ok (pureCC_ok checkStep_ok) (cpAdd_ok (pureCC_ok reduced_ok) (cpAdd_ok (pureCC_ok lay_ok) (cpAdd_ok (pureCC_ok cell_ok) cp2_ok)))
theorem uniform_spec (n s0 s1 x0 x1 b0 b1 : Int) : PSpec Tryz.prog 14 [.agg [.int .i64 n, .int .i64 s0, .int .i64 s1, .int .i64 x0, .int .i64 x1, .int .i64 b0, .int .i64 b1]] (uniformV n s0 s1 x0 x1 b0 b1) := by
  by_cases hz : stepErr n s0 s1 x0 x1 b0 b1 = 0
  · obtain ⟨h1, h2⟩ := stepErr_zero hz
    have h3 := emod_all h1.1 s0 s1 x0 x1 b0 b1
    unfold uniformV
    rw [if_pos hz]
    refine pspec_of (md := 1) (rf := []) mixed tabOK cpS2_ok Tryz.func14 (by rfl) (by rfl) (by rfl) ?_
    repeat' ((conv => whnf); first | refine And.intro ?_ ?_ | with_reducible exact VC.mk rfl | exact Ok.mk | exact True.intro | refine Nx.mk ?_ | refine Fin.mk ?_ | intro _)
    all_goals ((try refine VC.mk ?_); (try simp only [CL.ncell, CL.cnt, vq] at *); (try omega))
    · exact ⟨by omega, fun x hx => by have := h2 x hx; omega⟩
    · exact ⟨h1, h3⟩
    cases hm : meetOf (cellN n (s0 % n) (s1 % n) (x0 % n) (x1 % n) (b0 % n) (b1 % n)) (n * n).toNat
    all_goals simp only [layV, uniV, hm]
    all_goals repeat' ((conv => whnf); first | refine And.intro ?_ ?_ | with_reducible exact VC.mk rfl | exact Ok.mk | exact True.intro | refine Nx.mk ?_ | refine Fin.mk ?_ | intro _)
    all_goals all_goals ((try refine VC.mk ?_); (try simp only [CL.ncell, CL.cnt, vq] at *); (try omega))
    all_goals (first | (refine Sup.of ?_; first | rfl | (simp [*, resOf]; done)) | (refine Sup.via ?_; repeat' ((conv => whnf); first | refine And.intro ?_ ?_ | with_reducible exact VC.mk rfl | exact Ok.mk | exact True.intro | refine Nx.mk ?_ | refine Fin.mk ?_ | intro _); all_goals ((try refine VC.mk ?_); (try simp only [CL.ncell, CL.cnt, vq] at *); (try omega)); all_goals (try (simp [CL.sub]; done))))
  · unfold uniformV
    rw [if_neg hz]
    refine pspec_of (md := 1) (rf := []) mixed tabOK cpS2_ok Tryz.func14 (by rfl) (by rfl) (by rfl) ?_
    repeat' ((conv => whnf); first | refine And.intro ?_ ?_ | with_reducible exact VC.mk rfl | exact Ok.mk | exact True.intro | refine Nx.mk ?_ | refine Fin.mk ?_ | intro _)
    all_goals ((try refine VC.mk ?_); (try simp only [CL.ncell, CL.cnt, vq] at *); (try omega))
    all_goals (first | (refine Sup.of ?_; first | rfl | (simp [*, resOf]; done)) | (refine Sup.via ?_; repeat' ((conv => whnf); first | refine And.intro ?_ ?_ | with_reducible exact VC.mk rfl | exact Ok.mk | exact True.intro | refine Nx.mk ?_ | refine Fin.mk ?_ | intro _); all_goals ((try refine VC.mk ?_); (try simp only [CL.ncell, CL.cnt, vq] at *); (try omega)); all_goals (try (simp [CL.sub]; done))))
end Go.Eng.YtobnbkoeocdhbaaGreatDoor
namespace Go.Eng.YtobnbkoeocdhbaaGreatDoor
open Go.Proofs
set_option maxRecDepth 100000
set_option maxHeartbeats 0
set_option linter.unusedVariables false
set_option linter.unusedSimpArgs false
theorem gAt_nonneg (c : Nat → Nat) (N : Nat) : ∀ x, ∀ v ∈ gAt c N x, 0 ≤ v := by
  intro x
  induction x with
  | zero => intro v hv; rw [gAt_zero] at hv; have := List.eq_of_mem_replicate hv; omega
  | succ x ih =>
    intro v hv
    rw [gAt_succ] at hv
    rcases List.mem_or_eq_of_mem_set hv with h | h
    · exact ih v h
    · omega
theorem gAt_getD (c : Nat → Nat) (N x i : Nat) : 0 ≤ (gAt c N x).getD i 0 := by
  rw [List.getD_eq_getElem?_getD]
  cases h : (gAt c N x)[i]? with
  | none => simp
  | some v => simpa using gAt_nonneg c N x v (List.mem_of_getElem? h)
theorem cellS_eq {n s0 s1 x0 x1 b0 b1 : Int} (hn : 1 ≤ n) (y : Nat) : rowOf n (s0 % n) (x0 % n) (b0 % n) ((y : Int) + 1) * n + rowOf n (s1 % n) (x1 % n) (b1 % n) ((y : Int) + 1) = cellS n s0 s1 x0 x1 b0 b1 y := by
  rw [← cellOf_eq]
  have := cellOf_bd n (s0 % n) (s1 % n) (x0 % n) (x1 % n) (b0 % n) (b1 % n) ((y : Int) + 1) (by omega)
  unfold cellS cellN; omega
theorem cellS_lt {n s0 s1 x0 x1 b0 b1 : Int} (hn : 1 ≤ n) (y : Nat) : cellS n s0 s1 x0 x1 b0 b1 y < (n * n).toNat := by
  have := cellOf_bd n (s0 % n) (s1 % n) (x0 % n) (x1 % n) (b0 % n) (b1 % n) ((y : Int) + 1) (by omega)
  unfold cellS cellN; omega
theorem rowS_bd {n s x b k : Int} (hn : 1 ≤ n ∧ n ≤ 16) : (0 ≤ rowOf n s x b k ∧ rowOf n s x b k < n) ∧ 0 ≤ rowOf n s x b k * n ∧ rowOf n s x b k * n ≤ 256 := by
  have h := rowOf_bd n s x b k (by omega)
  exact ⟨h, mul_bd (A := 16) (B := 16) (by omega) (by omega)⟩
def meetV (c : Nat → Nat) (N : Nat) : PV := match meetOf c N with
  | some y => .tup [.int .i64 ((gAt c N y).getD (c y) 0), .int .i64 ((y : Int) + 1)]
  | none => .tup [.int .i64 0, .int .i64 0]
/-! Place -/
end Go.Eng.YtobnbkoeocdhbaaGreatDoor
namespace Go.Eng.YtobnbkoeocdhbaaGreatDoor
open Go.Proofs
set_option maxRecDepth 100000
set_option maxHeartbeats 0
set_option linter.unusedVariables false
set_option linter.unusedSimpArgs false
theorem sup_b {b : Bool} : Sup (.bp b) (.bool b) := ⟨fun h => by cases h; exact .bool _ _⟩
/-- a contract at given values, under a condition -/
def atC (C : Prop) (as0 : List PV) (v : PV) : PSp := fun xs K => VC C ∧ VC (xs = as0) ∧ K v
theorem atC_ok {g : FuncId} {C : Prop} {as0 : List PV} {v : PV} (h : C → PSpec Tryz.prog g as0 v) : POK Tryz.prog g (atC C as0 v) := by
  rintro xs K ⟨⟨hc⟩, ⟨rfl⟩, hk⟩
  exact ⟨v, hk, h hc⟩
theorem sup_true : Sup (resOf [PV.bool true]) (.bp true) := ⟨fun h => by cases h; exact .bp _ _⟩
end Go.Eng.YtobnbkoeocdhbaaGreatDoor
namespace Go.Eng.YtobnbkoeocdhbaaGreatDoor
open Go.Proofs
set_option maxRecDepth 100000
set_option maxHeartbeats 0
set_option linter.unusedVariables false
set_option linter.unusedSimpArgs false
abbrev ruleV (n s0 s1 x0 x1 b0 b1 : Int) : PV := .agg [.int .i64 n, .int .i64 s0, .int .i64 s1, .int .i64 x0, .int .i64 x1, .int .i64 b0, .int .i64 b1]
def coprime (n a : Int) : Bool := decide (Int.gcd (a % n) n = 1)
/-- 'prime''s closure -/
theorem c157_spec (n s0 s1 x0 x1 b0 b1 a : Int) (hn : 0 < n ∧ n ≤ 1000000) (ha : -4611686018427387904 ≤ a ∧ a ≤ 4611686018427387904) :
    PSpec Tryz.prog 181 [.int .i64 a, .ip (.pv [.int .i64 n, .int .i64 s0, .int .i64 s1, .int .i64 x0, .int .i64 x1, .int .i64 b0, .int .i64 b1]) 0] (.bp (!coprime n a)) := by
  have hc : CPOK Tryz.prog (cpAdd 182 (pureCC cgcdP) noC) := cpAdd_ok (pureCC_ok cgcd_ok) noC_ok
  refine pspec_of (md := 1) (rf := []) mixed tabOK hc Tryz.func181 (by rfl) (by rfl) (by rfl) ?_
  repeat' ((conv => whnf); first | refine And.intro ?_ ?_ | with_reducible exact VC.mk rfl | exact Ok.mk | exact True.intro | refine Nx.mk ?_ | refine Fin.mk ?_ | intro _)
  all_goals ((try refine VC.mk ?_); (try simp only [CL.ncell, CL.cnt, vq] at *); (try omega))
  refine Sup.via ?_
  repeat' ((conv => whnf); first | refine And.intro ?_ ?_ | with_reducible exact VC.mk rfl | exact Ok.mk | exact True.intro | refine Nx.mk ?_ | refine Fin.mk ?_ | intro _)
  refine VC.mk ?_
  unfold coprime
  rw [← decide_not]
  congr 1
  simp; omega
theorem primeL_spec (n s0 s1 x0 x1 b0 b1 : Int) (l : List Int) (hn : 0 < n ∧ n ≤ 1000000) (hl : l.length ≤ 2000000) (h : ∀ a ∈ l, -4611686018427387904 ≤ a ∧ a ≤ 4611686018427387904) :
    PSpec Tryz.prog 161 [ruleV n s0 s1 x0 x1 b0 b1, .isl (.ints .i64 l) .none] (.bp (l.all (coprime n))) := by
  have hc : CPOK Tryz.prog (cpAdd 86 (pureCC hasFP) noC) := cpAdd_ok (pureCC_ok hasF_ok) noC_ok
  refine pspec_of (md := 1) (rf := []) mixed tabOK hc Tryz.func161 (by rfl) (by rfl) (by rfl) ?_
  repeat' ((conv => whnf); first | refine And.intro ?_ ?_ | with_reducible exact VC.mk rfl | exact Ok.mk | exact True.intro | refine Nx.mk ?_ | refine Fin.mk ?_ | intro _)
  all_goals ((try refine VC.mk ?_); (try simp only [CL.ncell, CL.cnt, vq] at *); (try omega))
  · exact ⟨hl, rfl, rfl⟩
  refine ⟨fun a => !coprime n a, fun a ha => c157_spec n s0 s1 x0 x1 b0 b1 a hn (h a ha), ?_⟩
  repeat' ((conv => whnf); first | refine And.intro ?_ ?_ | with_reducible exact VC.mk rfl | exact Ok.mk | exact True.intro | refine Nx.mk ?_ | refine Fin.mk ?_ | intro _)
  all_goals ((try refine VC.mk ?_); (try simp only [CL.ncell, CL.cnt, vq] at *); (try omega))
  refine Sup.via ?_
  repeat' ((conv => whnf); first | refine And.intro ?_ ?_ | with_reducible exact VC.mk rfl | exact Ok.mk | exact True.intro | refine Nx.mk ?_ | refine Fin.mk ?_ | intro _)
  refine VC.mk ?_
  rw [List.not_any_eq_all_not]; simp
def primeLP : PSp := fun xs K => match xs with
  | [.agg [.int .i64 n, .int .i64 s0, .int .i64 s1, .int .i64 x0, .int .i64 x1, .int .i64 b0, .int .i64 b1], .isl (.ints .i64 l) .none] => VC ((0 < n ∧ n ≤ 1000000) ∧ l.length ≤ 2000000 ∧ ∀ a ∈ l, -4611686018427387904 ≤ a ∧ a ≤ 4611686018427387904) ∧ K (.bp (l.all (coprime n)))
  | _ => False
theorem primeL_ok : POK Tryz.prog 161 primeLP := by
  intro xs K h
  unfold primeLP at h
  split at h
  · exact ⟨_, h.2, primeL_spec _ _ _ _ _ _ _ _ h.1.get.1 h.1.get.2.1 h.1.get.2.2⟩
  · exact h.elim
noncomputable def cpK1 : CPT := cpAdd 161 (pureCC primeLP) noC
theorem cpK1_ok : CPOK Tryz.prog cpK1 := cpAdd_ok (pureCC_ok primeL_ok) noC_ok
def isSq (n x0 x1 b0 b1 : Int) : Bool := coprime n (x0 * b1 - x1 * b0)
def isSemi (n x0 x1 b0 b1 : Int) : Bool := isSq n x0 x1 b0 b1 && [x0, x1, b0, b1].all (coprime n)
def isPan (n x0 x1 b0 b1 : Int) : Bool := isSemi n x0 x1 b0 b1 && [x0 - x1, x0 + x1, b0 - b1, b0 + b1].all (coprime n)
theorem square_spec (n s0 s1 x0 x1 b0 b1 : Int) (hn : 1 ≤ n ∧ n ≤ 16) (h : ∀ x ∈ [s0, s1, x0, x1, b0, b1], 0 ≤ x ∧ x < n) : PSpec Tryz.prog 124 [ruleV n s0 s1 x0 x1 b0 b1] (.bp (isSq n x0 x1 b0 b1)) := by
  simp only [List.mem_cons, List.not_mem_nil, or_false, forall_eq_or_imp, forall_eq] at h
  obtain ⟨h1, h2, h3, h4, h5, h6⟩ := h
  have m1 := mul_bd (A := 16) (B := 16) (show 0 ≤ x0 ∧ x0 ≤ 16 by omega) (show 0 ≤ b1 ∧ b1 ≤ 16 by omega)
  have m2 := mul_bd (A := 16) (B := 16) (show 0 ≤ x1 ∧ x1 ≤ 16 by omega) (show 0 ≤ b0 ∧ b0 ≤ 16 by omega)
  refine pspec_of (md := 1) (rf := []) mixed tabOK cpK1_ok Tryz.func124 (by rfl) (by rfl) (by rfl) ?_
  repeat' ((conv => whnf); first | refine And.intro ?_ ?_ | with_reducible exact VC.mk rfl | exact Ok.mk | exact True.intro | refine Nx.mk ?_ | refine Fin.mk ?_ | intro _)
  all_goals ((try refine VC.mk ?_); (try simp only [CL.ncell, CL.cnt, vq] at *); (try omega))
  · refine ⟨by omega, by omega, fun a ha => ?_⟩
    simp only [List.mem_cons, List.not_mem_nil, or_false] at ha
    subst ha; omega
  refine Sup.via ?_
  repeat' ((conv => whnf); first | refine And.intro ?_ ?_ | with_reducible exact VC.mk rfl | exact Ok.mk | exact True.intro | refine Nx.mk ?_ | refine Fin.mk ?_ | intro _)
  refine VC.mk ?_
  simp [isSq]
def squareP : PSp := fun xs K => match xs with
  | [.agg [.int .i64 n, .int .i64 s0, .int .i64 s1, .int .i64 x0, .int .i64 x1, .int .i64 b0, .int .i64 b1]] => VC ((1 ≤ n ∧ n ≤ 16) ∧ ∀ x ∈ [s0, s1, x0, x1, b0, b1], 0 ≤ x ∧ x < n) ∧ K (.bp (isSq n x0 x1 b0 b1))
  | _ => False
theorem square_ok : POK Tryz.prog 124 squareP := by
  intro xs K h
  unfold squareP at h
  split at h
  · exact ⟨_, h.2, square_spec _ _ _ _ _ _ _ h.1.get.1 h.1.get.2⟩
  · exact h.elim
noncomputable def cpK2 : CPT := cpAdd 124 (pureCC squareP) cpK1
theorem cpK2_ok : CPOK Tryz.prog cpK2 := cpAdd_ok (pureCC_ok square_ok) cpK1_ok
theorem semi_spec (n s0 s1 x0 x1 b0 b1 : Int) (hn : 1 ≤ n ∧ n ≤ 16) (h : ∀ x ∈ [s0, s1, x0, x1, b0, b1], 0 ≤ x ∧ x < n) : PSpec Tryz.prog 125 [ruleV n s0 s1 x0 x1 b0 b1] (.bp (isSemi n x0 x1 b0 b1)) := by
  have h' : ∀ a ∈ [x0, x1, b0, b1], -4611686018427387904 ≤ a ∧ a ≤ 4611686018427387904 := fun a ha => by
    have := h a (by simp only [List.mem_cons] at ha ⊢; exact .inr (.inr ha)); omega
  refine pspec_of (md := 1) (rf := []) mixed tabOK cpK2_ok Tryz.func125 (by rfl) (by rfl) (by rfl) ?_
  repeat' ((conv => whnf); first | refine And.intro ?_ ?_ | with_reducible exact VC.mk rfl | exact Ok.mk | exact True.intro | refine Nx.mk ?_ | refine Fin.mk ?_ | intro _)
  all_goals ((try refine VC.mk ?_); (try simp only [CL.ncell, CL.cnt, vq] at *); (try omega))
  · exact ⟨hn, h⟩
  · exact ⟨by omega, by omega, h'⟩
  all_goals refine Sup.via ?_
  all_goals repeat' ((conv => whnf); first | refine And.intro ?_ ?_ | with_reducible exact VC.mk rfl | exact Ok.mk | exact True.intro | refine Nx.mk ?_ | refine Fin.mk ?_ | intro _)
  all_goals refine VC.mk ?_
  all_goals simp_all [isSemi]
def semiP : PSp := fun xs K => match xs with
  | [.agg [.int .i64 n, .int .i64 s0, .int .i64 s1, .int .i64 x0, .int .i64 x1, .int .i64 b0, .int .i64 b1]] => VC ((1 ≤ n ∧ n ≤ 16) ∧ ∀ x ∈ [s0, s1, x0, x1, b0, b1], 0 ≤ x ∧ x < n) ∧ K (.bp (isSemi n x0 x1 b0 b1))
  | _ => False
theorem semi_ok : POK Tryz.prog 125 semiP := by
  intro xs K h
  unfold semiP at h
  split at h
  · exact ⟨_, h.2, semi_spec _ _ _ _ _ _ _ h.1.get.1 h.1.get.2⟩
  · exact h.elim
noncomputable def cpK3 : CPT := cpAdd 125 (pureCC semiP) cpK1
theorem cpK3_ok : CPOK Tryz.prog cpK3 := cpAdd_ok (pureCC_ok semi_ok) cpK1_ok
theorem pan_spec (n s0 s1 x0 x1 b0 b1 : Int) (hn : 1 ≤ n ∧ n ≤ 16) (h : ∀ x ∈ [s0, s1, x0, x1, b0, b1], 0 ≤ x ∧ x < n) : PSpec Tryz.prog 127 [ruleV n s0 s1 x0 x1 b0 b1] (.bp (isPan n x0 x1 b0 b1)) := by
  have hh := h
  simp only [List.mem_cons, List.not_mem_nil, or_false, forall_eq_or_imp, forall_eq] at h
  obtain ⟨h1, h2, h3, h4, h5, h6⟩ := h
  have h' : ∀ a ∈ [x0 - x1, x0 + x1, b0 - b1, b0 + b1], -4611686018427387904 ≤ a ∧ a ≤ 4611686018427387904 := fun a ha => by
    simp only [List.mem_cons, List.not_mem_nil, or_false] at ha
    rcases ha with rfl | rfl | rfl | rfl <;> omega
  refine pspec_of (md := 1) (rf := []) mixed tabOK cpK3_ok Tryz.func127 (by rfl) (by rfl) (by rfl) ?_
  repeat' ((conv => whnf); first | refine And.intro ?_ ?_ | with_reducible exact VC.mk rfl | exact Ok.mk | exact True.intro | refine Nx.mk ?_ | refine Fin.mk ?_ | intro _)
  all_goals ((try refine VC.mk ?_); (try simp only [CL.ncell, CL.cnt, vq] at *); (try omega))
  · exact ⟨hn, hh⟩
  · exact ⟨by omega, by omega, h'⟩
  all_goals refine Sup.via ?_
  all_goals repeat' ((conv => whnf); first | refine And.intro ?_ ?_ | with_reducible exact VC.mk rfl | exact Ok.mk | exact True.intro | refine Nx.mk ?_ | refine Fin.mk ?_ | intro _)
  all_goals refine VC.mk ?_
  all_goals simp_all [isPan]
def panP : PSp := fun xs K => match xs with
  | [.agg [.int .i64 n, .int .i64 s0, .int .i64 s1, .int .i64 x0, .int .i64 x1, .int .i64 b0, .int .i64 b1]] => VC ((1 ≤ n ∧ n ≤ 16) ∧ ∀ x ∈ [s0, s1, x0, x1, b0, b1], 0 ≤ x ∧ x < n) ∧ K (.bp (isPan n x0 x1 b0 b1))
  | _ => False
theorem pan_ok : POK Tryz.prog 127 panP := by
  intro xs K h
  unfold panP at h
  split at h
  · exact ⟨_, h.2, pan_spec _ _ _ _ _ _ _ h.1.get.1 h.1.get.2⟩
  · exact h.elim
end Go.Eng.YtobnbkoeocdhbaaGreatDoor
namespace Go.Eng.YtobnbkoeocdhbaaGreatDoor
open Go.Proofs
set_option maxRecDepth 100000
set_option maxHeartbeats 0
set_option linter.unusedVariables false
set_option linter.unusedSimpArgs false
theorem c151_spec (n s0 s1 x0 x1 b0 b1 r q i : Int) (l : List Int) (hn : 1 ≤ n ∧ n ≤ 16) (hi : 0 ≤ i ∧ i < n) (hl : (l.length : Int) = n * n) :
    PSpec Tryz.prog 162 [.int .i64 i, .ip (.pv [.int .i64 r, .int .i64 q, .isl (.ints .i64 l) .none]) 0, .ip (.pv [.int .i64 n, .int .i64 s0, .int .i64 s1, .int .i64 x0, .int .i64 x1, .int .i64 b0, .int .i64 b1]) 0] (.int .i64 (l.getD (n * i + i).toNat 0)) := by
  have h1 := mul_bd (A := 16) (B := 16) (show 0 ≤ n ∧ n ≤ 16 by omega) (show 0 ≤ i ∧ i ≤ 16 by omega)
  have h2 : n * i + n ≤ n * n := by
    have := Int.mul_le_mul_of_nonneg_left (show i + 1 ≤ n by omega) (show 0 ≤ n by omega)
    rw [Int.mul_add] at this; omega
  refine pspec_of (md := 1) (rf := []) mixed tabOK noC_ok Tryz.func162 (by rfl) (by rfl) (by rfl) ?_
  repeat' ((conv => whnf); first | refine And.intro ?_ ?_ | with_reducible exact VC.mk rfl | exact Ok.mk | exact True.intro | refine Nx.mk ?_ | refine Fin.mk ?_ | intro _)
  all_goals ((try refine VC.mk ?_); (try simp only [CL.ncell, CL.cnt, vq] at *); (try omega))
  all_goals (first | (refine Sup.of ?_; first | rfl | (simp [*, resOf]; done)) | (refine Sup.via ?_; repeat' ((conv => whnf); first | refine And.intro ?_ ?_ | with_reducible exact VC.mk rfl | exact Ok.mk | exact True.intro | refine Nx.mk ?_ | refine Fin.mk ?_ | intro _); all_goals ((try refine VC.mk ?_); (try simp only [CL.ncell, CL.cnt, vq] at *); (try omega)); all_goals (try (simp [CL.sub]; done))))
theorem c152_spec (n s0 s1 x0 x1 b0 b1 r q i : Int) (l : List Int) (hn : 1 ≤ n ∧ n ≤ 16) (hi : 0 ≤ i ∧ i < n) (hl : (l.length : Int) = n * n) :
    PSpec Tryz.prog 163 [.int .i64 i, .ip (.pv [.int .i64 r, .int .i64 q, .isl (.ints .i64 l) .none]) 0, .ip (.pv [.int .i64 n, .int .i64 s0, .int .i64 s1, .int .i64 x0, .int .i64 x1, .int .i64 b0, .int .i64 b1]) 0] (.int .i64 (l.getD (n * i + n - 1 - i).toNat 0)) := by
  have h1 := mul_bd (A := 16) (B := 16) (show 0 ≤ n ∧ n ≤ 16 by omega) (show 0 ≤ i ∧ i ≤ 16 by omega)
  have h2 : n * i + n ≤ n * n := by
    have := Int.mul_le_mul_of_nonneg_left (show i + 1 ≤ n by omega) (show 0 ≤ n by omega)
    rw [Int.mul_add] at this; omega
  refine pspec_of (md := 1) (rf := []) mixed tabOK noC_ok Tryz.func163 (by rfl) (by rfl) (by rfl) ?_
  repeat' ((conv => whnf); first | refine And.intro ?_ ?_ | with_reducible exact VC.mk rfl | exact Ok.mk | exact True.intro | refine Nx.mk ?_ | refine Fin.mk ?_ | intro _)
  all_goals ((try refine VC.mk ?_); (try simp only [CL.ncell, CL.cnt, vq] at *); (try omega))
  all_goals (first | (refine Sup.of ?_; first | rfl | (simp [*, resOf]; done)) | (refine Sup.via ?_; repeat' ((conv => whnf); first | refine And.intro ?_ ?_ | with_reducible exact VC.mk rfl | exact Ok.mk | exact True.intro | refine Nx.mk ?_ | refine Fin.mk ?_ | intro _); all_goals ((try refine VC.mk ?_); (try simp only [CL.ncell, CL.cnt, vq] at *); (try omega)); all_goals (try (simp [CL.sub]; done))))
def gcdN (n a : Int) : Int := (Int.gcd (a % n) n : Int)
theorem gcdN_bd {n a : Int} (hn : 1 ≤ n ∧ n ≤ 16) : 1 ≤ gcdN n a ∧ gcdN n a ≤ 16 := by
  unfold gcdN
  have h1 : 0 < Int.gcd (a % n) n := Int.gcd_pos_of_ne_zero_right _ (by omega)
  have h2 : (Int.gcd (a % n) n : Int) ∣ n := Int.gcd_dvd_right ..
  have := Int.le_of_dvd (by omega) h2
  omega
def balAt (n : Int) (d e : Int) (h : Nat → Int) (i : Nat) : Bool := decide ((h i - 1) % n % d = (d - 1) / 2) && decide ((h i - 1) / n % e = (e - 1) / 2)
def balB (n : Int) (h : Nat → Int) (u v : Int) : Bool := !decide (gcdN n v % 2 = 0) && !decide (gcdN n u % 2 = 0) && (List.range n.toNat).all (balAt n (gcdN n v) (gcdN n u) h)
def balP : PSp := fun xs K => match xs with
  | [.agg [.int .i64 n, .int .i64 s0, .int .i64 s1, .int .i64 x0, .int .i64 x1, .int .i64 b0, .int .i64 b1], .fn (.func f) fs cs, .int .i64 u, .int .i64 v] =>
    VC ((1 ≤ n ∧ n ≤ 16) ∧ (-1000 ≤ u ∧ u ≤ 1000) ∧ -1000 ≤ v ∧ v ≤ 1000) ∧ ∃ h : Nat → Int, (∀ i : Nat, (i : Int) < n → (1 ≤ h i ∧ h i ≤ 1000) ∧ PSpec Tryz.prog f (fs ++ [.int .i64 i] ++ cs) (.int .i64 (h i))) ∧ K (.bp (balB n h u v))
  | _ => False
theorem bal_spec (n s0 s1 x0 x1 b0 b1 u v : Int) (hn : 1 ≤ n ∧ n ≤ 16) (hu' : -1000 ≤ u ∧ u ≤ 1000) (hv' : -1000 ≤ v ∧ v ≤ 1000) (f : Nat) (fs cs : List PV) (h : Nat → Int)
    (hh : ∀ i : Nat, (i : Int) < n → (1 ≤ h i ∧ h i ≤ 1000) ∧ PSpec Tryz.prog f (fs ++ [.int .i64 i] ++ cs) (.int .i64 (h i))) :
    PSpec Tryz.prog 165 [ruleV n s0 s1 x0 x1 b0 b1, .fn (.func f) fs cs, .int .i64 u, .int .i64 v] (.bp (balB n h u v)) := by
  refine pspec_open 1 (enters' Tryz.func165 (by rfl) (by rfl)) rfl (by simp) fun S0 w0 us vs hu hv => ?_
  have hY : ∀ r, YPOK Tryz.prog r (fromB S0 w0) (fnY f us vs fun xs K => match xs with
      | [.int .i64 i] => VC (0 ≤ i ∧ i < n) ∧ K (.int .i64 (h i.toNat))
      | _ => False) := fun r => fnY_ok (fs := fs) (cs := cs) (fun S w hb => ⟨hu.mono hb (.refl _), hv.mono hb (.refl _)⟩) fun xs K hk => by
    split at hk
    · rename_i i
      obtain ⟨⟨h1, h2⟩, hk⟩ := hk
      have := (hh i.toNat (by omega)).2
      rw [Int.toNat_of_nonneg h1] at this
      exact ⟨_, hk, this⟩
    · exact hk.elim
  have hC : CPOKB Tryz.prog (fromB S0 w0) (cpAdd 182 (pureCC cgcdP) noC) := CPOK.up (cpAdd_ok (pureCC_ok cgcd_ok) noC_ok) _
  have W : Walk Tryz.prog none (fromB S0 w0) tab.get _ _ := ⟨fromB_ok, mixed, tabOK, hC, hY none⟩
  obtain ⟨m, rfl⟩ : ∃ m : Nat, n = m := ⟨n.toNat, by omega⟩
  have d1 := gcdN_bd (n := (m : Int)) (a := v) hn
  have d2 := gcdN_bd (n := (m : Int)) (a := u) hn
  unfold balB gcdN
  unfold gcdN at d1 d2
  refine pspecB_of fromB_ok mixed tabOK (md := 0) (rf := []) hC (hY none) Tryz.func165 (by rfl) (by rfl) ?_
  repeat' ((conv => whnf); first | refine And.intro ?_ ?_ | with_reducible exact VC.mk rfl | exact Ok.mk | exact True.intro | refine Nx.mk ?_ | refine Fin.mk ?_ | intro _)
  all_goals ((try refine VC.mk ?_); (try simp only [CL.ncell, CL.cnt, vq] at *); (try omega))
  · rw [show (decide ((Int.gcd (u % m) m : Int) % 2 = 0)) = true from by simpa using ‹(Int.gcd (u % m) m : Int) % 2 = 0›]; simp; exact Sup.via ⟨⟨rfl⟩, trivial⟩
  · generalize (Int.gcd (v % m) m : Int) = d at *
    generalize (Int.gcd (u % m) m : Int) = e at *
    rw [show decide (d % 2 = 0) = false from by simpa using ‹¬ d % 2 = 0›, show decide (e % 2 = 0) = false from by simpa using ‹¬ e % 2 = 0›]
    simp only [Bool.not_false, Bool.true_and, Int.toNat_natCast]
    conv => whnf
    refine loop_of (X := Nat) (fun i => i ≤ m ∧ ∀ j, j < i → balAt m d e h j = true) (fun i => [(32, .int .i64 i)]) (fun i => []) (fun i => m - i) 0 W (by rfl) ⟨by omega, fun j hj => by omega⟩ ?_ ?_
    · repeat' ((conv => whnf); first | refine And.intro ?_ ?_ | with_reducible exact VC.mk rfl | exact Ok.mk | exact True.intro | refine Nx.mk ?_ | refine Fin.mk ?_ | intro _)
      all_goals ((try refine VC.mk ?_); (try simp only [CL.ncell, CL.cnt, vq] at *); (try omega))
    · rintro i ⟨hi, hok⟩
      by_cases hlt : i < m
      · have b1 := (hh i (by omega)).1
        have b2 : 0 ≤ (h i - 1) % m ∧ (h i - 1) % m < m := ⟨Int.emod_nonneg _ (by omega), Int.emod_lt_of_pos _ (by omega)⟩
        have b3 : 0 ≤ (h i - 1) / m ∧ (h i - 1) / m ≤ 1000 := ⟨Int.ediv_nonneg (by omega) (by omega), by have := Int.ediv_le_self (a := h i - 1) m (by omega); omega⟩
        have hbad : balAt m d e h i = false → Sup (resOf [.bool false]) (.bp ((List.range m).all (balAt m d e h))) := fun hf => by rw [all_false hlt hf]; all_goals (first | (refine Sup.of ?_; first | rfl | (simp [*, resOf]; done)) | (refine Sup.via ?_; repeat' ((conv => whnf); first | refine And.intro ?_ ?_ | with_reducible exact VC.mk rfl | exact Ok.mk | exact True.intro | refine Nx.mk ?_ | refine Fin.mk ?_ | intro _); all_goals ((try refine VC.mk ?_); (try simp only [CL.ncell, CL.cnt, vq] at *); (try omega)); all_goals (try (simp [CL.sub]; done))))
        repeat' ((conv => whnf); first | refine And.intro ?_ ?_ | with_reducible exact VC.mk rfl | exact Ok.mk | exact True.intro | refine Nx.mk ?_ | refine Fin.mk ?_ | intro _)
        all_goals ((try refine VC.mk ?_); (try simp only [CL.ncell, CL.cnt, vq] at *); (try omega))
        · refine hbad ?_; unfold balAt; simp_all
        · refine ⟨i + 1, [], ⟨⟨by omega, fun j hj => ?_⟩, by omega⟩, ?_⟩
          · by_cases e : j = i
            · subst e; unfold balAt; simp_all
            · exact hok j (by omega)
          · repeat' ((conv => whnf); first | refine And.intro ?_ ?_ | with_reducible exact VC.mk rfl | exact Ok.mk | exact True.intro | refine Nx.mk ?_ | refine Fin.mk ?_ | intro _)
            all_goals ((try refine VC.mk ?_); (try simp only [CL.ncell, CL.cnt, vq] at *); (try omega))
        · refine hbad ?_; unfold balAt; simp_all
      · have : m = i := by omega
        subst this
        rw [all_true hok]
        repeat' ((conv => whnf); first | refine And.intro ?_ ?_ | with_reducible exact VC.mk rfl | exact Ok.mk | exact True.intro | refine Nx.mk ?_ | refine Fin.mk ?_ | intro _)
        all_goals ((try refine VC.mk ?_); (try simp only [CL.ncell, CL.cnt, vq] at *); (try omega))
        all_goals (first | (refine Sup.of ?_; first | rfl | (simp [*, resOf]; done)) | (refine Sup.via ?_; repeat' ((conv => whnf); first | refine And.intro ?_ ?_ | with_reducible exact VC.mk rfl | exact Ok.mk | exact True.intro | refine Nx.mk ?_ | refine Fin.mk ?_ | intro _); all_goals ((try refine VC.mk ?_); (try simp only [CL.ncell, CL.cnt, vq] at *); (try omega)); all_goals (try (simp [CL.sub]; done))))
  · rw [show (decide ((Int.gcd (v % m) m : Int) % 2 = 0)) = true from by simpa using ‹(Int.gcd (v % m) m : Int) % 2 = 0›]; simp; exact Sup.via ⟨⟨rfl⟩, trivial⟩
theorem bal_ok : POK Tryz.prog 165 balP := by
  intro xs K h
  unfold balP at h
  split at h
  · obtain ⟨⟨h1, h2, h3⟩, hh, h4, hK⟩ := h
    exact ⟨_, hK, bal_spec _ _ _ _ _ _ _ _ _ h1 h2 h3 _ _ _ hh h4⟩
  · exact h.elim
end Go.Eng.YtobnbkoeocdhbaaGreatDoor
namespace Go.Eng.YtobnbkoeocdhbaaGreatDoor
set_option linter.unusedSimpArgs false
open Go.Proofs
set_option linter.unusedVariables false
/-- what is free of earlier numbers -/
theorem gAt_free (c : Nat → Nat) (N : Nat) : ∀ (x i : Nat), (∀ j, j < x → c j ≠ i) → (gAt c N x).getD i 0 = 0 := by
  intro x
  induction x with
  | zero =>
    intro i _
    rw [gAt_zero, List.getD_eq_getElem?_getD, List.getElem?_replicate]
    split <;> rfl
  | succ x ih =>
    intro i h
    rw [gAt_succ, List.getD_eq_getElem?_getD, List.getElem?_set_ne (h x (by omega)), ← List.getD_eq_getElem?_getD]
    exact ih i fun j hj => h j (by omega)
theorem meetOf_none {c : Nat → Nat} {N : Nat} (h : ∀ i j, i < j → j < N → c i ≠ c j) : meetOf c N = none := by
  refine find_none fun y hy => ?_
  unfold meetAt
  rw [gAt_free c N y (c y) fun j hj => h j y hj hy]
  simp
theorem dvd_of_coprime {n a b : Int} (h : Int.gcd (b % n) n = 1) (hd : n ∣ a * b) : n ∣ a := by
  have h1 : n ∣ a * (b % n) := by
    obtain ⟨k, hk⟩ := hd
    have := Int.emod_add_mul_ediv b n
    exact ⟨k - a * (b / n), by grind⟩
  have h2 := Int.natAbs_dvd_natAbs.2 h1
  rw [Int.natAbs_mul] at h2
  exact Int.natAbs_dvd_natAbs.1 (Nat.Coprime.dvd_of_dvd_mul_right (Nat.Coprime.symm h) h2)
theorem emod_eq_dvd {n a b : Int} (h : a % n = b % n) : n ∣ a - b := by
  rw [Int.dvd_iff_emod_eq_zero]; exact Int.emod_eq_emod_iff_emod_sub_eq_zero.1 h
theorem small_dvd {n a : Int} (hn : 0 < n) (h : n ∣ a) (h1 : -n < a) (h2 : a < n) : a = 0 := by
  obtain ⟨k, rfl⟩ := h
  have : k = 0 := by
    rcases Int.lt_trichotomy k 0 with hk | hk | hk
    · have := Int.mul_le_mul_of_nonneg_left (show k ≤ -1 by omega) (show 0 ≤ n by omega); omega
    · exact hk
    · have := Int.mul_le_mul_of_nonneg_left (show 1 ≤ k by omega) (show 0 ≤ n by omega); omega
  rw [this]; simp
theorem cell_inj {n s0 s1 x0 x1 b0 b1 : Int} (hn : 1 ≤ n) (hs : isSq n x0 x1 b0 b1 = true) (i j : Nat) (hi : (i : Int) < n * n) (hj : (j : Int) < n * n)
    (h : cellN n s0 s1 x0 x1 b0 b1 i = cellN n s0 s1 x0 x1 b0 b1 j) : i = j := by
  have hd : Int.gcd ((x0 * b1 - x1 * b0) % n) n = 1 := by
    unfold isSq coprime at hs
    exact of_decide_eq_true hs
  have ci := cellOf_bd n s0 s1 x0 x1 b0 b1 ((i : Int) + 1) (by omega)
  have cj := cellOf_bd n s0 s1 x0 x1 b0 b1 ((j : Int) + 1) (by omega)
  have he : cellOf n s0 s1 x0 x1 b0 b1 ((i : Int) + 1) = cellOf n s0 s1 x0 x1 b0 b1 ((j : Int) + 1) := by unfold cellN at h; omega
  rw [cellOf_eq, cellOf_eq] at he
  have r1 := rowOf_bd n s0 x0 b0 ((i : Int) + 1) (by omega)
  have r2 := rowOf_bd n s0 x0 b0 ((j : Int) + 1) (by omega)
  have q1 := rowOf_bd n s1 x1 b1 ((i : Int) + 1) (by omega)
  have q2 := rowOf_bd n s1 x1 b1 ((j : Int) + 1) (by omega)
  have er : rowOf n s0 x0 b0 ((i : Int) + 1) = rowOf n s0 x0 b0 ((j : Int) + 1) := by
    have := small_dvd (n := n) (a := rowOf n s1 x1 b1 ((j : Int) + 1) - rowOf n s1 x1 b1 ((i : Int) + 1)) (by omega) ⟨rowOf n s0 x0 b0 ((i : Int) + 1) - rowOf n s0 x0 b0 ((j : Int) + 1), by rw [Int.mul_sub, Int.mul_comm n, Int.mul_comm n]; omega⟩ (by omega) (by omega)
    have h0 : (rowOf n s0 x0 b0 ((i : Int) + 1) - rowOf n s0 x0 b0 ((j : Int) + 1)) * n = 0 := by rw [Int.sub_mul]; omega
    rcases Int.mul_eq_zero.1 h0 with h0 | h0 <;> omega
  have eq : rowOf n s1 x1 b1 ((i : Int) + 1) = rowOf n s1 x1 b1 ((j : Int) + 1) := by rw [er] at he; omega
  unfold rowOf at er eq
  simp only [Int.add_sub_cancel] at er eq
  have d1 := emod_eq_dvd er
  have d2 := emod_eq_dvd eq
  obtain ⟨a, ha⟩ : ∃ a, a = (i : Int) % n := ⟨_, rfl⟩
  obtain ⟨b, hb⟩ : ∃ b, b = (i : Int) / n := ⟨_, rfl⟩
  obtain ⟨a', ha'⟩ : ∃ a, a = (j : Int) % n := ⟨_, rfl⟩
  obtain ⟨b', hb'⟩ : ∃ b, b = (j : Int) / n := ⟨_, rfl⟩
  rw [← ha, ← hb, ← ha', ← hb'] at d1 d2
  have e1 : n ∣ (a - a') * (x0 * b1 - x1 * b0) := by
    obtain ⟨k1, h1⟩ := d1
    obtain ⟨k2, h2⟩ := d2
    exact ⟨k1 * b1 - k2 * b0, by grind⟩
  have e2 : n ∣ (b - b') * (x0 * b1 - x1 * b0) := by
    obtain ⟨k1, h1⟩ := d1
    obtain ⟨k2, h2⟩ := d2
    exact ⟨k2 * x0 - k1 * x1, by grind⟩
  have f1 := small_dvd (by omega) (dvd_of_coprime hd e1) (by have := Int.emod_nonneg (i : Int) (show n ≠ 0 by omega); have := Int.emod_lt_of_pos (j : Int) (show 0 < n by omega); omega) (by have := Int.emod_nonneg (j : Int) (show n ≠ 0 by omega); have := Int.emod_lt_of_pos (i : Int) (show 0 < n by omega); omega)
  have hbi : 0 ≤ b ∧ b < n := ⟨by rw [hb]; exact Int.ediv_nonneg (by omega) (by omega), by rw [hb]; exact Int.ediv_lt_of_lt_mul (by omega) hi⟩
  have hbj : 0 ≤ b' ∧ b' < n := ⟨by rw [hb']; exact Int.ediv_nonneg (by omega) (by omega), by rw [hb']; exact Int.ediv_lt_of_lt_mul (by omega) hj⟩
  have f2 := small_dvd (by omega) (dvd_of_coprime hd e2) (by omega) (by omega)
  have g1 := Int.emod_add_mul_ediv (i : Int) n
  have g2 := Int.emod_add_mul_ediv (j : Int) n
  rw [← ha, ← hb] at g1
  rw [← ha', ← hb'] at g2
  have : b = b' := by omega
  rw [this] at g1
  omega
theorem pigeon : ∀ (N : Nat) (c : Nat → Nat), (∀ i, i < N + 1 → c i < N) → ∃ i j, i < j ∧ j < N + 1 ∧ c i = c j := by
  intro N
  induction N with
  | zero => intro c h; have := h 0 (by omega); omega
  | succ N ih =>
    intro c h
    by_cases hv : ∃ i, i < N + 1 ∧ c i = c (N + 1)
    · obtain ⟨i, h1, h2⟩ := hv; exact ⟨i, N + 1, by omega, by omega, h2⟩
    · have hne : ∀ i, i < N + 1 → c i ≠ c (N + 1) := fun i hi e => hv ⟨i, hi, e⟩
      have hl := h (N + 1) (by omega)
      obtain ⟨i, j, h1, h2, h3⟩ := ih (fun i => if c i = N then c (N + 1) else c i) (fun i hi => by
        have a := h i (by omega)
        have b := hne i hi
        by_cases e : c i = N
        · simp only [e, if_true]; omega
        · simp only [e, if_false]; omega)
      refine ⟨i, j, h1, by omega, ?_⟩
      have a := hne i (by omega)
      have b := hne j (by omega)
      by_cases e1 : c i = N
      · by_cases e2 : c j = N
        · omega
        · simp only [e1, e2, if_true, if_false] at h3; omega
      · by_cases e2 : c j = N
        · simp only [e1, e2, if_true, if_false] at h3; omega
        · simp only [e1, e2, if_false] at h3; exact h3
theorem inj_surj {c : Nat → Nat} {N : Nat} (hb : ∀ i, i < N → c i < N) (h : ∀ i j, i < j → j < N → c i ≠ c j) (y : Nat) (hy : y < N) : ∃ i, i < N ∧ c i = y := by
  rcases Classical.em (∃ i, i < N ∧ c i = y) with hh | hh
  · exact hh
  · exfalso
    have hne : ∀ i, i < N → c i ≠ y := fun i hi e => hh ⟨i, hi, e⟩
    obtain ⟨M, rfl⟩ : ∃ M, N = M + 1 := ⟨N - 1, by omega⟩
    obtain ⟨i, j, h1, h2, h3⟩ := pigeon M (fun i => if c i = M then y else c i) (fun i hi => by
      have a := hb i hi
      have b := hne i hi
      by_cases e : c i = M
      · simp only [e, if_true]; omega
      · simp only [e, if_false]; omega)
    have a := hne i (by omega)
    have b := hne j (by omega)
    have d := h i j h1 h2
    by_cases e1 : c i = M
    · by_cases e2 : c j = M
      · omega
      · simp only [e1, e2, if_true, if_false] at h3; omega
    · by_cases e2 : c j = M
      · simp only [e1, e2, if_true, if_false] at h3; omega
      · simp only [e1, e2, if_false] at h3; omega
theorem gAt_at {c : Nat → Nat} {N : Nat} (hb : ∀ i, i < N → c i < N) (h : ∀ i j, i < j → j < N → c i ≠ c j) : ∀ (x i : Nat), i < x → x ≤ N → (gAt c N x).getD (c i) 0 = (i : Int) + 1 := by
  intro x
  induction x with
  | zero => intro i hi; omega
  | succ x ih =>
    intro i hi hx
    rw [gAt_succ, List.getD_eq_getElem?_getD]
    by_cases e : i = x
    · subst e
      rw [List.getElem?_set_self (by rw [gAt_len]; exact hb i (by omega))]; rfl
    · rw [List.getElem?_set_ne (Ne.symm (h i x (by omega) (by omega))), ← List.getD_eq_getElem?_getD]
      exact ih i (by omega) (by omega)
/-- where no two numbers meet, each cell has one -/
theorem gAt_full {c : Nat → Nat} {N : Nat} (hb : ∀ i, i < N → c i < N) (h : ∀ i j, i < j → j < N → c i ≠ c j) (y : Nat) (hy : y < N) : ∃ i, i < N ∧ c i = y ∧ (gAt c N N).getD y 0 = (i : Int) + 1 := by
  obtain ⟨i, h1, h2⟩ := inj_surj hb h y hy
  exact ⟨i, h1, h2, by rw [← h2]; exact gAt_at hb h N i h1 (Nat.le_refl _)⟩
theorem meetOf_inj {c : Nat → Nat} {N : Nat} (hb : ∀ i, i < N → c i < N) (h : meetOf c N = none) : ∀ i j, i < j → j < N → c i ≠ c j := by
  have hm : ∀ y, y < N → (gAt c N y).getD (c y) 0 = 0 := fun y hy => by
    unfold meetOf at h
    rw [List.find?_eq_none] at h
    have := h y (List.mem_range.2 hy)
    unfold meetAt at this
    simpa using this
  -- of the numbers laid so far, each lies where it was laid
  have key : ∀ x, x ≤ N → ∀ i, i < x → (gAt c N x).getD (c i) 0 = (i : Int) + 1 := by
    intro x
    induction x with
    | zero => intro _ i hi; omega
    | succ x ih =>
      intro hx i hi
      rw [gAt_succ, List.getD_eq_getElem?_getD]
      by_cases e : c i = c x
      · by_cases e' : i = x
        · subst e'; rw [List.getElem?_set_self (by rw [gAt_len]; exact hb i (by omega))]; rfl
        · have h1 := ih (by omega) i (by omega)
          have h2 := hm x (by omega)
          rw [← e, h1] at h2; omega
      · have e' : i ≠ x := fun h => e (by rw [h])
        rw [List.getElem?_set_ne (Ne.symm e), ← List.getD_eq_getElem?_getD]
        exact ih (by omega) i (by omega)
  intro i j hij hj e
  have h1 := key j (by omega) i hij
  have h2 := hm j hj
  rw [← e, h1] at h2; omega
theorem cellN_lt {n s0 s1 x0 x1 b0 b1 : Int} (hn : 1 ≤ n) (y : Nat) : cellN n s0 s1 x0 x1 b0 b1 y < (n * n).toNat := by
  have := cellOf_bd n s0 s1 x0 x1 b0 b1 ((y : Int) + 1) (by omega)
  unfold cellN; omega
theorem meet_none {n s0 s1 x0 x1 b0 b1 : Int} (hn : 1 ≤ n) (hs : isSq n x0 x1 b0 b1 = true) : meetOf (cellN n s0 s1 x0 x1 b0 b1) (n * n).toNat = none :=
  meetOf_none fun i j hij hj h => by
    have := cell_inj hn hs i j (by omega) (by omega) h
    omega
end Go.Eng.YtobnbkoeocdhbaaGreatDoor
namespace Go.Eng.YtobnbkoeocdhbaaGreatDoor
open Go.Proofs
set_option maxRecDepth 100000
set_option maxHeartbeats 0
set_option linter.unusedVariables false
set_option linter.unusedSimpArgs false
def mainAt (n : Int) (l : List Int) (i : Nat) : Int := l.getD (n * i + i).toNat 0
def antiAt (n : Int) (l : List Int) (i : Nat) : Int := l.getD (n * i + n - 1 - i).toNat 0
def sqL (n s0 s1 x0 x1 b0 b1 : Int) : List Int := gAt (cellN n s0 s1 x0 x1 b0 b1) (n * n).toNat (n * n).toNat
def isMag (n s0 s1 x0 x1 b0 b1 : Int) : Bool := isSemi n x0 x1 b0 b1 && (balB n (mainAt n (sqL n s0 s1 x0 x1 b0 b1)) (x0 - x1) (b0 - b1) && balB n (antiAt n (sqL n s0 s1 x0 x1 b0 b1)) (x0 + x1) (b0 + b1))
noncomputable def cpG : CPT := cpAdd 125 (pureCC semiP) (cpAdd 42 (pureCC layP) (cpAdd 165 (pureCC balP) (cpAdd 164 (pureCC allBP) noC)))
theorem cpG_ok : CPOK Tryz.prog cpG := cpAdd_ok (pureCC_ok semi_ok) (cpAdd_ok (pureCC_ok lay_ok) (cpAdd_ok (pureCC_ok bal_ok) (cpAdd_ok (pureCC_ok allB_ok) noC_ok)))
theorem mag_spec (n s0 s1 x0 x1 b0 b1 : Int) (hn : 1 ≤ n ∧ n ≤ 16) (h : ∀ x ∈ [s0, s1, x0, x1, b0, b1], 0 ≤ x ∧ x < n) : PSpec Tryz.prog 126 [ruleV n s0 s1 x0 x1 b0 b1] (.bp (isMag n s0 s1 x0 x1 b0 b1)) := by
  have hh := h
  simp only [List.mem_cons, List.not_mem_nil, or_false, forall_eq_or_imp, forall_eq] at h
  obtain ⟨h1, h2, h3, h4, h5, h6⟩ := h
  cases hs : isSemi n x0 x1 b0 b1 with
  | false =>
    unfold isMag
    rw [hs]
    refine pspec_of (md := 1) (rf := []) mixed tabOK cpG_ok Tryz.func126 (by rfl) (by rfl) (by rfl) ?_
    repeat' ((conv => whnf); first | refine And.intro ?_ ?_ | with_reducible exact VC.mk rfl | exact Ok.mk | exact True.intro | refine Nx.mk ?_ | refine Fin.mk ?_ | intro _)
    all_goals ((try refine VC.mk ?_); (try simp only [CL.ncell, CL.cnt, vq] at *); (try omega))
    · exact ⟨hn, hh⟩
    · simp only [Bool.false_and]; all_goals (first | (refine Sup.of ?_; first | rfl | (simp [*, resOf]; done)) | (refine Sup.via ?_; repeat' ((conv => whnf); first | refine And.intro ?_ ?_ | with_reducible exact VC.mk rfl | exact Ok.mk | exact True.intro | refine Nx.mk ?_ | refine Fin.mk ?_ | intro _); all_goals ((try refine VC.mk ?_); (try simp only [CL.ncell, CL.cnt, vq] at *); (try omega)); all_goals (try (simp [CL.sub]; done))))
    · exact ⟨hn, hh⟩
    · exfalso; simp_all
  | true =>
    have hsq : isSq n x0 x1 b0 b1 = true := by unfold isSemi at hs; simp at hs; exact hs.1
    have hm := meet_none (s0 := s0) (s1 := s1) hn.1 hsq
    obtain ⟨l, hl⟩ : ∃ l, l = sqL n s0 s1 x0 x1 b0 b1 := ⟨_, rfl⟩
    have hnn := mul_bd (show 0 ≤ n ∧ n ≤ 16 by omega) (show 0 ≤ n ∧ n ≤ 16 by omega)
    have hlen : (l.length : Int) = n * n := by rw [hl]; unfold sqL; rw [gAt_len]; omega
    have hval : ∀ k : Int, 0 ≤ k → k < n * n → 1 ≤ l.getD k.toNat 0 ∧ l.getD k.toNat 0 ≤ 1000 := fun k h1 h2 => by
      obtain ⟨i, q1, q2, q3⟩ := gAt_full (fun i _ => cellN_lt (s0 := s0) (s1 := s1) (x0 := x0) (x1 := x1) (b0 := b0) (b1 := b1) hn.1 i) (meetOf_inj (fun i _ => cellN_lt hn.1 i) hm) k.toNat (by omega)
      rw [hl]; unfold sqL; rw [q3]; omega
    have hidx : ∀ i : Nat, (i : Int) < n → (0 ≤ n * i ∧ n * i + n ≤ n * n) := fun i hi => by
      have := Int.mul_le_mul_of_nonneg_left (show (i : Int) + 1 ≤ n by omega) (show 0 ≤ n by omega)
      rw [Int.mul_add] at this
      exact ⟨Int.mul_nonneg (by omega) (by omega), by omega⟩
    unfold isMag
    rw [hs, ← hl]
    refine pspec_of (md := 1) (rf := []) mixed tabOK cpG_ok Tryz.func126 (by rfl) (by rfl) (by rfl) ?_
    repeat' ((conv => whnf); first | refine And.intro ?_ ?_ | with_reducible exact VC.mk rfl | exact Ok.mk | exact True.intro | refine Nx.mk ?_ | refine Fin.mk ?_ | intro _)
    all_goals ((try refine VC.mk ?_); (try simp only [CL.ncell, CL.cnt, vq] at *); (try omega))
    · exact ⟨hn, hh⟩
    · exfalso; simp_all
    · exact ⟨hn, hh⟩
    · simp only [layV, hm]
      rw [show gAt (cellN n s0 s1 x0 x1 b0 b1) (n * n).toNat (n * n).toNat = l from hl.symm]
      repeat' ((conv => whnf); first | refine And.intro ?_ ?_ | with_reducible exact VC.mk rfl | exact Ok.mk | exact True.intro | refine Nx.mk ?_ | refine Fin.mk ?_ | intro _)
      all_goals ((try refine VC.mk ?_); (try simp only [CL.ncell, CL.cnt, vq] at *); (try omega))
      refine ⟨mainAt n l, fun i hi => ⟨hval _ (by have := hidx i hi; omega) (by have := hidx i hi; omega), c151_spec n s0 s1 x0 x1 b0 b1 n n i l hn (by omega) hlen⟩, ?_⟩
      repeat' ((conv => whnf); first | refine And.intro ?_ ?_ | with_reducible exact VC.mk rfl | exact Ok.mk | exact True.intro | refine Nx.mk ?_ | refine Fin.mk ?_ | intro _)
      all_goals ((try refine VC.mk ?_); (try simp only [CL.ncell, CL.cnt, vq] at *); (try omega))
      refine ⟨antiAt n l, fun i hi => ⟨hval _ (by have := hidx i hi; omega) (by have := hidx i hi; omega), c152_spec n s0 s1 x0 x1 b0 b1 n n i l hn (by omega) hlen⟩, ?_⟩
      repeat' ((conv => whnf); first | refine And.intro ?_ ?_ | with_reducible exact VC.mk rfl | exact Ok.mk | exact True.intro | refine Nx.mk ?_ | refine Fin.mk ?_ | intro _)
      all_goals ((try refine VC.mk ?_); (try simp only [CL.ncell, CL.cnt, vq] at *); (try omega))
      refine Sup.via ?_
      repeat' ((conv => whnf); first | refine And.intro ?_ ?_ | with_reducible exact VC.mk rfl | exact Ok.mk | exact True.intro | refine Nx.mk ?_ | refine Fin.mk ?_ | intro _)
      refine VC.mk ?_
      simp
def magP : PSp := fun xs K => match xs with
  | [.agg [.int .i64 n, .int .i64 s0, .int .i64 s1, .int .i64 x0, .int .i64 x1, .int .i64 b0, .int .i64 b1]] => VC ((1 ≤ n ∧ n ≤ 16) ∧ ∀ x ∈ [s0, s1, x0, x1, b0, b1], 0 ≤ x ∧ x < n) ∧ K (.bp (isMag n s0 s1 x0 x1 b0 b1))
  | _ => False
theorem mag_ok : POK Tryz.prog 126 magP := by
  intro xs K h
  unfold magP at h
  split at h
  · exact ⟨_, h.2, mag_spec _ _ _ _ _ _ _ h.1.get.1 h.1.get.2⟩
  · exact h.elim
/-! the table of kinds -/
abbrev kSq : ByteArray := ⟨#[115, 113, 117, 97, 114, 101]⟩
abbrev kSemi : ByteArray := ⟨#[115, 101, 109, 105, 109, 97, 103, 105, 99]⟩
abbrev kMag : ByteArray := ⟨#[109, 97, 103, 105, 99]⟩
abbrev kPan : ByteArray := ⟨#[112, 97, 110, 100, 105, 97, 103, 111, 110, 97, 108]⟩
def kindsL : LSp := fun xs objs K => match xs, objs with
  | [], [] => K [.rm 0] [.map [(.str kSq, .agg [.fn (.func 124) [] [], .int .i64 0]), (.str kSemi, .agg [.fn (.func 125) [] [], .int .i64 1]), (.str kMag, .agg [.fn (.func 126) [] [], .int .i64 2]), (.str kPan, .agg [.fn (.func 127) [] [], .int .i64 3])]]
  | _, _ => False
theorem kinds_spec : LSpec Tryz.prog 84 [] [] [.rm 0] [.map [(.str kSq, .agg [.fn (.func 124) [] [], .int .i64 0]), (.str kSemi, .agg [.fn (.func 125) [] [], .int .i64 1]), (.str kMag, .agg [.fn (.func 126) [] [], .int .i64 2]), (.str kPan, .agg [.fn (.func 127) [] [], .int .i64 3])]] := by
  refine lspec_of (md := 1) (rf := []) mixed tabOK noC_ok 0 [] Tryz.func84 (by rfl) (by rfl) (by rfl) ?_
  repeat' ((conv => whnf); first | refine And.intro ?_ ?_ | with_reducible exact VC.mk rfl | exact Ok.mk | exact True.intro | refine Nx.mk ?_ | refine Fin.mk ?_ | intro _)
  all_goals exact absurd ‹_› (by decide)
theorem kinds_ok : LOK Tryz.prog 84 kindsL := by
  intro xs objs K h
  unfold kindsL at h
  split at h
  · exact ⟨_, _, h, kinds_spec⟩
  · exact h.elim
/-! known -/
abbrev stepV (n s0 s1 x0 x1 b0 b1 : Int) : PV := .agg [.int .i64 n, .int .i64 s0, .int .i64 s1, .int .i64 x0, .int .i64 x1, .int .i64 b0, .int .i64 b1]
abbrev knownE (e : Int) : PV := .tup [ruleV 0 0 0 0 0 0 0, .agg [.nilf, .int .i64 0], .int .i64 e]
abbrev knownK (n s0 s1 x0 x1 b0 b1 : Int) (f : Nat) (g : Int) : PV := .tup [ruleV n (s0 % n) (s1 % n) (x0 % n) (x1 % n) (b0 % n) (b1 % n), .agg [.fn (.func f) [] [], .int .i64 g], .int .i64 0]
def noKind (s : ByteArray) : Prop := s ≠ kSq ∧ s ≠ kSemi ∧ s ≠ kMag ∧ s ≠ kPan
noncomputable def cpN : CPT := cpAdd 84 (lendCC [] kindsL) (cpAdd 40 (pureCC checkStepP) (cpAdd 41 (pureCC reducedP) cp2))
theorem cpN_ok : CPOK Tryz.prog cpN := cpAdd_ok (lendCC_ok [] kinds_ok) (cpAdd_ok (pureCC_ok checkStep_ok) (cpAdd_ok (pureCC_ok reduced_ok) cp2_ok))
theorem known_err (n s0 s1 x0 x1 b0 b1 : Int) (s : ByteArray) (h : stepErr n s0 s1 x0 x1 b0 b1 ≠ 0) : PSpec Tryz.prog 43 [stepV n s0 s1 x0 x1 b0 b1, .str s] (knownE (stepErr n s0 s1 x0 x1 b0 b1)) := by
  refine pspec_of (md := 1) (rf := []) mixed tabOK cpN_ok Tryz.func43 (by rfl) (by rfl) (by rfl) ?_
  repeat' ((conv => whnf); first | refine And.intro ?_ ?_ | with_reducible exact VC.mk rfl | exact Ok.mk | exact True.intro | refine Nx.mk ?_ | refine Fin.mk ?_ | intro _)
  all_goals ((try refine VC.mk ?_); (try simp only [CL.ncell, CL.cnt, vq] at *); (try omega))
  all_goals first | (exfalso; simp_all [firstOf]; done) | (refine Sup.of ?_; simp_all [resOf, firstOf, knownE, ruleV]; done)
theorem known_none (n s0 s1 x0 x1 b0 b1 : Int) (s : ByteArray) (h : stepErr n s0 s1 x0 x1 b0 b1 = 0) (hs : noKind s) : PSpec Tryz.prog 43 [stepV n s0 s1 x0 x1 b0 b1, .str s] (knownE 13) := by
  obtain ⟨k1, k2, k3, k4⟩ := hs
  refine pspec_of (md := 1) (rf := []) mixed tabOK cpN_ok Tryz.func43 (by rfl) (by rfl) (by rfl) ?_
  repeat' ((conv => whnf); first | refine And.intro ?_ ?_ | with_reducible exact VC.mk rfl | exact Ok.mk | exact True.intro | refine Nx.mk ?_ | refine Fin.mk ?_ | intro _)
  all_goals ((try refine VC.mk ?_); (try simp only [CL.ncell, CL.cnt, vq] at *); (try omega))
  all_goals first | (exfalso; contradiction) | (exfalso; simp_all [firstOf]; done) | (refine Sup.of ?_; simp_all [resOf, firstOf, knownE, ruleV]; done)
theorem known_sq (n s0 s1 x0 x1 b0 b1 : Int) (h : stepErr n s0 s1 x0 x1 b0 b1 = 0) : PSpec Tryz.prog 43 [stepV n s0 s1 x0 x1 b0 b1, .str kSq] (knownK n s0 s1 x0 x1 b0 b1 124 0) := by
  obtain ⟨h1, h2⟩ := stepErr_zero h
  have h10 : (0 < n ∧ n ≤ 1000000) ∧ ∀ x ∈ [s0, s1, x0, x1, b0, b1], -4611686018427387904 ≤ x ∧ x ≤ 4611686018427387904 := ⟨by omega, fun x hx => by have := h2 x hx; omega⟩
  refine pspec_of (md := 1) (rf := []) mixed tabOK cpN_ok Tryz.func43 (by rfl) (by rfl) (by rfl) ?_
  repeat' ((conv => whnf); first | refine And.intro ?_ ?_ | with_reducible exact VC.mk rfl | exact Ok.mk | exact True.intro | refine Nx.mk ?_ | refine Fin.mk ?_ | intro _)
  all_goals ((try refine VC.mk ?_); (try simp only [CL.ncell, CL.cnt, vq] at *); (try omega))
  all_goals first | (exfalso; exact absurd ‹_ = (_ : ByteArray)› (by decide)) | (with_reducible exact h10) | (exfalso; simp_all [firstOf]; done) | (refine Sup.of ?_; simp_all [resOf, firstOf, knownK, ruleV]; done)
theorem known_semi (n s0 s1 x0 x1 b0 b1 : Int) (h : stepErr n s0 s1 x0 x1 b0 b1 = 0) : PSpec Tryz.prog 43 [stepV n s0 s1 x0 x1 b0 b1, .str kSemi] (knownK n s0 s1 x0 x1 b0 b1 125 1) := by
  obtain ⟨h1, h2⟩ := stepErr_zero h
  have h10 : (0 < n ∧ n ≤ 1000000) ∧ ∀ x ∈ [s0, s1, x0, x1, b0, b1], -4611686018427387904 ≤ x ∧ x ≤ 4611686018427387904 := ⟨by omega, fun x hx => by have := h2 x hx; omega⟩
  refine pspec_of (md := 1) (rf := []) mixed tabOK cpN_ok Tryz.func43 (by rfl) (by rfl) (by rfl) ?_
  repeat' ((conv => whnf); first | refine And.intro ?_ ?_ | with_reducible exact VC.mk rfl | exact Ok.mk | exact True.intro | refine Nx.mk ?_ | refine Fin.mk ?_ | intro _)
  all_goals ((try refine VC.mk ?_); (try simp only [CL.ncell, CL.cnt, vq] at *); (try omega))
  all_goals first | (exfalso; exact absurd ‹_ = (_ : ByteArray)› (by decide)) | (with_reducible exact h10) | (exfalso; simp_all [firstOf]; done) | (refine Sup.of ?_; simp_all [resOf, firstOf, knownK, ruleV]; done)
theorem known_mag (n s0 s1 x0 x1 b0 b1 : Int) (h : stepErr n s0 s1 x0 x1 b0 b1 = 0) : PSpec Tryz.prog 43 [stepV n s0 s1 x0 x1 b0 b1, .str kMag] (knownK n s0 s1 x0 x1 b0 b1 126 2) := by
  obtain ⟨h1, h2⟩ := stepErr_zero h
  have h10 : (0 < n ∧ n ≤ 1000000) ∧ ∀ x ∈ [s0, s1, x0, x1, b0, b1], -4611686018427387904 ≤ x ∧ x ≤ 4611686018427387904 := ⟨by omega, fun x hx => by have := h2 x hx; omega⟩
  refine pspec_of (md := 1) (rf := []) mixed tabOK cpN_ok Tryz.func43 (by rfl) (by rfl) (by rfl) ?_
  repeat' ((conv => whnf); first | refine And.intro ?_ ?_ | with_reducible exact VC.mk rfl | exact Ok.mk | exact True.intro | refine Nx.mk ?_ | refine Fin.mk ?_ | intro _)
  all_goals ((try refine VC.mk ?_); (try simp only [CL.ncell, CL.cnt, vq] at *); (try omega))
  all_goals first | (exfalso; exact absurd ‹_ = (_ : ByteArray)› (by decide)) | (with_reducible exact h10) | (exfalso; simp_all [firstOf]; done) | (refine Sup.of ?_; simp_all [resOf, firstOf, knownK, ruleV]; done)
theorem known_pan (n s0 s1 x0 x1 b0 b1 : Int) (h : stepErr n s0 s1 x0 x1 b0 b1 = 0) : PSpec Tryz.prog 43 [stepV n s0 s1 x0 x1 b0 b1, .str kPan] (knownK n s0 s1 x0 x1 b0 b1 127 3) := by
  obtain ⟨h1, h2⟩ := stepErr_zero h
  have h10 : (0 < n ∧ n ≤ 1000000) ∧ ∀ x ∈ [s0, s1, x0, x1, b0, b1], -4611686018427387904 ≤ x ∧ x ≤ 4611686018427387904 := ⟨by omega, fun x hx => by have := h2 x hx; omega⟩
  refine pspec_of (md := 1) (rf := []) mixed tabOK cpN_ok Tryz.func43 (by rfl) (by rfl) (by rfl) ?_
  repeat' ((conv => whnf); first | refine And.intro ?_ ?_ | with_reducible exact VC.mk rfl | exact Ok.mk | exact True.intro | refine Nx.mk ?_ | refine Fin.mk ?_ | intro _)
  all_goals ((try refine VC.mk ?_); (try simp only [CL.ncell, CL.cnt, vq] at *); (try omega))
  all_goals first | (exfalso; exact absurd ‹_ = (_ : ByteArray)› (by decide)) | (with_reducible exact h10) | (exfalso; simp_all [firstOf]; done) | (refine Sup.of ?_; simp_all [resOf, firstOf, knownK, ruleV]; done)
def knownP : PSp := fun xs K => match xs with
  | [.agg [.int .i64 n, .int .i64 s0, .int .i64 s1, .int .i64 x0, .int .i64 x1, .int .i64 b0, .int .i64 b1], .str s] =>
    (stepErr n s0 s1 x0 x1 b0 b1 ≠ 0 → K (knownE (stepErr n s0 s1 x0 x1 b0 b1))) ∧ (stepErr n s0 s1 x0 x1 b0 b1 = 0 → (noKind s → K (knownE 13)) ∧ (s = kSq → K (knownK n s0 s1 x0 x1 b0 b1 124 0)) ∧ (s = kSemi → K (knownK n s0 s1 x0 x1 b0 b1 125 1)) ∧
      (s = kMag → K (knownK n s0 s1 x0 x1 b0 b1 126 2)) ∧ (s = kPan → K (knownK n s0 s1 x0 x1 b0 b1 127 3)))
  | _ => False
theorem known_ok : POK Tryz.prog 43 knownP := by
  intro xs K h
  unfold knownP at h
  split at h
  · rename_i n s0 s1 x0 x1 b0 b1 s
    by_cases h0 : stepErr n s0 s1 x0 x1 b0 b1 = 0
    · obtain ⟨g0, g1, g2, g3, g4⟩ := h.2 h0
      by_cases e1 : s = kSq
      · subst e1; exact ⟨_, g1 rfl, known_sq _ _ _ _ _ _ _ h0⟩
      by_cases e2 : s = kSemi
      · subst e2; exact ⟨_, g2 rfl, known_semi _ _ _ _ _ _ _ h0⟩
      by_cases e3 : s = kMag
      · subst e3; exact ⟨_, g3 rfl, known_mag _ _ _ _ _ _ _ h0⟩
      by_cases e4 : s = kPan
      · subst e4; exact ⟨_, g4 rfl, known_pan _ _ _ _ _ _ _ h0⟩
      exact ⟨_, g0 ⟨e1, e2, e3, e4⟩, known_none _ _ _ _ _ _ _ _ h0 ⟨e1, e2, e3, e4⟩⟩
    · exact ⟨_, h.1 h0, known_err _ _ _ _ _ _ _ _ h0⟩
  · exact h.elim
end Go.Eng.YtobnbkoeocdhbaaGreatDoor
namespace Go.Eng.YtobnbkoeocdhbaaGreatDoor
open Go.Proofs
set_option maxRecDepth 100000
set_option maxHeartbeats 0
set_option linter.unusedVariables false
set_option linter.unusedSimpArgs false
/-! Admits -/
def admB (n s0 s1 x0 x1 b0 b1 : Int) (s : ByteArray) : Bool :=
  if s = kSq then isSq n (x0 % n) (x1 % n) (b0 % n) (b1 % n) else if s = kSemi then isSemi n (x0 % n) (x1 % n) (b0 % n) (b1 % n) else if s = kMag then isMag n (s0 % n) (s1 % n) (x0 % n) (x1 % n) (b0 % n) (b1 % n)
  else isPan n (x0 % n) (x1 % n) (b0 % n) (b1 % n)
def kindErr (s : ByteArray) : Int := if s = kSq ∨ s = kSemi ∨ s = kMag ∨ s = kPan then 0 else 13
def askErr (n s0 s1 x0 x1 b0 b1 : Int) (s : ByteArray) : Int := if stepErr n s0 s1 x0 x1 b0 b1 = 0 then kindErr s else stepErr n s0 s1 x0 x1 b0 b1
def admitsV (n s0 s1 x0 x1 b0 b1 : Int) (s : ByteArray) : PV := .tup [.bp (decide (askErr n s0 s1 x0 x1 b0 b1 s = 0) && admB n s0 s1 x0 x1 b0 b1 s), .int .i64 (askErr n s0 s1 x0 x1 b0 b1 s)]
noncomputable def cpA : CPT := cpAdd 43 (pureCC knownP) (cpAdd 124 (pureCC squareP) (cpAdd 125 (pureCC semiP) (cpAdd 126 (pureCC magP) (cpAdd 127 (pureCC panP) noC))))
theorem cpA_ok : CPOK Tryz.prog cpA := cpAdd_ok (pureCC_ok known_ok) (cpAdd_ok (pureCC_ok square_ok) (cpAdd_ok (pureCC_ok semi_ok) (cpAdd_ok (pureCC_ok mag_ok) (cpAdd_ok (pureCC_ok pan_ok) noC_ok))))
theorem admits_spec (n s0 s1 x0 x1 b0 b1 : Int) (s : ByteArray) : PSpec Tryz.prog 15 [stepV n s0 s1 x0 x1 b0 b1, .str s] (admitsV n s0 s1 x0 x1 b0 b1 s) := by
  have hz := @stepErr_zero n s0 s1 x0 x1 b0 b1
  have he := fun h => @emod_all n h s0 s1 x0 x1 b0 b1
  refine pspec_of (md := 1) (rf := []) mixed tabOK cpA_ok Tryz.func15 (by rfl) (by rfl) (by rfl) ?_
  repeat' ((conv => whnf); first | refine And.intro ?_ ?_ | with_reducible exact VC.mk rfl | exact Ok.mk | exact True.intro | refine Nx.mk ?_ | refine Fin.mk ?_ | intro _)
  all_goals ((try refine VC.mk ?_); (try simp only [CL.ncell, CL.cnt, vq] at *); (try omega))
  all_goals first | (with_reducible exact ⟨(hz ‹_›).1, he (hz ‹_›).1.1⟩) | skip
  all_goals (refine Sup.via ?_; unfold admitsV; repeat' ((conv => whnf); first | refine And.intro ?_ ?_ | with_reducible exact VC.mk rfl | exact Ok.mk | exact True.intro | refine Nx.mk ?_ | refine Fin.mk ?_ | intro _))
  all_goals refine VC.mk ?_
  all_goals simp_all [askErr, kindErr, admB, noKind]
end Go.Eng.YtobnbkoeocdhbaaGreatDoor
namespace Go.Eng.YtobnbkoeocdhbaaGreatDoor
open Go.Proofs
set_option maxRecDepth 100000
set_option maxHeartbeats 0
set_option linter.unusedVariables false
set_option linter.unusedSimpArgs false
/-! the sum of some cells -/
/-! all lines -/
def gOf (s : ByteArray) : Int := if s = kSq then 0 else if s = kSemi then 1 else if s = kMag then 2 else 3
def linesTo (n m : Nat) : List (List Int) := (List.range m).map (lineAt n)
theorem emod_of_sub {a b n k : Int} (h : a - b = n * k) : a % n = b % n := by
  have : a = b + n * k := by omega
  rw [this, Int.add_mul_emod_self_left]
end Go.Eng.YtobnbkoeocdhbaaGreatDoor
namespace Go.Eng.YtobnbkoeocdhbaaGreatDoor
open Go.Proofs
set_option maxRecDepth 100000
set_option maxHeartbeats 0
set_option linter.unusedVariables false
set_option linter.unusedSimpArgs false
abbrev refV (k : ByteArray) (a b : Int) (l : List Int) (s : Int) : PV := .agg [.str k, .int .i64 a, .int .i64 b, .isl (.ints .i64 l) .none, .int .i64 s]
abbrev kMeet : ByteArray := ⟨#[109, 101, 101, 116]⟩
abbrev kSum : ByteArray := ⟨#[115, 117, 109]⟩
abbrev kNo : ByteArray := ⟨#[]⟩
/-- the first line of the first groups whose sum is wrong -/
def badLine (n : Nat) (g : Int) (l : List Int) : Option Nat := (List.range (lineCnt n g)).find? (fun i => !lineOk n l i)
/-- the first refusal -/
def refuseV (n : Nat) (c : Nat → Nat) (g : Int) : PV := match meetOf c (n * n) with
  | some y => .tup [refV kMeet ((gAt c (n * n) y).getD (c y) 0) ((y : Int) + 1) [] 0, .int .i64 0]
  | none => match badLine n g (gAt c (n * n) (n * n)) with
    | some i => .tup [refV kSum 0 0 (lineAt n i) (lineSum n (gAt c (n * n) (n * n)) i), .int .i64 0]
    | none => .tup [refV kNo 0 0 [] 0, .int .i64 7]
theorem gAt_le (c : Nat → Nat) (N : Nat) : ∀ x, ∀ v ∈ gAt c N x, v ≤ x := by
  intro x
  induction x with
  | zero => intro v hv; rw [gAt_zero] at hv; have := List.eq_of_mem_replicate hv; omega
  | succ x ih =>
    intro v hv
    rw [gAt_succ] at hv
    rcases List.mem_or_eq_of_mem_set hv with h | h
    · have := ih v h; omega
    · omega
/-- one kind -/
theorem refuse_kind (n : Nat) (s0 s1 x0 x1 b0 b1 : Int) (s : ByteArray) (f : Nat) (g : Int) (hz : stepErr n s0 s1 x0 x1 b0 b1 = 0)
    (hk : PSpec Tryz.prog 43 [stepV n s0 s1 x0 x1 b0 b1, .str s] (knownK n s0 s1 x0 x1 b0 b1 f g)) :
    PSpec Tryz.prog 19 [stepV n s0 s1 x0 x1 b0 b1, .str s] (refuseV n (cellS n s0 s1 x0 x1 b0 b1) g) := by
  obtain ⟨h1, h2⟩ := stepErr_zero hz
  have h3 := emod_all h1.1 s0 s1 x0 x1 b0 b1
  have hC : CPOK Tryz.prog (cpAdd 43 (pureCC fun xs K => match xs with
      | [.agg [.int .i64 a0, .int .i64 a1, .int .i64 a2, .int .i64 a3, .int .i64 a4, .int .i64 a5, .int .i64 a6], .str t] => VC (a0 = n ∧ a1 = s0 ∧ a2 = s1 ∧ a3 = x0 ∧ a4 = x1 ∧ a5 = b0 ∧ a6 = b1 ∧ t = s) ∧ K (knownK n s0 s1 x0 x1 b0 b1 f g)
      | _ => False) (cpAdd 42 (pureCC layP) cpQ)) := cpAdd_ok (pureCC_ok fun xs K h => by
    split at h
    · obtain ⟨⟨rfl, rfl, rfl, rfl, rfl, rfl, rfl, rfl⟩, hK⟩ := h
      exact ⟨_, hK, hk⟩
    · exact h.elim) (cpAdd_ok (pureCC_ok lay_ok) cpQ_ok)
  have eN : ((n : Int) * n).toNat = n * n := by rw [← Int.natCast_mul, Int.toNat_natCast]
  obtain ⟨c, hc⟩ : ∃ c, c = cellS n s0 s1 x0 x1 b0 b1 := ⟨_, rfl⟩
  have hc' : cellN n (s0 % n) (s1 % n) (x0 % n) (x1 % n) (b0 % n) (b1 % n) = c := hc.symm
  cases hm : meetOf c (n * n) with
  | some y =>
    rw [← hc]
    unfold refuseV
    rw [hm]
    refine pspec_of (md := 1) (rf := []) mixed tabOK hC Tryz.func19 (by rfl) (by rfl) (by rfl) ?_
    repeat' ((conv => whnf); first | refine And.intro ?_ ?_ | with_reducible exact VC.mk rfl | exact Ok.mk | exact True.intro | refine Nx.mk ?_ | refine Fin.mk ?_ | intro _)
    all_goals ((try refine VC.mk ?_); (try simp only [CL.ncell, CL.cnt, vq] at *); (try omega))
    · exact ⟨by omega, h3⟩
    · simp only [layV, hc', eN, hm]
      repeat' ((conv => whnf); first | refine And.intro ?_ ?_ | with_reducible exact VC.mk rfl | exact Ok.mk | exact True.intro | refine Nx.mk ?_ | refine Fin.mk ?_ | intro _)
      all_goals ((try refine VC.mk ?_); (try simp only [CL.ncell, CL.cnt, vq] at *); (try omega))
      all_goals (refine Sup.via ?_; repeat' ((conv => whnf); first | refine And.intro ?_ ?_ | with_reducible exact VC.mk rfl | exact Ok.mk | exact True.intro | refine Nx.mk ?_ | refine Fin.mk ?_ | intro _); all_goals ((try refine VC.mk ?_); (try simp only [CL.ncell, CL.cnt, vq] at *); (try omega)); all_goals (try (simp [CL.sub]; done)))
  | none =>
    obtain ⟨l, hl⟩ : ∃ l, l = gAt c (n * n) (n * n) := ⟨_, rfl⟩
    have hnn := mul_bd (show 0 ≤ (n : Int) ∧ (n : Int) ≤ 16 by omega) (show 0 ≤ (n : Int) ∧ (n : Int) ≤ 16 by omega)
    have hlen : (l.length : Int) = (n : Int) * n := by rw [hl, gAt_len, Int.natCast_mul]
    have hg : ∀ k : Int, 0 ≤ k → k < (n : Int) * n → 0 ≤ l.getD k.toNat 0 ∧ l.getD k.toNat 0 ≤ 1000 := fun k q1 q2 => by
      rw [List.getD_eq_getElem?_getD, List.getElem?_eq_getElem (by omega)]
      have hm := List.getElem_mem (l := l) (n := k.toNat) (by omega)
      have a := gAt_nonneg c (n * n) (n * n) _ (by rw [← hl]; exact hm)
      have b := gAt_le c (n * n) (n * n) _ (by rw [← hl]; exact hm)
      rw [Int.natCast_mul] at b
      simp only [Option.getD_some]; omega
    rw [← hc]
    unfold refuseV
    rw [hm, ← hl]
    refine pspec_of (md := 1) (rf := []) mixed tabOK hC Tryz.func19 (by rfl) (by rfl) (by rfl) ?_
    repeat' ((conv => whnf); first | refine And.intro ?_ ?_ | with_reducible exact VC.mk rfl | exact Ok.mk | exact True.intro | refine Nx.mk ?_ | refine Fin.mk ?_ | intro _)
    all_goals ((try refine VC.mk ?_); (try simp only [CL.ncell, CL.cnt, vq] at *); (try omega))
    · exact ⟨by omega, h3⟩
    simp only [layV, hc', eN, hm, ← hl]
    repeat' ((conv => whnf); first | refine And.intro ?_ ?_ | with_reducible exact VC.mk rfl | exact Ok.mk | exact True.intro | refine Nx.mk ?_ | refine Fin.mk ?_ | intro _)
    all_goals ((try refine VC.mk ?_); (try simp only [CL.ncell, CL.cnt, vq] at *); (try omega))
    conv => whnf
    refine range_of anyB_ok mixed tabOK hC (fun r => noY_ok) (fs := []) (cs := [.ip (.pv [.int .i64 (n : Int)]) 0, .ip (.pv [.int .i64 g]) 0]) (linesV n g) (lineOk n l) (fun _ => []) (by rfl) (by rfl) (by rfl) (c117_spec n (by omega) g) (by rfl) (by rfl) (by rfl) (by rfl) ?_ ?_ ?_
    · repeat' ((conv => whnf); first | refine And.intro ?_ ?_ | with_reducible exact VC.mk rfl | exact Ok.mk | exact True.intro | refine Nx.mk ?_ | refine Fin.mk ?_ | intro _)
      all_goals ((try refine VC.mk ?_); (try simp only [CL.ncell, CL.cnt, vq] at *); (try omega))
    · intro hall
      rw [show badLine n g l = none from find_none (fun j hj => by rw [hall j (by rw [linesV_len]; exact hj)]; rfl)]
      repeat' ((conv => whnf); first | refine And.intro ?_ ?_ | with_reducible exact VC.mk rfl | exact Ok.mk | exact True.intro | refine Nx.mk ?_ | refine Fin.mk ?_ | intro _)
      all_goals ((try refine VC.mk ?_); (try simp only [CL.ncell, CL.cnt, vq] at *); (try omega))
      all_goals (first | (refine Sup.of ?_; first | rfl | (simp [*, resOf]; done)) | (refine Sup.via ?_; repeat' ((conv => whnf); first | refine And.intro ?_ ?_ | with_reducible exact VC.mk rfl | exact Ok.mk | exact True.intro | refine Nx.mk ?_ | refine Fin.mk ?_ | intro _); all_goals ((try refine VC.mk ?_); (try simp only [CL.ncell, CL.cnt, vq] at *); (try omega)); all_goals (try (simp [CL.sub]; done))))
    · intro i x hx hall lp
      obtain ⟨q1, rfl⟩ := linesV_get hx
      have hmm := fun c hc => lineAt_mem (n := n) (i := i) c hc
      have hb := sumAt_bd l (lineAt n i) (fun c hc => hg c (hmm c hc).1 (hmm c hc).2)
      have hbad : sumAt l (lineAt n i) (lineAt n i).length ≠ constOf n → lineOk n l i = false := fun h => by
        rw [lineAt_len] at h; unfold lineOk lineSum; simpa using h
      have hgood : ¬ sumAt l (lineAt n i) (lineAt n i).length ≠ constOf n → lineOk n l i = true := fun h => by
        rw [lineAt_len] at h; unfold lineOk lineSum; simpa using h
      repeat' ((conv => whnf); first | refine And.intro ?_ ?_ | with_reducible exact VC.mk rfl | exact Ok.mk | exact True.intro | refine Nx.mk ?_ | refine Fin.mk ?_ | intro _)
      all_goals ((try refine VC.mk ?_); (try simp only [CL.ncell, CL.cnt, vq] at *); (try omega))
      · refine ⟨fun c hc => by have := hmm c hc; omega, by rw [lineAt_len]; omega, fun j hj => ?_⟩
        have := hb j hj
        rw [lineAt_len] at hj
        omega
      · exact hbad ‹_›
      · rw [show badLine n g l = some i from find_some q1 (by rw [hbad ‹_›]; rfl) (fun j hj => by rw [hall j hj]; rfl)]
        refine Sup.via ?_
        repeat' ((conv => whnf); first | refine And.intro ?_ ?_ | with_reducible exact VC.mk rfl | exact Ok.mk | exact True.intro | refine Nx.mk ?_ | refine Fin.mk ?_ | intro _)
        all_goals ((try refine VC.mk ?_); (try simp only [CL.ncell, CL.cnt, vq] at *); (try omega))
        all_goals (try (unfold lineSum; rw [lineAt_len]))
      · refine ⟨[], hgood ‹_›, ?_⟩
        repeat' ((conv => whnf); first | refine And.intro ?_ ?_ | with_reducible exact VC.mk rfl | exact Ok.mk | exact True.intro | refine Nx.mk ?_ | refine Fin.mk ?_ | intro _)
        all_goals ((try refine VC.mk ?_); (try simp only [CL.ncell, CL.cnt, vq] at *); (try omega))
theorem refuse_err (n s0 s1 x0 x1 b0 b1 : Int) (s : ByteArray) (e : Int) (he : e ≠ 0) (hk : PSpec Tryz.prog 43 [stepV n s0 s1 x0 x1 b0 b1, .str s] (knownE e)) : PSpec Tryz.prog 19 [stepV n s0 s1 x0 x1 b0 b1, .str s] (.tup [refV kNo 0 0 [] 0, .int .i64 e]) := by
  have hC : CPOK Tryz.prog (cpAdd 43 (pureCC fun xs K => match xs with
      | [.agg [.int .i64 a0, .int .i64 a1, .int .i64 a2, .int .i64 a3, .int .i64 a4, .int .i64 a5, .int .i64 a6], .str t] => VC (a0 = n ∧ a1 = s0 ∧ a2 = s1 ∧ a3 = x0 ∧ a4 = x1 ∧ a5 = b0 ∧ a6 = b1 ∧ t = s) ∧ K (knownE e)
      | _ => False) noC) := cpAdd_ok (pureCC_ok fun xs K h => by
    split at h
    · obtain ⟨⟨rfl, rfl, rfl, rfl, rfl, rfl, rfl, rfl⟩, hK⟩ := h
      exact ⟨_, hK, hk⟩
    · exact h.elim) noC_ok
  refine pspec_of (md := 1) (rf := []) mixed tabOK hC Tryz.func19 (by rfl) (by rfl) (by rfl) ?_
  repeat' ((conv => whnf); first | refine And.intro ?_ ?_ | with_reducible exact VC.mk rfl | exact Ok.mk | exact True.intro | refine Nx.mk ?_ | refine Fin.mk ?_ | intro _)
  all_goals ((try refine VC.mk ?_); (try simp only [CL.ncell, CL.cnt, vq] at *); (try omega))
  · all_goals (refine Sup.via ?_; repeat' ((conv => whnf); first | refine And.intro ?_ ?_ | with_reducible exact VC.mk rfl | exact Ok.mk | exact True.intro | refine Nx.mk ?_ | refine Fin.mk ?_ | intro _); all_goals ((try refine VC.mk ?_); (try simp only [CL.ncell, CL.cnt, vq] at *); (try omega)); all_goals (try (simp [CL.sub]; done)))
  all_goals (exfalso; simp_all)
/-- what Refuse returns -/
def refuseAll (n s0 s1 x0 x1 b0 b1 : Int) (s : ByteArray) : PV :=
  if askErr n s0 s1 x0 x1 b0 b1 s = 0 then refuseV n.toNat (cellS n s0 s1 x0 x1 b0 b1) (if s = kSq then 0 else if s = kSemi then 1 else if s = kMag then 2 else 3)
  else .tup [refV kNo 0 0 [] 0, .int .i64 (askErr n s0 s1 x0 x1 b0 b1 s)]
theorem refuse_spec (n s0 s1 x0 x1 b0 b1 : Int) (s : ByteArray) : PSpec Tryz.prog 19 [stepV n s0 s1 x0 x1 b0 b1, .str s] (refuseAll n s0 s1 x0 x1 b0 b1 s) := by
  unfold refuseAll
  by_cases hz : stepErr n s0 s1 x0 x1 b0 b1 = 0
  · have h1 := (stepErr_zero hz).1
    obtain ⟨m, rfl⟩ : ∃ m : Nat, n = m := ⟨n.toNat, by omega⟩
    have key : ∀ f g, PSpec Tryz.prog 43 [stepV m s0 s1 x0 x1 b0 b1, .str s] (knownK m s0 s1 x0 x1 b0 b1 f g) → PSpec Tryz.prog 19 [stepV m s0 s1 x0 x1 b0 b1, .str s] (refuseV m (cellS m s0 s1 x0 x1 b0 b1) g) := fun f g hk => refuse_kind m s0 s1 x0 x1 b0 b1 s f g hz hk
    by_cases hk : noKind s
    · have e : askErr m s0 s1 x0 x1 b0 b1 s = 13 := by unfold askErr kindErr; rw [if_pos hz, if_neg (by rintro (h | h | h | h) <;> simp_all [noKind])]
      rw [e, if_neg (by omega)]
      exact refuse_err m s0 s1 x0 x1 b0 b1 s 13 (by omega) (known_none _ _ _ _ _ _ _ _ hz hk)
    · have e : askErr m s0 s1 x0 x1 b0 b1 s = 0 := by
        unfold askErr kindErr; rw [if_pos hz, if_pos]
        unfold noKind at hk
        by_cases e1 : s = kSq
        · exact .inl e1
        by_cases e2 : s = kSemi
        · exact .inr (.inl e2)
        by_cases e3 : s = kMag
        · exact .inr (.inr (.inl e3))
        by_cases e4 : s = kPan
        · exact .inr (.inr (.inr e4))
        exact absurd ⟨e1, e2, e3, e4⟩ hk
      rw [if_pos e, Int.toNat_natCast]
      by_cases e1 : s = kSq
      · rw [if_pos e1]; exact key 124 0 (by subst e1; exact known_sq _ _ _ _ _ _ _ hz)
      rw [if_neg e1]
      by_cases e2 : s = kSemi
      · rw [if_pos e2]; exact key 125 1 (by subst e2; exact known_semi _ _ _ _ _ _ _ hz)
      rw [if_neg e2]
      by_cases e3 : s = kMag
      · rw [if_pos e3]; exact key 126 2 (by subst e3; exact known_mag _ _ _ _ _ _ _ hz)
      rw [if_neg e3]
      by_cases e4 : s = kPan
      · exact key 127 3 (by subst e4; exact known_pan _ _ _ _ _ _ _ hz)
      exact absurd ⟨e1, e2, e3, e4⟩ hk
  · have e : askErr n s0 s1 x0 x1 b0 b1 s = stepErr n s0 s1 x0 x1 b0 b1 := by unfold askErr; rw [if_neg hz]
    rw [e, if_neg hz]
    exact refuse_err n s0 s1 x0 x1 b0 b1 s _ hz (known_err _ _ _ _ _ _ _ _ hz)
end Go.Eng.YtobnbkoeocdhbaaGreatDoor
namespace Go.Eng.YtobnbkoeocdhbaaGreatDoor
open Go.Proofs
set_option maxRecDepth 100000
set_option maxHeartbeats 0
set_option linter.unusedVariables false
set_option linter.unusedSimpArgs false
/-! the first line with another sum -/
/-! refusals -/
end Go.Eng.YtobnbkoeocdhbaaGreatDoor
namespace Go.Eng.YtobnbkoeocdhbaaGreatDoor
open Go.Proofs
set_option maxRecDepth 100000
set_option maxHeartbeats 0
set_option linter.unusedVariables false
set_option linter.unusedSimpArgs false
end Go.Eng.YtobnbkoeocdhbaaGreatDoor
namespace Go.Eng.YtobnbkoeocdhbaaGreatDoor
open Go.Proofs
set_option maxRecDepth 100000
set_option maxHeartbeats 0
set_option linter.unusedVariables false
set_option linter.unusedSimpArgs false
/-! the numbers that are left -/
def bordB (n : Nat) (x : Nat) : Bool := decide (x ≤ 2 * (n - 1)) || decide (n * n + 1 - 2 * (n - 1) ≤ x)
def leftB (n : Nat) (us : List Bool) (x : Nat) : Bool := bordB n x && !(us.getD x false)
def numsF (n : Nat) (us : List Bool) (t : Nat) : List Int := (((List.range' 1 t).filter (leftB n us)).map (fun (x : Nat) => (x : Int)))
def numsN (n : Nat) (us : List Bool) : List Int := numsF n us (n * n)
end Go.Eng.YtobnbkoeocdhbaaGreatDoor
namespace Go.Eng.YtobnbkoeocdhbaaGreatDoor
open Go.Proofs
set_option maxRecDepth 100000
set_option maxHeartbeats 0
set_option linter.unusedVariables false
set_option linter.unusedSimpArgs false
def markF (n : Nat) (us : List Bool) (x : Int) (b : Bool) : List Bool := (us.set x.toNat b).set (n * n + 1 - x.toNat) b
/-- what holds along the search -/
structure FInv (n : Nat) (cs : List Int) (us : List Bool) : Prop where
  len : us.length = n * n + 1
  sym : ∀ x, 1 ≤ x → x ≤ n * n → us.getD x false = us.getD (n * n + 1 - x) false
  cnt : 4 * (n - 1) = (numsN n us).length + 2 * cs.length
  cb : ∀ c ∈ cs, 1 ≤ c ∧ c ≤ n * n
theorem mem_numsN {n : Nat} {us : List Bool} {x : Int} : x ∈ numsN n us ↔ ∃ k : Nat, x = k ∧ 1 ≤ k ∧ k ≤ n * n ∧ leftB n us k = true := by
  simp only [numsN, numsF, List.mem_map, List.mem_filter, List.mem_range'_1]
  constructor
  · rintro ⟨k, ⟨⟨h1, h2⟩, h3⟩, rfl⟩; exact ⟨k, rfl, h1, by omega, h3⟩
  · rintro ⟨k, rfl, h1, h2, h3⟩; exact ⟨k, ⟨⟨h1, by omega⟩, h3⟩, rfl⟩
theorem bordB_comp {n k : Nat} (hn : 2 ≤ n) (h1 : 1 ≤ k) (h2 : k ≤ n * n) (h : bordB n k = true) : bordB n (n * n + 1 - k) = true ∧ n * n + 1 - k ≠ k := by
  unfold bordB at *
  have hsq : 4 * n ≤ n * n + 4 := by
    obtain ⟨d, rfl⟩ : ∃ d, n = d + 2 := ⟨n - 2, by omega⟩
    grind
  simp only [Bool.or_eq_true, decide_eq_true_eq] at h ⊢
  generalize n * n = q at *
  omega
theorem filter_two {l : List Nat} (hl : l.Nodup) {p q : Nat → Bool} {a b : Nat} (hab : a ≠ b) (ha : a ∈ l) (hb : b ∈ l) (pa : p a = true) (pb : p b = true) (hq : ∀ x ∈ l, q x = (p x && decide (x ≠ a) && decide (x ≠ b))) :
    (l.filter p).length = (l.filter q).length + 2 := by
  have e : l.filter q = ((l.filter p).filter (fun x => decide (x ≠ a))).filter (fun x => decide (x ≠ b)) := by
    rw [List.filter_filter, List.filter_filter]
    refine List.filter_congr fun x hx => ?_
    rw [hq x hx, Bool.and_assoc, Bool.and_comm, Bool.and_comm (decide (x ≠ a))]
  have one : ∀ {l : List Nat} {a : Nat}, l.Nodup → a ∈ l → (l.filter (fun x => decide (x ≠ a))).length + 1 = l.length := by
    intro l a hl ha
    have := List.length_erase_of_mem ha
    have h0 : 0 < l.length := List.length_pos_of_mem ha
    rw [List.Nodup.erase_eq_filter hl] at this
    have e2 : l.filter (fun x => decide (x ≠ a)) = l.filter (fun x => x != a) := List.filter_congr fun x _ => by simp [bne, BEq.beq]
    rw [e2]; omega
  have n1 : (l.filter p).Nodup := hl.filter _
  have a1 := one n1 (List.mem_filter.2 ⟨ha, pa⟩)
  have a2 := one (n1.filter (fun x => decide (x ≠ a))) (List.mem_filter.2 ⟨List.mem_filter.2 ⟨hb, pb⟩, by simp [Ne.symm hab]⟩)
  rw [e]; omega
theorem getD_markF {n : Nat} {us : List Bool} (hl : us.length = n * n + 1) {k : Nat} (h1 : 1 ≤ k) (h2 : k ≤ n * n) (b : Bool) (x : Nat) : (markF n us (k : Int) b).getD x false = if x = k ∨ x = n * n + 1 - k then b else us.getD x false := by
  unfold markF
  simp only [Int.toNat_natCast, List.getD_eq_getElem?_getD, List.getElem?_set, List.length_set]
  by_cases e1 : n * n + 1 - k = x
  · rw [if_pos e1, if_pos (by omega)]; simp [e1]
  · rw [if_neg e1]
    by_cases e2 : k = x
    · rw [if_pos e2, if_pos (by omega)]; simp [e2]
    · rw [if_neg e2, if_neg (by omega)]
theorem FInv.step {n : Nat} {cs : List Int} {us : List Bool} (hn : 2 ≤ n) (h : FInv n cs us) {x : Int} (hx : x ∈ numsN n us) : FInv n (cs ++ [x]) (markF n us x true) ∧ (1 ≤ x ∧ x ≤ n * n) ∧ us.getD x.toNat false = false ∧ us.getD (n * n + 1 - x.toNat) false = false := by
  obtain ⟨k, rfl, h1, h2, h3⟩ := mem_numsN.1 hx
  have hb : bordB n k = true ∧ us.getD k false = false := by simpa [leftB] using h3
  obtain ⟨c1, c2⟩ := bordB_comp hn h1 h2 hb.1
  have hs := h.sym k h1 h2
  have hk2 : us.getD (n * n + 1 - k) false = false := by rw [← hs]; exact hb.2
  refine ⟨⟨by simp [markF, h.len], fun y y1 y2 => ?_, ?_, fun c hc => ?_⟩, ⟨by omega, by exact_mod_cast h2⟩, by simpa using hb.2, by simpa using hk2⟩
  · rw [getD_markF h.len h1 h2, getD_markF h.len h1 h2, h.sym y y1 y2]
    by_cases e : y = k ∨ y = n * n + 1 - k
    · rw [if_pos e, if_pos (by omega)]
    · rw [if_neg e, if_neg (by omega)]
  · have := filter_two (l := List.range' 1 (n * n)) (List.nodup_range') (p := leftB n us) (q := leftB n (markF n us (k : Int) true)) (a := k) (b := n * n + 1 - k) (Ne.symm c2)
      (by rw [List.mem_range'_1]; omega) (by rw [List.mem_range'_1]; omega) h3 (by simp only [leftB, c1, hk2]; rfl) (fun y _ => by
        unfold leftB
        rw [getD_markF h.len h1 h2]
        by_cases e1 : y = k
        · simp [e1]
        · by_cases e2 : y = n * n + 1 - k
          · simp [e2]
          · simp [e1, e2])
    have hc := h.cnt
    simp only [numsN, numsF, List.length_map, List.length_append, List.length_cons, List.length_nil] at hc ⊢
    omega
  · rcases List.mem_append.1 hc with hc | hc
    · exact h.cb c hc
    · simp at hc; subst hc; exact ⟨by omega, by exact_mod_cast h2⟩
end Go.Eng.YtobnbkoeocdhbaaGreatDoor
namespace Go.Eng.YtobnbkoeocdhbaaGreatDoor
open Go.Proofs
set_option maxRecDepth 100000
set_option maxHeartbeats 0
set_option linter.unusedVariables false
set_option linter.unusedSimpArgs false
end Go.Eng.YtobnbkoeocdhbaaGreatDoor
namespace Go.Eng.YtobnbkoeocdhbaaGreatDoor
open Go.Proofs
set_option maxRecDepth 100000
set_option maxHeartbeats 0
set_option linter.unusedVariables false
set_option linter.unusedSimpArgs false
/-! the two searches are one -/
end Go.Eng.YtobnbkoeocdhbaaGreatDoor
namespace Go.Eng.YtobnbkoeocdhbaaGreatDoor
open Go.Proofs
set_option maxRecDepth 100000
set_option maxHeartbeats 0
set_option linter.unusedVariables false
set_option linter.unusedSimpArgs false
end Go.Eng.YtobnbkoeocdhbaaGreatDoor
namespace Go.Eng.YtobnbkoeocdhbaaGreatDoor
open Go.Proofs
set_option maxRecDepth 100000
set_option maxHeartbeats 0
set_option linter.unusedVariables false
set_option linter.unusedSimpArgs false
abbrev noGrid (e : Int) : PV := .tup [gridV 0 0 [], .int .i64 e]
abbrev okGrid (r c : Int) (l : List Int) : PV := .tup [gridV r c l, .int .i64 0]
theorem orderly_err (n : Int) (h : Bool) (f : Fn) (fs cs : List PV) (e : Int) (he : e ≠ 0) (hf : firstOf [if n < 1 ∨ 16 < n then 3 else 0, if (!h) = true then 7 else 0] = e) :
    PSpec Tryz.prog 67 [.int .i64 n, .bp h, .fn f fs cs] (noGrid e) := by
  refine pspec_of (md := 1) (rf := []) mixed tabOK cp2_ok Tryz.func67 (by rfl) (by rfl) (by rfl) ?_
  repeat' ((conv => whnf); first | refine And.intro ?_ ?_ | with_reducible exact VC.mk rfl | exact Ok.mk | exact True.intro | refine Nx.mk ?_ | refine Fin.mk ?_ | intro _)
  all_goals ((try refine VC.mk ?_); (try simp only [CL.ncell, CL.cnt, vq] at *); (try omega))
  · rw [hf]; all_goals (refine Sup.via ?_; repeat' ((conv => whnf); first | refine And.intro ?_ ?_ | with_reducible exact VC.mk rfl | exact Ok.mk | exact True.intro | refine Nx.mk ?_ | refine Fin.mk ?_ | intro _); all_goals ((try refine VC.mk ?_); (try simp only [CL.ncell, CL.cnt, vq] at *); (try omega)); all_goals (try (simp [CL.sub]; done)))
  all_goals (exfalso; simp_all)
theorem orderly_ok (n : Int) (hn : 1 ≤ n ∧ n ≤ 16) (f : Nat) (fs cs : List PV) (r c : Int) (l : List Int) (hf : PSpec Tryz.prog f (fs ++ [] ++ cs) (gridV r c l)) :
    PSpec Tryz.prog 67 [.int .i64 n, .bp true, .fn (.func f) fs cs] (okGrid r c l) := by
  refine pspec_open 2 (enters' Tryz.func67 (by rfl) (by rfl)) rfl (by simp) fun S0 w0 us vs hu hv => ?_
  have hY : ∀ r', YPOK Tryz.prog r' (fromB S0 w0) (fnY f us vs fun xs K => match xs with
      | [] => K (gridV r c l)
      | _ => False) := fun r => fnY_ok (fs := fs) (cs := cs) (fun S w hb => ⟨hu.mono hb (.refl _), hv.mono hb (.refl _)⟩) fun xs K hk => by
    split at hk
    · exact ⟨_, hk, hf⟩
    · exact hk.elim
  have he : firstOf [if n < 1 ∨ 16 < n then 3 else 0, if (!true) = true then 7 else 0] = 0 := by rw [if_neg (by omega)]; rfl
  refine pspecB_of fromB_ok mixed tabOK (md := 1) (rf := []) (cp2_ok.up _) (hY none) Tryz.func67 (by rfl) (by rfl) ?_
  repeat' ((conv => whnf); first | refine And.intro ?_ ?_ | with_reducible exact VC.mk rfl | exact Ok.mk | exact True.intro | refine Nx.mk ?_ | refine Fin.mk ?_ | intro _)
  all_goals ((try refine VC.mk ?_); (try simp only [CL.ncell, CL.cnt, vq] at *); (try omega))
  all_goals (try (exfalso; simp_all; done))
  all_goals (refine Sup.via ?_; repeat' ((conv => whnf); first | refine And.intro ?_ ?_ | with_reducible exact VC.mk rfl | exact Ok.mk | exact True.intro | refine Nx.mk ?_ | refine Fin.mk ?_ | intro _); all_goals ((try refine VC.mk ?_); (try simp only [CL.ncell, CL.cnt, vq] at *); (try omega)); all_goals (try (simp [CL.sub]; done)))
def orderlyP : PSp := fun xs K => match xs with
  | [.int .i64 n, .bp h, .fn (.func f) fs cs] => ((n < 1 ∨ 16 < n) → K (noGrid 3)) ∧ (¬ (n < 1 ∨ 16 < n) → (h = false → K (noGrid 7)) ∧ (h = true → ∃ r c l, PSpec Tryz.prog f (fs ++ [] ++ cs) (gridV r c l) ∧ K (okGrid r c l)))
  | _ => False
theorem orderly_pok : POK Tryz.prog 67 orderlyP := by
  intro xs K hk
  unfold orderlyP at hk
  split at hk
  · rename_i n h f fs cs
    by_cases hn : n < 1 ∨ 16 < n
    · exact ⟨_, hk.1 hn, orderly_err n h _ fs cs 3 (by omega) (by rw [if_pos hn]; rfl)⟩
    · cases h with
      | false => exact ⟨_, (hk.2 hn).1 rfl, orderly_err n false _ fs cs 7 (by omega) (by rw [if_neg hn]; rfl)⟩
      | true =>
        obtain ⟨r, c, l, h1, h2⟩ := (hk.2 hn).2 rfl
        exact ⟨_, h2, orderly_ok n (by omega) f fs cs r c l h1⟩
  · exact hk.elim
/-! odd orders -/
theorem coprime_of {n a u : Int} (h : n ∣ a * u - 1) : coprime n a = true := by
  unfold coprime
  have h1 : (Int.gcd (a % n) n : Int) ∣ 1 := by
    have d1 : (Int.gcd (a % n) n : Int) ∣ n := Int.gcd_dvd_right ..
    have d2 : (Int.gcd (a % n) n : Int) ∣ a % n := Int.gcd_dvd_left ..
    obtain ⟨k, hk⟩ := h
    obtain ⟨p, hp⟩ := d1
    obtain ⟨q, hq⟩ := d2
    have := Int.emod_add_mul_ediv a n
    generalize (Int.gcd (a % n) n : Int) = g at *
    exact ⟨q * u + p * (a / n) * u - p * k, by grind⟩
  have h2 := Int.le_of_dvd (by omega) h1
  have h3 : Int.gcd (a % n) n ∣ 1 := by exact_mod_cast h1
  simp [Nat.dvd_one.1 h3]
theorem isSq_of {n x0 x1 b0 b1 u : Int} (h : n ∣ (x0 * b1 - x1 * b0) * u - 1) : isSq n (x0 % n) (x1 % n) (b0 % n) (b1 % n) = true := by
  unfold isSq
  refine coprime_of (u := u) ?_
  have e0 := Int.emod_add_mul_ediv x0 n
  have e1 := Int.emod_add_mul_ediv x1 n
  have e2 := Int.emod_add_mul_ediv b0 n
  have e3 := Int.emod_add_mul_ediv b1 n
  obtain ⟨k, hk⟩ := h
  generalize x0 % n = y0 at *
  generalize x1 % n = y1 at *
  generalize b0 % n = c0 at *
  generalize b1 % n = c1 at *
  generalize x0 / n = p0 at *
  generalize x1 / n = p1 at *
  generalize b0 / n = q0 at *
  generalize b1 / n = q1 at *
  subst e0 e1 e2 e3
  exact ⟨k - (y0 * q1 + p0 * c1 + n * p0 * q1 - y1 * q0 - p1 * c0 - n * p1 * q0) * u, by grind⟩
def uniL (n s0 s1 x0 x1 b0 b1 : Int) : List Int := gAt (cellS n s0 s1 x0 x1 b0 b1) (n * n).toNat (n * n).toNat
def siaL (n : Int) : List Int := uniL n 0 ((n - 1) / 2) (-1) 1 2 (-1)
noncomputable def cpO1 : CPT := cpAdd 41 (pureCC reducedP) (cpAdd 42 (pureCC layP) noC)
theorem cpO1_ok : CPOK Tryz.prog cpO1 := cpAdd_ok (pureCC_ok reduced_ok) (cpAdd_ok (pureCC_ok lay_ok) noC_ok)
theorem cSia_spec (n : Int) (hn : 1 ≤ n ∧ n ≤ 16) : PSpec Tryz.prog 68 [.int .i64 n] (gridV n n (siaL n)) := by
  have hs : isSq n (-1 % n) (1 % n) (2 % n) (-1 % n) = true := isSq_of (u := -1) ⟨0, by omega⟩
  have hm := meet_none (s0 := 0 % n) (s1 := (n - 1) / 2 % n) hn.1 hs
  have h3 := emod_all hn.1 0 ((n - 1) / 2) (-1) 1 2 (-1)
  refine pspec_of (md := 0) (rf := []) mixed tabOK cpO1_ok Tryz.func68 (by rfl) (by rfl) (by rfl) ?_
  repeat' ((conv => whnf); first | refine And.intro ?_ ?_ | with_reducible exact VC.mk rfl | exact Ok.mk | exact True.intro | refine Nx.mk ?_ | refine Fin.mk ?_ | intro _)
  all_goals ((try refine VC.mk ?_); (try simp only [CL.ncell, CL.cnt, vq] at *); (try omega))
  · refine ⟨by omega, fun x hx => ?_⟩
    simp only [List.mem_cons, List.not_mem_nil, or_false] at hx
    rcases hx with rfl | rfl | rfl | rfl | rfl | rfl <;> omega
  · exact ⟨hn, h3⟩
  simp only [layV, hm]
  unfold siaL uniL
  repeat' ((conv => whnf); first | refine And.intro ?_ ?_ | with_reducible exact VC.mk rfl | exact Ok.mk | exact True.intro | refine Nx.mk ?_ | refine Fin.mk ?_ | intro _)
  all_goals ((try refine VC.mk ?_); (try simp only [CL.ncell, CL.cnt, vq] at *); (try omega))
  all_goals (refine Sup.via ?_; repeat' ((conv => whnf); first | refine And.intro ?_ ?_ | with_reducible exact VC.mk rfl | exact Ok.mk | exact True.intro | refine Nx.mk ?_ | refine Fin.mk ?_ | intro _); all_goals ((try refine VC.mk ?_); (try simp only [CL.ncell, CL.cnt, vq] at *); (try omega)); all_goals (try (simp [CL.sub]; done)))
def gridOr (n : Int) (h : Prop) [Decidable h] (l : List Int) : PV := if n < 1 ∨ 16 < n then noGrid 3 else if h then okGrid n n l else noGrid 7
noncomputable def cpO2 : CPT := cpAdd 67 (pureCC orderlyP) noC
theorem cpO2_ok : CPOK Tryz.prog cpO2 := cpAdd_ok (pureCC_ok orderly_pok) noC_ok
theorem siamese_spec (n : Int) : PSpec Tryz.prog 27 [.int .i64 n] (gridOr n (n % 2 = 1) (siaL n)) := by
  have ht : ¬ (n < 1 ∨ 16 < n) → n.tmod 2 = n % 2 := fun h => Int.tmod_eq_emod_of_nonneg (by omega)
  unfold gridOr
  refine pspec_of (md := 1) (rf := []) mixed tabOK cpO2_ok Tryz.func27 (by rfl) (by rfl) (by rfl) ?_
  repeat' ((conv => whnf); first | refine And.intro ?_ ?_ | with_reducible exact VC.mk rfl | exact Ok.mk | exact True.intro | refine Nx.mk ?_ | refine Fin.mk ?_ | intro _)
  all_goals ((try refine VC.mk ?_); (try simp only [CL.ncell, CL.cnt, vq] at *); (try omega))
  · rw [if_pos ‹_›]; all_goals (refine Sup.via ?_; repeat' ((conv => whnf); first | refine And.intro ?_ ?_ | with_reducible exact VC.mk rfl | exact Ok.mk | exact True.intro | refine Nx.mk ?_ | refine Fin.mk ?_ | intro _); all_goals ((try refine VC.mk ?_); (try simp only [CL.ncell, CL.cnt, vq] at *); (try omega)); all_goals (try (simp [CL.sub]; done)))
  · rw [if_neg ‹_›, if_neg (by have := ht ‹_›; omega)]; all_goals (refine Sup.via ?_; repeat' ((conv => whnf); first | refine And.intro ?_ ?_ | with_reducible exact VC.mk rfl | exact Ok.mk | exact True.intro | refine Nx.mk ?_ | refine Fin.mk ?_ | intro _); all_goals ((try refine VC.mk ?_); (try simp only [CL.ncell, CL.cnt, vq] at *); (try omega)); all_goals (try (simp [CL.sub]; done)))
  · have := ht ‹_›
    rw [if_neg ‹_›, if_pos (by omega)]
    refine ⟨n, n, siaL n, cSia_spec n (by omega), ?_⟩
    repeat' ((conv => whnf); first | refine And.intro ?_ ?_ | with_reducible exact VC.mk rfl | exact Ok.mk | exact True.intro | refine Nx.mk ?_ | refine Fin.mk ?_ | intro _)
    all_goals ((try refine VC.mk ?_); (try simp only [CL.ncell, CL.cnt, vq] at *); (try omega))
    all_goals (refine Sup.via ?_; repeat' ((conv => whnf); first | refine And.intro ?_ ?_ | with_reducible exact VC.mk rfl | exact Ok.mk | exact True.intro | refine Nx.mk ?_ | refine Fin.mk ?_ | intro _); all_goals ((try refine VC.mk ?_); (try simp only [CL.ncell, CL.cnt, vq] at *); (try omega)); all_goals (try (simp [CL.sub]; done)))
noncomputable def cpO3 : CPT := cpAdd 33 (pureCC madeP) noC
theorem cpO3_ok : CPOK Tryz.prog cpO3 := cpAdd_ok (pureCC_ok made_ok) noC_ok
end Go.Eng.YtobnbkoeocdhbaaGreatDoor
namespace Go.Eng.YtobnbkoeocdhbaaGreatDoor
open Go.Proofs
set_option maxRecDepth 100000
set_option maxHeartbeats 0
set_option linter.unusedVariables false
set_option linter.unusedSimpArgs false
/-! the search -/
/-! the square -/
end Go.Eng.YtobnbkoeocdhbaaGreatDoor
namespace Go.Eng.YtobnbkoeocdhbaaGreatDoor
open Go.Proofs
set_option maxRecDepth 100000
set_option maxHeartbeats 0
set_option linter.unusedVariables false
set_option linter.unusedSimpArgs false
def insN (x : Nat) : List Nat → List Nat
  | [] => [x]
  | y :: r => match Nat.ble x y with
    | true => x :: y :: r
    | false => y :: insN x r
def isortN : List Nat → List Nat
  | [] => []
  | x :: r => insN x (isortN r)
theorem insN_perm (x : Nat) : ∀ l, (insN x l).Perm (x :: l)
  | [] => .refl _
  | y :: r => by
    unfold insN
    split
    · exact .refl _
    · exact ((insN_perm x r).cons y).trans (.swap x y r)
theorem isortN_perm : ∀ l, (isortN l).Perm l
  | [] => .refl _
  | x :: r => (insN_perm x _).trans ((isortN_perm r).cons x)
theorem seen_false (m : Nat) (l : List Int) (i v : Nat) (h : ∀ x ∈ l.take i, x.toNat ≠ v) : (seenAt m l i).getD v false = false := by
  unfold seenAt
  have : ∀ (k : List Int) (s : List Bool), (∀ x ∈ k, x.toNat ≠ v) → s.getD v false = false → (k.foldl (fun s x => s.set x.toNat true) s).getD v false = false := by
    intro k
    induction k with
    | nil => intro s _ hs; exact hs
    | cons x r ih =>
      intro s hk hs
      refine ih _ (fun y hy => hk y (List.mem_cons_of_mem _ hy)) ?_
      rw [List.getD_eq_getElem?_getD, List.getElem?_set_ne (hk x List.mem_cons_self), ← List.getD_eq_getElem?_getD, hs]
  refine this _ _ h ?_
  rw [List.getD_eq_getElem?_getD, List.getElem?_replicate]
  split <;> rfl
theorem isNorm_sort {l : List Int} {N : Nat} (hl : l.length = N) (h : isortN (l.map Int.toNat) = List.range' 1 N) : isNorm l = true := by
  have hp := isortN_perm (l.map Int.toNat)
  rw [h] at hp
  have hn : (l.map Int.toNat).Nodup := hp.nodup_iff.1 List.nodup_range'
  unfold isNorm distinctIn
  refine all_true fun i hi => ?_
  have hm : (l[i]).toNat ∈ List.range' 1 N := hp.mem_iff.2 (List.mem_map_of_mem (List.getElem_mem _))
  rw [List.mem_range'_1] at hm
  have eg : l.getD i 0 = l[i] := by rw [List.getD_eq_getElem?_getD, List.getElem?_eq_getElem hi]; rfl
  unfold okAt
  rw [eg, seen_false]
  · rw [decide_eq_true (by omega)]; rfl
  · intro x hx
    obtain ⟨j, hj, rfl⟩ := List.mem_iff_getElem.1 hx
    rw [List.length_take] at hj
    rw [List.getElem_take]
    have := (List.pairwise_iff_getElem.1 hn) j i (by simp; omega) (by simp; omega) (by omega)
    simpa using this
def goodB (n : Nat) (g : Int) (l : List Int) : Bool := Nat.beq l.length (n * n) && (decide (isortN (l.map Int.toNat) = List.range' 1 (n * n)) && (badLine n g l).isNone)
structure GoodSq (n : Nat) (g : Int) (l : List Int) : Prop where
  len : l.length = n * n
  norm : isNorm l = true
  bad : badLine n g l = none
theorem goodB_ok {n : Nat} {g : Int} {l : List Int} (h : goodB n g l = true) : GoodSq n g l := by
  unfold goodB at h
  rw [Bool.and_eq_true, Bool.and_eq_true, decide_eq_true_eq] at h
  have h1 := Nat.eq_of_beq_eq_true h.1
  refine ⟨h1, isNorm_sort h1 h.2.1, ?_⟩
  have := h.2.2
  cases hb : badLine n g l with
  | none => rfl
  | some x => rw [hb] at this; simp at this
theorem flat_idx {n i j : Nat} (hi : i < n) (hj : j < n) : n * i + j < n * n := by
  have := Nat.mul_le_mul_left n (show i + 1 ≤ n by omega)
  rw [Nat.mul_add] at this; omega
/-- a normal square -/
structure NormG (r c : Int) (l : List Int) (n : Nat) : Prop where
  er : r = n
  ec : c = n
  en : 1 ≤ n ∧ n ≤ 16
  el : l.length = n * n
  eb : ∀ x ∈ l, 1 ≤ x ∧ x ≤ 256
end Go.Eng.YtobnbkoeocdhbaaGreatDoor
namespace Go.Eng.YtobnbkoeocdhbaaGreatDoor
open Go.Proofs
set_option maxRecDepth 100000
set_option maxHeartbeats 0
set_option linter.unusedVariables false
set_option linter.unusedSimpArgs false
def sumF (f : Nat → Int) : Nat → Int
  | 0 => 0
  | n + 1 => sumF f n + f n
theorem sumF_congr {f g : Nat → Int} : ∀ {n : Nat}, (∀ i, i < n → f i = g i) → sumF f n = sumF g n := by
  intro n
  induction n with
  | zero => intro _; rfl
  | succ n ih => intro h; simp only [sumF]; rw [ih fun i hi => h i (by omega), h n (by omega)]
theorem sumF_add (f g : Nat → Int) : ∀ n : Nat, sumF (fun i => f i + g i) n = sumF f n + sumF g n := by
  intro n
  induction n with
  | zero => rfl
  | succ n ih => simp only [sumF, ih]; omega
theorem sumF_mul (c : Int) (f : Nat → Int) : ∀ n : Nat, sumF (fun i => c * f i) n = c * sumF f n := by
  intro n
  induction n with
  | zero => simp [sumF]
  | succ n ih => simp only [sumF, ih, Int.mul_add]
theorem sumF_const (c : Int) : ∀ n : Nat, sumF (fun _ => c) n = n * c := by
  intro n
  induction n with
  | zero => simp [sumF]
  | succ n ih => simp only [sumF, ih]; push_cast; rw [Int.add_mul]; omega
theorem sumF_app (f : Nat → Int) (m : Nat) : ∀ n : Nat, sumF f (m + n) = sumF f m + sumF (fun i => f (m + i)) n := by
  intro n
  induction n with
  | zero => simp [sumF]
  | succ n ih => rw [← Nat.add_assoc]; simp only [sumF, ih]; omega
theorem sumF_block (f : Nat → Int) (n : Nat) : ∀ m : Nat, sumF f (m * n) = sumF (fun i => sumF (fun j => f (i * n + j)) n) m := by
  intro m
  induction m with
  | zero => simp [sumF]
  | succ m ih => rw [Nat.add_mul, Nat.one_mul, sumF_app, ih]; rfl
theorem sumF_swap (f : Nat → Nat → Int) (n : Nat) : ∀ m : Nat, sumF (fun i => sumF (f i) n) m = sumF (fun j => sumF (fun i => f i j) m) n := by
  intro m
  induction m with
  | zero => simp only [sumF]; rw [sumF_const]; simp
  | succ m ih => simp only [sumF]; rw [ih, ← sumF_add]
theorem sumF_at (g : Nat → Int) (a : Nat) : ∀ n : Nat, sumF (fun i => if i = a then g i else 0) n = if a < n then g a else 0 := by
  intro n
  induction n with
  | zero => simp [sumF]
  | succ n ih =>
    simp only [sumF, ih]
    by_cases h : n = a
    · subst h; simp
    · rw [if_neg h]
      by_cases h2 : a < n
      · rw [if_pos h2, if_pos (by omega)]; omega
      · rw [if_neg h2, if_neg (by omega)]; rfl
/-- a sum in another order -/
theorem sumF_perm {c : Nat → Nat} {N : Nat} (hb : ∀ i, i < N → c i < N) (h : ∀ i j, i < j → j < N → c i ≠ c j) (f : Nat → Int) : sumF (fun i => f (c i)) N = sumF f N := by
  have e1 : sumF (fun i => f (c i)) N = sumF (fun i => sumF (fun y => if y = c i then f y else 0) N) N :=
    sumF_congr fun i hi => by rw [sumF_at, if_pos (hb i hi)]
  rw [e1, sumF_swap]
  refine sumF_congr fun y hy => ?_
  obtain ⟨i0, h0, h1⟩ := inj_surj hb h y hy
  have e2 : sumF (fun i => if y = c i then f y else 0) N = sumF (fun i => if i = i0 then f y else 0) N := sumF_congr fun i hi => by
    by_cases e : i = i0
    · subst e; rw [if_pos h1.symm, if_pos rfl]
    · rw [if_neg e, if_neg]
      intro hc
      rcases Nat.lt_or_gt_of_ne e with hlt | hgt
      · exact h i i0 hlt h0 (by omega)
      · exact h i0 i hgt hi (by omega)
  rw [e2, sumF_at (fun _ => f y), if_pos h0]
theorem sumF_nonneg {f : Nat → Int} : ∀ {n : Nat}, (∀ i, i < n → 0 ≤ f i) → 0 ≤ sumF f n := by
  intro n
  induction n with
  | zero => intro _; simp [sumF]
  | succ n ih => intro h; have := ih fun i hi => h i (by omega); have := h n (by omega); simp only [sumF]; omega
/-! the sum of some cells -/
theorem sumAt_map (L : List Int) (c : Nat → Int) (m : Nat) : ∀ t, t ≤ m → sumAt L ((List.range m).map c) t = sumF (fun i => L.getD (c i).toNat 0) t := by
  intro t
  induction t with
  | zero => intro _; simp [sumAt, sumF]
  | succ t ih =>
    intro h
    rw [sumAt_succ _ _ _ (by simp; omega), ih (by omega), sumF]
    congr 2
    have : ((List.range m).map c).getD t 0 = c t := by
      rw [List.getD_eq_getElem?_getD, List.getElem?_map, List.getElem?_range (by omega)]; rfl
    rw [this]
theorem sumAt_colL (L : List Int) (n : Nat) (h : Nat → Int) : sumAt L (colL n h n) n = sumF (fun i => L.getD (n * i + (h i % n).toNat) 0) n := by
  unfold colL
  rw [sumAt_map _ _ _ _ (Nat.le_refl _)]
  refine sumF_congr fun i hi => ?_
  have h1 : 0 ≤ h i % n := Int.emod_nonneg _ (by omega)
  congr 1
  have : (n : Int) * i + h i % n = ((n * i + (h i % n).toNat : Nat) : Int) := by push_cast; rw [Int.toNat_of_nonneg h1]
  rw [this, Int.toNat_natCast]
theorem ls_row (n : Nat) (L : List Int) (i : Nat) (hi : i < n) : lineSum n L i = sumF (fun j => L.getD (n * i + j) 0) n := by
  unfold lineSum
  rw [lineAt_row hi]
  unfold rowL
  rw [sumAt_map _ _ _ _ (Nat.le_refl _)]
  refine sumF_congr fun j hj => ?_
  rfl
theorem ls_col (n : Nat) (L : List Int) (j : Nat) (hj : j < n) : lineSum n L (n + j) = sumF (fun i => L.getD (n * i + j) 0) n := by
  unfold lineSum
  rw [lineAt_col hj, sumAt_colL]
  refine sumF_congr fun i hi => ?_
  rw [Int.emod_eq_of_lt (by omega) (by omega), Int.toNat_natCast]
def upI (n k : Nat) : Nat := if k = 0 then 2 * n else 2 * n + 1 + k
def dnI (n k : Nat) : Nat := if k + 1 = n then 2 * n + 1 else 3 * n + 1 + k
theorem toNat_emod_cast (n : Nat) (hn : 1 ≤ n) (x : Int) (y : Nat) (k : Int) (h : x - y = n * k) : (x % n).toNat = y % n := by
  rw [emod_of_sub h, ← Int.natCast_emod, Int.toNat_natCast]
theorem ls_up (n : Nat) (L : List Int) (k : Nat) (hk : k < n) : lineSum n L (upI n k) = sumF (fun i => L.getD (n * i + (i + k) % n) 0) n := by
  unfold lineSum upI
  by_cases h : k = 0
  · subst h
    rw [if_pos rfl, lineAt_d1, sumAt_colL]
    refine sumF_congr fun i hi => ?_
    rw [toNat_emod_cast n (by omega) _ (i + 0) 0 (by simp)]
  · obtain ⟨q, rfl⟩ : ∃ q, k = q + 1 := ⟨k - 1, by omega⟩
    rw [if_neg h, show 2 * n + 1 + (q + 1) = 2 * n + 2 + q by omega, lineAt_b1 (by omega), sumAt_colL]
    refine sumF_congr fun i hi => ?_
    rw [toNat_emod_cast n (by omega) _ (i + (q + 1)) 0 (by simp)]
theorem ls_dn (n : Nat) (L : List Int) (k : Nat) (hk : k < n) : lineSum n L (dnI n k) = sumF (fun i => L.getD (n * i + (k + n - i) % n) 0) n := by
  unfold lineSum dnI
  by_cases h : k + 1 = n
  · rw [if_pos h, lineAt_d2, sumAt_colL]
    refine sumF_congr fun i hi => ?_
    rw [toNat_emod_cast n (by omega) _ (k + n - i) (-1) (by omega)]
  · rw [if_neg h, lineAt_b2 (by omega), sumAt_colL]
    refine sumF_congr fun i hi => ?_
    rw [toNat_emod_cast n (by omega) _ (k + n - i) (-1) (by omega)]
/-- the lines of the first groups have the sum -/
structure GoodK (n : Nat) (g : Int) (f : Nat → Nat → Int) (c : Int) : Prop where
  row : 1 ≤ g → ∀ i, i < n → sumF (fun j => f i j) n = c
  col : 1 ≤ g → ∀ j, j < n → sumF (fun i => f i j) n = c
  d1 : 2 ≤ g → sumF (fun i => f i i) n = c
  d2 : 2 ≤ g → sumF (fun i => f i (n - 1 - i)) n = c
  up : 3 ≤ g → ∀ k, k < n → sumF (fun i => f i ((i + k) % n)) n = c
  dn : 3 ≤ g → ∀ k, k < n → sumF (fun i => f i ((k + n - i) % n)) n = c
theorem dn_last (n : Nat) (f : Nat → Nat → Int) : sumF (fun i => f i ((n - 1 + n - i) % n)) n = sumF (fun i => f i (n - 1 - i)) n := by
  refine sumF_congr fun i hi => ?_
  congr 1
  rw [show n - 1 + n - i = (n - 1 - i) + n by omega, Nat.add_mod_right, Nat.mod_eq_of_lt (by omega)]
theorem up_first (n : Nat) (f : Nat → Nat → Int) : sumF (fun i => f i ((i + 0) % n)) n = sumF (fun i => f i i) n := by
  refine sumF_congr fun i hi => ?_
  rw [Nat.add_zero, Nat.mod_eq_of_lt hi]
def sqAt (n : Nat) (L : List Int) (i j : Nat) : Int := L.getD (n * i + j) 0
theorem badLine_iff {n : Nat} (hn : 1 ≤ n) (g : Int) (L : List Int) : badLine n g L = none ↔ ∀ i, i < lineCnt n g → lineSum n L i = constOf n := by
  unfold badLine
  rw [List.find?_eq_none]
  simp only [List.mem_range, Bool.not_eq_true', Bool.not_eq_false, lineOk, decide_eq_true_eq]
theorem line_cases {n i : Nat} (hi : i < 4 * n) : (i < n) ∨ (∃ j, j < n ∧ i = n + j) ∨ (∃ k, k < n ∧ i = upI n k) ∨ (∃ k, k < n ∧ i = dnI n k) := by
  by_cases h1 : i < n
  · exact .inl h1
  by_cases h2 : i < 2 * n
  · exact .inr (.inl ⟨i - n, by omega, by omega⟩)
  by_cases h3 : i = 2 * n
  · exact .inr (.inr (.inl ⟨0, by omega, by unfold upI; rw [if_pos rfl]; exact h3⟩))
  by_cases h4 : i = 2 * n + 1
  · exact .inr (.inr (.inr ⟨n - 1, by omega, by unfold dnI; rw [if_pos (by omega)]; exact h4⟩))
  by_cases h5 : i < 3 * n + 1
  · exact .inr (.inr (.inl ⟨i - (2 * n + 1), by omega, by unfold upI; rw [if_neg (by omega)]; omega⟩))
  · exact .inr (.inr (.inr ⟨i - (3 * n + 1), by omega, by unfold dnI; rw [if_neg (by omega)]; omega⟩))
theorem good_iff {n : Nat} (hn : 2 ≤ n ∨ n = 1) (g : Int) (L : List Int) : badLine n g L = none ↔ GoodK n g (sqAt n L) (constOf n) := by
  rw [badLine_iff (by omega)]
  have c1 : g < 1 → lineCnt n g = 0 := fun h => by unfold lineCnt; rw [if_pos h]
  have c2 : 1 ≤ g → 2 * n ≤ lineCnt n g := fun h => by unfold lineCnt; rw [if_neg (by omega)]; (repeat' split) <;> omega
  have c3 : 2 ≤ g → 2 * n + 2 ≤ lineCnt n g := fun h => by unfold lineCnt; rw [if_neg (by omega), if_neg (by omega)]; (repeat' split) <;> omega
  have c4 : 3 ≤ g → lineCnt n g = 4 * n := fun h => by unfold lineCnt; rw [if_neg (by omega), if_neg (by omega), if_neg (by omega)]
  have c5 : g < 2 → lineCnt n g ≤ 2 * n := fun h => by unfold lineCnt; (repeat' split) <;> omega
  have c6 : g < 3 → lineCnt n g ≤ 2 * n + 2 := fun h => by unfold lineCnt; (repeat' split) <;> omega
  constructor
  · intro h
    have hup : 3 ≤ g → ∀ k, k < n → sumF (fun i => sqAt n L i ((i + k) % n)) n = constOf n := fun hg k hk => by
      have := h (upI n k) (by rw [c4 hg]; unfold upI; split <;> omega)
      rwa [ls_up n L k hk] at this
    have hdn : 3 ≤ g → ∀ k, k < n → sumF (fun i => sqAt n L i ((k + n - i) % n)) n = constOf n := fun hg k hk => by
      have := h (dnI n k) (by rw [c4 hg]; unfold dnI; split <;> omega)
      rwa [ls_dn n L k hk] at this
    refine ⟨fun hg i hi => ?_, fun hg j hj => ?_, fun hg => ?_, fun hg => ?_, hup, hdn⟩
    · have := h i (by have := c2 hg; omega)
      rwa [ls_row n L i hi] at this
    · have := h (n + j) (by have := c2 hg; omega)
      rwa [ls_col n L j hj] at this
    · have := h (upI n 0) (by have := c3 hg; unfold upI; rw [if_pos rfl]; omega)
      rw [ls_up n L 0 (by omega)] at this
      rw [← up_first n (sqAt n L)]; exact this
    · have := h (dnI n (n - 1)) (by have := c3 hg; unfold dnI; rw [if_pos (by omega)]; omega)
      rw [ls_dn n L (n - 1) (by omega)] at this
      rw [← dn_last n (sqAt n L)]; exact this
  · intro h i hi
    have hg : 1 ≤ g := Classical.byContradiction fun hh => by rw [c1 (by omega)] at hi; omega
    have h4 : i < 4 * n := by
      by_cases h3 : 3 ≤ g
      · rw [c4 h3] at hi; exact hi
      · have := c6 (by omega)
        rcases hn with h2 | h2
        · omega
        · subst h2
          by_cases h22 : 2 ≤ g
          · have := c3 h22; omega
          · have := c5 (by omega); omega
    rcases line_cases h4 with h1 | ⟨j, h1, rfl⟩ | ⟨k, h1, rfl⟩ | ⟨k, h1, rfl⟩
    · rw [ls_row n L i h1]; exact h.row hg i h1
    · rw [ls_col n L j h1]; exact h.col hg j h1
    · rw [ls_up n L k h1]
      by_cases hk : k = 0
      · subst hk
        have h2 : 2 ≤ g := Classical.byContradiction fun hh => by have := c5 (by omega); unfold upI at hi; rw [if_pos rfl] at hi; omega
        have := h.d1 h2
        rw [← up_first n (sqAt n L)] at this; exact this
      · have h3 : 3 ≤ g := Classical.byContradiction fun hh => by have := c6 (by omega); unfold upI at hi; rw [if_neg hk] at hi; omega
        exact h.up h3 k h1
    · rw [ls_dn n L k h1]
      by_cases hk : k + 1 = n
      · obtain rfl : k = n - 1 := by omega
        have h2 : 2 ≤ g := Classical.byContradiction fun hh => by have := c5 (by omega); unfold dnI at hi; rw [if_pos (by omega)] at hi; omega
        have := h.d2 h2
        rw [← dn_last n (sqAt n L)] at this; exact this
      · have h3 : 3 ≤ g := Classical.byContradiction fun hh => by have := c6 (by omega); unfold dnI at hi; rw [if_neg hk] at hi; omega
        exact h.dn h3 k h1
/-! lists with each number once -/
theorem seen_iff (m : Nat) (l : List Int) (v : Nat) (hv : v < m) : ∀ i, i ≤ l.length → ((seenAt m l i).getD v false = true ↔ ∃ j, j < i ∧ (l.getD j 0).toNat = v) := by
  intro i
  induction i with
  | zero => intro _; simp only [seenAt, List.take_zero, List.foldl_nil]; rw [List.getD_eq_getElem?_getD, List.getElem?_replicate, if_pos hv]; simp
  | succ i ih =>
    intro hi
    rw [seenAt_succ m l i hi, List.getD_eq_getElem?_getD, List.getElem?_set]
    have hl := seenAt_len m l i
    by_cases e : (l.getD i 0).toNat = v
    · rw [if_pos e, if_pos (by omega)]
      simp only [Option.getD_some, true_iff]
      exact ⟨i, by omega, e⟩
    · rw [if_neg e, ← List.getD_eq_getElem?_getD, ih (by omega)]
      constructor
      · rintro ⟨j, h1, h2⟩; exact ⟨j, by omega, h2⟩
      · rintro ⟨j, h1, h2⟩
        by_cases ej : j = i
        · subst ej; exact absurd h2 e
        · exact ⟨j, by omega, h2⟩
theorem distinct_iff (lo : Int) (hlo : 0 ≤ lo) (m : Nat) (l : List Int) : distinctIn lo m l = true ↔ (∀ i, i < l.length → lo ≤ l.getD i 0 ∧ l.getD i 0 < m) ∧ ∀ i j, i < j → j < l.length → l.getD i 0 ≠ l.getD j 0 := by
  unfold distinctIn
  rw [List.all_eq_true]
  simp only [List.mem_range, okAt, Bool.and_eq_true, decide_eq_true_eq, Bool.not_eq_true']
  constructor
  · intro h
    refine ⟨fun i hi => (h i hi).1, fun i j hij hj e => ?_⟩
    have h2 := (h j hj).2
    have h3 := (h j hj).1
    have := (seen_iff m l (l.getD j 0).toNat (by omega) j (by omega)).2 ⟨i, hij, by rw [e]⟩
    rw [this] at h2; cases h2
  · rintro ⟨h1, h2⟩ i hi
    refine ⟨h1 i hi, ?_⟩
    have h3 := h1 i hi
    cases hs : (seenAt m l i).getD (l.getD i 0).toNat false with
    | false => rfl
    | true =>
      obtain ⟨j, hj, he⟩ := (seen_iff m l (l.getD i 0).toNat (by omega) i (by omega)).1 hs
      have h4 := h1 j (by omega)
      exact absurd (show l.getD j 0 = l.getD i 0 by omega) (h2 j i hj hi)
theorem isNorm_iff (l : List Int) : isNorm l = true ↔ (∀ i, i < l.length → 1 ≤ l.getD i 0 ∧ l.getD i 0 ≤ l.length) ∧ ∀ i j, i < j → j < l.length → l.getD i 0 ≠ l.getD j 0 := by
  unfold isNorm
  rw [distinct_iff 1 (by omega)]
  refine and_congr_left fun _ => ?_
  constructor
  · intro h i hi; have := h i hi; omega
  · intro h i hi; have := h i hi; omega
/-- squares made by a function -/
theorem madeL_get {n : Nat} {h : Nat → Nat → Int} {i j : Nat} (hi : i < n) (hj : j < n) : (madeL n h).getD (n * i + j) 0 = h i j := by
  have hlt : n * i + j < n * n := by
    have := Nat.mul_le_mul_left n (show i + 1 ≤ n by omega)
    rw [Nat.mul_add] at this; omega
  unfold madeL
  rw [List.getD_eq_getElem?_getD, List.getElem?_map, List.getElem?_range hlt]
  simp only [Option.map_some, Option.getD_some]
  rw [Nat.mul_add_div (by omega), Nat.div_eq_of_lt hj, Nat.mul_add_mod, Nat.mod_eq_of_lt hj, Nat.add_zero]
theorem GoodK.congr {n : Nat} {g : Int} {f f' : Nat → Nat → Int} {c : Int} (h : GoodK n g f c) (e : ∀ i j, i < n → j < n → f i j = f' i j) : GoodK n g f' c := by
  have key : ∀ p q : Nat → Nat, (∀ i, i < n → p i < n) → (∀ i, i < n → q i < n) → sumF (fun i => f (p i) (q i)) n = c → sumF (fun i => f' (p i) (q i)) n = c := fun p q hp hq h => by
    rw [← h]; exact sumF_congr fun i hi => (e _ _ (hp i hi) (hq i hi)).symm
  refine ⟨fun hg i hi => ?_, fun hg j hj => ?_, fun hg => ?_, fun hg => ?_, fun hg k hk => ?_, fun hg k hk => ?_⟩
  · exact key (fun _ => i) (fun j => j) (fun _ _ => hi) (fun j hj => hj) (h.row hg i hi)
  · exact key (fun i => i) (fun _ => j) (fun j hj => hj) (fun _ _ => hj) (h.col hg j hj)
  · exact key (fun i => i) (fun i => i) (fun j hj => hj) (fun j hj => hj) (h.d1 hg)
  · exact key (fun i => i) (fun i => n - 1 - i) (fun j hj => hj) (fun j hj => by (try simp only); omega) (h.d2 hg)
  · exact key (fun i => i) (fun i => (i + k) % n) (fun j hj => hj) (fun j hj => Nat.mod_lt _ (by omega)) (h.up hg k hk)
  · exact key (fun i => i) (fun i => (k + n - i) % n) (fun j hj => hj) (fun j hj => Nat.mod_lt _ (by omega)) (h.dn hg k hk)
end Go.Eng.YtobnbkoeocdhbaaGreatDoor
namespace Go.Eng.YtobnbkoeocdhbaaGreatDoor
open Go.Proofs
set_option maxRecDepth 100000
set_option maxHeartbeats 0
set_option linter.unusedVariables false
set_option linter.unusedSimpArgs false
structure MagOK (r c : Int) (l : List Int) (m g : Int) : Prop where
  ex : ∃ n : Nat, (1 ≤ n ∧ n ≤ 16) ∧ r = n ∧ c = n ∧ m = n ∧ GoodSq n g l
end Go.Eng.YtobnbkoeocdhbaaGreatDoor
namespace Go.Eng.YtobnbkoeocdhbaaGreatDoor
open Go.Proofs
set_option maxRecDepth 100000
set_option maxHeartbeats 0
set_option linter.unusedVariables false
set_option linter.unusedSimpArgs false
def upTo (n : Nat) : List Int := (List.range n).map fun i : Nat => (i : Int) + 1
theorem mem_upTo {n : Nat} {a : Int} : a ∈ upTo n ↔ 1 ≤ a ∧ a ≤ n := by
  unfold upTo
  rw [List.mem_map]
  constructor
  · rintro ⟨i, hi, rfl⟩
    have := List.mem_range.1 hi
    omega
  · intro h
    exact ⟨(a - 1).toNat, List.mem_range.2 (by omega), by omega⟩
theorem upTo_nodup (n : Nat) : (upTo n).Nodup := by
  unfold upTo
  refine List.Pairwise.map _ ?_ List.nodup_range
  intro a b h; omega
theorem upTo_asc (n : Nat) : (upTo n).Pairwise (· ≤ ·) := by
  unfold upTo
  rw [List.pairwise_map]
  refine List.pairwise_iff_getElem.2 fun i j hi hj hij => ?_
  simp only [List.getElem_range]; omega
theorem getD_at {l : List Int} {i : Nat} (h : i < l.length) : l.getD i 0 = l[i] := by rw [List.getD_eq_getElem?_getD, List.getElem?_eq_getElem h]; rfl
theorem norm_perm {l : List Int} (h : isNorm l = true) : (upTo l.length).Perm l := by
  obtain ⟨h1, h2⟩ := (isNorm_iff l).1 h
  have hn : l.Nodup := List.pairwise_iff_getElem.2 fun i j hi hj hij => by
    have := h2 i j hij hj
    rwa [getD_at hi, getD_at hj] at this
  refine List.perm_iff_count.2 fun a => ?_
  have hm : a ∈ upTo l.length ↔ a ∈ l := by
    rw [mem_upTo]
    constructor
    · intro ha
      obtain ⟨i, hi, he⟩ := inj_surj (c := fun i => (l.getD i 0 - 1).toNat) (N := l.length) (fun i hi => by have := h1 i hi; omega) (fun i j hij hj e => by
        have a1 := h1 i (by omega); have a2 := h1 j hj
        exact h2 i j hij hj (by omega)) (a - 1).toNat (by omega)
      have a1 := h1 i hi
      have : a = l[i] := by rw [← getD_at hi]; omega
      rw [this]; exact List.getElem_mem _
    · intro ha
      obtain ⟨i, hi, rfl⟩ := List.getElem_of_mem ha
      have := h1 i hi
      rwa [getD_at hi] at this
  rw [(upTo_nodup _).count, hn.count]
  by_cases h' : a ∈ l
  · rw [if_pos h', if_pos (hm.2 h')]
  · rw [if_neg h', if_neg fun h => h' (hm.1 h)]
theorem sortI_norm {l : List Int} (h : isNorm l = true) : sortI l = upTo l.length := by
  have h1 : (sortI l).Perm (upTo l.length) := (List.mergeSort_perm l _).trans (norm_perm h).symm
  have h2 : (sortI l).Pairwise (· ≤ ·) := by
    have := List.pairwise_mergeSort (le := fun x y : Int => decide (x ≤ y)) (fun a b c h1 h2 => by simp only [decide_eq_true_eq] at *; omega) (fun a b => by simp only [Bool.or_eq_true, decide_eq_true_eq]; omega) l
    exact this.imp fun h => by simpa using h
  exact h1.eq_of_pairwise (fun a b _ _ h1 h2 => Int.le_antisymm h1 h2) h2 (upTo_asc _)
theorem nrmB_norm {l : List Int} (h : isNorm l = true) : nrmB l = true := by
  refine nrmB_true fun i hi => ?_
  rw [sortI_norm h, List.getD_eq_getElem?_getD]
  simp [upTo, hi]
/-! lines -/
theorem allL_eq {n : Nat} (h : 1 ≤ n ∧ n ≤ 10) : rwL n = linesTo n (2 * n) ∧ rwL n ++ mn2 n = linesTo n (2 * n + 2) ∧ rwL n ++ mn2 n ++ rs2 n = linesTo n (4 * n) := by
  obtain rfl | rfl | rfl | rfl | rfl | rfl | rfl | rfl | rfl | rfl : n = 1 ∨ n = 2 ∨ n = 3 ∨ n = 4 ∨ n = 5 ∨ n = 6 ∨ n = 7 ∨ n = 8 ∨ n = 9 ∨ n = 10 := by omega
  all_goals decide +kernel
def lnM (n : Nat) (s : ByteArray) : Nat := if s = kSem1 then 2 * n else if s = kPan1 then 4 * n else 2 * n + 2
theorem lnsK_mem {n : Nat} (h : 1 ≤ n ∧ n ≤ 10) (s : ByteArray) (l : List Int) : l ∈ lnsK n s ↔ ∃ i, i < lnM n s ∧ l = lineAt n i := by
  have key : ∀ m, l ∈ linesTo n m ↔ ∃ i, i < m ∧ l = lineAt n i := fun m => by
    unfold linesTo
    rw [List.mem_map]
    constructor
    · rintro ⟨i, hi, rfl⟩; exact ⟨i, List.mem_range.1 hi, rfl⟩
    · rintro ⟨i, hi, rfl⟩; exact ⟨i, List.mem_range.2 hi, rfl⟩
  obtain ⟨e1, e2, e3⟩ := allL_eq h
  unfold lnsK lnM
  split
  · rw [mem_ddT, e1, key]
  split
  · rw [mem_ddT, e3, key]
  · rw [mem_ddT, e2, key]
theorem isB_iff {n : Int} {s : ByteArray} {f : List Int} : isB n s f = true ↔ ∀ i, i < (lnsK n.toNat s).length → sumAt f ((lnsK n.toNat s).getD i []) ((lnsK n.toNat s).getD i []).length = sumAt f ((lnsK n.toNat s).getD 0 []) ((lnsK n.toNat s).getD 0 []).length := by
  unfold isB diffI
  generalize lnsK n.toNat s = ls
  have hg : ∀ i, i < ls.length → (sumsL f ls ls.length).getD i 0 = sumAt f (ls.getD i []) (ls.getD i []).length := fun i hi => by
    unfold sumsL
    rw [List.take_length, List.getD_eq_getElem?_getD, List.getElem?_map, List.getElem?_eq_getElem hi, List.getD_eq_getElem?_getD, List.getElem?_eq_getElem hi]; rfl
  have hl := sumsL_len f ls ls.length (Nat.le_refl _)
  rw [hl]
  have e : decide (firstAt (fun i => notHd (sumsL f ls ls.length) ((sumsL f ls ls.length).getD i 0)) ls.length < 0) = !(List.range ls.length).any fun i => notHd (sumsL f ls ls.length) ((sumsL f ls ls.length).getD i 0) := by
    rw [← firstAt_nonneg, ← decide_not]
    congr 1
    exact propext ⟨fun h => by omega, fun h => by omega⟩
  rw [e, Bool.not_eq_true', List.any_eq_false]
  simp only [List.mem_range, notHd, decide_eq_true_eq, ne_eq, Classical.not_not]
  constructor
  · intro h i hi
    have := h i hi
    rwa [hg i hi, hg 0 (by omega)] at this
  · intro h i hi
    rw [hg i hi, hg 0 (by omega)]
    exact h i hi
theorem isB_lines {n : Nat} (hn : 1 ≤ n ∧ n ≤ 10) {s : ByteArray} {f : List Int} : isB n s f = true ↔ ∃ c, ∀ i, i < lnM n s → lineSum n f i = c := by
  have hs : ∀ i, lineSum n f i = sumAt f (lineAt n i) (lineAt n i).length := fun i => by rw [lineAt_len]; rfl
  have hk := lnsK_len hn s
  rw [isB_iff, Int.toNat_natCast]
  constructor
  · intro h
    refine ⟨sumAt f ((lnsK n s).getD 0 []) ((lnsK n s).getD 0 []).length, fun i hi => ?_⟩
    have hm := (lnsK_mem hn s (lineAt n i)).2 ⟨i, hi, rfl⟩
    obtain ⟨j, hj, e⟩ := List.getElem_of_mem hm
    have := h j hj
    rw [List.getD_eq_getElem?_getD, List.getElem?_eq_getElem hj] at this
    simp only [Option.getD_some] at this
    rw [e] at this
    rw [hs, this]
  · rintro ⟨c, h⟩ i hi
    have key : ∀ i, i < (lnsK n s).length → sumAt f ((lnsK n s).getD i []) ((lnsK n s).getD i []).length = c := fun i hi => by
      obtain ⟨j, hj, e⟩ := (lnsK_mem hn s _).1 (getD_mem' hi)
      rw [e, ← hs]; exact h j hj
    rw [key i hi, key 0 (by omega)]
theorem isB_of {n : Nat} (hn : 1 ≤ n ∧ n ≤ 10) {s : ByteArray} {g : Int} (hg : lnM n s = lineCnt n g) {f : List Int} (h : badLine n g f = none) : isB n s f = true := by
  rw [isB_lines hn]
  refine ⟨constOf n, fun i hi => ?_⟩
  exact (badLine_iff (by omega) g f).1 h i (by rw [← hg]; exact hi)
theorem sum_id : ∀ N : Nat, 2 * sumF (fun i => (i : Int) + 1) N = N * ((N : Int) + 1) := by
  intro N
  induction N with
  | zero => rfl
  | succ N ih =>
    show 2 * (sumF (fun i => (i : Int) + 1) N + ((N : Int) + 1)) = _
    rw [Int.mul_add, ih, Int.natCast_succ]
    simp only [Int.add_mul, Int.mul_add, Int.one_mul, Int.mul_one]
    omega
theorem norm_total {l : List Int} (h : isNorm l = true) : sumF (fun k => l.getD k 0) l.length = sumF (fun i => (i : Int) + 1) l.length := by
  obtain ⟨h1, h2⟩ := (isNorm_iff l).1 h
  refine Eq.trans ?_ (sumF_perm (c := fun i => (l.getD i 0 - 1).toNat) (N := l.length) (fun i hi => by have := h1 i hi; omega) (fun i j hij hj e => by
    have a1 := h1 i (by omega); have a2 := h1 j hj
    exact h2 i j hij hj (by omega)) (fun i => (i : Int) + 1))
  refine sumF_congr fun i hi => ?_
  have := h1 i hi
  omega
theorem isB_good {n : Nat} (hn : 1 ≤ n ∧ n ≤ 10) {s : ByteArray} {g : Int} (hg : lnM n s = lineCnt n g) (h1 : 2 * n ≤ lnM n s) {f : List Int} (hl : f.length = n * n) (hf : isNorm f = true) : isB n s f = true ↔ badLine n g f = none := by
  refine ⟨fun h => ?_, isB_of hn hg⟩
  obtain ⟨c, hc⟩ := (isB_lines hn).1 h
  rw [badLine_iff (by omega)]
  have e1 : sumF (fun k => f.getD k 0) (n * n) = n * c := by
    rw [sumF_block, ← sumF_const]
    refine sumF_congr fun i hi => ?_
    rw [← hc i (by omega), ls_row n f i hi]
    exact sumF_congr fun j _ => by rw [Nat.mul_comm]
  have e2 := norm_total hf
  rw [hl, e1] at e2
  have e3 := sum_id (n * n)
  rw [← e2] at e3
  have e4 : 2 * c = n * n + 1 ∨ True := .inr trivial
  have hcc : c = constOf n := by
    have hn0 : (n : Int) ≠ 0 := by omega
    have e5 : (n : Int) * (2 * c) = n * (n * (n * n + 1)) := by
      rw [Int.mul_left_comm, e3, Int.natCast_mul, Int.mul_assoc]
    have e6 := Int.eq_of_mul_eq_mul_left hn0 e5
    unfold constOf
    omega
  intro i hi
  rw [hc i (by omega), hcc]
end Go.Eng.YtobnbkoeocdhbaaGreatDoor
namespace Go.Eng.YtobnbkoeocdhbaaGreatDoor
open Go.Proofs
set_option maxRecDepth 100000
set_option maxHeartbeats 0
set_option linter.unusedVariables false
set_option linter.unusedSimpArgs false
/-! equal lists -/
theorem eq_of_getD {a b : List Int} (hl : a.length = b.length) (h : ∀ j, j < a.length → a.getD j 0 = b.getD j 0) : a = b := by
  refine List.ext_getElem hl fun j h1 h2 => ?_
  have := h j h1
  rw [List.getD_eq_getElem?_getD, List.getD_eq_getElem?_getD, List.getElem?_eq_getElem h1, List.getElem?_eq_getElem h2] at this
  exact this
theorem sameInts_spec (a b : List Int) (ha : a.length ≤ 2000000) : PSpec Tryz.prog 54 [.isl (.ints .i64 a) .none, .isl (.ints .i64 b) .none] (.bp (decide (a = b))) := by
  refine pspec_of (md := 1) (rf := []) mixed tabOK noC_ok Tryz.func54 (by rfl) (by rfl) (by rfl) ?_
  repeat' ((conv => whnf); first | refine And.intro ?_ ?_ | with_reducible exact VC.mk rfl | exact Ok.mk | exact True.intro | refine Nx.mk ?_ | refine Fin.mk ?_ | intro _)
  all_goals ((try refine VC.mk ?_); (try simp only [CL.ncell, CL.cnt, vq] at *); (try omega))
  · rw [show decide (a = b) = false from by simp; rintro rfl; simp at *]; all_goals (refine Sup.via ?_; repeat' ((conv => whnf); first | refine And.intro ?_ ?_ | with_reducible exact VC.mk rfl | exact Ok.mk | exact True.intro | refine Nx.mk ?_ | refine Fin.mk ?_ | intro _); all_goals ((try refine VC.mk ?_); (try simp only [CL.ncell, CL.cnt, vq] at *); (try omega)); all_goals (try (simp [CL.sub]; done)))
  have hl : a.length = b.length := by omega
  conv => whnf
  refine loop_of (X := Nat) (fun i => i ≤ a.length ∧ ∀ j, j < i → a.getD j 0 = b.getD j 0) (fun i => [(5, .int .i64 i)]) (fun i => []) (fun i => a.length - i) 0 ⟨anyB_ok, mixed, tabOK, noC_ok, noY_ok⟩ (by rfl) ⟨by omega, fun j h => by omega⟩ ?_ ?_
  · repeat' ((conv => whnf); first | refine And.intro ?_ ?_ | with_reducible exact VC.mk rfl | exact Ok.mk | exact True.intro | refine Nx.mk ?_ | refine Fin.mk ?_ | intro _)
    all_goals ((try refine VC.mk ?_); (try simp only [CL.ncell, CL.cnt, vq] at *); (try omega))
  · rintro i ⟨hi, hok⟩
    by_cases hlt : i < a.length
    · repeat' ((conv => whnf); first | refine And.intro ?_ ?_ | with_reducible exact VC.mk rfl | exact Ok.mk | exact True.intro | refine Nx.mk ?_ | refine Fin.mk ?_ | intro _)
      all_goals ((try refine VC.mk ?_); (try simp only [CL.ncell, CL.cnt, vq] at *); (try omega))
      · rw [show decide (a = b) = false from by simp; rintro rfl; simp_all]; all_goals (refine Sup.via ?_; repeat' ((conv => whnf); first | refine And.intro ?_ ?_ | with_reducible exact VC.mk rfl | exact Ok.mk | exact True.intro | refine Nx.mk ?_ | refine Fin.mk ?_ | intro _); all_goals ((try refine VC.mk ?_); (try simp only [CL.ncell, CL.cnt, vq] at *); (try omega)); all_goals (try (simp [CL.sub]; done)))
      · refine ⟨i + 1, [], ⟨⟨by omega, fun j hj => ?_⟩, by omega⟩, ?_⟩
        · by_cases e : j = i
          · subst e; omega
          · exact hok j (by omega)
        · repeat' ((conv => whnf); first | refine And.intro ?_ ?_ | with_reducible exact VC.mk rfl | exact Ok.mk | exact True.intro | refine Nx.mk ?_ | refine Fin.mk ?_ | intro _)
          all_goals ((try refine VC.mk ?_); (try simp only [CL.ncell, CL.cnt, vq] at *); (try omega))
    · have : i = a.length := by omega
      subst this
      rw [show decide (a = b) = true from by simp; exact eq_of_getD hl hok]
      repeat' ((conv => whnf); first | refine And.intro ?_ ?_ | with_reducible exact VC.mk rfl | exact Ok.mk | exact True.intro | refine Nx.mk ?_ | refine Fin.mk ?_ | intro _)
      all_goals ((try refine VC.mk ?_); (try simp only [CL.ncell, CL.cnt, vq] at *); (try omega))
      all_goals (refine Sup.via ?_; repeat' ((conv => whnf); first | refine And.intro ?_ ?_ | with_reducible exact VC.mk rfl | exact Ok.mk | exact True.intro | refine Nx.mk ?_ | refine Fin.mk ?_ | intro _); all_goals ((try refine VC.mk ?_); (try simp only [CL.ncell, CL.cnt, vq] at *); (try omega)); all_goals (try (simp [CL.sub]; done)))
def sameIntsP : PSp := fun xs K => match xs with
  | [.isl (.ints .i64 a) .none, .isl (.ints .i64 b) .none] => VC (a.length ≤ 2000000) ∧ K (.bp (decide (a = b)))
  | _ => False
theorem sameInts_ok : POK Tryz.prog 54 sameIntsP := by
  intro xs K h
  unfold sameIntsP at h
  split at h
  · exact ⟨_, h.2, sameInts_spec _ _ h.1.get⟩
  · exact h.elim
theorem equal_spec (a b : List Int) (ha : a.length ≤ 2000000) : PSpec Tryz.prog 173 [.isl (.ints .i64 a) .none, .isl (.ints .i64 b) .none] (.bp (decide (a = b))) := by
  refine pspec_of (md := 1) (rf := []) mixed tabOK noC_ok Tryz.func173 (by rfl) (by rfl) (by rfl) ?_
  repeat' ((conv => whnf); first | refine And.intro ?_ ?_ | with_reducible exact VC.mk rfl | exact Ok.mk | exact True.intro | refine Nx.mk ?_ | refine Fin.mk ?_ | intro _)
  all_goals ((try refine VC.mk ?_); (try simp only [CL.ncell, CL.cnt, vq] at *); (try omega))
  · rw [show decide (a = b) = false from by simp; rintro rfl; simp at *]; all_goals (refine Sup.via ?_; repeat' ((conv => whnf); first | refine And.intro ?_ ?_ | with_reducible exact VC.mk rfl | exact Ok.mk | exact True.intro | refine Nx.mk ?_ | refine Fin.mk ?_ | intro _); all_goals ((try refine VC.mk ?_); (try simp only [CL.ncell, CL.cnt, vq] at *); (try omega)); all_goals (try (simp [CL.sub]; done)))
  have hl : a.length = b.length := by omega
  conv => whnf
  refine loop_of (X := Nat) (fun i => i ≤ a.length ∧ ∀ j, j < i → a.getD j 0 = b.getD j 0) (fun i => [(13, .int .i64 i)]) (fun i => []) (fun i => a.length - i) 0 ⟨anyB_ok, mixed, tabOK, noC_ok, noY_ok⟩ (by rfl) ⟨by omega, fun j h => by omega⟩ ?_ ?_
  · repeat' ((conv => whnf); first | refine And.intro ?_ ?_ | with_reducible exact VC.mk rfl | exact Ok.mk | exact True.intro | refine Nx.mk ?_ | refine Fin.mk ?_ | intro _)
    all_goals ((try refine VC.mk ?_); (try simp only [CL.ncell, CL.cnt, vq] at *); (try omega))
  · rintro i ⟨hi, hok⟩
    by_cases hlt : i < a.length
    · repeat' ((conv => whnf); first | refine And.intro ?_ ?_ | with_reducible exact VC.mk rfl | exact Ok.mk | exact True.intro | refine Nx.mk ?_ | refine Fin.mk ?_ | intro _)
      all_goals ((try refine VC.mk ?_); (try simp only [CL.ncell, CL.cnt, vq] at *); (try omega))
      · rw [show decide (a = b) = false from by simp; rintro rfl; simp_all]; all_goals (refine Sup.via ?_; repeat' ((conv => whnf); first | refine And.intro ?_ ?_ | with_reducible exact VC.mk rfl | exact Ok.mk | exact True.intro | refine Nx.mk ?_ | refine Fin.mk ?_ | intro _); all_goals ((try refine VC.mk ?_); (try simp only [CL.ncell, CL.cnt, vq] at *); (try omega)); all_goals (try (simp [CL.sub]; done)))
      · refine ⟨i + 1, [], ⟨⟨by omega, fun j hj => ?_⟩, by omega⟩, ?_⟩
        · by_cases e : j = i
          · subst e; omega
          · exact hok j (by omega)
        · repeat' ((conv => whnf); first | refine And.intro ?_ ?_ | with_reducible exact VC.mk rfl | exact Ok.mk | exact True.intro | refine Nx.mk ?_ | refine Fin.mk ?_ | intro _)
          all_goals ((try refine VC.mk ?_); (try simp only [CL.ncell, CL.cnt, vq] at *); (try omega))
    · have : i = a.length := by omega
      subst this
      rw [show decide (a = b) = true from by simp; exact eq_of_getD hl hok]
      repeat' ((conv => whnf); first | refine And.intro ?_ ?_ | with_reducible exact VC.mk rfl | exact Ok.mk | exact True.intro | refine Nx.mk ?_ | refine Fin.mk ?_ | intro _)
      all_goals ((try refine VC.mk ?_); (try simp only [CL.ncell, CL.cnt, vq] at *); (try omega))
      all_goals (refine Sup.via ?_; repeat' ((conv => whnf); first | refine And.intro ?_ ?_ | with_reducible exact VC.mk rfl | exact Ok.mk | exact True.intro | refine Nx.mk ?_ | refine Fin.mk ?_ | intro _); all_goals ((try refine VC.mk ?_); (try simp only [CL.ncell, CL.cnt, vq] at *); (try omega)); all_goals (try (simp [CL.sub]; done)))
def equalP : PSp := fun xs K => match xs with
  | [.isl (.ints .i64 a) .none, .isl (.ints .i64 b) .none] => VC (a.length ≤ 2000000) ∧ K (.bp (decide (a = b)))
  | _ => False
theorem equal_ok : POK Tryz.prog 173 equalP := by
  intro xs K h
  unfold equalP at h
  split at h
  · exact ⟨_, h.2, equal_spec _ _ h.1.get⟩
  · exact h.elim
/-! a line among others -/
noncomputable def cpHl : CPT := cpAdd 54 (pureCC sameIntsP) noC
theorem cpHl_ok : CPOK Tryz.prog cpHl := cpAdd_ok (pureCC_ok sameInts_ok) noC_ok
theorem hasLine_spec (ls : List (List Int)) (l : List Int) (hl : ls.length ≤ 1000000 ∧ ∀ x ∈ ls, x.length ≤ 1000) : PSpec Tryz.prog 20 [.isl (.rows .i64 ls) .none, .isl (.ints .i64 l) .none] (.bp (ls.any fun x => decide (x = l))) := by
  refine pspec_of (md := 1) (rf := []) mixed tabOK cpHl_ok Tryz.func20 (by rfl) (by rfl) (by rfl) ?_
  repeat' ((conv => whnf); first | refine And.intro ?_ ?_ | with_reducible exact VC.mk rfl | exact Ok.mk | exact True.intro | refine Nx.mk ?_ | refine Fin.mk ?_ | intro _)
  all_goals ((try refine VC.mk ?_); (try simp only [CL.ncell, CL.cnt, vq] at *); (try omega))
  conv => whnf
  refine loop_of (X := Nat) (fun i => i ≤ ls.length ∧ ∀ j, j < i → ls.getD j [] ≠ l) (fun i => [(5, .int .i64 i)]) (fun i => []) (fun i => ls.length - i) 0 ⟨anyB_ok, mixed, tabOK, cpHl_ok, noY_ok⟩ (by rfl) ⟨by omega, fun j h => by omega⟩ ?_ ?_
  · repeat' ((conv => whnf); first | refine And.intro ?_ ?_ | with_reducible exact VC.mk rfl | exact Ok.mk | exact True.intro | refine Nx.mk ?_ | refine Fin.mk ?_ | intro _)
    all_goals ((try refine VC.mk ?_); (try simp only [CL.ncell, CL.cnt, vq] at *); (try omega))
  · rintro i ⟨hi, hok⟩
    by_cases hlt : i < ls.length
    · have hm := hl.2 _ (getD_mem' hlt)
      repeat' ((conv => whnf); first | refine And.intro ?_ ?_ | with_reducible exact VC.mk rfl | exact Ok.mk | exact True.intro | refine Nx.mk ?_ | refine Fin.mk ?_ | intro _)
      all_goals ((try refine VC.mk ?_); (try simp only [CL.ncell, CL.cnt, vq] at *); (try omega))
      · rename_i hq
        rw [show (ls.any fun x => decide (x = l)) = true from List.any_eq_true.2 ⟨_, getD_mem' hlt, decide_eq_true hq⟩]; all_goals (refine Sup.via ?_; repeat' ((conv => whnf); first | refine And.intro ?_ ?_ | with_reducible exact VC.mk rfl | exact Ok.mk | exact True.intro | refine Nx.mk ?_ | refine Fin.mk ?_ | intro _); all_goals ((try refine VC.mk ?_); (try simp only [CL.ncell, CL.cnt, vq] at *); (try omega)); all_goals (try (simp [CL.sub]; done)))
      · refine ⟨i + 1, [], ⟨⟨by omega, fun j hj => ?_⟩, by omega⟩, ?_⟩
        · by_cases e : j = i
          · subst e; assumption
          · exact hok j (by omega)
        · repeat' ((conv => whnf); first | refine And.intro ?_ ?_ | with_reducible exact VC.mk rfl | exact Ok.mk | exact True.intro | refine Nx.mk ?_ | refine Fin.mk ?_ | intro _)
          all_goals ((try refine VC.mk ?_); (try simp only [CL.ncell, CL.cnt, vq] at *); (try omega))
    · have : i = ls.length := by omega
      subst this
      rw [show (ls.any fun x => decide (x = l)) = false from List.any_eq_false.2 fun x hx => by
        obtain ⟨j, hj, rfl⟩ := List.getElem_of_mem hx
        have := hok j hj
        rw [List.getD_eq_getElem?_getD, List.getElem?_eq_getElem hj] at this
        simpa using this]
      repeat' ((conv => whnf); first | refine And.intro ?_ ?_ | with_reducible exact VC.mk rfl | exact Ok.mk | exact True.intro | refine Nx.mk ?_ | refine Fin.mk ?_ | intro _)
      all_goals ((try refine VC.mk ?_); (try simp only [CL.ncell, CL.cnt, vq] at *); (try omega))
      all_goals (refine Sup.via ?_; repeat' ((conv => whnf); first | refine And.intro ?_ ?_ | with_reducible exact VC.mk rfl | exact Ok.mk | exact True.intro | refine Nx.mk ?_ | refine Fin.mk ?_ | intro _); all_goals ((try refine VC.mk ?_); (try simp only [CL.ncell, CL.cnt, vq] at *); (try omega)); all_goals (try (simp [CL.sub]; done)))
def hasLineP : PSp := fun xs K => match xs with
  | [.isl (.rows .i64 ls) .none, .isl (.ints .i64 l) .none] => VC (ls.length ≤ 1000000 ∧ ∀ x ∈ ls, x.length ≤ 1000) ∧ K (.bp (ls.any fun x => decide (x = l)))
  | _ => False
theorem hasLine_ok : POK Tryz.prog 20 hasLineP := by
  intro xs K h
  unfold hasLineP at h
  split at h
  · exact ⟨_, h.2, hasLine_spec _ _ h.1.get⟩
  · exact h.elim
/-! the error of a system -/
def firstE (f : Nat → Int) (n : Nat) : Int := match (List.range n).find? (fun i => decide (f i ≠ 0)) with
  | some i => f i
  | none => 0
theorem firstE_none {f : Nat → Int} {n : Nat} (h : ∀ i, i < n → f i = 0) : firstE f n = 0 := by
  unfold firstE; rw [find_none (fun i hi => by simpa using h i hi)]
theorem firstE_some {f : Nat → Int} {n y : Nat} (hy : y < n) (hp : f y ≠ 0) (h : ∀ i, i < y → f i = 0) : firstE f n = f y := by
  unfold firstE; rw [find_some hy (by simpa using hp) (fun i hi => by simpa using h i hi)]
def sysStepE (c : Int) (l : List Int) (k : Nat) : Int := if l.getD k 0 < 0 ∨ c ≤ l.getD k 0 then 10 else if 0 < k ∧ l.getD k 0 ≤ l.getD (k - 1) 0 then 11 else 0
def lineE (c : Int) (ls : List (List Int)) (i : Nat) : Int :=
  if (ls.getD i []).length = 0 then 12 else if firstE (sysStepE c (ls.getD i [])) (ls.getD i []).length ≠ 0 then firstE (sysStepE c (ls.getD i [])) (ls.getD i []).length
  else if (ls.take i).any (fun x => decide (x = ls.getD i [])) then 9 else 0
def sysE (c : Int) (ls : List (List Int)) : Int := if c < 1 ∨ 256 < c then 3 else if 128 < ls.length then 5 else firstE (lineE c ls) ls.length
structure LnsOK (ls : List (List Int)) : Prop where
  len : ls.length ≤ 1000000
  all : ∀ x ∈ ls, x.length ≤ 1000
theorem LnsOK.at' {ls : List (List Int)} (h : LnsOK ls) (i : Nat) : (ls.getD i []).length ≤ 1000 := by
  by_cases hi : i < ls.length
  · exact h.all _ (getD_mem' hi)
  · rw [List.getD_eq_getElem?_getD, List.getElem?_eq_none (by omega)]; simp
theorem take_lens {ls : List (List Int)} (h : LnsOK ls) (i : Nat) : (ls.take i).length ≤ 1000000 ∧ ∀ x ∈ ls.take i, x.length ≤ 1000 :=
  ⟨by have := h.len; rw [List.length_take]; omega, fun x hx => h.all x (List.mem_of_mem_take hx)⟩
noncomputable def cpRc : CPT := cpAdd 20 (pureCC hasLineP) noC
theorem cpRc_ok : CPOK Tryz.prog cpRc := cpAdd_ok (pureCC_ok hasLine_ok) noC_ok
theorem rSys_spec (c : Int) (ls : List (List Int)) (h : LnsOK ls) : PSpec Tryz.prog 17 [.agg [.int .i64 c, .isl (.rows .i64 ls) .none]] (.int .i64 (sysE c ls)) := by
  have h2 := h.len
  unfold sysE
  by_cases hc : c < 1 ∨ 256 < c
  · rw [if_pos hc]
    refine pspec_of (md := 1) (rf := []) mixed tabOK cpRc_ok Tryz.func17 (by rfl) (by rfl) (by rfl) ?_
    repeat' ((conv => whnf); first | refine And.intro ?_ ?_ | with_reducible exact VC.mk rfl | exact Ok.mk | exact True.intro | refine Nx.mk ?_ | refine Fin.mk ?_ | (intro hq; (try simp only [decide_eq_true_eq, decide_eq_false_iff_not, Bool.not_eq_true, Bool.not_eq_false, Bool.not_eq_true', Bool.not_eq_false', Bool.not_true, Bool.not_false, ite_true, ite_false] at hq); (try (exfalso; first | exact absurd hq (by decide) | omega))))
    all_goals ((try refine VC.mk ?_); (try simp only [CL.ncell, CL.cnt, vq] at *); (try omega))
    all_goals first | exact Sup.of rfl | (exfalso; omega)
  rw [if_neg hc]
  by_cases hl : 128 < ls.length
  · rw [if_pos hl]
    refine pspec_of (md := 1) (rf := []) mixed tabOK cpRc_ok Tryz.func17 (by rfl) (by rfl) (by rfl) ?_
    repeat' ((conv => whnf); first | refine And.intro ?_ ?_ | with_reducible exact VC.mk rfl | exact Ok.mk | exact True.intro | refine Nx.mk ?_ | refine Fin.mk ?_ | (intro hq; (try simp only [decide_eq_true_eq, decide_eq_false_iff_not, Bool.not_eq_true, Bool.not_eq_false, Bool.not_eq_true', Bool.not_eq_false', Bool.not_true, Bool.not_false, ite_true, ite_false] at hq); (try (exfalso; first | exact absurd hq (by decide) | omega))))
    all_goals ((try refine VC.mk ?_); (try simp only [CL.ncell, CL.cnt, vq] at *); (try omega))
    all_goals first | exact Sup.of rfl | (exfalso; omega)
  rw [if_neg hl]
  refine pspec_of (md := 1) (rf := []) mixed tabOK cpRc_ok Tryz.func17 (by rfl) (by rfl) (by rfl) ?_
  repeat' ((conv => whnf); first | refine And.intro ?_ ?_ | with_reducible exact VC.mk rfl | exact Ok.mk | exact True.intro | refine Nx.mk ?_ | refine Fin.mk ?_ | (intro hq; (try simp only [decide_eq_true_eq, decide_eq_false_iff_not, Bool.not_eq_true, Bool.not_eq_false, Bool.not_eq_true', Bool.not_eq_false', Bool.not_true, Bool.not_false, ite_true, ite_false] at hq); (try (exfalso; first | exact absurd hq (by decide) | omega))))
  all_goals ((try refine VC.mk ?_); (try simp only [CL.ncell, CL.cnt, vq] at *); (try omega))
  conv => whnf
  refine loop_of (X := Nat) (fun i => i ≤ ls.length ∧ ∀ j, j < i → lineE c ls j = 0) (fun i => [(3, .int .i64 i)]) (fun i => []) (fun i => ls.length - i) 0 ⟨anyB_ok, mixed, tabOK, cpRc_ok, noY_ok⟩ (by rfl) ⟨by omega, fun j hj => by omega⟩ ?_ ?_
  · repeat' ((conv => whnf); first | refine And.intro ?_ ?_ | with_reducible exact VC.mk rfl | exact Ok.mk | exact True.intro | refine Nx.mk ?_ | refine Fin.mk ?_ | intro _)
    all_goals ((try refine VC.mk ?_); (try simp only [CL.ncell, CL.cnt, vq] at *); (try omega))
  intro i ⟨hi, hok⟩
  by_cases hlt : i < ls.length
  · have e1 := h.at' i
    have e4 := take_lens h i
    obtain ⟨l, hL⟩ : ∃ l, ls.getD i [] = l := ⟨_, rfl⟩
    have eE : lineE c ls i = if l.length = 0 then 12 else if firstE (sysStepE c l) l.length ≠ 0 then firstE (sysStepE c l) l.length else if (ls.take i).any (fun x => decide (x = l)) then 9 else 0 := by unfold lineE; rw [hL]
    rw [hL] at e1
    repeat' ((conv => whnf); first | refine And.intro ?_ ?_ | with_reducible exact VC.mk rfl | exact Ok.mk | exact True.intro | refine Nx.mk ?_ | refine Fin.mk ?_ | (intro hq; (try simp only [decide_eq_true_eq, decide_eq_false_iff_not, Bool.not_eq_true, Bool.not_eq_false, Bool.not_eq_true', Bool.not_eq_false', Bool.not_true, Bool.not_false, ite_true, ite_false] at hq); (try (exfalso; first | exact absurd hq (by decide) | omega))))
    all_goals ((try refine VC.mk ?_); (try simp only [CL.ncell, CL.cnt, vq] at *); (try omega))
    · rename_i hq
      rw [hL] at hq
      rw [if_pos (by omega)] at eE
      rw [firstE_some hlt (by rw [eE]; decide) hok, eE]
      exact Sup.of rfl
    rename_i hq
    rw [hL] at hq ⊢
    rw [if_neg (by omega)] at eE
    conv => whnf
    refine loop_of (X := Nat) (fun k => k ≤ l.length ∧ ∀ j, j < k → sysStepE c l j = 0) (fun k => [(5, .int .i64 k)]) (fun k => []) (fun k => l.length - k) 0 ⟨anyB_ok, mixed, tabOK, cpRc_ok, noY_ok⟩ (by rfl) ⟨by omega, fun j hj => by omega⟩ ?_ ?_
    · repeat' ((conv => whnf); first | refine And.intro ?_ ?_ | with_reducible exact VC.mk rfl | exact Ok.mk | exact True.intro | refine Nx.mk ?_ | refine Fin.mk ?_ | intro _)
      all_goals ((try refine VC.mk ?_); (try simp only [CL.ncell, CL.cnt, vq] at *); (try omega))
      all_goals first | exact hL | exact hL.symm | skip
    intro k ⟨hk, hok2⟩
    by_cases hkl : k < l.length
    · have eS : sysStepE c l k = if l.getD k 0 < 0 ∨ c ≤ l.getD k 0 then 10 else if 0 < k ∧ l.getD k 0 ≤ l.getD (k - 1) 0 then 11 else 0 := rfl
      have ek : ((k : Int) - 1).toNat = k - 1 := by omega
      have fin : ∀ e, sysStepE c l k = e → e ≠ 0 → firstE (lineE c ls) ls.length = e := fun e a1 a2 => by
        have a3 : firstE (sysStepE c l) l.length = e := (firstE_some hkl (by rw [a1]; exact a2) hok2).trans a1
        have a4 : lineE c ls i = e := by rw [eE, if_pos (by rw [a3]; exact a2), a3]
        exact (firstE_some hlt (by rw [a4]; exact a2) hok).trans a4
      have nxt : sysStepE c l k = 0 → ∀ j, j < k + 1 → sysStepE c l j = 0 := fun a j hj => by
        by_cases e : j = k
        · subst e; exact a
        · exact hok2 j (by omega)
      repeat' ((conv => whnf); first | refine And.intro ?_ ?_ | with_reducible exact VC.mk rfl | exact Ok.mk | exact True.intro | refine Nx.mk ?_ | refine Fin.mk ?_ | (intro hq; (try simp only [decide_eq_true_eq, decide_eq_false_iff_not, Bool.not_eq_true, Bool.not_eq_false, Bool.not_eq_true', Bool.not_eq_false', Bool.not_true, Bool.not_false, ite_true, ite_false] at hq); (try (exfalso; first | exact absurd hq (by decide) | omega))))
      all_goals ((try refine VC.mk ?_); (try simp only [CL.ncell, CL.cnt, vq] at *); (try omega))
      · rw [fin 10 (by rw [eS, if_pos (by omega)]) (by decide)]; exact Sup.of rfl
      · rename_i hq
        rw [ek] at hq
        rw [fin 11 (by rw [eS, if_neg (by omega), if_pos (by omega)]) (by decide)]; exact Sup.of rfl
      · rename_i hq
        rw [ek] at hq
        refine ⟨k + 1, [], ⟨⟨by omega, nxt (by rw [eS, if_neg (by omega), if_neg (by omega)])⟩, by omega⟩, ?_⟩
        repeat' ((conv => whnf); first | refine And.intro ?_ ?_ | with_reducible exact VC.mk rfl | exact Ok.mk | exact True.intro | refine Nx.mk ?_ | refine Fin.mk ?_ | (intro hq; (try simp only [decide_eq_true_eq, decide_eq_false_iff_not, Bool.not_eq_true, Bool.not_eq_false, Bool.not_eq_true', Bool.not_eq_false', Bool.not_true, Bool.not_false, ite_true, ite_false] at hq); (try (exfalso; first | exact absurd hq (by decide) | omega))))
      · refine ⟨k + 1, [], ⟨⟨by omega, nxt (by rw [eS, if_neg (by omega), if_neg (by omega)])⟩, by omega⟩, ?_⟩
        repeat' ((conv => whnf); first | refine And.intro ?_ ?_ | with_reducible exact VC.mk rfl | exact Ok.mk | exact True.intro | refine Nx.mk ?_ | refine Fin.mk ?_ | (intro hq; (try simp only [decide_eq_true_eq, decide_eq_false_iff_not, Bool.not_eq_true, Bool.not_eq_false, Bool.not_eq_true', Bool.not_eq_false', Bool.not_true, Bool.not_false, ite_true, ite_false] at hq); (try (exfalso; first | exact absurd hq (by decide) | omega))))
      · rw [fin 10 (by rw [eS, if_pos (by omega)]) (by decide)]; exact Sup.of rfl
    · have a3 : firstE (sysStepE c l) l.length = 0 := firstE_none (n := l.length) (by rw [show l.length = k by omega]; exact hok2)
      rw [if_neg (by rw [a3]; simp)] at eE
      have et : List.take (i - 0) (List.drop 0 ls) = ls.take i := by rw [List.drop_zero, Nat.sub_zero]
      repeat' ((conv => whnf); first | refine And.intro ?_ ?_ | with_reducible exact VC.mk rfl | exact Ok.mk | exact True.intro | refine Nx.mk ?_ | refine Fin.mk ?_ | (intro hq; (try simp only [decide_eq_true_eq, decide_eq_false_iff_not, Bool.not_eq_true, Bool.not_eq_false, Bool.not_eq_true', Bool.not_eq_false', Bool.not_true, Bool.not_false, ite_true, ite_false] at hq); (try (exfalso; first | exact absurd hq (by decide) | omega))))
      all_goals ((try refine VC.mk ?_); (try simp only [CL.ncell, CL.cnt, vq] at *); (try omega))
      · rw [et]; exact e4
      · rename_i hq
        rw [et] at hq
        rw [if_pos hq] at eE
        rw [firstE_some hlt (by rw [eE]; decide) hok, eE]
        exact Sup.of rfl
      · rename_i hq
        rw [et] at hq
        rw [if_neg (by rw [hq]; decide)] at eE
        refine ⟨i + 1, [], ⟨⟨by omega, fun j hj => ?_⟩, by omega⟩, ?_⟩
        · by_cases e : j = i
          · subst e; exact eE
          · exact hok j (by omega)
        repeat' ((conv => whnf); first | refine And.intro ?_ ?_ | with_reducible exact VC.mk rfl | exact Ok.mk | exact True.intro | refine Nx.mk ?_ | refine Fin.mk ?_ | (intro hq; (try simp only [decide_eq_true_eq, decide_eq_false_iff_not, Bool.not_eq_true, Bool.not_eq_false, Bool.not_eq_true', Bool.not_eq_false', Bool.not_true, Bool.not_false, ite_true, ite_false] at hq); (try (exfalso; first | exact absurd hq (by decide) | omega))))
  · rw [firstE_none (n := ls.length) (by rw [show ls.length = i by omega]; exact hok)]
    repeat' ((conv => whnf); first | refine And.intro ?_ ?_ | with_reducible exact VC.mk rfl | exact Ok.mk | exact True.intro | refine Nx.mk ?_ | refine Fin.mk ?_ | (intro hq; (try simp only [decide_eq_true_eq, decide_eq_false_iff_not, Bool.not_eq_true, Bool.not_eq_false, Bool.not_eq_true', Bool.not_eq_false', Bool.not_true, Bool.not_false, ite_true, ite_false] at hq); (try (exfalso; first | exact absurd hq (by decide) | omega))))
    exact Sup.of rfl
end Go.Eng.YtobnbkoeocdhbaaGreatDoor
namespace Go.Eng.YtobnbkoeocdhbaaGreatDoor
open Go.Proofs
set_option maxRecDepth 100000
set_option maxHeartbeats 0
set_option linter.unusedVariables false
set_option linter.unusedSimpArgs false
def idxRP : PSp := fun xs K => match xs with
  | [.isl (.rows .i64 l) .none, .fn (.func f) fs cs] => VC (l.length ≤ 2000000) ∧ ∃ p : List Int → Bool, (∀ x ∈ l, PSpec Tryz.prog f (fs ++ [.isl (.ints .i64 x) .none] ++ cs) (.bp (p x))) ∧ K (.int .i64 (firstAt (fun i => p (l.getD i [])) l.length))
  | _ => False
theorem idxR_spec (l : List (List Int)) (hl : l.length ≤ 2000000) (f : Nat) (fs cs : List PV) (p : List Int → Bool) (hp : ∀ x ∈ l, PSpec Tryz.prog f (fs ++ [.isl (.ints .i64 x) .none] ++ cs) (.bp (p x))) :
    PSpec Tryz.prog 191 [.isl (.rows .i64 l) .none, .fn (.func f) fs cs] (.int .i64 (firstAt (fun i => p (l.getD i [])) l.length)) := by
  refine pspec_open 1 (enters' Tryz.func191 (by rfl) (by rfl)) rfl (by simp) fun S0 w0 us vs hu hv => ?_
  have hY : ∀ r, YPOK Tryz.prog r (fromB S0 w0) (fnY f us vs fun xs K => match xs with
      | [.isl (.ints .i64 x) .none] => VC (x ∈ l) ∧ K (.bp (p x))
      | _ => False) := fun r => fnY_ok (fs := fs) (cs := cs) (fun S w hb => ⟨hu.mono hb (.refl _), hv.mono hb (.refl _)⟩) fun xs K hk => by
    split at hk
    · exact ⟨_, hk.2, hp _ hk.1.get⟩
    · exact hk.elim
  have W : Walk Tryz.prog none (fromB S0 w0) tab.get noC _ := ⟨fromB_ok, mixed, tabOK, noC_ok.up _, hY none⟩
  refine pspecB_of fromB_ok mixed tabOK (md := 1) (rf := []) (noC_ok.up _) (hY none) Tryz.func191 (by rfl) (by rfl) ?_
  repeat' ((conv => whnf); first | refine And.intro ?_ ?_ | with_reducible exact VC.mk rfl | exact Ok.mk | exact True.intro | refine Nx.mk ?_ | refine Fin.mk ?_ | intro _)
  all_goals ((try refine VC.mk ?_); (try simp only [CL.ncell, CL.cnt, vq] at *); (try omega))
  conv => whnf
  refine loop_of (X := Nat) (fun i => i ≤ l.length ∧ ∀ j, j < i → p (l.getD j []) = false) (fun i => [(8, .int .i64 i)]) (fun i => []) (fun i => l.length - i) 0 W (by rfl) ⟨by omega, fun j hj => by omega⟩ ?_ ?_
  · repeat' ((conv => whnf); first | refine And.intro ?_ ?_ | with_reducible exact VC.mk rfl | exact Ok.mk | exact True.intro | refine Nx.mk ?_ | refine Fin.mk ?_ | intro _)
    all_goals ((try refine VC.mk ?_); (try simp only [CL.ncell, CL.cnt, vq] at *); (try omega))
  · rintro i ⟨hi, hok⟩
    by_cases hlt : i < l.length
    · have hm : l.getD i [] ∈ l := getD_mem' hlt
      repeat' ((conv => whnf); first | refine And.intro ?_ ?_ | with_reducible exact VC.mk rfl | exact Ok.mk | exact True.intro | refine Nx.mk ?_ | refine Fin.mk ?_ | intro _)
      all_goals ((try refine VC.mk ?_); (try simp only [CL.ncell, CL.cnt, vq] at *); (try omega))
      · rw [firstAt_some hlt ‹p (l.getD i []) = true› hok]; exact Sup.of rfl
      · refine ⟨i + 1, [], ⟨⟨by omega, fun j hj => ?_⟩, by omega⟩, ?_⟩
        · by_cases e : j = i
          · subst e; assumption
          · exact hok j (by omega)
        · repeat' ((conv => whnf); first | refine And.intro ?_ ?_ | with_reducible exact VC.mk rfl | exact Ok.mk | exact True.intro | refine Nx.mk ?_ | refine Fin.mk ?_ | intro _)
          all_goals ((try refine VC.mk ?_); (try simp only [CL.ncell, CL.cnt, vq] at *); (try omega))
    · have : i = l.length := by omega
      subst this
      rw [firstAt_none hok]
      repeat' ((conv => whnf); first | refine And.intro ?_ ?_ | with_reducible exact VC.mk rfl | exact Ok.mk | exact True.intro | refine Nx.mk ?_ | refine Fin.mk ?_ | intro _)
      all_goals ((try refine VC.mk ?_); (try simp only [CL.ncell, CL.cnt, vq] at *); (try omega))
      exact Sup.of rfl
theorem idxR_ok : POK Tryz.prog 191 idxRP := by
  intro xs K h
  unfold idxRP at h
  split at h
  · obtain ⟨⟨h1⟩, p, h2, hK⟩ := h
    exact ⟨_, hK, idxR_spec _ h1 _ _ _ p h2⟩
  · exact h.elim
def hasRP : PSp := fun xs K => match xs with
  | [.isl (.rows .i64 l) .none, .fn (.func f) fs cs] => VC (l.length ≤ 2000000 ∧ inlE.inlF fs = true ∧ inlE.inlF cs = true) ∧ ∃ p : List Int → Bool, (∀ x ∈ l, PSpec Tryz.prog f (fs ++ [.isl (.ints .i64 x) .none] ++ cs) (.bp (p x))) ∧ K (.bp (l.any p))
  | _ => False
theorem hasR_spec (l : List (List Int)) (hl : l.length ≤ 2000000) (f : Nat) (fs cs : List PV) (hfs : inlE.inlF fs = true) (hcs : inlE.inlF cs = true) (p : List Int → Bool) (hp : ∀ x ∈ l, PSpec Tryz.prog f (fs ++ [.isl (.ints .i64 x) .none] ++ cs) (.bp (p x))) :
    PSpec Tryz.prog 171 [.isl (.rows .i64 l) .none, .fn (.func f) fs cs] (.bp (l.any p)) := by
  have hc : CPOK Tryz.prog (cpAdd 191 (pureCC idxRP) noC) := cpAdd_ok (pureCC_ok idxR_ok) noC_ok
  refine pspec_of (md := 1) (rf := []) mixed tabOK hc Tryz.func171 (by rfl) (by rfl) (by rfl) ?_
  repeat' ((conv => whnf); first | refine And.intro ?_ ?_ | with_reducible exact VC.mk rfl | exact Ok.mk | exact True.intro | refine Nx.mk ?_ | refine Fin.mk ?_ | intro _)
  conv => whnf
  simp only [pureCC, pureK, pureEs, pureE, inlE, hfs, hcs]
  repeat' ((conv => whnf); first | refine And.intro ?_ ?_ | with_reducible exact VC.mk rfl | exact Ok.mk | exact True.intro | refine Nx.mk ?_ | refine Fin.mk ?_ | intro _)
  all_goals ((try refine VC.mk ?_); (try simp only [CL.ncell, CL.cnt, vq] at *); (try omega))
  refine ⟨p, hp, ?_⟩
  repeat' ((conv => whnf); first | refine And.intro ?_ ?_ | with_reducible exact VC.mk rfl | exact Ok.mk | exact True.intro | refine Nx.mk ?_ | refine Fin.mk ?_ | intro _)
  all_goals ((try refine VC.mk ?_); (try simp only [CL.ncell, CL.cnt, vq] at *); (try omega))
  refine Sup.via ?_
  repeat' ((conv => whnf); first | refine And.intro ?_ ?_ | with_reducible exact VC.mk rfl | exact Ok.mk | exact True.intro | refine Nx.mk ?_ | refine Fin.mk ?_ | intro _)
  refine VC.mk ?_
  rw [firstAt_nonneg, any_range]
theorem hasR_ok : POK Tryz.prog 171 hasRP := by
  intro xs K h
  unfold hasRP at h
  split at h
  · obtain ⟨⟨h1, h3, h4⟩, p, h2, hK⟩ := h
    exact ⟨_, hK, hasR_spec _ h1 _ _ _ h3 h4 p h2⟩
  · exact h.elim
noncomputable def cpEq1 : CPT := cpAdd 173 (pureCC equalP) noC
theorem cpEq1_ok : CPOK Tryz.prog cpEq1 := cpAdd_ok (pureCC_ok equal_ok) noC_ok
theorem c172_spec (l x : List Int) (hx : x.length ≤ 2000000) : PSpec Tryz.prog 172 ([] ++ [.isl (.ints .i64 x) .none] ++ [.ip (.pv [.isl (.ints .i64 l) .none]) 0]) (.bp (decide (x = l))) := by
  refine pspec_of (md := 1) (rf := []) mixed tabOK cpEq1_ok Tryz.func172 (by rfl) (by rfl) (by rfl) ?_
  repeat' ((conv => whnf); first | refine And.intro ?_ ?_ | with_reducible exact VC.mk rfl | exact Ok.mk | exact True.intro | refine Nx.mk ?_ | refine Fin.mk ?_ | intro _)
  all_goals ((try refine VC.mk ?_); (try simp only [CL.ncell, CL.cnt, vq] at *); (try omega))
  exact Sup.of rfl
noncomputable def cpLn1 : CPT := cpAdd 45 (pureCC lfirstP) (cpAdd 46 (pureCC whenP) (cpAdd 171 (viewCC hasRP) noC))
theorem cpLn1_ok : CPOK Tryz.prog cpLn1 := cpAdd_ok (pureCC_ok lfirst_ok) (cpAdd_ok (pureCC_ok lwhen_ok) (cpAdd_ok (viewCC_ok hasR_ok) noC_ok))
theorem chkLine_spec (c : Int) (ls : List (List Int)) (i : Nat) (h : LnsOK ls) (hlt : i < ls.length) : PSpec Tryz.prog 137 [.agg [.int .i64 c, .isl (.rows .i64 ls) .none], .int .i64 (i : Int)] (.int .i64 (lineE c ls i)) := by
  have h2 := h.len
  have e1 := h.at' i
  have e4 := take_lens h i
  obtain ⟨l, hL⟩ : ∃ l, ls.getD i [] = l := ⟨_, rfl⟩
  have eE : lineE c ls i = if l.length = 0 then 12 else if firstE (sysStepE c l) l.length ≠ 0 then firstE (sysStepE c l) l.length else if (ls.take i).any (fun x => decide (x = l)) then 9 else 0 := by unfold lineE; rw [hL]
  rw [hL] at e1
  refine pspec_of (md := 1) (rf := []) mixed tabOK cpLn1_ok Tryz.func137 (by rfl) (by rfl) (by rfl) ?_
  repeat' ((conv => whnf); first | refine And.intro ?_ ?_ | with_reducible exact VC.mk rfl | exact Ok.mk | exact True.intro | refine Nx.mk ?_ | refine Fin.mk ?_ | intro _)
  all_goals ((try refine VC.mk ?_); (try simp only [CL.ncell, CL.cnt, vq] at *); (try omega))
  · rw [hL] at *
    rw [eE, if_pos (by omega)]; exact Sup.of rfl
  rename_i h0
  rw [hL] at h0 ⊢
  rw [if_neg (by omega)] at eE
  conv => whnf
  refine loop_of (X := Nat) (fun k => k ≤ l.length ∧ ∀ j, j < k → sysStepE c l j = 0) (fun k => [(19, .int .i64 k)]) (fun k => []) (fun k => l.length - k) 0 ⟨anyB_ok, mixed, tabOK, cpLn1_ok, noY_ok⟩ (by rfl) ⟨by omega, fun j hj => by omega⟩ ?_ ?_
  · repeat' ((conv => whnf); first | refine And.intro ?_ ?_ | with_reducible exact VC.mk rfl | exact Ok.mk | exact True.intro | refine Nx.mk ?_ | refine Fin.mk ?_ | intro _)
    all_goals ((try refine VC.mk ?_); (try simp only [CL.ncell, CL.cnt, vq] at *); (try omega))
    all_goals first | exact hL | exact hL.symm | skip
  intro k ⟨hk, hok2⟩
  by_cases hkl : k < l.length
  · have eS : sysStepE c l k = if l.getD k 0 < 0 ∨ c ≤ l.getD k 0 then 10 else if 0 < k ∧ l.getD k 0 ≤ l.getD (k - 1) 0 then 11 else 0 := rfl
    have ek : ((k : Int) - 1).toNat = k - 1 := by omega
    have fin : ∀ e, sysStepE c l k = e → e ≠ 0 → lineE c ls i = e := fun e a1 a2 => by
      have a3 : firstE (sysStepE c l) l.length = e := (firstE_some hkl (by rw [a1]; exact a2) hok2).trans a1
      rw [eE, if_pos (by rw [a3]; exact a2), a3]
    have nxt : sysStepE c l k = 0 → ∀ j, j < k + 1 → sysStepE c l j = 0 := fun a j hj => by
      by_cases e : j = k
      · subst e; exact a
      · exact hok2 j (by omega)
    repeat' ((conv => whnf); first | refine And.intro ?_ ?_ | with_reducible exact VC.mk rfl | exact Ok.mk | exact True.intro | refine Nx.mk ?_ | refine Fin.mk ?_ | intro _)
    all_goals ((try refine VC.mk ?_); (try simp only [CL.ncell, CL.cnt, vq] at *); (try omega))
    · rename_i hq
      refine Sup.of (congrArg (PV.int .i64) (fin _ ?_ hq).symm)
      (rw [eS]; simp only [firstOf, ek, if_true, if_false, ite_true, ite_false]; (repeat' split) <;> (first | rfl | omega))
    · rename_i hq
      refine ⟨k + 1, [], ⟨⟨by omega, nxt (Eq.trans ?_ (Classical.not_not.1 hq))⟩, by omega⟩, ?_⟩
      · (rw [eS]; simp only [firstOf, ek, if_true, if_false, ite_true, ite_false]; (repeat' split) <;> (first | rfl | omega))
      repeat' ((conv => whnf); first | refine And.intro ?_ ?_ | with_reducible exact VC.mk rfl | exact Ok.mk | exact True.intro | refine Nx.mk ?_ | refine Fin.mk ?_ | intro _)
    · rename_i hq
      refine Sup.of (congrArg (PV.int .i64) (fin _ ?_ hq).symm)
      (rw [eS]; simp only [firstOf, ek, if_true, if_false, ite_true, ite_false]; (repeat' split) <;> (first | rfl | omega))
    · rename_i hq
      refine ⟨k + 1, [], ⟨⟨by omega, nxt (Eq.trans ?_ (Classical.not_not.1 hq))⟩, by omega⟩, ?_⟩
      · (rw [eS]; simp only [firstOf, ek, if_true, if_false, ite_true, ite_false]; (repeat' split) <;> (first | rfl | omega))
      repeat' ((conv => whnf); first | refine And.intro ?_ ?_ | with_reducible exact VC.mk rfl | exact Ok.mk | exact True.intro | refine Nx.mk ?_ | refine Fin.mk ?_ | intro _)
    · rename_i hq
      refine Sup.of (congrArg (PV.int .i64) (fin _ ?_ hq).symm)
      (rw [eS]; simp only [firstOf, ek, if_true, if_false, ite_true, ite_false]; (repeat' split) <;> (first | rfl | omega))
    · rename_i hq
      refine ⟨k + 1, [], ⟨⟨by omega, nxt (Eq.trans ?_ (Classical.not_not.1 hq))⟩, by omega⟩, ?_⟩
      · (rw [eS]; simp only [firstOf, ek, if_true, if_false, ite_true, ite_false]; (repeat' split) <;> (first | rfl | omega))
      repeat' ((conv => whnf); first | refine And.intro ?_ ?_ | with_reducible exact VC.mk rfl | exact Ok.mk | exact True.intro | refine Nx.mk ?_ | refine Fin.mk ?_ | intro _)
    · rename_i hq
      refine Sup.of (congrArg (PV.int .i64) (fin _ ?_ hq).symm)
      (rw [eS]; simp only [firstOf, ek, if_true, if_false, ite_true, ite_false]; (repeat' split) <;> (first | rfl | omega))
    · rename_i hq
      refine ⟨k + 1, [], ⟨⟨by omega, nxt (Eq.trans ?_ (Classical.not_not.1 hq))⟩, by omega⟩, ?_⟩
      · (rw [eS]; simp only [firstOf, ek, if_true, if_false, ite_true, ite_false]; (repeat' split) <;> (first | rfl | omega))
      repeat' ((conv => whnf); first | refine And.intro ?_ ?_ | with_reducible exact VC.mk rfl | exact Ok.mk | exact True.intro | refine Nx.mk ?_ | refine Fin.mk ?_ | intro _)
  · have a3 : firstE (sysStepE c l) l.length = 0 := firstE_none (n := l.length) (by rw [show l.length = k by omega]; exact hok2)
    rw [if_neg (by rw [a3]; simp)] at eE
    have et : List.take (i - 0) (List.drop 0 ls) = ls.take i := by rw [List.drop_zero, Nat.sub_zero]
    repeat' ((conv => whnf); first | refine And.intro ?_ ?_ | with_reducible exact VC.mk rfl | exact Ok.mk | exact True.intro | refine Nx.mk ?_ | refine Fin.mk ?_ | intro _)
    all_goals ((try refine VC.mk ?_); (try simp only [CL.ncell, CL.cnt, vq] at *); (try omega))
    · rw [et]; exact ⟨by omega, rfl, rfl⟩
    rw [et]
    refine ⟨fun x => decide (x = l), fun x hx => c172_spec l x (by have := e4.2 x hx; omega), ?_⟩
    rw [eE]
    repeat' ((conv => whnf); first | refine And.intro ?_ ?_ | with_reducible exact VC.mk rfl | exact Ok.mk | exact True.intro | refine Nx.mk ?_ | refine Fin.mk ?_ | intro _)
    all_goals ((try refine VC.mk ?_); (try simp only [CL.ncell, CL.cnt, vq] at *); (try omega))
    exact Sup.of rfl
theorem chkLine_spec' {c : Int} {ls : List (List Int)} {i : Int} (h : LnsOK ls) (h0 : 0 ≤ i) (hlt : i < ls.length) : PSpec Tryz.prog 137 [.agg [.int .i64 c, .isl (.rows .i64 ls) .none], .int .i64 i] (.int .i64 (lineE c ls i.toNat)) := by
  have := chkLine_spec c ls i.toNat h (by omega)
  rwa [Int.toNat_of_nonneg h0] at this
def chkLineP : PSp := fun xs K => match xs with
  | [.agg [.int .i64 c, .isl (.rows .i64 ls) .none], .int .i64 i] => VC (LnsOK ls ∧ 0 ≤ i ∧ i < ls.length) ∧ K (.int .i64 (lineE c ls i.toNat))
  | _ => False
theorem chkLine_ok : POK Tryz.prog 137 chkLineP := by
  intro xs K h
  unfold chkLineP at h
  split at h
  · exact ⟨_, h.2, chkLine_spec' h.1.get.1 h.1.get.2.1 h.1.get.2.2⟩
  · exact h.elim
noncomputable def cpSy : CPT := cpAdd 45 (pureCC lfirstP) (cpAdd 46 (pureCC whenP) (cpAdd 47 (pureCC fromP) (cpAdd 137 (pureCC chkLineP) noC)))
theorem cpSy_ok : CPOK Tryz.prog cpSy := cpAdd_ok (pureCC_ok lfirst_ok) (cpAdd_ok (pureCC_ok lwhen_ok) (cpAdd_ok (pureCC_ok from_ok) (cpAdd_ok (pureCC_ok chkLine_ok) noC_ok)))
theorem sys_spec (c : Int) (ls : List (List Int)) (h : LnsOK ls) : PSpec Tryz.prog 93 [.agg [.int .i64 c, .isl (.rows .i64 ls) .none]] (.int .i64 (sysE c ls)) := by
  have h2 := h.len
  have hf : firstOf [if [c].any (outB 1 256) then 3 else 0, if 128 < (ls.length : Int) then 5 else 0] = if c < 1 ∨ 256 < c then 3 else if 128 < ls.length then 5 else 0 := by
    simp only [firstOf, List.any_cons, List.any_nil, Bool.or_false, outB, Bool.or_eq_true, decide_eq_true_eq]
    (repeat' split) <;> (first | rfl | omega)
  unfold sysE
  refine pspec_of (md := 1) (rf := []) mixed tabOK cpSy_ok Tryz.func93 (by rfl) (by rfl) (by rfl) ?_
  repeat' ((conv => whnf); first | refine And.intro ?_ ?_ | with_reducible exact VC.mk rfl | exact Ok.mk | exact True.intro | refine Nx.mk ?_ | refine Fin.mk ?_ | intro _)
  all_goals ((try refine VC.mk ?_); (try simp only [CL.ncell, CL.cnt, vq] at *); (try omega))
  · rename_i hq
    rw [hf] at hq ⊢
    by_cases hc : c < 1 ∨ 256 < c
    · rw [if_pos hc, if_pos hc]; exact Sup.of rfl
    rw [if_neg hc] at hq ⊢
    by_cases hl : 128 < ls.length
    · rw [if_neg hc, if_pos hl, if_pos hl]; exact Sup.of rfl
    · rw [if_neg hl] at hq; exact absurd rfl hq
  rename_i hq
  have hq := Classical.not_not.1 hq
  rw [hf] at hq
  have hc : ¬ (c < 1 ∨ 256 < c) := fun hc => by rw [if_pos hc] at hq; cases hq
  rw [if_neg hc] at hq ⊢
  have hl : ¬ 128 < ls.length := fun hl => by rw [if_pos hl] at hq; cases hq
  rw [if_neg hl]
  conv => whnf
  refine loop_of (X := Nat) (fun i => i ≤ ls.length ∧ ∀ j, j < i → lineE c ls j = 0) (fun i => [(23, .int .i64 i)]) (fun i => []) (fun i => ls.length - i) 0 ⟨anyB_ok, mixed, tabOK, cpSy_ok, noY_ok⟩ (by rfl) ⟨by omega, fun j hj => by omega⟩ ?_ ?_
  · repeat' ((conv => whnf); first | refine And.intro ?_ ?_ | with_reducible exact VC.mk rfl | exact Ok.mk | exact True.intro | refine Nx.mk ?_ | refine Fin.mk ?_ | intro _)
    all_goals ((try refine VC.mk ?_); (try simp only [CL.ncell, CL.cnt, vq] at *); (try omega))
  intro i ⟨hi, hok⟩
  by_cases hlt : i < ls.length
  · repeat' ((conv => whnf); first | refine And.intro ?_ ?_ | with_reducible exact VC.mk rfl | exact Ok.mk | exact True.intro | refine Nx.mk ?_ | refine Fin.mk ?_ | intro _)
    all_goals ((try refine VC.mk ?_); (try simp only [CL.ncell, CL.cnt, vq] at *); (try omega))
    · exact ⟨h, by omega, by omega⟩
    · rename_i hq
      rw [firstE_some hlt hq hok]; exact Sup.of rfl
    · rename_i hq
      refine ⟨i + 1, [], ⟨⟨by omega, fun j hj => ?_⟩, by omega⟩, ?_⟩
      · by_cases e : j = i
        · subst e; exact Classical.not_not.1 hq
        · exact hok j (by omega)
      repeat' ((conv => whnf); first | refine And.intro ?_ ?_ | with_reducible exact VC.mk rfl | exact Ok.mk | exact True.intro | refine Nx.mk ?_ | refine Fin.mk ?_ | intro _)
      all_goals ((try refine VC.mk ?_); (try simp only [CL.ncell, CL.cnt, vq] at *); (try omega))
  · rw [firstE_none (n := ls.length) (by rw [show ls.length = i by omega]; exact hok)]
    repeat' ((conv => whnf); first | refine And.intro ?_ ?_ | with_reducible exact VC.mk rfl | exact Ok.mk | exact True.intro | refine Nx.mk ?_ | refine Fin.mk ?_ | intro _)
    all_goals ((try refine VC.mk ?_); (try simp only [CL.ncell, CL.cnt, vq] at *); (try omega))
    exact Sup.of rfl
def sysP : PSp := fun xs K => match xs with
  | [.agg [.int .i64 c, .isl (.rows .i64 ls) .none]] => VC (LnsOK ls) ∧ K (.int .i64 (sysE c ls))
  | _ => False
theorem sys_ok : POK Tryz.prog 93 sysP := by
  intro xs K h
  unfold sysP at h
  split at h
  · exact ⟨_, h.2, sys_spec _ _ h.1.get⟩
  · exact h.elim
/-! a filling of a system -/
def fillE (c : Int) (ls : List (List Int)) (f : List Int) : Int := firstOf [sysE c ls, if (f.length : Int) ≠ c then 2 else 0, numsE f]
noncomputable def cpCk : CPT := cpAdd 45 (pureCC lfirstP) (cpAdd 46 (pureCC whenP) (cpAdd 93 (pureCC sysP) (cpAdd 94 (pureCC numbersP) noC)))
theorem cpCk_ok : CPOK Tryz.prog cpCk := cpAdd_ok (pureCC_ok lfirst_ok) (cpAdd_ok (pureCC_ok lwhen_ok) (cpAdd_ok (pureCC_ok sys_ok) (cpAdd_ok (pureCC_ok numbers_ok) noC_ok)))
theorem check_spec (c : Int) (ls : List (List Int)) (f : List Int) (h : LnsOK ls) (hf : f.length ≤ 2000000) : PSpec Tryz.prog 49 [.agg [.int .i64 c, .isl (.rows .i64 ls) .none], .isl (.ints .i64 f) .none] (.int .i64 (fillE c ls f)) := by
  unfold fillE
  refine pspec_of (md := 1) (rf := []) mixed tabOK cpCk_ok Tryz.func49 (by rfl) (by rfl) (by rfl) ?_
  repeat' ((conv => whnf); first | refine And.intro ?_ ?_ | with_reducible exact VC.mk rfl | exact Ok.mk | exact True.intro | refine Nx.mk ?_ | refine Fin.mk ?_ | intro _)
  all_goals ((try refine VC.mk ?_); (try simp only [CL.ncell, CL.cnt, vq] at *); (try omega))
  all_goals first | exact h | exact Sup.of rfl
def checkP : PSp := fun xs K => match xs with
  | [.agg [.int .i64 c, .isl (.rows .i64 ls) .none], .isl (.ints .i64 f) .none] => VC (LnsOK ls ∧ f.length ≤ 2000000) ∧ K (.int .i64 (fillE c ls f))
  | _ => False
theorem check_ok : POK Tryz.prog 49 checkP := by
  intro xs K h
  unfold checkP at h
  split at h
  · exact ⟨_, h.2, check_spec _ _ _ h.1.get.1 h.1.get.2⟩
  · exact h.elim
noncomputable def cpIm : CPT := cpAdd 49 (pureCC checkP) (cpAdd 50 (pureCC differsP) noC)
theorem cpIm_ok : CPOK Tryz.prog cpIm := cpAdd_ok (pureCC_ok check_ok) (cpAdd_ok (pureCC_ok differs_ok) noC_ok)
/-- a filling without an error -/
theorem lIsMagic_spec (c : Int) (ls : List (List Int)) (f : List Int) (h : LnsOK ls) (hf : f.length ≤ 2000000) (he : fillE c ls f = 0) (hs : SumsOK f ls) : PSpec Tryz.prog 18 [.agg [.int .i64 c, .isl (.rows .i64 ls) .none], .isl (.ints .i64 f) .none] (.tup [.bp (decide (diffI (sumsL f ls ls.length) < 0)), .int .i64 0]) := by
  refine pspec_of (md := 1) (rf := []) mixed tabOK cpIm_ok Tryz.func18 (by rfl) (by rfl) (by rfl) ?_
  repeat' ((conv => whnf); first | refine And.intro ?_ ?_ | with_reducible exact VC.mk rfl | exact Ok.mk | exact True.intro | refine Nx.mk ?_ | refine Fin.mk ?_ | intro _)
  all_goals ((try refine VC.mk ?_); (try simp only [CL.ncell, CL.cnt, vq] at *); (try omega))
  all_goals first | exact ⟨h, by omega⟩ | exact hs | exact Sup.of rfl | skip
end Go.Eng.YtobnbkoeocdhbaaGreatDoor
namespace Go.Eng.YtobnbkoeocdhbaaGreatDoor
open Go.Proofs
set_option maxRecDepth 100000
set_option maxHeartbeats 0
set_option linter.unusedVariables false
set_option linter.unusedSimpArgs false
theorem idxS_spec (l : List ByteArray) (hl : l.length ≤ 2000000) (b : ByteArray) : PSpec Tryz.prog 85 [.isl (.strs l) .none, .str b] (.int .i64 (firstAt (fun i => decide (b = l.getD i .empty)) l.length)) := by
  refine pspec_of (md := 1) (rf := []) mixed tabOK noC_ok Tryz.func85 (by rfl) (by rfl) (by rfl) ?_
  repeat' ((conv => whnf); first | refine And.intro ?_ ?_ | with_reducible exact VC.mk rfl | exact Ok.mk | exact True.intro | refine Nx.mk ?_ | refine Fin.mk ?_ | intro _)
  all_goals ((try refine VC.mk ?_); (try simp only [CL.ncell, CL.cnt, vq] at *); (try omega))
  conv => whnf
  refine loop_of (X := Nat) (fun i => i ≤ l.length ∧ ∀ j, j < i → ¬ b = l.getD j .empty) (fun i => [(8, .int .i64 i)]) (fun i => []) (fun i => l.length - i) 0 ⟨anyB_ok, mixed, tabOK, noC_ok, noY_ok⟩ (by rfl) ⟨by omega, fun j hj => by omega⟩ ?_ ?_
  · repeat' ((conv => whnf); first | refine And.intro ?_ ?_ | with_reducible exact VC.mk rfl | exact Ok.mk | exact True.intro | refine Nx.mk ?_ | refine Fin.mk ?_ | intro _)
    all_goals ((try refine VC.mk ?_); (try simp only [CL.ncell, CL.cnt, vq] at *); (try omega))
  · rintro i ⟨hi, hok⟩
    by_cases hlt : i < l.length
    · repeat' ((conv => whnf); first | refine And.intro ?_ ?_ | with_reducible exact VC.mk rfl | exact Ok.mk | exact True.intro | refine Nx.mk ?_ | refine Fin.mk ?_ | intro _)
      all_goals ((try refine VC.mk ?_); (try simp only [CL.ncell, CL.cnt, vq] at *); (try omega))
      · rename_i hq
        rw [firstAt_some (p := fun i => decide (b = l.getD i .empty)) hlt (decide_eq_true hq) (fun i hi => decide_eq_false (hok i hi))]; exact Sup.of rfl
      · rename_i hq
        refine ⟨i + 1, [], ⟨⟨by omega, fun j hj => ?_⟩, by omega⟩, ?_⟩
        · by_cases e : j = i
          · subst e; exact hq
          · exact hok j (by omega)
        · repeat' ((conv => whnf); first | refine And.intro ?_ ?_ | with_reducible exact VC.mk rfl | exact Ok.mk | exact True.intro | refine Nx.mk ?_ | refine Fin.mk ?_ | intro _)
          all_goals ((try refine VC.mk ?_); (try simp only [CL.ncell, CL.cnt, vq] at *); (try omega))
    · have : i = l.length := by omega
      subst this
      rw [firstAt_none (p := fun i => decide (b = l.getD i .empty)) (fun i hi => decide_eq_false (hok i hi))]
      repeat' ((conv => whnf); first | refine And.intro ?_ ?_ | with_reducible exact VC.mk rfl | exact Ok.mk | exact True.intro | refine Nx.mk ?_ | refine Fin.mk ?_ | intro _)
      all_goals ((try refine VC.mk ?_); (try simp only [CL.ncell, CL.cnt, vq] at *); (try omega))
      exact Sup.of rfl
def idxSP : PSp := fun xs K => match xs with
  | [.isl (.strs l) .none, .str b] => VC (l.length ≤ 2000000) ∧ K (.int .i64 (firstAt (fun i => decide (b = l.getD i .empty)) l.length))
  | _ => False
theorem idxS_ok : POK Tryz.prog 85 idxSP := by
  intro xs K h
  unfold idxSP at h
  split at h
  · exact ⟨_, h.2, idxS_spec _ h.1.get _⟩
  · exact h.elim
noncomputable def cpIx : CPT := cpAdd 85 (pureCC idxSP) noC
theorem cpIx_ok : CPOK Tryz.prog cpIx := cpAdd_ok (pureCC_ok idxS_ok) noC_ok
theorem cont_spec (l : List ByteArray) (hl : l.length ≤ 2000000) (b : ByteArray) : PSpec Tryz.prog 44 [.isl (.strs l) .none, .str b] (.bp (l.any fun x => decide (b = x))) := by
  refine pspec_of (md := 1) (rf := []) mixed tabOK cpIx_ok Tryz.func44 (by rfl) (by rfl) (by rfl) ?_
  repeat' ((conv => whnf); first | refine And.intro ?_ ?_ | with_reducible exact VC.mk rfl | exact Ok.mk | exact True.intro | refine Nx.mk ?_ | refine Fin.mk ?_ | intro _)
  all_goals ((try refine VC.mk ?_); (try simp only [CL.ncell, CL.cnt, vq] at *); (try omega))
  refine Sup.via ?_
  repeat' ((conv => whnf); first | refine And.intro ?_ ?_ | with_reducible exact VC.mk rfl | exact Ok.mk | exact True.intro | refine Nx.mk ?_ | refine Fin.mk ?_ | intro _)
  refine VC.mk ?_
  rw [firstAt_nonneg]
  exact any_range (fun x => decide (b = x)) ByteArray.empty l
def contP : PSp := fun xs K => match xs with
  | [.isl (.strs l) .none, .str b] => VC (l.length ≤ 2000000) ∧ K (.bp (l.any fun x => decide (b = x)))
  | _ => False
theorem cont_ok : POK Tryz.prog 44 contP := by
  intro xs K h
  unfold contP at h
  split at h
  · exact ⟨_, h.2, cont_spec _ h.1.get _⟩
  · exact h.elim
noncomputable def cpSs : CPT := cpAdd 44 (pureCC contP) (cpAdd 45 (pureCC lfirstP) (cpAdd 46 (pureCC whenP) (cpAdd 47 (pureCC fromP) (cpAdd 48 (pureCC lsquareP) noC))))
theorem cpSs_ok : CPOK Tryz.prog cpSs := cpAdd_ok (pureCC_ok cont_ok) (cpAdd_ok (pureCC_ok lfirst_ok) (cpAdd_ok (pureCC_ok lwhen_ok) (cpAdd_ok (pureCC_ok from_ok) (cpAdd_ok (pureCC_ok lsquare_ok) noC_ok))))
def knownS (s : ByteArray) : Prop := s = kSem1 ∨ s = kMag1 ∨ s = kPan1
theorem sqSys_spec (n : Int) (s : ByteArray) (hn : 1 ≤ n ∧ n ≤ 10) (hs : knownS s) : PSpec Tryz.prog 16 [.str s, .int .i64 n] (.tup [.agg [.int .i64 (n * n), .isl (.rows .i64 (lnsK n.toNat s)) .none], .int .i64 0]) := by
  have hk : ([kSem1, kMag1, kPan1].any fun x => decide (s = x)) = true := by
    rcases hs with rfl | rfl | rfl <;> decide
  have hz : firstOf [if (!([kSem1, kMag1, kPan1].any fun x => decide (s = x))) = true then 13 else 0, if [n].any (outB 1 16) then 3 else 0] = 0 := by
    rw [hk]
    simp only [firstOf, List.any_cons, List.any_nil, Bool.or_false, outB, Bool.or_eq_true, decide_eq_true_eq]
    (repeat' split) <;> (first | rfl | omega | simp_all)
  refine pspec_of (md := 1) (rf := []) mixed tabOK cpSs_ok Tryz.func16 (by rfl) (by rfl) (by rfl) ?_
  repeat' ((conv => whnf); first | refine And.intro ?_ ?_ | with_reducible exact VC.mk rfl | exact Ok.mk | exact True.intro | refine Nx.mk ?_ | refine Fin.mk ?_ | intro _)
  all_goals ((try refine VC.mk ?_); (try simp only [CL.ncell, CL.cnt, vq] at *); (try omega))
  · rename_i hq; exact absurd hz hq
  · exact Sup.of rfl
theorem sys_zero {n : Nat} (h : 1 ≤ n ∧ n ≤ 10) : sysE ((n : Int) * n) (lnsK n kSem1) = 0 ∧ sysE ((n : Int) * n) (lnsK n kMag1) = 0 ∧ sysE ((n : Int) * n) (lnsK n kPan1) = 0 := by
  obtain rfl | rfl | rfl | rfl | rfl | rfl | rfl | rfl | rfl | rfl : n = 1 ∨ n = 2 ∨ n = 3 ∨ n = 4 ∨ n = 5 ∨ n = 6 ∨ n = 7 ∨ n = 8 ∨ n = 9 ∨ n = 10 := by omega
  all_goals decide +kernel
end Go.Eng.YtobnbkoeocdhbaaGreatDoor
namespace Go.Eng.YtobnbkoeocdhbaaGreatDoor
open Go.Proofs
set_option maxRecDepth 100000
set_option maxHeartbeats 0
set_option linter.unusedVariables false
set_option linter.unusedSimpArgs false
end Go.Eng.YtobnbkoeocdhbaaGreatDoor
namespace Go.Eng.YtobnbkoeocdhbaaGreatDoor
open Go.Proofs
set_option maxRecDepth 100000
set_option maxHeartbeats 0
set_option linter.unusedVariables false
set_option linter.unusedSimpArgs false
/-! Halved -/
def halvedAt (n : Int) (i : Nat) : Int := if (i : Int) < n / 2 then i else n - 1 - (i - n / 2)
def halvedL (n : Int) (m : Nat) : List Int := (List.range m).map (halvedAt n)
theorem halvedL_succ (n : Int) (m : Nat) : halvedL n (m + 1) = halvedL n m ++ [halvedAt n m] := by simp [halvedL, List.range_succ]
theorem halvedL_len (n : Int) (m : Nat) : (halvedL n m).length = m := by simp [halvedL]
def halvedV (n : Int) : PV := if n < 1 ∨ 16 < n then .tup [.isl (.ints .i64 []) .none, .int .i64 3] else if n % 4 = 0 then .tup [.isl (.ints .i64 (halvedL n n.toNat)) .none, .int .i64 0] else .tup [.isl (.ints .i64 []) .none, .int .i64 7]
theorem halved_err (n e : Int) (he : e ≠ 0) (hf : firstOf [if n < 1 ∨ 16 < n then 3 else 0, if n.tmod 4 ≠ 0 then 7 else 0] = e) : PSpec Tryz.prog 70 [.int .i64 n] (.tup [.isl (.ints .i64 []) .none, .int .i64 e]) := by
  refine pspec_of (md := 1) (rf := []) mixed tabOK cp2_ok Tryz.func70 (by rfl) (by rfl) (by rfl) ?_
  repeat' ((conv => whnf); first | refine And.intro ?_ ?_ | with_reducible exact VC.mk rfl | exact Ok.mk | exact True.intro | refine Nx.mk ?_ | refine Fin.mk ?_ | intro _)
  all_goals ((try refine VC.mk ?_); (try simp only [CL.ncell, CL.cnt, vq] at *); (try omega))
  all_goals (try (exfalso; simp_all; done))
  · rw [hf]; all_goals (refine Sup.via ?_; repeat' ((conv => whnf); first | refine And.intro ?_ ?_ | with_reducible exact VC.mk rfl | exact Ok.mk | exact True.intro | refine Nx.mk ?_ | refine Fin.mk ?_ | intro _); all_goals ((try refine VC.mk ?_); (try simp only [CL.ncell, CL.cnt, vq] at *); (try omega)); all_goals (try (simp [CL.sub]; done)))
theorem halved_ok (m : Nat) (hn : 1 ≤ m ∧ m ≤ 16) (h4 : (m : Int) % 4 = 0) : PSpec Tryz.prog 70 [.int .i64 (m : Int)] (.tup [.isl (.ints .i64 (halvedL m m)) .none, .int .i64 0]) := by
  refine pspec_of (md := 0) (rf := []) mixed tabOK cp2_ok Tryz.func70 (by rfl) (by rfl) (by rfl) ?_
  repeat' ((conv => whnf); first | refine And.intro ?_ ?_ | with_reducible exact VC.mk rfl | exact Ok.mk | exact True.intro | refine Nx.mk ?_ | refine Fin.mk ?_ | intro _)
  all_goals ((try refine VC.mk ?_); (try simp only [CL.ncell, CL.cnt, vq] at *); (try omega))
  all_goals (try (exfalso; simp_all [firstOf]; omega))
  conv => whnf
  refine loop_of (X := Nat) (fun i => i ≤ m) (fun i => [(19, .int .i64 i), (5, .isl (.ints .i64 (halvedL m i)) (.own 13))]) (fun i => [(13, .tok 1 i)]) (fun i => m - i) 0 ⟨anyB_ok, mixed, tabOK, cp2_ok, noY_ok⟩ (by rfl) (by omega) ?_ ?_
  · repeat' ((conv => whnf); first | refine And.intro ?_ ?_ | with_reducible exact VC.mk rfl | exact Ok.mk | exact True.intro | refine Nx.mk ?_ | refine Fin.mk ?_ | intro _)
    all_goals ((try refine VC.mk ?_); (try simp only [CL.ncell, CL.cnt, vq] at *); (try omega))
  · intro i hi
    by_cases hlt : i < m
    · have hl := halvedL_len m i
      have e1 := halvedL_succ m i
      repeat' ((conv => whnf); first | refine And.intro ?_ ?_ | with_reducible exact VC.mk rfl | exact Ok.mk | exact True.intro | refine Nx.mk ?_ | refine Fin.mk ?_ | intro _)
      all_goals ((try refine VC.mk ?_); (try simp only [CL.ncell, CL.cnt, vq] at *); (try omega))
      · simp [hl]; omega
      · refine ⟨i + 1, [], ⟨by omega, by omega⟩, ?_⟩
        repeat' ((conv => whnf); first | refine And.intro ?_ ?_ | with_reducible exact VC.mk rfl | exact Ok.mk | exact True.intro | refine Nx.mk ?_ | refine Fin.mk ?_ | intro _)
        all_goals ((try refine VC.mk ?_); (try simp only [CL.ncell, CL.cnt, vq] at *); (try omega))
        · rw [e1]; unfold halvedAt; rw [if_neg (by omega)]
      · simp [hl]; omega
      · refine ⟨i + 1, [], ⟨by omega, by omega⟩, ?_⟩
        repeat' ((conv => whnf); first | refine And.intro ?_ ?_ | with_reducible exact VC.mk rfl | exact Ok.mk | exact True.intro | refine Nx.mk ?_ | refine Fin.mk ?_ | intro _)
        all_goals ((try refine VC.mk ?_); (try simp only [CL.ncell, CL.cnt, vq] at *); (try omega))
        · rw [e1]; unfold halvedAt; rw [if_pos (by omega)]
    · have : m = i := by omega
      subst this
      repeat' ((conv => whnf); first | refine And.intro ?_ ?_ | with_reducible exact VC.mk rfl | exact Ok.mk | exact True.intro | refine Nx.mk ?_ | refine Fin.mk ?_ | intro _)
      all_goals ((try refine VC.mk ?_); (try simp only [CL.ncell, CL.cnt, vq] at *); (try omega))
      all_goals (refine Sup.via ?_; repeat' ((conv => whnf); first | refine And.intro ?_ ?_ | with_reducible exact VC.mk rfl | exact Ok.mk | exact True.intro | refine Nx.mk ?_ | refine Fin.mk ?_ | intro _); all_goals ((try refine VC.mk ?_); (try simp only [CL.ncell, CL.cnt, vq] at *); (try omega)); all_goals (try (simp [CL.sub]; done)))
theorem halved_spec (n : Int) : PSpec Tryz.prog 70 [.int .i64 n] (halvedV n) := by
  unfold halvedV
  by_cases h : n < 1 ∨ 16 < n
  · rw [if_pos h]
    refine halved_err n 3 (by omega) ?_
    rw [if_pos h]; rfl
  · rw [if_neg h]
    have ht : n.tmod 4 = n % 4 := Int.tmod_eq_emod_of_nonneg (by omega)
    by_cases h4 : n % 4 = 0
    · rw [if_pos h4]
      obtain ⟨m, rfl⟩ : ∃ m : Nat, n = m := ⟨n.toNat, by omega⟩
      rw [Int.toNat_natCast]
      exact halved_ok m (by omega) h4
    · rw [if_neg h4]
      refine halved_err n 7 (by omega) ?_
      rw [if_neg h, if_pos (by omega)]; rfl
def halvedCP : PSp := fun xs K => match xs with
  | [.int .i64 n] => VC (True) ∧ K (halvedV n)
  | _ => False
theorem halvedC_ok : POK Tryz.prog 70 halvedCP := by
  intro xs K h
  unfold halvedCP at h
  split at h
  · exact ⟨_, h.2, halved_spec _⟩
  · exact h.elim
/-! most-perfect squares -/
def turned (n x p : Int) : Int := if p % 2 = 1 then n - 1 - x else x
theorem c134_spec (n x p : Int) (hn : 0 ≤ n ∧ n ≤ 1000) (hx : 0 ≤ x ∧ x ≤ 1000) (hp : 0 ≤ p ∧ p ≤ 1000) : PSpec Tryz.prog 113 [.int .i64 x, .int .i64 p, .ip (.pv [.int .i64 n]) 0] (.int .i64 (turned n x p)) := by
  refine pspec_of (md := 0) (rf := []) mixed tabOK noC_ok Tryz.func113 (by rfl) (by rfl) (by rfl) ?_
  repeat' ((conv => whnf); first | refine And.intro ?_ ?_ | with_reducible exact VC.mk rfl | exact Ok.mk | exact True.intro | refine Nx.mk ?_ | refine Fin.mk ?_ | intro _)
  all_goals ((try refine VC.mk ?_); (try simp only [CL.ncell, CL.cnt, vq] at *); (try omega))
  all_goals (refine Sup.of ?_; unfold turned; simp_all [resOf])
def c134P : PSp := fun xs K => match xs with
  | [.int .i64 x, .int .i64 p, .ip (.pv [.int .i64 n]) 0] => VC ((0 ≤ n ∧ n ≤ 1000) ∧ (0 ≤ x ∧ x ≤ 1000) ∧ 0 ≤ p ∧ p ≤ 1000) ∧ K (.int .i64 (turned n x p))
  | _ => False
theorem c134_ok : POK Tryz.prog 113 c134P := by
  intro xs K h
  unfold c134P at h
  split at h
  · exact ⟨_, h.2, c134_spec _ _ _ h.1.get.1 h.1.get.2.1 h.1.get.2.2⟩
  · exact h.elim
def mpF (n : Int) (rows cols : List Int) (i j : Nat) : Int := turned n (rows.getD i 0) j + n * turned n (cols.getD j 0) i + 1
theorem turned_bd {n x p : Int} (hx : 0 ≤ x ∧ x < n) : 0 ≤ turned n x p ∧ turned n x p < n := by unfold turned; split <;> omega
theorem c135_spec (n : Nat) (rows cols : List Int) (i j : Nat) (hn : n ≤ 16) (hr : rows.length = n) (hc : cols.length = n) (hi : i < n) (hj : j < n) (h1 : ∀ k, k < n → 0 ≤ rows.getD k 0 ∧ rows.getD k 0 < n) (h2 : ∀ k, k < n → 0 ≤ cols.getD k 0 ∧ cols.getD k 0 < n) :
    PSpec Tryz.prog 114 ([] ++ [.int .i64 i, .int .i64 j] ++ [.ip (.pv [.fn (.func 113) [] [.ip (.pv [.int .i64 (n : Int)]) 0]]) 0, .ip (.pv [.isl (.ints .i64 rows) .none]) 0, .ip (.pv [.int .i64 (n : Int)]) 0, .ip (.pv [.isl (.ints .i64 cols) .none]) 0]) (.int .i64 (mpF n rows cols i j)) := by
  have hC : CPOK Tryz.prog (cpAdd 113 (pureCC c134P) noC) := cpAdd_ok (pureCC_ok c134_ok) noC_ok
  have a1 := h1 i hi
  have a2 := h2 j hj
  have b1 := turned_bd (p := (j : Int)) a1
  have b2 := turned_bd (p := (i : Int)) a2
  have b3 := mul_bd (A := 16) (B := 16) (show 0 ≤ (n : Int) ∧ (n : Int) ≤ 16 by omega) (show 0 ≤ turned n (cols.getD j 0) i ∧ turned n (cols.getD j 0) i ≤ 16 by omega)
  refine pspec_of (md := 0) (rf := []) mixed tabOK hC Tryz.func114 (by rfl) (by rfl) (by rfl) ?_
  repeat' ((conv => whnf); first | refine And.intro ?_ ?_ | with_reducible exact VC.mk rfl | exact Ok.mk | exact True.intro | refine Nx.mk ?_ | refine Fin.mk ?_ | intro _)
  all_goals ((try refine VC.mk ?_); (try simp only [CL.ncell, CL.cnt, vq] at *); (try omega))
  unfold mpF
  all_goals (refine Sup.via ?_; repeat' ((conv => whnf); first | refine And.intro ?_ ?_ | with_reducible exact VC.mk rfl | exact Ok.mk | exact True.intro | refine Nx.mk ?_ | refine Fin.mk ?_ | intro _); all_goals ((try refine VC.mk ?_); (try simp only [CL.ncell, CL.cnt, vq] at *); (try omega)); all_goals (try (simp [CL.sub]; done)))
def mpL (rows cols : List Int) : List Int := madeL rows.length (mpF rows.length rows cols)
theorem mostPerfect_spec (rows cols : List Int) (hn : rows.length ≤ 16) (hc : cols.length = rows.length) (h1 : ∀ k, k < rows.length → 0 ≤ rows.getD k 0 ∧ rows.getD k 0 < rows.length) (h2 : ∀ k, k < rows.length → 0 ≤ cols.getD k 0 ∧ cols.getD k 0 < rows.length) :
    PSpec Tryz.prog 71 [.isl (.ints .i64 rows) .none, .isl (.ints .i64 cols) .none] (gridV rows.length rows.length (mpL rows cols)) := by
  unfold mpL
  refine pspec_of (md := 0) (rf := []) mixed tabOK cpO3_ok Tryz.func71 (by rfl) (by rfl) (by rfl) ?_
  repeat' ((conv => whnf); first | refine And.intro ?_ ?_ | with_reducible exact VC.mk rfl | exact Ok.mk | exact True.intro | refine Nx.mk ?_ | refine Fin.mk ?_ | intro _)
  all_goals ((try refine VC.mk ?_); (try simp only [CL.ncell, CL.cnt, vq] at *); (try omega))
  refine ⟨mpF rows.length rows cols, fun i j hi hj => c135_spec rows.length rows cols i j hn rfl hc (by omega) (by omega) h1 h2, ?_⟩
  repeat' ((conv => whnf); first | refine And.intro ?_ ?_ | with_reducible exact VC.mk rfl | exact Ok.mk | exact True.intro | refine Nx.mk ?_ | refine Fin.mk ?_ | intro _)
  all_goals ((try refine VC.mk ?_); (try simp only [CL.ncell, CL.cnt, vq] at *); (try omega))
  all_goals (refine Sup.via ?_; repeat' ((conv => whnf); first | refine And.intro ?_ ?_ | with_reducible exact VC.mk rfl | exact Ok.mk | exact True.intro | refine Nx.mk ?_ | refine Fin.mk ?_ | intro _); all_goals ((try refine VC.mk ?_); (try simp only [CL.ncell, CL.cnt, vq] at *); (try omega)); all_goals (try (simp [CL.sub]; done)))
def mostPerfectP : PSp := fun xs K => match xs with
  | [.isl (.ints .i64 rows) .none, .isl (.ints .i64 cols) .none] => VC (rows.length ≤ 16 ∧ cols.length = rows.length ∧ (∀ k, k < rows.length → 0 ≤ rows.getD k 0 ∧ rows.getD k 0 < rows.length) ∧ ∀ k, k < rows.length → 0 ≤ cols.getD k 0 ∧ cols.getD k 0 < rows.length) ∧ K (gridV rows.length rows.length (mpL rows cols))
  | _ => False
theorem mostPerfect_ok : POK Tryz.prog 71 mostPerfectP := by
  intro xs K h
  unfold mostPerfectP at h
  split at h
  · exact ⟨_, h.2, mostPerfect_spec _ _ h.1.get.1 h.1.get.2.1 h.1.get.2.2.1 h.1.get.2.2.2⟩
  · exact h.elim
end Go.Eng.YtobnbkoeocdhbaaGreatDoor
namespace Go.Eng.YtobnbkoeocdhbaaGreatDoor
open Go.Proofs
set_option maxRecDepth 100000
set_option maxHeartbeats 0
set_option linter.unusedVariables false
set_option linter.unusedSimpArgs false
def panL (n : Int) : List Int := uniL n 0 0 1 2 2 1
theorem pan_sq {n : Int} (hn : 1 ≤ n) (h : n % 3 ≠ 0) : isSq n (1 % n) (2 % n) (2 % n) (1 % n) = true := by
  by_cases h1 : n % 3 = 1
  · exact isSq_of (u := n / 3) ⟨-1, by have := Int.emod_add_mul_ediv n 3; omega⟩
  · exact isSq_of (u := -(n / 3) - 1) ⟨1, by have := Int.emod_add_mul_ediv n 3; omega⟩
noncomputable def cpP1 : CPT := cpAdd 41 (pureCC reducedP) (cpAdd 42 (pureCC layP) (cpAdd 70 (pureCC halvedCP) (cpAdd 71 (pureCC mostPerfectP) noC)))
theorem cpP1_ok : CPOK Tryz.prog cpP1 := cpAdd_ok (pureCC_ok reduced_ok) (cpAdd_ok (pureCC_ok lay_ok) (cpAdd_ok (pureCC_ok halvedC_ok) (cpAdd_ok (pureCC_ok mostPerfect_ok) noC_ok)))
theorem c97_odd (n : Int) (hn : 1 ≤ n ∧ n ≤ 16) (h : n % 3 ≠ 0) : PSpec Tryz.prog 69 ([] ++ [] ++ [.ip (.pv [.bp true]) 0, .ip (.pv [.int .i64 n]) 0]) (gridV n n (panL n)) := by
  have hm := meet_none (s0 := 0 % n) (s1 := 0 % n) hn.1 (pan_sq hn.1 h)
  have h3 := emod_all hn.1 0 0 1 2 2 1
  unfold panL uniL
  refine pspec_of (md := 0) (rf := []) mixed tabOK cpP1_ok Tryz.func69 (by rfl) (by rfl) (by rfl) ?_
  repeat' ((conv => whnf); first | refine And.intro ?_ ?_ | with_reducible exact VC.mk rfl | exact Ok.mk | exact True.intro | refine Nx.mk ?_ | refine Fin.mk ?_ | intro _)
  all_goals ((try refine VC.mk ?_); (try simp only [CL.ncell, CL.cnt, vq] at *); (try omega))
  · refine ⟨by omega, fun x hx => ?_⟩
    simp only [List.mem_cons, List.not_mem_nil, or_false] at hx
    rcases hx with rfl | rfl | rfl | rfl | rfl | rfl <;> omega
  · exact ⟨hn, h3⟩
  simp only [layV, hm]
  repeat' ((conv => whnf); first | refine And.intro ?_ ?_ | with_reducible exact VC.mk rfl | exact Ok.mk | exact True.intro | refine Nx.mk ?_ | refine Fin.mk ?_ | intro _)
  all_goals ((try refine VC.mk ?_); (try simp only [CL.ncell, CL.cnt, vq] at *); (try omega))
  all_goals (refine Sup.via ?_; repeat' ((conv => whnf); first | refine And.intro ?_ ?_ | with_reducible exact VC.mk rfl | exact Ok.mk | exact True.intro | refine Nx.mk ?_ | refine Fin.mk ?_ | intro _); all_goals ((try refine VC.mk ?_); (try simp only [CL.ncell, CL.cnt, vq] at *); (try omega)); all_goals (try (simp [CL.sub]; done)))
theorem halved_bd (n : Int) (hn : 1 ≤ n ∧ n ≤ 16) (k : Nat) (hk : k < n.toNat) : 0 ≤ (halvedL n n.toNat).getD k 0 ∧ (halvedL n n.toNat).getD k 0 < n := by
  unfold halvedL
  rw [List.getD_eq_getElem?_getD, List.getElem?_map, List.getElem?_range hk]
  simp only [Option.map_some, Option.getD_some]
  unfold halvedAt
  split <;> omega
def panM (n : Int) : List Int := mpL (halvedL n n.toNat) (halvedL n n.toNat)
theorem c97_four (n : Int) (hn : 1 ≤ n ∧ n ≤ 16) (h : n % 4 = 0) : PSpec Tryz.prog 69 ([] ++ [] ++ [.ip (.pv [.bp false]) 0, .ip (.pv [.int .i64 n]) 0]) (gridV n n (panM n)) := by
  have hv : halvedV n = .tup [.isl (.ints .i64 (halvedL n n.toNat)) .none, .int .i64 0] := by unfold halvedV; rw [if_neg (by omega), if_pos h]
  have hl : ((halvedL n n.toNat).length : Int) = n := by rw [halvedL_len]; omega
  have hb := halved_bd n hn
  refine pspec_of (md := 0) (rf := []) mixed tabOK cpP1_ok Tryz.func69 (by rfl) (by rfl) (by rfl) ?_
  repeat' ((conv => whnf); first | refine And.intro ?_ ?_ | with_reducible exact VC.mk rfl | exact Ok.mk | exact True.intro | refine Nx.mk ?_ | refine Fin.mk ?_ | intro _)
  all_goals ((try refine VC.mk ?_); (try simp only [CL.ncell, CL.cnt, vq] at *); (try omega))
  simp only [hv]
  repeat' ((conv => whnf); first | refine And.intro ?_ ?_ | with_reducible exact VC.mk rfl | exact Ok.mk | exact True.intro | refine Nx.mk ?_ | refine Fin.mk ?_ | intro _)
  all_goals ((try refine VC.mk ?_); (try simp only [CL.ncell, CL.cnt, vq] at *); (try omega))
  · exact ⟨by rw [halvedL_len]; omega, fun k hk => by rw [hl]; exact hb k (by rw [halvedL_len] at hk; exact hk)⟩
  rw [hl]
  unfold panM
  all_goals (refine Sup.via ?_; repeat' ((conv => whnf); first | refine And.intro ?_ ?_ | with_reducible exact VC.mk rfl | exact Ok.mk | exact True.intro | refine Nx.mk ?_ | refine Fin.mk ?_ | intro _); all_goals ((try refine VC.mk ?_); (try simp only [CL.ncell, CL.cnt, vq] at *); (try omega)); all_goals (try (simp [CL.sub]; done)))
theorem pandiagonal_spec (n : Int) : PSpec Tryz.prog 28 [.int .i64 n] (gridOr n (n % 2 = 1 ∧ n % 3 ≠ 0 ∨ n % 4 = 0) (if n % 2 = 1 then panL n else panM n)) := by
  unfold gridOr
  by_cases hn : n < 1 ∨ 16 < n
  · rw [if_pos hn]
    refine pspec_of (md := 1) (rf := []) mixed tabOK cpO2_ok Tryz.func28 (by rfl) (by rfl) (by rfl) ?_
    repeat' ((conv => whnf); first | refine And.intro ?_ ?_ | with_reducible exact VC.mk rfl | exact Ok.mk | exact True.intro | refine Nx.mk ?_ | refine Fin.mk ?_ | intro _)
    all_goals ((try refine VC.mk ?_); (try simp only [CL.ncell, CL.cnt, vq] at *); (try omega))
    all_goals (try (exfalso; omega))
    all_goals (refine Sup.via ?_; repeat' ((conv => whnf); first | refine And.intro ?_ ?_ | with_reducible exact VC.mk rfl | exact Ok.mk | exact True.intro | refine Nx.mk ?_ | refine Fin.mk ?_ | intro _); all_goals ((try refine VC.mk ?_); (try simp only [CL.ncell, CL.cnt, vq] at *); (try omega)); all_goals (try (simp [CL.sub]; done)))
  · rw [if_neg hn]
    have h2 : n.tmod 2 = n % 2 := Int.tmod_eq_emod_of_nonneg (by omega)
    have h3 : n.tmod 3 = n % 3 := Int.tmod_eq_emod_of_nonneg (by omega)
    have h4 : n.tmod 4 = n % 4 := Int.tmod_eq_emod_of_nonneg (by omega)
    by_cases c1 : n % 2 = 1 ∧ n % 3 ≠ 0
    · rw [if_pos (.inl c1), if_pos c1.1]
      refine pspec_of (md := 1) (rf := []) mixed tabOK cpO2_ok Tryz.func28 (by rfl) (by rfl) (by rfl) ?_
      repeat' ((conv => whnf); first | refine And.intro ?_ ?_ | with_reducible exact VC.mk rfl | exact Ok.mk | exact True.intro | refine Nx.mk ?_ | refine Fin.mk ?_ | intro _)
      all_goals ((try refine VC.mk ?_); (try simp only [CL.ncell, CL.cnt, vq] at *); (try omega))
      all_goals (try (exfalso; omega))
      all_goals (refine ⟨n, n, panL n, (by rw [show decide (n.tmod 2 ≠ 0) = true from by simp; omega]; exact c97_odd n (by omega) c1.2), ?_⟩)
      all_goals repeat' ((conv => whnf); first | refine And.intro ?_ ?_ | with_reducible exact VC.mk rfl | exact Ok.mk | exact True.intro | refine Nx.mk ?_ | refine Fin.mk ?_ | intro _)
      all_goals all_goals ((try refine VC.mk ?_); (try simp only [CL.ncell, CL.cnt, vq] at *); (try omega))
      all_goals (refine Sup.via ?_; repeat' ((conv => whnf); first | refine And.intro ?_ ?_ | with_reducible exact VC.mk rfl | exact Ok.mk | exact True.intro | refine Nx.mk ?_ | refine Fin.mk ?_ | intro _); all_goals ((try refine VC.mk ?_); (try simp only [CL.ncell, CL.cnt, vq] at *); (try omega)); all_goals (try (simp [CL.sub]; done)))
    · by_cases c2 : n % 4 = 0
      · rw [if_pos (.inr c2), if_neg (by omega)]
        refine pspec_of (md := 1) (rf := []) mixed tabOK cpO2_ok Tryz.func28 (by rfl) (by rfl) (by rfl) ?_
        repeat' ((conv => whnf); first | refine And.intro ?_ ?_ | with_reducible exact VC.mk rfl | exact Ok.mk | exact True.intro | refine Nx.mk ?_ | refine Fin.mk ?_ | intro _)
        all_goals ((try refine VC.mk ?_); (try simp only [CL.ncell, CL.cnt, vq] at *); (try omega))
        all_goals (try (exfalso; omega))
        all_goals (refine ⟨n, n, panM n, (by rw [show decide (n.tmod 2 ≠ 0) = false from by simp; omega]; exact c97_four n (by omega) c2), ?_⟩)
        all_goals repeat' ((conv => whnf); first | refine And.intro ?_ ?_ | with_reducible exact VC.mk rfl | exact Ok.mk | exact True.intro | refine Nx.mk ?_ | refine Fin.mk ?_ | intro _)
        all_goals all_goals ((try refine VC.mk ?_); (try simp only [CL.ncell, CL.cnt, vq] at *); (try omega))
        all_goals (refine Sup.via ?_; repeat' ((conv => whnf); first | refine And.intro ?_ ?_ | with_reducible exact VC.mk rfl | exact Ok.mk | exact True.intro | refine Nx.mk ?_ | refine Fin.mk ?_ | intro _); all_goals ((try refine VC.mk ?_); (try simp only [CL.ncell, CL.cnt, vq] at *); (try omega)); all_goals (try (simp [CL.sub]; done)))
      · rw [if_neg (by omega)]
        refine pspec_of (md := 1) (rf := []) mixed tabOK cpO2_ok Tryz.func28 (by rfl) (by rfl) (by rfl) ?_
        repeat' ((conv => whnf); first | refine And.intro ?_ ?_ | with_reducible exact VC.mk rfl | exact Ok.mk | exact True.intro | refine Nx.mk ?_ | refine Fin.mk ?_ | intro _)
        all_goals ((try refine VC.mk ?_); (try simp only [CL.ncell, CL.cnt, vq] at *); (try omega))
        all_goals (try (exfalso; omega))
        all_goals (refine Sup.via ?_; repeat' ((conv => whnf); first | refine And.intro ?_ ?_ | with_reducible exact VC.mk rfl | exact Ok.mk | exact True.intro | refine Nx.mk ?_ | refine Fin.mk ?_ | intro _); all_goals ((try refine VC.mk ?_); (try simp only [CL.ncell, CL.cnt, vq] at *); (try omega)); all_goals (try (simp [CL.sub]; done)))
end Go.Eng.YtobnbkoeocdhbaaGreatDoor
namespace Go.Eng.YtobnbkoeocdhbaaGreatDoor
open Go.Proofs
set_option maxRecDepth 100000
set_option maxHeartbeats 0
set_option linter.unusedVariables false
set_option linter.unusedSimpArgs false
def notTern (x : Int) : Bool := decide (x < 0 ∨ 2 < x)
theorem c156_spec (x : Int) : PSpec Tryz.prog 105 ([] ++ [.int .i64 x] ++ []) (.bp (notTern x)) := by
  refine pspec_of (md := 0) (rf := []) mixed tabOK noC_ok Tryz.func105 (by rfl) (by rfl) (by rfl) ?_
  repeat' ((conv => whnf); first | refine And.intro ?_ ?_ | with_reducible exact VC.mk rfl | exact Ok.mk | exact True.intro | refine Nx.mk ?_ | refine Fin.mk ?_ | intro _)
  all_goals ((try refine VC.mk ?_); (try simp only [CL.ncell, CL.cnt, vq] at *); (try omega))
  all_goals refine Sup.via ?_
  repeat' ((conv => whnf); first | refine And.intro ?_ ?_ | with_reducible exact VC.mk rfl | exact Ok.mk | exact True.intro | refine Nx.mk ?_ | refine Fin.mk ?_ | intro _)
  all_goals refine VC.mk ?_
  all_goals simp_all [notTern]
  all_goals (try omega)
abbrev bimForms : PV := .agg [.int .i64 0, .int .i64 1, .int .i64 1, .int .i64 0, .int .i64 2, .int .i64 0, .int .i64 0, .int .i64 1, .int .i64 1, .int .i64 2, .int .i64 1, .int .i64 1, .int .i64 2, .int .i64 2, .int .i64 1, .int .i64 2]
noncomputable def cpT1 : CPT := cpAdd 86 (viewCC hasFP) noC
theorem cpT1_ok : CPOK Tryz.prog cpT1 := cpAdd_ok (viewCC_ok hasF_ok) noC_ok
theorem cForms_spec : PSpec Tryz.prog 55 [bimForms] (.int .i64 0) := by
  refine pspec_of (md := 0) (rf := []) mixed tabOK cpT1_ok Tryz.func55 (by rfl) (by rfl) (by rfl) ?_
  repeat' ((conv => whnf); first | refine And.intro ?_ ?_ | with_reducible exact VC.mk rfl | exact Ok.mk | exact True.intro | refine Nx.mk ?_ | refine Fin.mk ?_ | intro _)
  conv => whnf
  refine loop_rounds 5 (rounds_succ ⟨anyB_ok, mixed, tabOK, cpT1_ok, noY_ok⟩ (by rfl) ?_)
  repeat' ((conv => whnf); first | refine And.intro ?_ ?_ | with_reducible exact VC.mk rfl | exact Ok.mk | exact True.intro | refine Nx.mk ?_ | refine Fin.mk ?_ | intro _)
  all_goals ((try refine VC.mk ?_); (try simp only [CL.ncell, CL.cnt, vq] at *); (try omega))
  · simp [show te57.size = 4 from rfl]
  · exact ⟨by simp, rfl⟩
  refine ⟨notTern, fun x _ => c156_spec x, ?_⟩
  repeat' ((conv => whnf); first | refine And.intro ?_ ?_ | with_reducible exact VC.mk rfl | exact Ok.mk | exact True.intro | refine Nx.mk ?_ | refine Fin.mk ?_ | intro _)
  · exact absurd ‹_ = true› (by decide)
  all_goals ((try refine VC.mk ?_); (try simp only [CL.ncell, CL.cnt, vq] at *); (try omega))
  conv => whnf
  refine rounds_succ ⟨anyB_ok, mixed, tabOK, cpT1_ok, noY_ok⟩ (by rfl) ?_
  repeat' ((conv => whnf); first | refine And.intro ?_ ?_ | with_reducible exact VC.mk rfl | exact Ok.mk | exact True.intro | refine Nx.mk ?_ | refine Fin.mk ?_ | intro _)
  all_goals ((try refine VC.mk ?_); (try simp only [CL.ncell, CL.cnt, vq] at *); (try omega))
  · simp [show te57.size = 4 from rfl]
  · exact ⟨by simp, rfl⟩
  refine ⟨notTern, fun x _ => c156_spec x, ?_⟩
  repeat' ((conv => whnf); first | refine And.intro ?_ ?_ | with_reducible exact VC.mk rfl | exact Ok.mk | exact True.intro | refine Nx.mk ?_ | refine Fin.mk ?_ | intro _)
  · exact absurd ‹_ = true› (by decide)
  all_goals ((try refine VC.mk ?_); (try simp only [CL.ncell, CL.cnt, vq] at *); (try omega))
  conv => whnf
  refine rounds_succ ⟨anyB_ok, mixed, tabOK, cpT1_ok, noY_ok⟩ (by rfl) ?_
  repeat' ((conv => whnf); first | refine And.intro ?_ ?_ | with_reducible exact VC.mk rfl | exact Ok.mk | exact True.intro | refine Nx.mk ?_ | refine Fin.mk ?_ | intro _)
  all_goals ((try refine VC.mk ?_); (try simp only [CL.ncell, CL.cnt, vq] at *); (try omega))
  · simp [show te57.size = 4 from rfl]
  · exact ⟨by simp, rfl⟩
  refine ⟨notTern, fun x _ => c156_spec x, ?_⟩
  repeat' ((conv => whnf); first | refine And.intro ?_ ?_ | with_reducible exact VC.mk rfl | exact Ok.mk | exact True.intro | refine Nx.mk ?_ | refine Fin.mk ?_ | intro _)
  · exact absurd ‹_ = true› (by decide)
  all_goals ((try refine VC.mk ?_); (try simp only [CL.ncell, CL.cnt, vq] at *); (try omega))
  conv => whnf
  refine rounds_succ ⟨anyB_ok, mixed, tabOK, cpT1_ok, noY_ok⟩ (by rfl) ?_
  repeat' ((conv => whnf); first | refine And.intro ?_ ?_ | with_reducible exact VC.mk rfl | exact Ok.mk | exact True.intro | refine Nx.mk ?_ | refine Fin.mk ?_ | intro _)
  all_goals ((try refine VC.mk ?_); (try simp only [CL.ncell, CL.cnt, vq] at *); (try omega))
  · simp [show te57.size = 4 from rfl]
  · exact ⟨by simp, rfl⟩
  refine ⟨notTern, fun x _ => c156_spec x, ?_⟩
  repeat' ((conv => whnf); first | refine And.intro ?_ ?_ | with_reducible exact VC.mk rfl | exact Ok.mk | exact True.intro | refine Nx.mk ?_ | refine Fin.mk ?_ | intro _)
  · exact absurd ‹_ = true› (by decide)
  all_goals ((try refine VC.mk ?_); (try simp only [CL.ncell, CL.cnt, vq] at *); (try omega))
  conv => whnf
  refine rounds_succ ⟨anyB_ok, mixed, tabOK, cpT1_ok, noY_ok⟩ (by rfl) ?_
  repeat' ((conv => whnf); first | refine And.intro ?_ ?_ | with_reducible exact VC.mk rfl | exact Ok.mk | exact True.intro | refine Nx.mk ?_ | refine Fin.mk ?_ | intro _)
  all_goals ((try refine VC.mk ?_); (try simp only [CL.ncell, CL.cnt, vq] at *); (try omega))
  all_goals (exact Sup.of rfl)
def cFormsP : PSp := fun xs K => match xs with
  | [.agg [.int .i64 0, .int .i64 1, .int .i64 1, .int .i64 0, .int .i64 2, .int .i64 0, .int .i64 0, .int .i64 1, .int .i64 1, .int .i64 2, .int .i64 1, .int .i64 1, .int .i64 2, .int .i64 2, .int .i64 1, .int .i64 2]] => VC (True) ∧ K (.int .i64 0)
  | _ => False
theorem cForms_ok : POK Tryz.prog 55 cFormsP := by
  intro xs K h
  unfold cFormsP at h
  split at h
  · exact ⟨_, h.2, cForms_spec⟩
  · exact h.elim
/-! the digits of the square -/
def dig (f0 f1 f2 f3 i j : Int) : Int := (f0 * (i / 3) + f1 * (i % 3) + f2 * (j / 3) + f3 * (j % 3)) % 3
def bimF (i j : Nat) : Int := 3 * (3 * (3 * (3 * 0 + dig 0 1 1 0 i j) + dig 2 0 0 1 i j) + dig 1 2 1 1 i j) + dig 2 2 1 2 i j + 1
theorem c148_spec (i j : Nat) (hi : i < 9) (hj : j < 9) : PSpec Tryz.prog 63 ([] ++ [.int .i64 i, .int .i64 j] ++ [.ip (.pv [.int .i64 0, .int .i64 1, .int .i64 1, .int .i64 0, .int .i64 2, .int .i64 0, .int .i64 0, .int .i64 1, .int .i64 1, .int .i64 2, .int .i64 1, .int .i64 1, .int .i64 2, .int .i64 2, .int .i64 1, .int .i64 2]) 0]) (.int .i64 (bimF i j)) := by
  refine pspec_of (md := 0) (rf := []) mixed tabOK noC_ok Tryz.func63 (by rfl) (by rfl) (by rfl) ?_
  repeat' ((conv => whnf); first | refine And.intro ?_ ?_ | with_reducible exact VC.mk rfl | exact Ok.mk | exact True.intro | refine Nx.mk ?_ | refine Fin.mk ?_ | intro _)
  conv => whnf
  refine loop_rounds 5 (rounds_succ ⟨anyB_ok, mixed, tabOK, noC_ok, noY_ok⟩ (by rfl) ?_)
  repeat' ((conv => whnf); first | refine And.intro ?_ ?_ | with_reducible exact VC.mk rfl | exact Ok.mk | exact True.intro | refine Nx.mk ?_ | refine Fin.mk ?_ | intro _)
  all_goals ((try refine VC.mk ?_); (try simp only [CL.ncell, CL.cnt, vq] at *); (try omega))
  · simp [show te57.size = 4 from rfl]
  conv => whnf
  refine rounds_succ ⟨anyB_ok, mixed, tabOK, noC_ok, noY_ok⟩ (by rfl) ?_
  repeat' ((conv => whnf); first | refine And.intro ?_ ?_ | with_reducible exact VC.mk rfl | exact Ok.mk | exact True.intro | refine Nx.mk ?_ | refine Fin.mk ?_ | intro _)
  all_goals ((try refine VC.mk ?_); (try simp only [CL.ncell, CL.cnt, vq] at *); (try omega))
  · simp [show te57.size = 4 from rfl]
  conv => whnf
  refine rounds_succ ⟨anyB_ok, mixed, tabOK, noC_ok, noY_ok⟩ (by rfl) ?_
  repeat' ((conv => whnf); first | refine And.intro ?_ ?_ | with_reducible exact VC.mk rfl | exact Ok.mk | exact True.intro | refine Nx.mk ?_ | refine Fin.mk ?_ | intro _)
  all_goals ((try refine VC.mk ?_); (try simp only [CL.ncell, CL.cnt, vq] at *); (try omega))
  · simp [show te57.size = 4 from rfl]
  conv => whnf
  refine rounds_succ ⟨anyB_ok, mixed, tabOK, noC_ok, noY_ok⟩ (by rfl) ?_
  repeat' ((conv => whnf); first | refine And.intro ?_ ?_ | with_reducible exact VC.mk rfl | exact Ok.mk | exact True.intro | refine Nx.mk ?_ | refine Fin.mk ?_ | intro _)
  all_goals ((try refine VC.mk ?_); (try simp only [CL.ncell, CL.cnt, vq] at *); (try omega))
  · simp [show te57.size = 4 from rfl]
  conv => whnf
  refine rounds_succ ⟨anyB_ok, mixed, tabOK, noC_ok, noY_ok⟩ (by rfl) ?_
  repeat' ((conv => whnf); first | refine And.intro ?_ ?_ | with_reducible exact VC.mk rfl | exact Ok.mk | exact True.intro | refine Nx.mk ?_ | refine Fin.mk ?_ | intro _)
  all_goals ((try refine VC.mk ?_); (try simp only [CL.ncell, CL.cnt, vq] at *); (try omega))
  unfold bimF dig
  all_goals (refine Sup.via ?_; repeat' ((conv => whnf); first | refine And.intro ?_ ?_ | with_reducible exact VC.mk rfl | exact Ok.mk | exact True.intro | refine Nx.mk ?_ | refine Fin.mk ?_ | intro _); all_goals ((try refine VC.mk ?_); (try simp only [CL.ncell, CL.cnt, vq] at *); (try omega)); all_goals (try (simp [CL.sub]; done)))
theorem normal9 : normErr 9 9 (madeL 9 bimF) = 0 := by decide +kernel
noncomputable def cpT2 : CPT := cpAdd 55 (pureCC cFormsP) (cpAdd 33 (pureCC madeP) (cpAdd 31 (pureCC checkNormalP) noC))
theorem cpT2_ok : CPOK Tryz.prog cpT2 := cpAdd_ok (pureCC_ok cForms_ok) (cpAdd_ok (pureCC_ok made_ok) (cpAdd_ok (pureCC_ok checkNormal_ok) noC_ok))
theorem bimT_spec : PSpec Tryz.prog 23 [bimForms] (.tup [gridV 9 9 (madeL 9 bimF), .int .i64 0]) := by
  refine pspec_of (md := 0) (rf := []) mixed tabOK cpT2_ok Tryz.func23 (by rfl) (by rfl) (by rfl) ?_
  repeat' ((conv => whnf); first | refine And.intro ?_ ?_ | with_reducible exact VC.mk rfl | exact Ok.mk | exact True.intro | refine Nx.mk ?_ | refine Fin.mk ?_ | intro _)
  all_goals ((try refine VC.mk ?_); (try simp only [CL.ncell, CL.cnt, vq] at *); (try omega))
  all_goals (try (refine ⟨bimF, fun i j hi hj => c148_spec i j (by omega) (by omega), ?_⟩))
  simp only [show Int.toNat 9 = 9 from rfl]
  repeat' ((conv => whnf); first | refine And.intro ?_ ?_ | with_reducible exact VC.mk rfl | exact Ok.mk | exact True.intro | refine Nx.mk ?_ | refine Fin.mk ?_ | intro _)
  all_goals ((try refine VC.mk ?_); (try simp only [CL.ncell, CL.cnt, vq] at *); (try omega))
  · exact absurd normal9 ‹_›
  all_goals (refine Sup.via ?_; repeat' ((conv => whnf); first | refine And.intro ?_ ?_ | with_reducible exact VC.mk rfl | exact Ok.mk | exact True.intro | refine Nx.mk ?_ | refine Fin.mk ?_ | intro _); all_goals ((try refine VC.mk ?_); (try simp only [CL.ncell, CL.cnt, vq] at *); (try omega)); all_goals (try (simp [CL.sub]; done)))
def bimTP : PSp := fun xs K => match xs with
  | [.agg [.int .i64 0, .int .i64 1, .int .i64 1, .int .i64 0, .int .i64 2, .int .i64 0, .int .i64 0, .int .i64 1, .int .i64 1, .int .i64 2, .int .i64 1, .int .i64 1, .int .i64 2, .int .i64 2, .int .i64 1, .int .i64 2]] => VC (True) ∧ K (.tup [gridV 9 9 (madeL 9 bimF), .int .i64 0])
  | _ => False
theorem bimT_ok : POK Tryz.prog 23 bimTP := by
  intro xs K h
  unfold bimTP at h
  split at h
  · exact ⟨_, h.2, bimT_spec⟩
  · exact h.elim
theorem bimagic_spec : PSpec Tryz.prog 29 [] (gridV 9 9 (madeL 9 bimF)) := by
  have hC : CPOK Tryz.prog (cpAdd 23 (pureCC bimTP) noC) := cpAdd_ok (pureCC_ok bimT_ok) noC_ok
  refine pspec_of (md := 0) (rf := []) mixed tabOK hC Tryz.func29 (by rfl) (by rfl) (by rfl) ?_
  repeat' ((conv => whnf); first | refine And.intro ?_ ?_ | with_reducible exact VC.mk rfl | exact Ok.mk | exact True.intro | refine Nx.mk ?_ | refine Fin.mk ?_ | intro _)
  all_goals ((try refine VC.mk ?_); (try simp only [CL.ncell, CL.cnt, vq] at *); (try omega))
  all_goals (refine Sup.via ?_; repeat' ((conv => whnf); first | refine And.intro ?_ ?_ | with_reducible exact VC.mk rfl | exact Ok.mk | exact True.intro | refine Nx.mk ?_ | refine Fin.mk ?_ | intro _); all_goals ((try refine VC.mk ?_); (try simp only [CL.ncell, CL.cnt, vq] at *); (try omega)); all_goals (try (simp [CL.sub]; done)))
def bimagicP : PSp := fun xs K => match xs with
  | [] => VC (True) ∧ K (gridV 9 9 (madeL 9 bimF))
  | _ => False
theorem bimagic_ok : POK Tryz.prog 29 bimagicP := by
  intro xs K h
  unfold bimagicP at h
  split at h
  · exact ⟨_, h.2, bimagic_spec⟩
  · exact h.elim
end Go.Eng.YtobnbkoeocdhbaaGreatDoor
namespace Go.Eng.YtobnbkoeocdhbaaGreatDoor
open Go.Proofs
set_option maxRecDepth 100000
set_option maxHeartbeats 0
set_option linter.unusedVariables false
set_option linter.unusedSimpArgs false
end Go.Eng.YtobnbkoeocdhbaaGreatDoor
namespace Go.Eng.YtobnbkoeocdhbaaGreatDoor
open Go.Proofs
set_option maxRecDepth 100000
set_option maxHeartbeats 0
set_option linter.unusedVariables false
set_option linter.unusedSimpArgs false
def terF (x0 x1 x2 x3 x4 x5 x6 x7 x8 x9 x10 x11 x12 x13 x14 x15 : Int) (i j : Nat) : Int := (3 * (3 * (3 * (3 * 0 + dig x0 x1 x2 x3 i j) + dig x4 x5 x6 x7 i j) + dig x8 x9 x10 x11 i j) + dig x12 x13 x14 x15 i j) + 1
end Go.Eng.YtobnbkoeocdhbaaGreatDoor
namespace Go.Eng.YtobnbkoeocdhbaaGreatDoor
open Go.Proofs
set_option maxRecDepth 100000
set_option maxHeartbeats 0
set_option linter.unusedVariables false
set_option linter.unusedSimpArgs false
/-- the digit of a form at the place t of a line -/
def lD (a u v : Int) (t : Nat) : Int := (a + u * ((t : Int) / 3) + v * ((t : Int) % 3)) % 3
def nD (a u v t : Nat) : Nat := (a + u * (t / 3) + v * (t % 3)) % 3
theorem lD_nD (a u v : Int) (t : Nat) : lD a u v t = (nD (a % 3).toNat (u % 3).toNat (v % 3).toNat t : Nat) := by
  unfold lD nD
  have h1 : ((a % 3).toNat : Int) = a % 3 := Int.toNat_of_nonneg (by omega)
  have h2 : ((u % 3).toNat : Int) = u % 3 := Int.toNat_of_nonneg (by omega)
  have h3 : ((v % 3).toNat : Int) = v % 3 := Int.toNat_of_nonneg (by omega)
  push_cast
  rw [h1, h2, h3]
  have e1 : u % 3 = u - 3 * (u / 3) := by omega
  have e2 : v % 3 = v - 3 * (v / 3) := by omega
  rw [e1, e2, Int.sub_mul, Int.sub_mul, Int.mul_assoc, Int.mul_assoc]
  omega
def oneB (a u v : Nat) : Bool := (decide (u = 0) && decide (v = 0)) || (decide (sumF (fun t => (nD a u v t : Int)) 9 = 9) && decide (sumF (fun t => (nD a u v t : Int) * (nD a u v t : Int)) 9 = 15))
def pairB (a u v b w z : Nat) : Bool := decide ((u * z + 2 * (v * w)) % 3 = 0) || decide (sumF (fun t => (nD a u v t : Int) * (nD b w z t : Int)) 9 = 9)
theorem one_tab : ∀ a < 3, ∀ u < 3, ∀ v < 3, oneB a u v = true := by decide +kernel
theorem pair_tab : ∀ a < 3, ∀ u < 3, ∀ v < 3, ∀ b < 3, ∀ w < 3, ∀ z < 3, pairB a u v b w z = true := by decide +kernel
theorem one_dec (a : Nat) (ha : a < 3) (u : Nat) (hu : u < 3) (v : Nat) (hv : v < 3) (h : u ≠ 0 ∨ v ≠ 0) : sumF (fun t => (nD a u v t : Int)) 9 = 9 ∧ sumF (fun t => (nD a u v t : Int) * (nD a u v t : Int)) 9 = 15 := by
  have := one_tab a ha u hu v hv
  unfold oneB at this
  simp only [Bool.or_eq_true, Bool.and_eq_true, decide_eq_true_eq] at this
  rcases this with h1 | h1
  · omega
  · exact h1
theorem pair_dec (a : Nat) (ha : a < 3) (u : Nat) (hu : u < 3) (v : Nat) (hv : v < 3) (b : Nat) (hb : b < 3) (w : Nat) (hw : w < 3) (z : Nat) (hz : z < 3) (h : (u * z + 2 * (v * w)) % 3 ≠ 0) : sumF (fun t => (nD a u v t : Int) * (nD b w z t : Int)) 9 = 9 := by
  have := pair_tab a ha u hu v hv b hb w hw z hz
  unfold pairB at this
  simp only [Bool.or_eq_true, decide_eq_true_eq] at this
  rcases this with h1 | h1
  · exact absurd h1 h
  · exact h1
theorem m3_lt (x : Int) : (x % 3).toNat < 3 := by omega
theorem det_nat {u v w z : Int} (h : (u * z - v * w) % 3 ≠ 0) : ((u % 3).toNat * (z % 3).toNat + 2 * ((v % 3).toNat * (w % 3).toNat)) % 3 ≠ 0 := by
  intro h0
  apply h
  rw [Int.sub_emod, Int.mul_emod u z, Int.mul_emod v w]
  have h1 : ((u % 3).toNat : Int) = u % 3 := Int.toNat_of_nonneg (by omega)
  have h2 : ((v % 3).toNat : Int) = v % 3 := Int.toNat_of_nonneg (by omega)
  have h3 : ((w % 3).toNat : Int) = w % 3 := Int.toNat_of_nonneg (by omega)
  have h4 : ((z % 3).toNat : Int) = z % 3 := Int.toNat_of_nonneg (by omega)
  have h5 : (((u % 3).toNat * (z % 3).toNat + 2 * ((v % 3).toNat * (w % 3).toNat) : Nat) : Int) % 3 = 0 := by omega
  push_cast at h5
  rw [h1, h2, h3, h4] at h5
  omega
theorem one_sum (a u v : Int) (h : u % 3 ≠ 0 ∨ v % 3 ≠ 0) : sumF (lD a u v) 9 = 9 ∧ sumF (fun t => lD a u v t * lD a u v t) 9 = 15 := by
  have := one_dec _ (m3_lt a) _ (m3_lt u) _ (m3_lt v) (by omega)
  rw [show lD a u v = fun t => ((nD (a % 3).toNat (u % 3).toNat (v % 3).toNat t : Nat) : Int) from funext (lD_nD a u v)]
  exact this
theorem pair_sum (a u v b w z : Int) (h : (u * z - v * w) % 3 ≠ 0) : sumF (fun t => lD a u v t * lD b w z t) 9 = 9 := by
  have := pair_dec _ (m3_lt a) _ (m3_lt u) _ (m3_lt v) _ (m3_lt b) _ (m3_lt w) _ (m3_lt z) (det_nat h)
  rw [show lD a u v = fun t => ((nD (a % 3).toNat (u % 3).toNat (v % 3).toNat t : Nat) : Int) from funext (lD_nD a u v), show lD b w z = fun t => ((nD (b % 3).toNat (w % 3).toNat (z % 3).toNat t : Nat) : Int) from funext (lD_nD b w z)]
  exact this
theorem nz_of {u v w z : Int} (h : (u * z - v * w) % 3 ≠ 0) : (u % 3 ≠ 0 ∨ v % 3 ≠ 0) ∧ (w % 3 ≠ 0 ∨ z % 3 ≠ 0) := by
  rw [Int.sub_emod, Int.mul_emod u z, Int.mul_emod v w] at h
  refine ⟨Classical.byContradiction fun hc => h ?_, Classical.byContradiction fun hc => h ?_⟩
  · rw [show u % 3 = 0 by omega, show v % 3 = 0 by omega, Int.zero_mul, Int.zero_mul]; rfl
  · rw [show w % 3 = 0 by omega, show z % 3 = 0 by omega, Int.mul_zero, Int.mul_zero]; rfl
def val4 (p q r s : Int) : Int := 3 * (3 * (3 * (3 * 0 + p) + q) + r) + s + 1
theorem line_sums (f : Nat → Int) (a0 u0 v0 a1 u1 v1 a2 u2 v2 a3 u3 v3 : Int)
    (hf : ∀ t, t < 9 → f t = val4 (lD a0 u0 v0 t) (lD a1 u1 v1 t) (lD a2 u2 v2 t) (lD a3 u3 v3 t))
    (h10 : (u1 * v0 - v1 * u0) % 3 ≠ 0) (h20 : (u2 * v0 - v2 * u0) % 3 ≠ 0) (h21 : (u2 * v1 - v2 * u1) % 3 ≠ 0) (h30 : (u3 * v0 - v3 * u0) % 3 ≠ 0) (h31 : (u3 * v1 - v3 * u1) % 3 ≠ 0) (h32 : (u3 * v2 - v3 * u2) % 3 ≠ 0) :
    sumF f 9 = 369 ∧ sumF (fun t => f t * f t) 9 = 20049 := by
  obtain ⟨n1, n0⟩ := nz_of h10
  obtain ⟨n3, n2⟩ := nz_of h32
  have s0 := one_sum a0 u0 v0 n0
  have s1 := one_sum a1 u1 v1 n1
  have s2 := one_sum a2 u2 v2 n2
  have s3 := one_sum a3 u3 v3 n3
  have p10 := pair_sum a1 u1 v1 a0 u0 v0 h10
  have p20 := pair_sum a2 u2 v2 a0 u0 v0 h20
  have p21 := pair_sum a2 u2 v2 a1 u1 v1 h21
  have p30 := pair_sum a3 u3 v3 a0 u0 v0 h30
  have p31 := pair_sum a3 u3 v3 a1 u1 v1 h31
  have p32 := pair_sum a3 u3 v3 a2 u2 v2 h32
  clear h10 h20 h21 h30 h31 h32 n0 n1 n2 n3
  generalize lD a0 u0 v0 = d0 at *
  generalize lD a1 u1 v1 = d1 at *
  generalize lD a2 u2 v2 = d2 at *
  generalize lD a3 u3 v3 = d3 at *
  constructor
  · rw [sumF_congr (g := fun t => 27 * d0 t + 9 * d1 t + 3 * d2 t + d3 t + 1) fun t ht => by rw [hf t ht]; unfold val4; omega]
    rw [sumF_add, sumF_add, sumF_add, sumF_add, sumF_mul, sumF_mul, sumF_mul, sumF_const]
    omega
  · rw [sumF_congr (g := fun t => 1 + 54 * d0 t + 18 * d1 t + 6 * d2 t + 2 * d3 t + 729 * (d0 t * d0 t) + 81 * (d1 t * d1 t) + 9 * (d2 t * d2 t) + d3 t * d3 t + 486 * (d1 t * d0 t) + 162 * (d2 t * d0 t) + 54 * (d3 t * d0 t) + 54 * (d2 t * d1 t) + 18 * (d3 t * d1 t) + 6 * (d3 t * d2 t)) fun t ht => by rw [hf t ht]; unfold val4; grind]
    simp only [sumF_add, sumF_mul, sumF_const]
    omega
end Go.Eng.YtobnbkoeocdhbaaGreatDoor
namespace Go.Eng.YtobnbkoeocdhbaaGreatDoor
open Go.Proofs
set_option maxRecDepth 100000
set_option maxHeartbeats 0
set_option linter.unusedVariables false
set_option linter.unusedSimpArgs false
/-! when, first -/
/-! numbers in their range -/
def isNum (n : Int) : Bool := decide (-999999999 ≤ n) && decide (n ≤ 999999999)
/-! residues -/
/-! the numbers modulo 3 -/
end Go.Eng.YtobnbkoeocdhbaaGreatDoor
namespace Go.Eng.YtobnbkoeocdhbaaGreatDoor
open Go.Proofs
set_option maxRecDepth 100000
set_option maxHeartbeats 0
set_option linter.unusedVariables false
set_option linter.unusedSimpArgs false
/-- a matrix in its bounds, all of whose rows have some length -/
structure MatOK (m : List (List Int)) (w : Nat) : Prop where
  len : 1 ≤ m.length ∧ m.length ≤ 256
  wid : 1 ≤ w ∧ w ≤ 256
  rows : ∀ i, i < m.length → (m.getD i []).length = w
  nums : ∀ i, i < m.length → (m.getD i []).any (fun n => !isNum n) = false
abbrev Mat := Nat → Nat → Int
end Go.Eng.YtobnbkoeocdhbaaGreatDoor
namespace Go.Eng.YtobnbkoeocdhbaaGreatDoor
open Go.Proofs
set_option maxRecDepth 100000
set_option maxHeartbeats 0
set_option linter.unusedVariables false
set_option linter.unusedSimpArgs false
end Go.Eng.YtobnbkoeocdhbaaGreatDoor
namespace Go.Eng.YtobnbkoeocdhbaaGreatDoor
open Go.Proofs
set_option maxRecDepth 100000
set_option maxHeartbeats 0
set_option linter.unusedVariables false
set_option linter.unusedSimpArgs false
/-- the first row from n on that is not 0 in a column, or the number of rows -/
def findAt (M : Mat) (c n m : Nat) : Nat := match (List.range m).find? (fun r => decide (n ≤ r) && decide (M r c ≠ 0)) with
  | some r => r
  | none => m
def swapM (M : Mat) (n a : Nat) : Mat := fun r => if r = n then M a else if r = a then M n else M r
def scaleM (M : Mat) (n : Nat) (s : Int) : Mat := fun r => if r = n then (fun j => M n j * s % 3) else M r
def clearM (M : Mat) (n c : Nat) : Mat := fun r => if r = n then M n else (fun j => (M r j - M r c * M n j % 3) % 3)
structure ES where
  M : Mat
  piv : List Int
  heads : List Int
  odd : Bool
def stepE (m : Nat) (s : ES) (c : Nat) : ES :=
  if findAt s.M c s.piv.length m = m then s else
    { M := clearM (scaleM (swapM s.M s.piv.length (findAt s.M c s.piv.length m)) s.piv.length (swapM s.M s.piv.length (findAt s.M c s.piv.length m) s.piv.length c)) s.piv.length c
      piv := s.piv ++ [(c : Int)]
      heads := s.heads ++ [swapM s.M s.piv.length (findAt s.M c s.piv.length m) s.piv.length c]
      odd := s.odd != (decide ((s.piv.length : Int) ≠ (findAt s.M c s.piv.length m : Nat))) }
def elimE (m : Nat) (M : Mat) : Nat → ES
  | 0 => ⟨M, [], [], false⟩
  | c + 1 => stepE m (elimE m M c) c
end Go.Eng.YtobnbkoeocdhbaaGreatDoor
namespace Go.Eng.YtobnbkoeocdhbaaGreatDoor
open Go.Proofs
set_option maxRecDepth 100000
set_option maxHeartbeats 0
set_option linter.unusedVariables false
set_option linter.unusedSimpArgs false
end Go.Eng.YtobnbkoeocdhbaaGreatDoor
namespace Go.Eng.YtobnbkoeocdhbaaGreatDoor
open Go.Proofs
set_option maxRecDepth 100000
set_option maxHeartbeats 0
set_option linter.unusedVariables false
set_option linter.unusedSimpArgs false
end Go.Eng.YtobnbkoeocdhbaaGreatDoor
namespace Go.Eng.YtobnbkoeocdhbaaGreatDoor
open Go.Proofs
set_option maxRecDepth 100000
set_option maxHeartbeats 0
set_option linter.unusedVariables false
set_option linter.unusedSimpArgs false
end Go.Eng.YtobnbkoeocdhbaaGreatDoor
namespace Go.Eng.YtobnbkoeocdhbaaGreatDoor
open Go.Proofs
set_option maxRecDepth 100000
set_option maxHeartbeats 0
set_option linter.unusedVariables false
set_option linter.unusedSimpArgs false
end Go.Eng.YtobnbkoeocdhbaaGreatDoor
namespace Go.Eng.YtobnbkoeocdhbaaGreatDoor
open Go.Proofs
set_option maxRecDepth 100000
set_option maxHeartbeats 0
set_option linter.unusedVariables false
set_option linter.unusedSimpArgs false
end Go.Eng.YtobnbkoeocdhbaaGreatDoor
namespace Go.Eng.YtobnbkoeocdhbaaGreatDoor
open Go.Proofs
set_option maxRecDepth 100000
set_option maxHeartbeats 0
set_option linter.unusedVariables false
set_option linter.unusedSimpArgs false
end Go.Eng.YtobnbkoeocdhbaaGreatDoor
namespace Go.Eng.YtobnbkoeocdhbaaGreatDoor
open Go.Proofs
set_option maxRecDepth 100000
set_option maxHeartbeats 0
set_option linter.unusedVariables false
set_option linter.unusedSimpArgs false
structure RX where
  i : Nat
  D : Mat
structure RI (m w : Nat) (M : Mat) (n c : Nat) (L : List Nat) (x : RX) : Prop where
  hi : x.i ≤ m
  hD : ∀ r, r < m → ∀ j, j < w → x.D (L.getD r 0) j = if r < x.i then clearM M n c r j else M r j
structure CX where
  c : Nat
  l : List Nat
  D : Mat
structure CI (m w : Nat) (M0 : Mat) (l0 : List Nat) (x : CX) : Prop where
  hc : x.c ≤ w
  hl : x.l.length = m
  hn : x.l.Nodup
  hi : ∀ b, b ∈ l0 → b ∈ x.l
  ho : ∀ r, r < m → x.l.getD r 0 ∈ l0
  hD : ∀ r, r < m → ∀ j, j < w → x.D (x.l.getD r 0) j = (elimE m M0 x.c).M r j
end Go.Eng.YtobnbkoeocdhbaaGreatDoor
namespace Go.Eng.YtobnbkoeocdhbaaGreatDoor
open Go.Proofs
set_option maxRecDepth 100000
set_option maxHeartbeats 0
set_option linter.unusedVariables false
set_option linter.unusedSimpArgs false
end Go.Eng.YtobnbkoeocdhbaaGreatDoor
namespace Go.Eng.YtobnbkoeocdhbaaGreatDoor
open Go.Proofs
set_option maxRecDepth 100000
set_option maxHeartbeats 0
set_option linter.unusedVariables false
set_option linter.unusedSimpArgs false
def ba01 (x0 x1 x2 x3 x4 x5 x6 x7 x8 x9 x10 x11 x12 x13 x14 x15 : Int) : Bool := decide ((x4 * x1 - x5 * x0) % 3 = 0)
def ba02 (x0 x1 x2 x3 x4 x5 x6 x7 x8 x9 x10 x11 x12 x13 x14 x15 : Int) : Bool := decide ((x8 * x1 - x9 * x0) % 3 = 0) || decide ((x8 * x5 - x9 * x4) % 3 = 0)
def ba03 (x0 x1 x2 x3 x4 x5 x6 x7 x8 x9 x10 x11 x12 x13 x14 x15 : Int) : Bool := decide ((x12 * x1 - x13 * x0) % 3 = 0) || decide ((x12 * x5 - x13 * x4) % 3 = 0) || decide ((x12 * x9 - x13 * x8) % 3 = 0)
def ba11 (x0 x1 x2 x3 x4 x5 x6 x7 x8 x9 x10 x11 x12 x13 x14 x15 : Int) : Bool := decide ((x6 * x3 - x7 * x2) % 3 = 0)
def ba12 (x0 x1 x2 x3 x4 x5 x6 x7 x8 x9 x10 x11 x12 x13 x14 x15 : Int) : Bool := decide ((x10 * x3 - x11 * x2) % 3 = 0) || decide ((x10 * x7 - x11 * x6) % 3 = 0)
def ba13 (x0 x1 x2 x3 x4 x5 x6 x7 x8 x9 x10 x11 x12 x13 x14 x15 : Int) : Bool := decide ((x14 * x3 - x15 * x2) % 3 = 0) || decide ((x14 * x7 - x15 * x6) % 3 = 0) || decide ((x14 * x11 - x15 * x10) % 3 = 0)
def ba21 (x0 x1 x2 x3 x4 x5 x6 x7 x8 x9 x10 x11 x12 x13 x14 x15 : Int) : Bool := decide (((x4 + x6) * (x1 + x3) - (x5 + x7) * (x0 + x2)) % 3 = 0)
def ba22 (x0 x1 x2 x3 x4 x5 x6 x7 x8 x9 x10 x11 x12 x13 x14 x15 : Int) : Bool := decide (((x8 + x10) * (x1 + x3) - (x9 + x11) * (x0 + x2)) % 3 = 0) || decide (((x8 + x10) * (x5 + x7) - (x9 + x11) * (x4 + x6)) % 3 = 0)
def ba23 (x0 x1 x2 x3 x4 x5 x6 x7 x8 x9 x10 x11 x12 x13 x14 x15 : Int) : Bool := decide (((x12 + x14) * (x1 + x3) - (x13 + x15) * (x0 + x2)) % 3 = 0) || decide (((x12 + x14) * (x5 + x7) - (x13 + x15) * (x4 + x6)) % 3 = 0) || decide (((x12 + x14) * (x9 + x11) - (x13 + x15) * (x8 + x10)) % 3 = 0)
def ba31 (x0 x1 x2 x3 x4 x5 x6 x7 x8 x9 x10 x11 x12 x13 x14 x15 : Int) : Bool := decide (((x4 - x6) * (x1 - x3) - (x5 - x7) * (x0 - x2)) % 3 = 0)
def ba32 (x0 x1 x2 x3 x4 x5 x6 x7 x8 x9 x10 x11 x12 x13 x14 x15 : Int) : Bool := decide (((x8 - x10) * (x1 - x3) - (x9 - x11) * (x0 - x2)) % 3 = 0) || decide (((x8 - x10) * (x5 - x7) - (x9 - x11) * (x4 - x6)) % 3 = 0)
def ba33 (x0 x1 x2 x3 x4 x5 x6 x7 x8 x9 x10 x11 x12 x13 x14 x15 : Int) : Bool := decide (((x12 - x14) * (x1 - x3) - (x13 - x15) * (x0 - x2)) % 3 = 0) || decide (((x12 - x14) * (x5 - x7) - (x13 - x15) * (x4 - x6)) % 3 = 0) || decide (((x12 - x14) * (x9 - x11) - (x13 - x15) * (x8 - x10)) % 3 = 0)
def ba0 (x0 x1 x2 x3 x4 x5 x6 x7 x8 x9 x10 x11 x12 x13 x14 x15 : Int) : Bool := ba01 x0 x1 x2 x3 x4 x5 x6 x7 x8 x9 x10 x11 x12 x13 x14 x15 || ba02 x0 x1 x2 x3 x4 x5 x6 x7 x8 x9 x10 x11 x12 x13 x14 x15 || ba03 x0 x1 x2 x3 x4 x5 x6 x7 x8 x9 x10 x11 x12 x13 x14 x15
def ba1 (x0 x1 x2 x3 x4 x5 x6 x7 x8 x9 x10 x11 x12 x13 x14 x15 : Int) : Bool := ba11 x0 x1 x2 x3 x4 x5 x6 x7 x8 x9 x10 x11 x12 x13 x14 x15 || ba12 x0 x1 x2 x3 x4 x5 x6 x7 x8 x9 x10 x11 x12 x13 x14 x15 || ba13 x0 x1 x2 x3 x4 x5 x6 x7 x8 x9 x10 x11 x12 x13 x14 x15
def ba2 (x0 x1 x2 x3 x4 x5 x6 x7 x8 x9 x10 x11 x12 x13 x14 x15 : Int) : Bool := ba21 x0 x1 x2 x3 x4 x5 x6 x7 x8 x9 x10 x11 x12 x13 x14 x15 || ba22 x0 x1 x2 x3 x4 x5 x6 x7 x8 x9 x10 x11 x12 x13 x14 x15 || ba23 x0 x1 x2 x3 x4 x5 x6 x7 x8 x9 x10 x11 x12 x13 x14 x15
def ba3 (x0 x1 x2 x3 x4 x5 x6 x7 x8 x9 x10 x11 x12 x13 x14 x15 : Int) : Bool := ba31 x0 x1 x2 x3 x4 x5 x6 x7 x8 x9 x10 x11 x12 x13 x14 x15 || ba32 x0 x1 x2 x3 x4 x5 x6 x7 x8 x9 x10 x11 x12 x13 x14 x15 || ba33 x0 x1 x2 x3 x4 x5 x6 x7 x8 x9 x10 x11 x12 x13 x14 x15
def admC (x0 x1 x2 x3 x4 x5 x6 x7 x8 x9 x10 x11 x12 x13 x14 x15 : Int) : Bool := !(ba0 x0 x1 x2 x3 x4 x5 x6 x7 x8 x9 x10 x11 x12 x13 x14 x15 || ba1 x0 x1 x2 x3 x4 x5 x6 x7 x8 x9 x10 x11 x12 x13 x14 x15 || ba2 x0 x1 x2 x3 x4 x5 x6 x7 x8 x9 x10 x11 x12 x13 x14 x15 || ba3 x0 x1 x2 x3 x4 x5 x6 x7 x8 x9 x10 x11 x12 x13 x14 x15)
end Go.Eng.YtobnbkoeocdhbaaGreatDoor
namespace Go.Eng.YtobnbkoeocdhbaaGreatDoor
open Go.Proofs
end Go.Eng.YtobnbkoeocdhbaaGreatDoor
namespace Go.Eng.YtobnbkoeocdhbaaGreatDoor
open Go.Proofs
set_option maxRecDepth 100000
set_option maxHeartbeats 0
set_option linter.unusedVariables false
set_option linter.unusedSimpArgs false
end Go.Eng.YtobnbkoeocdhbaaGreatDoor
namespace Go.Eng.YtobnbkoeocdhbaaGreatDoor
open Go.Proofs
set_option maxRecDepth 100000
set_option maxHeartbeats 0
set_option linter.unusedVariables false
set_option linter.unusedSimpArgs false
/-- the squares of numbers -/
def qsL (l : List Int) : List Int := l.map fun x => x * x
theorem qsL_get (l : List Int) (i : Nat) (h : i < l.length) : (qsL l).getD i 0 = l.getD i 0 * l.getD i 0 := by
  rw [List.getD_eq_getElem?_getD, List.getD_eq_getElem?_getD, qsL, List.getElem?_map, List.getElem?_eq_getElem h]; rfl
end Go.Eng.YtobnbkoeocdhbaaGreatDoor
namespace Go.Eng.YtobnbkoeocdhbaaGreatDoor
open Go.Proofs
set_option maxRecDepth 100000
set_option maxHeartbeats 0
set_option linter.unusedVariables false
set_option linter.unusedSimpArgs false
theorem dig_col (a b c d : Int) (i : Nat) (j : Int) : dig a b c d i j = lD (c * (j / 3) + d * (j % 3)) a b i := by
  unfold dig lD; congr 1; omega
theorem dig_d1 (a b c d : Int) (i : Nat) : dig a b c d i i = lD 0 (a + c) (b + d) i := by
  unfold dig lD; congr 1; rw [Int.add_mul, Int.add_mul]; omega
theorem dig_d2 (a b c d : Int) (i : Nat) (hi : i < 9) : dig a b c d i (9 - 1 - i : Nat) = lD (2 * c + 2 * d) (a - c) (b - d) i := by
  unfold dig lD; congr 1
  have h1 : ((9 - 1 - i : Nat) : Int) / 3 = 2 - (i : Int) / 3 := by omega
  have h2 : ((9 - 1 - i : Nat) : Int) % 3 = 2 - (i : Int) % 3 := by omega
  rw [h1, h2, Int.sub_mul, Int.sub_mul, Int.mul_sub, Int.mul_sub]; omega
theorem four_lines (x0 x1 x2 x3 x4 x5 x6 x7 x8 x9 x10 x11 x12 x13 x14 x15 : Int) (h : admC x0 x1 x2 x3 x4 x5 x6 x7 x8 x9 x10 x11 x12 x13 x14 x15 = true) (φ : (Nat → Int) → Int) (S : Int)
    (hφ : ∀ f a0 u0 v0 a1 u1 v1 a2 u2 v2 a3 u3 v3, (∀ t, t < 9 → f t = val4 (lD a0 u0 v0 t) (lD a1 u1 v1 t) (lD a2 u2 v2 t) (lD a3 u3 v3 t)) →
      (u1 * v0 - v1 * u0) % 3 ≠ 0 → (u2 * v0 - v2 * u0) % 3 ≠ 0 → (u2 * v1 - v2 * u1) % 3 ≠ 0 → (u3 * v0 - v3 * u0) % 3 ≠ 0 → (u3 * v1 - v3 * u1) % 3 ≠ 0 → (u3 * v2 - v3 * u2) % 3 ≠ 0 → φ f = S) :
    (∀ i, φ (fun j => terF x0 x1 x2 x3 x4 x5 x6 x7 x8 x9 x10 x11 x12 x13 x14 x15 i j) = S) ∧ (∀ j, φ (fun i => terF x0 x1 x2 x3 x4 x5 x6 x7 x8 x9 x10 x11 x12 x13 x14 x15 i j) = S) ∧
    φ (fun i => terF x0 x1 x2 x3 x4 x5 x6 x7 x8 x9 x10 x11 x12 x13 x14 x15 i i) = S ∧ φ (fun i => terF x0 x1 x2 x3 x4 x5 x6 x7 x8 x9 x10 x11 x12 x13 x14 x15 i (9 - 1 - i)) = S := by
  unfold admC ba0 ba1 ba2 ba3 ba01 ba02 ba03 ba11 ba12 ba13 ba21 ba22 ba23 ba31 ba32 ba33 at h
  simp only [Bool.not_eq_true', Bool.or_eq_false_iff, decide_eq_false_iff_not, and_assoc] at h
  obtain ⟨h0, h1, h2, h3, h4, h5, h6, h7, h8, h9, h10, h11, h12, h13, h14, h15, h16, h17, h18, h19, h20, h21, h22, h23⟩ := h
  refine ⟨fun i => ?_, fun j => ?_, ?_, ?_⟩
  · refine hφ _ (x0 * ((i : Int) / 3) + x1 * ((i : Int) % 3)) x2 x3 (x4 * ((i : Int) / 3) + x5 * ((i : Int) % 3)) x6 x7 (x8 * ((i : Int) / 3) + x9 * ((i : Int) % 3)) x10 x11 (x12 * ((i : Int) / 3) + x13 * ((i : Int) % 3)) x14 x15 (fun t ht => rfl) ?_ ?_ ?_ ?_ ?_ ?_ <;> assumption
  · refine hφ _ (x2 * ((j : Int) / 3) + x3 * ((j : Int) % 3)) x0 x1 (x6 * ((j : Int) / 3) + x7 * ((j : Int) % 3)) x4 x5 (x10 * ((j : Int) / 3) + x11 * ((j : Int) % 3)) x8 x9 (x14 * ((j : Int) / 3) + x15 * ((j : Int) % 3)) x12 x13 (fun t ht => ?_) ?_ ?_ ?_ ?_ ?_ ?_
    rotate_left
    all_goals first | assumption | skip
    unfold terF
    rw [dig_col, dig_col, dig_col, dig_col]; rfl
  · refine hφ _ 0 (x0 + x2) (x1 + x3) 0 (x4 + x6) (x5 + x7) 0 (x8 + x10) (x9 + x11) 0 (x12 + x14) (x13 + x15) (fun t ht => ?_) ?_ ?_ ?_ ?_ ?_ ?_
    rotate_left
    all_goals first | assumption | skip
    unfold terF
    rw [dig_d1, dig_d1, dig_d1, dig_d1]; rfl
  · refine hφ _ (2 * x2 + 2 * x3) (x0 - x2) (x1 - x3) (2 * x6 + 2 * x7) (x4 - x6) (x5 - x7) (2 * x10 + 2 * x11) (x8 - x10) (x9 - x11) (2 * x14 + 2 * x15) (x12 - x14) (x13 - x15) (fun t ht => ?_) ?_ ?_ ?_ ?_ ?_ ?_
    rotate_left
    all_goals first | assumption | skip
    unfold terF
    rw [dig_d2 _ _ _ _ t ht, dig_d2 _ _ _ _ t ht, dig_d2 _ _ _ _ t ht, dig_d2 _ _ _ _ t ht]; rfl
/-- the square is magic -/
theorem forms_magic (x0 x1 x2 x3 x4 x5 x6 x7 x8 x9 x10 x11 x12 x13 x14 x15 : Int) (h : admC x0 x1 x2 x3 x4 x5 x6 x7 x8 x9 x10 x11 x12 x13 x14 x15 = true) : badLine 9 2 (madeL 9 (terF x0 x1 x2 x3 x4 x5 x6 x7 x8 x9 x10 x11 x12 x13 x14 x15)) = none := by
  obtain ⟨hr, hc, h1, h2⟩ := four_lines x0 x1 x2 x3 x4 x5 x6 x7 x8 x9 x10 x11 x12 x13 x14 x15 h (fun f => sumF f 9) 369 fun f a0 u0 v0 a1 u1 v1 a2 u2 v2 a3 u3 v3 hf q1 q2 q3 q4 q5 q6 => (line_sums f _ _ _ _ _ _ _ _ _ _ _ _ hf q1 q2 q3 q4 q5 q6).1
  have e : constOf (9 : Nat) = 369 := rfl
  rw [good_iff (.inl (by omega)), e]
  refine GoodK.congr (f := terF x0 x1 x2 x3 x4 x5 x6 x7 x8 x9 x10 x11 x12 x13 x14 x15) ⟨fun _ i _ => hr i, fun _ j _ => hc j, fun _ => h1, fun _ => h2, fun h => absurd h (by omega), fun h => absurd h (by omega)⟩ fun i j hi hj => ?_
  rw [sqAt, madeL_get hi hj]
/-- one sum of squares -/
theorem forms_squares (x0 x1 x2 x3 x4 x5 x6 x7 x8 x9 x10 x11 x12 x13 x14 x15 : Int) (h : admC x0 x1 x2 x3 x4 x5 x6 x7 x8 x9 x10 x11 x12 x13 x14 x15 = true) (i : Nat) (hi : i < 20) : sumAt (qsL (madeL 9 (terF x0 x1 x2 x3 x4 x5 x6 x7 x8 x9 x10 x11 x12 x13 x14 x15))) (lineAt 9 i) 9 = 20049 := by
  obtain ⟨hr, hc, h1, h2⟩ := four_lines x0 x1 x2 x3 x4 x5 x6 x7 x8 x9 x10 x11 x12 x13 x14 x15 h (fun f => sumF (fun t => f t * f t) 9) 20049 fun f a0 u0 v0 a1 u1 v1 a2 u2 v2 a3 u3 v3 hf q1 q2 q3 q4 q5 q6 => (line_sums f _ _ _ _ _ _ _ _ _ _ _ _ hf q1 q2 q3 q4 q5 q6).2
  have hlen : (madeL 9 (terF x0 x1 x2 x3 x4 x5 x6 x7 x8 x9 x10 x11 x12 x13 x14 x15)).length = 81 := by simp [madeL]
  generalize hT : terF x0 x1 x2 x3 x4 x5 x6 x7 x8 x9 x10 x11 x12 x13 x14 x15 = T at *
  have hg : ∀ a b, a < 9 → b < 9 → (qsL (madeL 9 T)).getD (9 * a + b) 0 = T a b * T a b := fun a b ha hb => by
    rw [qsL_get _ _ (by omega), madeL_get ha hb]
  show lineSum 9 (qsL (madeL 9 T)) i = 20049
  by_cases g1 : i < 9
  · rw [ls_row 9 _ i g1, ← hr i]
    exact sumF_congr fun j hj => hg i j g1 hj
  by_cases g2 : i < 18
  · have := ls_col 9 (qsL (madeL 9 T)) (i - 9) (by omega)
    rw [show 9 + (i - 9) = i by omega] at this
    rw [this, ← hc (i - 9)]
    exact sumF_congr fun j hj => hg j (i - 9) hj (by omega)
  by_cases g3 : i = 18
  · have := ls_up 9 (qsL (madeL 9 T)) 0 (by omega)
    rw [show upI 9 0 = i by unfold upI; rw [if_pos rfl]; omega] at this
    rw [this, ← h1]
    exact sumF_congr fun j hj => by
      rw [show (j + 0) % 9 = j by omega]; exact hg j j hj hj
  · have := ls_dn 9 (qsL (madeL 9 T)) 8 (by omega)
    rw [show dnI 9 8 = i by unfold dnI; rw [if_pos (by omega)]; omega] at this
    rw [this, ← h2]
    exact sumF_congr fun j hj => by
      rw [show (8 + 9 - j) % 9 = 9 - 1 - j by omega]; exact hg j (9 - 1 - j) hj (by omega)
end Go.Eng.YtobnbkoeocdhbaaGreatDoor
