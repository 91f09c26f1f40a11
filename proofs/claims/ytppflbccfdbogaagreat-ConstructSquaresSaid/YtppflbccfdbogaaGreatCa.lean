/-
  Contracts of functions of the program: what each returns. Their conditions stand in them.
-/
import Derived.Test.YtppflbccfdbogaaGreatEd
namespace Go.Eng.YtppflbccfdbogaaGreat
open Go.Proofs
set_option linter.unusedVariables false
set_option linter.unusedSimpArgs false
theorem te3b : te3.bytes = 8 := by rfl
theorem te4b : te4.bytes = 1 := by rfl
theorem te3s : te3.size = 1 := by rfl
theorem te4s : te4.size = 1 := by rfl
theorem vp : (∀ n : Nat, ((n : Int)).toNat = n) ∧ te3.bytes = 8 ∧ te4.bytes = 1 ∧ te3.size = 1 ∧ te4.size = 1 ∧ (∀ n : Nat, n * 1 = n) ∧ (∀ n : Nat, 0 + n = n) ∧ ((false = true) = False) ∧ ((true = false) = False) :=
  ⟨Int.toNat_natCast, te3b, te4b, te3s, te4s, Nat.mul_one, Nat.zero_add, by simp, by simp⟩
theorem vq : (∀ (p : Prop) [Decidable p], (decide p = true) = p) ∧ (∀ (p : Prop) [Decidable p], (decide p = false) = ¬ p) ∧ (∀ b : Bool, (¬ b = true) = (b = false)) ∧ ((!false) = true) ∧ ((!true) = false) ∧ (∀ p : Prop, (p ∧ p) = p) ∧ (∀ p : Prop, (p ∧ True) = p) ∧ (∀ p : Prop, (True ∧ p) = p) ∧ (∀ (α : Type) (a : α) (l : List α), (a :: l).length = l.length + 1) ∧ (∀ α : Type, ([] : List α).length = 0) ∧ (∀ n : Nat, ((n : Int)).toNat = n) ∧ te3.bytes = 8 ∧ te4.bytes = 1 ∧ te3.size = 1 ∧ te4.size = 1 ∧ (∀ n : Nat, n * 1 = n) ∧ (∀ n : Nat, 0 + n = n) ∧ ((false = true) = False) ∧ ((true = false) = False) :=
  ⟨fun p _ => decide_eq_true_eq, fun p _ => propext decide_eq_false_iff_not, fun b => by simp, rfl, rfl, and_self, and_true, true_and, fun _ _ _ => rfl, fun _ => rfl, vp⟩
/-! when, checkOrder, first -/
def whenP : PSp := fun xs K => match xs with
  | [.bp h, .int .i64 e] => K (.int .i64 (if h then e else 0))
  | [.bool h, .int .i64 e] => K (.int .i64 (if h then e else 0))
  | _ => False
theorem when_spec (h : Bool) (e : Int) : PSpec Tryz.prog 65 [.bp h, .int .i64 e] (.int .i64 (if h then e else 0)) := by
  refine pspec_of (md := 1) (rf := []) mixed tabOK noC_ok Tryz.func65 (by rfl) (by rfl) (by rfl) ?_
  repeat' ((conv => whnf); first | refine And.intro ?_ ?_ | with_reducible exact VC.mk rfl | exact Ok.mk | exact True.intro | refine Nx.mk ?_ | refine Fin.mk ?_ | intro _)
  all_goals (first | (refine Sup.of ?_; first | rfl | (simp [*, resOf]; done)) | (refine Sup.via ?_; repeat' ((conv => whnf); first | refine And.intro ?_ ?_ | with_reducible exact VC.mk rfl | exact Ok.mk | exact True.intro | refine Nx.mk ?_ | refine Fin.mk ?_ | intro _); all_goals ((try refine VC.mk ?_); (try simp only [CL.ncell, CL.cnt, vq] at *); (try omega)); all_goals (try (simp [CL.sub]; done))))
theorem when_spec' (h : Bool) (e : Int) : PSpec Tryz.prog 65 [.bool h, .int .i64 e] (.int .i64 (if h then e else 0)) := by
  cases h
  all_goals
  refine pspec_of (md := 1) (rf := []) mixed tabOK noC_ok Tryz.func65 (by rfl) (by rfl) (by rfl) ?_
  repeat' ((conv => whnf); first | refine And.intro ?_ ?_ | with_reducible exact VC.mk rfl | exact Ok.mk | exact True.intro | refine Nx.mk ?_ | refine Fin.mk ?_ | intro _)
  all_goals (first | (refine Sup.of ?_; first | rfl | (simp [*, resOf]; done)) | (refine Sup.via ?_; repeat' ((conv => whnf); first | refine And.intro ?_ ?_ | with_reducible exact VC.mk rfl | exact Ok.mk | exact True.intro | refine Nx.mk ?_ | refine Fin.mk ?_ | intro _); all_goals ((try refine VC.mk ?_); (try simp only [CL.ncell, CL.cnt, vq] at *); (try omega)); all_goals (try (simp [CL.sub]; done))))
theorem when_ok : POK Tryz.prog 65 whenP := by
  intro xs K h
  unfold whenP at h
  split at h
  · exact ⟨_, h, when_spec _ _⟩
  · exact ⟨_, h, when_spec' _ _⟩
  · exact h.elim
noncomputable def cp1 : CPT := cpAdd 65 (pureCC whenP) noC
theorem cp1_ok : CPOK Tryz.prog cp1 := cpAdd_ok (pureCC_ok when_ok) noC_ok
theorem checkOrder_spec (n : Int) : PSpec Tryz.prog 69 [.int .i64 n] (.int .i64 (if n < 1 ∨ 16 < n then 3 else 0)) := by
  refine pspec_of (md := 1) (rf := []) mixed tabOK cp1_ok Tryz.func69 (by rfl) (by rfl) (by rfl) ?_
  repeat' ((conv => whnf); first | refine And.intro ?_ ?_ | with_reducible exact VC.mk rfl | exact Ok.mk | exact True.intro | refine Nx.mk ?_ | refine Fin.mk ?_ | intro _)
  all_goals refine Sup.of ?_
  all_goals simp_all [resOf]
  all_goals (split <;> split <;> omega)
def checkOrderP : PSp := fun xs K => match xs with
  | [.int .i64 n] => K (.int .i64 (if n < 1 ∨ 16 < n then 3 else 0))
  | _ => False
theorem checkOrder_ok : POK Tryz.prog 69 checkOrderP := by
  intro xs K h
  unfold checkOrderP at h
  split at h
  · exact ⟨_, h, checkOrder_spec _⟩
  · exact h.elim
/-- the first number that is not 0 -/
def firstOf : List Int → Int
  | [] => 0
  | x :: r => if x = 0 then firstOf r else x
theorem firstOf_zero : ∀ (l : List Int), (∀ i, i < l.length → l.getD i 0 = 0) → firstOf l = 0 := by
  intro l
  induction l with
  | nil => intro _; rfl
  | cons x r ih =>
    intro h
    have h0 := h 0 (by simp)
    simp at h0
    subst h0
    exact ih fun i hi => by simpa using h (i + 1) (by simpa using hi)
theorem firstOf_at : ∀ (l : List Int) (k : Nat), k < l.length → (∀ i, i < k → l.getD i 0 = 0) → l.getD k 0 ≠ 0 → firstOf l = l.getD k 0 := by
  intro l
  induction l with
  | nil => intro k hk; simp at hk
  | cons x r ih =>
    intro k hk h hne
    cases k with
    | zero => simp at hne; simp [firstOf, hne]
    | succ k =>
      have h0 := h 0 (by omega)
      simp at h0
      subst h0
      have := ih k (by simpa using hk) (fun i hi => by simpa using h (i + 1) (by omega)) (by simpa using hne)
      simp [firstOf, this]
theorem first_spec (l : List Int) (hl : l.length < 1000000) : PSpec Tryz.prog 64 [.isl (.ints .i64 l) .none] (.int .i64 (firstOf l)) := by
  refine pspec_of (md := 1) (rf := []) mixed tabOK noC_ok Tryz.func64 (by rfl) (by rfl) (by rfl) ?_
  repeat' ((conv => whnf); first | refine And.intro ?_ ?_ | with_reducible exact VC.mk rfl | exact Ok.mk | exact True.intro | refine Nx.mk ?_ | refine Fin.mk ?_ | intro _)
  conv => whnf
  refine loop_of (X := Nat) (fun i => i ≤ l.length ∧ ∀ j, j < i → l.getD j 0 = 0) (fun i => [(7, .int .i64 i)]) (fun _ => []) (fun i => l.length - i) 0 ⟨anyB_ok, mixed, tabOK, noC_ok, noY_ok⟩ (by rfl) ⟨by omega, fun j hj => by omega⟩ ?_ ?_
  · repeat' ((conv => whnf); first | refine And.intro ?_ ?_ | with_reducible exact VC.mk rfl | exact Ok.mk | exact True.intro | refine Nx.mk ?_ | refine Fin.mk ?_ | intro _)
    all_goals ((try refine VC.mk ?_); (try simp only [CL.ncell, CL.cnt, vq] at *); (try omega))
  · intro i hi
    obtain ⟨hi, hz⟩ := hi
    repeat' ((conv => whnf); first | refine And.intro ?_ ?_ | with_reducible exact VC.mk rfl | exact Ok.mk | exact True.intro | refine Nx.mk ?_ | refine Fin.mk ?_ | intro _)
    all_goals ((try refine VC.mk ?_); (try simp only [CL.ncell, CL.cnt, vq] at *); (try omega))
    · rename_i hne
      have := firstOf_at l i (by omega) hz (by simpa using hne)
      rw [this]; exact Sup.of rfl
    · rename_i hne
      have hne : l.getD i 0 = 0 := by simpa using hne
      refine ⟨i + 1, [], ⟨⟨by omega, fun j hj => ?_⟩, by omega⟩, ?_⟩
      · by_cases e : j = i
        · subst e; exact hne
        · exact hz j (by omega)
      · repeat' ((conv => whnf); first | refine And.intro ?_ ?_ | with_reducible exact VC.mk rfl | exact Ok.mk | exact True.intro | refine Nx.mk ?_ | refine Fin.mk ?_ | intro _)
        all_goals ((try refine VC.mk ?_); (try simp only [CL.ncell, CL.cnt, vq] at *); (try omega))
    · have : i = l.length := by omega
      subst this
      rw [firstOf_zero l hz]; exact Sup.of rfl
def firstP : PSp := fun xs K => match xs with
  | [.isl (.ints .i64 l) .none] => VC (l.length < 1000000) ∧ K (.int .i64 (firstOf l))
  | [.nils] => K (.int .i64 0)
  | _ => False
theorem first_nil : PSpec Tryz.prog 64 [.nils] (.int .i64 0) := by
  refine pspec_of (md := 1) (rf := []) mixed tabOK noC_ok Tryz.func64 (by rfl) (by rfl) (by rfl) ?_
  repeat' ((conv => whnf); first | refine And.intro ?_ ?_ | with_reducible exact VC.mk rfl | exact Ok.mk | exact True.intro | refine Nx.mk ?_ | refine Fin.mk ?_ | intro _)
  conv => whnf
  refine loop_of (X := Unit) (fun _ => True) (fun _ => [(7, .int .i64 0)]) (fun _ => []) (fun _ => 0) () ⟨anyB_ok, mixed, tabOK, noC_ok, noY_ok⟩ (by rfl) trivial ?_ ?_
  · repeat' ((conv => whnf); first | refine And.intro ?_ ?_ | with_reducible exact VC.mk rfl | exact Ok.mk | exact True.intro | refine Nx.mk ?_ | refine Fin.mk ?_ | intro _)
    all_goals ((try refine VC.mk ?_); (try simp only [CL.ncell, CL.cnt, vq] at *); (try omega))
  · intro i hi
    repeat' ((conv => whnf); first | refine And.intro ?_ ?_ | with_reducible exact VC.mk rfl | exact Ok.mk | exact True.intro | refine Nx.mk ?_ | refine Fin.mk ?_ | intro _)
    all_goals ((try refine VC.mk ?_); (try simp only [CL.ncell, CL.cnt, vq] at *); (try omega))
    all_goals (first | (refine Sup.of ?_; first | rfl | (simp [*, resOf]; done)) | (refine Sup.via ?_; repeat' ((conv => whnf); first | refine And.intro ?_ ?_ | with_reducible exact VC.mk rfl | exact Ok.mk | exact True.intro | refine Nx.mk ?_ | refine Fin.mk ?_ | intro _); all_goals ((try refine VC.mk ?_); (try simp only [CL.ncell, CL.cnt, vq] at *); (try omega)); all_goals (try (simp [CL.sub]; done))))
theorem first_ok : POK Tryz.prog 64 firstP := by
  intro xs K h
  unfold firstP at h
  split at h
  · exact ⟨_, h.2, first_spec _ h.1.get⟩
  · exact ⟨_, h, first_nil⟩
  · exact h.elim
noncomputable def cp2 : CPT := cpAdd 64 (pureCC firstP) (cpAdd 69 (pureCC checkOrderP) cp1)
theorem cp2_ok : CPOK Tryz.prog cp2 := cpAdd_ok (pureCC_ok first_ok) (cpAdd_ok (pureCC_ok checkOrder_ok) cp1_ok)
end Go.Eng.YtppflbccfdbogaaGreat
namespace Go.Eng.YtppflbccfdbogaaGreat
open Go.Proofs
set_option maxRecDepth 100000
set_option linter.unusedVariables false
set_option linter.unusedSimpArgs false
theorem mod_eq (a n : Int) (hn : 0 < n) : (a.tmod n + n).tmod n = a % n := by
  have h1 : -n < a.tmod n := by have := Int.lt_tmod_of_pos a hn; omega
  have h2 : a.tmod n < n := Int.tmod_lt_of_pos a hn
  rw [Int.tmod_eq_emod_of_nonneg (by omega), Int.add_emod_right, Int.tmod_def, Int.sub_mul_emod_self_left]
theorem mod_spec (a n : Int) (ha : -4611686018427387904 ≤ a ∧ a ≤ 4611686018427387904) (hn : 0 < n ∧ n ≤ 1000000) : PSpec Tryz.prog 27 [.int .i64 a, .int .i64 n] (.int .i64 (a % n)) := by
  have h1 : -n < a.tmod n := by have := Int.lt_tmod_of_pos a hn.1; omega
  have h2 : a.tmod n < n := Int.tmod_lt_of_pos a hn.1
  refine pspec_of (md := 1) (rf := []) mixed tabOK noC_ok Tryz.func27 (by rfl) (by rfl) (by rfl) ?_
  repeat' ((conv => whnf); first | refine And.intro ?_ ?_ | with_reducible exact VC.mk rfl | exact Ok.mk | exact True.intro | refine Nx.mk ?_ | refine Fin.mk ?_ | intro _)
  all_goals ((try refine VC.mk ?_); (try simp only [CL.ncell, CL.cnt, vq] at *); (try omega))
  rw [← mod_eq a n hn.1]; exact Sup.of rfl
def modP : PSp := fun xs K => match xs with
  | [.int .i64 a, .int .i64 n] => VC ((-4611686018427387904 ≤ a ∧ a ≤ 4611686018427387904) ∧ 0 < n ∧ n ≤ 1000000) ∧ K (.int .i64 (a % n))
  | _ => False
theorem mod_ok : POK Tryz.prog 27 modP := by
  intro xs K h
  unfold modP at h
  split at h
  · exact ⟨_, h.2, mod_spec _ _ h.1.get.1 h.1.get.2⟩
  · exact h.elim
noncomputable def cp3 : CPT := cpAdd 27 (pureCC modP) cp2
theorem cp3_ok : CPOK Tryz.prog cp3 := cpAdd_ok (pureCC_ok mod_ok) cp2_ok
theorem reduced_spec (n s0 s1 x0 x1 b0 b1 : Int) (hn : 0 < n ∧ n ≤ 1000000) (h : ∀ x ∈ [s0, s1, x0, x1, b0, b1], -4611686018427387904 ≤ x ∧ x ≤ 4611686018427387904) :
    PSpec Tryz.prog 61 [.agg [.int .i64 n, .int .i64 s0, .int .i64 s1, .int .i64 x0, .int .i64 x1, .int .i64 b0, .int .i64 b1]]
      (.agg [.int .i64 n, .int .i64 (s0 % n), .int .i64 (s1 % n), .int .i64 (x0 % n), .int .i64 (x1 % n), .int .i64 (b0 % n), .int .i64 (b1 % n)]) := by
  simp only [List.mem_cons, List.not_mem_nil, or_false, forall_eq_or_imp, forall_eq] at h
  obtain ⟨h1, h2, h3, h4, h5, h6⟩ := h
  refine pspec_of (md := 1) (rf := []) mixed tabOK cp3_ok Tryz.func61 (by rfl) (by rfl) (by rfl) ?_
  repeat' ((conv => whnf); first | refine And.intro ?_ ?_ | with_reducible exact VC.mk rfl | exact Ok.mk | exact True.intro | refine Nx.mk ?_ | refine Fin.mk ?_ | intro _)
  conv => whnf
  refine loop_rounds 3 (rounds_succ ⟨anyB_ok, mixed, tabOK, cp3_ok, noY_ok⟩ (by rfl) ?_)
  repeat' ((conv => whnf); first | refine And.intro ?_ ?_ | with_reducible exact VC.mk rfl | exact Ok.mk | exact True.intro | refine Nx.mk ?_ | refine Fin.mk ?_ | intro _)
  all_goals ((try refine VC.mk ?_); (try simp only [CL.ncell, CL.cnt, vq] at *); (try omega))
  conv => whnf
  refine rounds_succ ⟨anyB_ok, mixed, tabOK, cp3_ok, noY_ok⟩ (by rfl) ?_
  repeat' ((conv => whnf); first | refine And.intro ?_ ?_ | with_reducible exact VC.mk rfl | exact Ok.mk | exact True.intro | refine Nx.mk ?_ | refine Fin.mk ?_ | intro _)
  all_goals ((try refine VC.mk ?_); (try simp only [CL.ncell, CL.cnt, vq] at *); (try omega))
  conv => whnf
  refine rounds_succ ⟨anyB_ok, mixed, tabOK, cp3_ok, noY_ok⟩ (by rfl) ?_
  repeat' ((conv => whnf); first | refine And.intro ?_ ?_ | with_reducible exact VC.mk rfl | exact Ok.mk | exact True.intro | refine Nx.mk ?_ | refine Fin.mk ?_ | intro _)
  all_goals ((try refine VC.mk ?_); (try simp only [CL.ncell, CL.cnt, vq] at *); (try omega))
  all_goals (first | (refine Sup.of ?_; first | rfl | (simp [*, resOf]; done)) | (refine Sup.via ?_; repeat' ((conv => whnf); first | refine And.intro ?_ ?_ | with_reducible exact VC.mk rfl | exact Ok.mk | exact True.intro | refine Nx.mk ?_ | refine Fin.mk ?_ | intro _); all_goals ((try refine VC.mk ?_); (try simp only [CL.ncell, CL.cnt, vq] at *); (try omega)); all_goals (try (simp [CL.sub]; done))))
def reducedP : PSp := fun xs K => match xs with
  | [.agg [.int .i64 n, .int .i64 s0, .int .i64 s1, .int .i64 x0, .int .i64 x1, .int .i64 b0, .int .i64 b1]] =>
    VC ((0 < n ∧ n ≤ 1000000) ∧ ∀ x ∈ [s0, s1, x0, x1, b0, b1], -4611686018427387904 ≤ x ∧ x ≤ 4611686018427387904) ∧
      K (.agg [.int .i64 n, .int .i64 (s0 % n), .int .i64 (s1 % n), .int .i64 (x0 % n), .int .i64 (x1 % n), .int .i64 (b0 % n), .int .i64 (b1 % n)])
  | _ => False
theorem reduced_ok : POK Tryz.prog 61 reducedP := by
  intro xs K h
  unfold reducedP at h
  split at h
  · exact ⟨_, h.2, reduced_spec _ _ _ _ _ _ _ h.1.get.1 h.1.get.2⟩
  · exact h.elim
/-- the cell of a number -/
def cellOf (n s0 s1 x0 x1 b0 b1 k : Int) : Int := ((s0 + (k - 1) % n * x0 + (k - 1) / n * b0) % n) * n + (s1 + (k - 1) % n * x1 + (k - 1) / n * b1) % n
theorem cell_spec (n s0 s1 x0 x1 b0 b1 k : Int) (hn : 0 < n ∧ n ≤ 1000) (hk : 1 ≤ k ∧ k ≤ 1000000) (h : ∀ x ∈ [s0, s1, x0, x1, b0, b1], 0 ≤ x ∧ x < n) :
    PSpec Tryz.prog 85 [.agg [.int .i64 n, .int .i64 s0, .int .i64 s1, .int .i64 x0, .int .i64 x1, .int .i64 b0, .int .i64 b1], .int .i64 k] (.int .i64 (cellOf n s0 s1 x0 x1 b0 b1 k)) := by
  simp only [List.mem_cons, List.not_mem_nil, or_false, forall_eq_or_imp, forall_eq] at h
  obtain ⟨h1, h2, h3, h4, h5, h6⟩ := h
  have ha : 0 ≤ (k - 1) % n ∧ (k - 1) % n < n := ⟨Int.emod_nonneg _ (by omega), Int.emod_lt_of_pos _ hn.1⟩
  have hb : 0 ≤ (k - 1) / n ∧ (k - 1) / n < 1000000 := ⟨Int.ediv_nonneg (by omega) (by omega), by
    have := Int.ediv_le_self (a := k - 1) n (by omega); omega⟩
  have m : ∀ x, 0 ≤ x ∧ x < n → (0 ≤ (k - 1) % n * x ∧ (k - 1) % n * x ≤ 1000000) ∧ (0 ≤ (k - 1) / n * x ∧ (k - 1) / n * x ≤ 1000000000) := fun x hx =>
    ⟨⟨Int.mul_nonneg ha.1 hx.1, by have := Int.mul_le_mul (Int.le_of_lt ha.2) (Int.le_of_lt hx.2) hx.1 (by omega); have := Int.mul_le_mul hn.2 hn.2 (by omega) (by omega); omega⟩,
     ⟨Int.mul_nonneg hb.1 hx.1, by have := Int.mul_le_mul (Int.le_of_lt hb.2) (by omega : x ≤ 1000) hx.1 (by omega); omega⟩⟩
  have q : ∀ y : Int, (0 ≤ y % n ∧ y % n < n) ∧ 0 ≤ y % n * n ∧ y % n * n ≤ 1000000 := fun y => by
    have h1 := Int.emod_nonneg y (by omega : n ≠ 0)
    have h2 := Int.emod_lt_of_pos y hn.1
    exact ⟨⟨h1, h2⟩, Int.mul_nonneg h1 (by omega), by have := Int.mul_le_mul (Int.le_of_lt h2) (Int.le_refl n) (by omega) (by omega); have := Int.mul_le_mul hn.2 hn.2 (by omega) (by omega); omega⟩
  have q1 := q (s0 + (k - 1) % n * x0 + (k - 1) / n * b0)
  have q2 := q (s1 + (k - 1) % n * x1 + (k - 1) / n * b1)
  have m3 := m x0 h3
  have m4 := m x1 h4
  have m5 := m b0 h5
  have m6 := m b1 h6
  refine pspec_of (md := 0) (rf := []) mixed tabOK noC_ok Tryz.func85 (by rfl) (by rfl) (by rfl) ?_
  repeat' ((conv => whnf); first | refine And.intro ?_ ?_ | with_reducible exact VC.mk rfl | exact Ok.mk | exact True.intro | refine Nx.mk ?_ | refine Fin.mk ?_ | intro _)
  all_goals ((try refine VC.mk ?_); (try simp only [CL.ncell, CL.cnt, vq] at *); (try omega))
  conv => whnf
  refine loop_rounds 3 (rounds_succ ⟨anyB_ok, mixed, tabOK, noC_ok, noY_ok⟩ (by rfl) ?_)
  repeat' ((conv => whnf); first | refine And.intro ?_ ?_ | with_reducible exact VC.mk rfl | exact Ok.mk | exact True.intro | refine Nx.mk ?_ | refine Fin.mk ?_ | intro _)
  all_goals ((try refine VC.mk ?_); (try simp only [CL.ncell, CL.cnt, vq] at *); (try omega))
  conv => whnf
  refine rounds_succ ⟨anyB_ok, mixed, tabOK, noC_ok, noY_ok⟩ (by rfl) ?_
  repeat' ((conv => whnf); first | refine And.intro ?_ ?_ | with_reducible exact VC.mk rfl | exact Ok.mk | exact True.intro | refine Nx.mk ?_ | refine Fin.mk ?_ | intro _)
  all_goals ((try refine VC.mk ?_); (try simp only [CL.ncell, CL.cnt, vq] at *); (try omega))
  conv => whnf
  refine rounds_succ ⟨anyB_ok, mixed, tabOK, noC_ok, noY_ok⟩ (by rfl) ?_
  repeat' ((conv => whnf); first | refine And.intro ?_ ?_ | with_reducible exact VC.mk rfl | exact Ok.mk | exact True.intro | refine Nx.mk ?_ | refine Fin.mk ?_ | intro _)
  all_goals ((try refine VC.mk ?_); (try simp only [CL.ncell, CL.cnt, vq] at *); (try omega))
  all_goals first | omega | exact Sup.of rfl
def cellP : PSp := fun xs K => match xs with
  | [.agg [.int .i64 n, .int .i64 s0, .int .i64 s1, .int .i64 x0, .int .i64 x1, .int .i64 b0, .int .i64 b1], .int .i64 k] =>
    VC ((0 < n ∧ n ≤ 1000) ∧ (1 ≤ k ∧ k ≤ 1000000) ∧ ∀ x ∈ [s0, s1, x0, x1, b0, b1], 0 ≤ x ∧ x < n) ∧ K (.int .i64 (cellOf n s0 s1 x0 x1 b0 b1 k))
  | _ => False
theorem cell_ok : POK Tryz.prog 85 cellP := by
  intro xs K h
  unfold cellP at h
  split at h
  · exact ⟨_, h.2, cell_spec _ _ _ _ _ _ _ _ h.1.get.1 h.1.get.2.1 h.1.get.2.2⟩
  · exact h.elim
end Go.Eng.YtppflbccfdbogaaGreat
namespace Go.Eng.YtppflbccfdbogaaGreat
open Go.Proofs
set_option maxRecDepth 100000
set_option maxHeartbeats 0
set_option linter.unusedVariables false
set_option linter.unusedSimpArgs false
theorem mul_bd {a b A B : Int} (ha : 0 ≤ a ∧ a ≤ A) (hb : 0 ≤ b ∧ b ≤ B) : 0 ≤ a * b ∧ a * b ≤ A * B :=
  ⟨Int.mul_nonneg ha.1 hb.1, Int.mul_le_mul ha.2 hb.2 hb.1 (by omega)⟩
abbrev gridV (r c : Int) (l : List Int) : PV := .agg [.int .i64 r, .int .i64 c, .isl (.ints .i64 l) .none]
/-! constants -/
def constOf (n : Int) : Int := n * (n * n + 1) / 2
theorem constant_spec (n : Int) (h : 0 ≤ n ∧ n ≤ 1000) : PSpec Tryz.prog 57 [.int .i64 n] (.int .i64 (constOf n)) := by
  have h1 := mul_bd h h
  have h2 := mul_bd h (b := n * n + 1) (B := 1000001) (by omega)
  have h3 : 0 ≤ n * (n * n + 1) / 2 ∧ n * (n * n + 1) / 2 ≤ 1000001000 := by omega
  refine pspec_of (md := 0) (rf := []) mixed tabOK noC_ok Tryz.func57 (by rfl) (by rfl) (by rfl) ?_
  repeat' ((conv => whnf); first | refine And.intro ?_ ?_ | with_reducible exact VC.mk rfl | exact Ok.mk | exact True.intro | refine Nx.mk ?_ | refine Fin.mk ?_ | intro _)
  all_goals ((try refine VC.mk ?_); (try simp only [CL.ncell, CL.cnt, vq] at *); (try omega))
  all_goals (first | (refine Sup.of ?_; first | rfl | (simp [*, resOf]; done)) | (refine Sup.via ?_; repeat' ((conv => whnf); first | refine And.intro ?_ ?_ | with_reducible exact VC.mk rfl | exact Ok.mk | exact True.intro | refine Nx.mk ?_ | refine Fin.mk ?_ | intro _); all_goals ((try refine VC.mk ?_); (try simp only [CL.ncell, CL.cnt, vq] at *); (try omega)); all_goals (try (simp [CL.sub]; done))))
def constantP : PSp := fun xs K => match xs with
  | [.int .i64 n] => VC (0 ≤ n ∧ n ≤ 1000) ∧ K (.int .i64 (constOf n))
  | _ => False
theorem constant_ok : POK Tryz.prog 57 constantP := by
  intro xs K h
  unfold constantP at h
  split at h
  · exact ⟨_, h.2, constant_spec _ h.1.get⟩
  · exact h.elim
theorem Constant_spec (n : Int) (h : 0 ≤ n ∧ n ≤ 1000) : PSpec Tryz.prog 73 [.int .i64 n] (.int .i64 (constOf n)) := by
  have h1 := mul_bd h h
  have h2 := mul_bd h (b := n * n + 1) (B := 1000001) (by omega)
  have h3 : 0 ≤ n * (n * n + 1) / 2 ∧ n * (n * n + 1) / 2 ≤ 1000001000 := by omega
  refine pspec_of (md := 0) (rf := []) mixed tabOK noC_ok Tryz.func73 (by rfl) (by rfl) (by rfl) ?_
  repeat' ((conv => whnf); first | refine And.intro ?_ ?_ | with_reducible exact VC.mk rfl | exact Ok.mk | exact True.intro | refine Nx.mk ?_ | refine Fin.mk ?_ | intro _)
  all_goals ((try refine VC.mk ?_); (try simp only [CL.ncell, CL.cnt, vq] at *); (try omega))
  all_goals (first | (refine Sup.of ?_; first | rfl | (simp [*, resOf]; done)) | (refine Sup.via ?_; repeat' ((conv => whnf); first | refine And.intro ?_ ?_ | with_reducible exact VC.mk rfl | exact Ok.mk | exact True.intro | refine Nx.mk ?_ | refine Fin.mk ?_ | intro _); all_goals ((try refine VC.mk ?_); (try simp only [CL.ncell, CL.cnt, vq] at *); (try omega)); all_goals (try (simp [CL.sub]; done))))
def ConstantP : PSp := fun xs K => match xs with
  | [.int .i64 n] => VC (0 ≤ n ∧ n ≤ 1000) ∧ K (.int .i64 (constOf n))
  | _ => False
theorem Constant_ok : POK Tryz.prog 73 ConstantP := by
  intro xs K h
  unfold ConstantP at h
  split at h
  · exact ⟨_, h.2, Constant_spec _ h.1.get⟩
  · exact h.elim
/-! remainders -/
/-! greatest common divisors -/
theorem gcd_step (a b : Int) (ha : 0 ≤ a) (hb : 0 < b) : Int.gcd b (a % b) = Int.gcd a b := by
  obtain ⟨m, rfl⟩ := Int.eq_ofNat_of_zero_le ha
  obtain ⟨k, rfl⟩ := Int.eq_ofNat_of_zero_le (Int.le_of_lt hb)
  rw [← Int.natCast_emod, Int.gcd_natCast_natCast, Int.gcd_natCast_natCast, Nat.gcd_comm k, ← Nat.gcd_rec, Nat.gcd_comm]
/-- the greatest common divisor of a number with an order -/
theorem cgcd_spec (a n : Int) (ha : -4611686018427387904 ≤ a ∧ a ≤ 4611686018427387904) (hn : 0 < n ∧ n ≤ 1000000) : PSpec Tryz.prog 113 [.int .i64 a, .int .i64 n] (.int .i64 (Int.gcd (a % n) n)) := by
  have h1 : 0 ≤ a % n ∧ a % n < n := ⟨Int.emod_nonneg _ (by omega), Int.emod_lt_of_pos _ hn.1⟩
  have hc : CPOK Tryz.prog (cpAdd 27 (pureCC modP) noC) := cpAdd_ok (pureCC_ok mod_ok) noC_ok
  refine pspec_of (md := 0) (rf := []) mixed tabOK hc Tryz.func113 (by rfl) (by rfl) (by rfl) ?_
  repeat' ((conv => whnf); first | refine And.intro ?_ ?_ | with_reducible exact VC.mk rfl | exact Ok.mk | exact True.intro | refine Nx.mk ?_ | refine Fin.mk ?_ | intro _)
  all_goals ((try refine VC.mk ?_); (try simp only [CL.ncell, CL.cnt, vq] at *); (try omega))
  conv => whnf
  refine loop_of (X := Int × Int) (fun x => (0 ≤ x.1 ∧ x.1 ≤ 1000000000) ∧ (0 ≤ x.2 ∧ x.2 ≤ 1000000000) ∧ Int.gcd x.1 x.2 = Int.gcd (a % n) n) (fun x => [(0, .int .i64 x.1), (1, .int .i64 x.2)]) (fun _ => []) (fun x => x.1.toNat) (a % n, n) ⟨anyB_ok, mixed, tabOK, hc, noY_ok⟩ (by rfl) ⟨by dsimp only; omega, by dsimp only; omega, rfl⟩ ?_ ?_
  · repeat' ((conv => whnf); first | refine And.intro ?_ ?_ | with_reducible exact VC.mk rfl | exact Ok.mk | exact True.intro | refine Nx.mk ?_ | refine Fin.mk ?_ | intro _)
    all_goals ((try refine VC.mk ?_); (try simp only [CL.ncell, CL.cnt, vq] at *); (try omega))
  · rintro ⟨x, y⟩ ⟨hx, hy, he⟩
    dsimp only at hx hy he ⊢
    have h1 : 0 < x → 0 ≤ y % x ∧ y % x < x := fun h => ⟨Int.emod_nonneg _ (by omega), Int.emod_lt_of_pos _ h⟩
    repeat' ((conv => whnf); first | refine And.intro ?_ ?_ | with_reducible exact VC.mk rfl | exact Ok.mk | exact True.intro | refine Nx.mk ?_ | refine Fin.mk ?_ | intro _)
    all_goals ((try refine VC.mk ?_); (try simp only [CL.ncell, CL.cnt, vq] at *); (try omega))
    · rename_i hne
      have hlt : 0 < x := by omega
      have := h1 hlt
      refine ⟨(y % x, x), [], ⟨⟨by dsimp only; omega, by dsimp only; omega, by dsimp only; rw [Int.gcd_comm, gcd_step y x hy.1 hlt, Int.gcd_comm]; exact he⟩, by dsimp only; omega⟩, ?_⟩
      repeat' ((conv => whnf); first | refine And.intro ?_ ?_ | with_reducible exact VC.mk rfl | exact Ok.mk | exact True.intro | refine Nx.mk ?_ | refine Fin.mk ?_ | intro _)
      all_goals ((try refine VC.mk ?_); (try simp only [CL.ncell, CL.cnt, vq] at *); (try omega))
    · have : x = 0 := by omega
      subst this
      rw [← he]
      refine Sup.of ?_
      simp [resOf]; omega
def cgcdP : PSp := fun xs K => match xs with
  | [.int .i64 a, .int .i64 n] => VC ((-4611686018427387904 ≤ a ∧ a ≤ 4611686018427387904) ∧ 0 < n ∧ n ≤ 1000000) ∧ K (.int .i64 (Int.gcd (a % n) n))
  | _ => False
theorem cgcd_ok : POK Tryz.prog 113 cgcdP := by
  intro xs K h
  unfold cgcdP at h
  split at h
  · exact ⟨_, h.2, cgcd_spec _ _ h.1.get.1 h.1.get.2⟩
  · exact h.elim
/-! ranges -/
def farB (a : Int) : Bool := decide (a < -999999999 ∨ 999999999 < a)
theorem far_spec (a : Int) : PSpec Tryz.prog 102 [.int .i64 a] (.bp (farB a)) := by
  refine pspec_of (md := 0) (rf := []) mixed tabOK noC_ok Tryz.func102 (by rfl) (by rfl) (by rfl) ?_
  repeat' ((conv => whnf); first | refine And.intro ?_ ?_ | with_reducible exact VC.mk rfl | exact Ok.mk | exact True.intro | refine Nx.mk ?_ | refine Fin.mk ?_ | intro _)
  all_goals ((try refine VC.mk ?_); (try simp only [CL.ncell, CL.cnt, vq] at *); (try omega))
  all_goals refine Sup.via ?_
  repeat' ((conv => whnf); first | refine And.intro ?_ ?_ | with_reducible exact VC.mk rfl | exact Ok.mk | exact True.intro | refine Nx.mk ?_ | refine Fin.mk ?_ | intro _)
  all_goals refine VC.mk ?_
  all_goals simp_all [farB]
  all_goals (try omega)
def farP : PSp := fun xs K => match xs with
  | [.int .i64 a] => VC (True) ∧ K (.bp (farB a))
  | _ => False
theorem far_ok : POK Tryz.prog 102 farP := by
  intro xs K h
  unfold farP at h
  split at h
  · exact ⟨_, h.2, far_spec _⟩
  · exact h.elim
theorem grid_spec (n : Int) (l : List Int) : PSpec Tryz.prog 35 [.int .i64 n, .isl (.ints .i64 l) .none] (gridV n n l) := by
  refine pspec_of (md := 0) (rf := []) mixed tabOK noC_ok Tryz.func35 (by rfl) (by rfl) (by rfl) ?_
  repeat' ((conv => whnf); first | refine And.intro ?_ ?_ | with_reducible exact VC.mk rfl | exact Ok.mk | exact True.intro | refine Nx.mk ?_ | refine Fin.mk ?_ | intro _)
  all_goals (first | (refine Sup.of ?_; first | rfl | (simp [*, resOf]; done)) | (refine Sup.via ?_; repeat' ((conv => whnf); first | refine And.intro ?_ ?_ | with_reducible exact VC.mk rfl | exact Ok.mk | exact True.intro | refine Nx.mk ?_ | refine Fin.mk ?_ | intro _); all_goals ((try refine VC.mk ?_); (try simp only [CL.ncell, CL.cnt, vq] at *); (try omega)); all_goals (try (simp [CL.sub]; done))))
def gridP : PSp := fun xs K => match xs with
  | [.int .i64 n, .isl (.ints .i64 l) .none] => VC (True) ∧ K (gridV n n l)
  | _ => False
theorem grid_ok : POK Tryz.prog 35 gridP := by
  intro xs K h
  unfold gridP at h
  split at h
  · exact ⟨_, h.2, grid_spec _ _⟩
  · exact h.elim
theorem Square_spec (n : Int) (h : 0 ≤ n ∧ n ≤ 1000) : PSpec Tryz.prog 39 [.int .i64 n] (gridV n n (List.replicate (n * n).toNat 0)) := by
  have h1 := mul_bd h h
  refine pspec_of (md := 0) (rf := []) mixed tabOK noC_ok Tryz.func39 (by rfl) (by rfl) (by rfl) ?_
  repeat' ((conv => whnf); first | refine And.intro ?_ ?_ | with_reducible exact VC.mk rfl | exact Ok.mk | exact True.intro | refine Nx.mk ?_ | refine Fin.mk ?_ | intro _)
  all_goals ((try refine VC.mk ?_); (try simp only [CL.ncell, CL.cnt, vq] at *); (try omega))
  · simp
  all_goals (first | (refine Sup.of ?_; first | rfl | (simp [*, resOf]; done)) | (refine Sup.via ?_; repeat' ((conv => whnf); first | refine And.intro ?_ ?_ | with_reducible exact VC.mk rfl | exact Ok.mk | exact True.intro | refine Nx.mk ?_ | refine Fin.mk ?_ | intro _); all_goals ((try refine VC.mk ?_); (try simp only [CL.ncell, CL.cnt, vq] at *); (try omega)); all_goals (try (simp [CL.sub]; done))))
def SquareP : PSp := fun xs K => match xs with
  | [.int .i64 n] => VC (0 ≤ n ∧ n ≤ 1000) ∧ K (gridV n n (List.replicate (n * n).toNat 0))
  | _ => False
theorem Square_ok : POK Tryz.prog 39 SquareP := by
  intro xs K h
  unfold SquareP at h
  split at h
  · exact ⟨_, h.2, Square_spec _ h.1.get⟩
  · exact h.elim
end Go.Eng.YtppflbccfdbogaaGreat
namespace Go.Eng.YtppflbccfdbogaaGreat
open Go.Proofs
set_option maxRecDepth 100000
set_option maxHeartbeats 0
set_option linter.unusedVariables false
set_option linter.unusedSimpArgs false
/-- a square that may be written -/
def emptyL : LSp := fun xs objs K => match xs, objs with
  | [.int .i64 n], [] => VC (0 ≤ n ∧ n ≤ 1000) ∧ K [.agg [.int .i64 n, .int .i64 n, .rsl 0 0 (n * n).toNat]] [.cells (.ints .i64 (List.replicate (n * n).toNat 0)) false]
  | _, _ => False
theorem emptyL_spec (n : Int) (h : 0 ≤ n ∧ n ≤ 1000) : LSpec Tryz.prog 46 [.int .i64 n] [] [.agg [.int .i64 n, .int .i64 n, .rsl 0 0 (n * n).toNat]] [.cells (.ints .i64 (List.replicate (n * n).toNat 0)) false] := by
  have h1 := mul_bd h h
  refine lspec_of (md := 1) (rf := []) mixed tabOK noC_ok 0 [(1, 0)] Tryz.func46 (by rfl) (by rfl) (by rfl) ?_
  repeat' ((conv => whnf); first | refine And.intro ?_ ?_ | with_reducible exact VC.mk rfl | exact Ok.mk | exact True.intro | refine Nx.mk ?_ | refine Fin.mk ?_ | intro _)
  all_goals ((try refine VC.mk ?_); (try simp only [CL.ncell, CL.cnt, vq] at *); (try omega))
theorem emptyL_ok : LOK Tryz.prog 46 emptyL := by
  intro xs objs K h
  unfold emptyL at h
  split at h
  · exact ⟨_, _, h.2, emptyL_spec _ h.1.get⟩
  · exact h.elim
theorem SquareL_spec (n : Int) (h : 0 ≤ n ∧ n ≤ 1000) : LSpec Tryz.prog 39 [.int .i64 n] [] [.agg [.int .i64 n, .int .i64 n, .rsl 0 0 (n * n).toNat]] [.cells (.ints .i64 (List.replicate (n * n).toNat 0)) false] := by
  have h1 := mul_bd h h
  refine lspec_of (md := 1) (rf := []) mixed tabOK noC_ok 0 [(1, 0)] Tryz.func39 (by rfl) (by rfl) (by rfl) ?_
  repeat' ((conv => whnf); first | refine And.intro ?_ ?_ | with_reducible exact VC.mk rfl | exact Ok.mk | exact True.intro | refine Nx.mk ?_ | refine Fin.mk ?_ | intro _)
  all_goals ((try refine VC.mk ?_); (try simp only [CL.ncell, CL.cnt, vq] at *); (try omega))
theorem SquareL_ok : LOK Tryz.prog 39 emptyL := by
  intro xs objs K h
  unfold emptyL at h
  split at h
  · exact ⟨_, _, h.2, SquareL_spec _ h.1.get⟩
  · exact h.elim
/-! filled from the left -/
def fillG (f : Nat → Int) (N m : Nat) : List Int := (List.range m).map f ++ List.replicate (N - m) 0
theorem fillG_len (f : Nat → Int) (N m : Nat) (h : m ≤ N) : (fillG f N m).length = N := by simp [fillG]; omega
theorem fillG_set (f : Nat → Int) (N m : Nat) (h : m < N) : (fillG f N m).set m (f m) = fillG f N (m + 1) := by
  unfold fillG
  rw [List.set_append_right _ _ (by simp), show N - m = (N - (m + 1)) + 1 by omega, List.replicate_succ, List.range_succ]
  simp
theorem fillG_all (f : Nat → Int) (N : Nat) : fillG f N N = (List.range N).map f := by simp [fillG]
theorem fillG_zero (f : Nat → Int) (N : Nat) : fillG f N 0 = List.replicate N 0 := by simp [fillG]
def madeL (n : Nat) (h : Nat → Nat → Int) : List Int := (List.range (n * n)).map fun k => h (k / n) (k % n)
def madeP : PSp := fun xs K => match xs with
  | [.int .i64 n, .fn (.func f) fs cs] => VC (0 ≤ n ∧ n ≤ 1000) ∧ ∃ h : Nat → Nat → Int, (∀ i j : Nat, (i : Int) < n → (j : Int) < n → PSpec Tryz.prog f (fs ++ [.int .i64 i, .int .i64 j] ++ cs) (.int .i64 (h i j))) ∧ K (gridV n n (madeL n.toNat h))
  | _ => False
theorem made_spec (n : Nat) (hn : n ≤ 1000) (f : Nat) (fs cs : List PV) (h : Nat → Nat → Int) (hh : ∀ i j : Nat, i < n → j < n → PSpec Tryz.prog f (fs ++ [.int .i64 i, .int .i64 j] ++ cs) (.int .i64 (h i j))) :
    PSpec Tryz.prog 18 [.int .i64 (n : Int), .fn (.func f) fs cs] (gridV n n (madeL n h)) := by
  refine pspec_open 1 (enters' Tryz.func18 (by rfl) (by rfl)) rfl (by simp) fun S0 w0 us vs hu hv => ?_
  have hY : ∀ r, YPOK Tryz.prog r (fromB S0 w0) (fnY f us vs fun xs K => match xs with
      | [.int .i64 i, .int .i64 j] => VC ((0 ≤ i ∧ i < n) ∧ 0 ≤ j ∧ j < n) ∧ K (.int .i64 (h i.toNat j.toNat))
      | _ => False) := fun r => fnY_ok (fs := fs) (cs := cs) (fun S w hb => ⟨hu.mono hb (.refl _), hv.mono hb (.refl _)⟩) fun xs K hk => by
    split at hk
    · rename_i i j
      obtain ⟨⟨h1, h2⟩, hk⟩ := hk
      have := hh i.toNat j.toNat (by omega) (by omega)
      rw [Int.toNat_of_nonneg h1.1, Int.toNat_of_nonneg h2.1] at this
      exact ⟨_, hk, this⟩
    · exact hk.elim
  have hC : CPOKB Tryz.prog (fromB S0 w0) (cpAdd 46 (lendCC [] emptyL) noC) := CPOK.up (cpAdd_ok (lendCC_ok [] emptyL_ok) noC_ok) _
  have W : Walk Tryz.prog none (fromB S0 w0) tab.get _ _ := ⟨fromB_ok, mixed, tabOK, hC, hY none⟩
  refine pspecB_of fromB_ok mixed tabOK (md := 1) (rf := []) hC (hY none) Tryz.func18 (by rfl) (by rfl) ?_
  repeat' ((conv => whnf); first | refine And.intro ?_ ?_ | with_reducible exact VC.mk rfl | exact Ok.mk | exact True.intro | refine Nx.mk ?_ | refine Fin.mk ?_ | intro _)
  all_goals ((try refine VC.mk ?_); (try simp only [CL.ncell, CL.cnt, vq] at *); (try omega))
  have eN : ((n : Int) * n).toNat = n * n := by rw [← Int.natCast_mul, Int.toNat_natCast]
  simp only [eN]
  let g : Nat → Int := fun k => h (k / n) (k % n)
  have hbd : ∀ i j : Nat, i < n → j < n → n * i + j < n * n := fun i j hi hj => by
    have := Nat.mul_le_mul_left n (show i + 1 ≤ n by omega)
    rw [Nat.mul_add] at this; omega
  have hix : ∀ i j : Nat, ((n : Int) * i + j) = ((n * i + j : Nat) : Int) := fun i j => by push_cast; rfl
  have hg : ∀ i j : Nat, j < n → h i j = g (n * i + j) := fun i j hj => by
    have h1 : (n * i + j) / n = i := by rw [Nat.mul_add_div (by omega), Nat.div_eq_of_lt hj]; simp
    have h2 : (n * i + j) % n = j := by rw [Nat.mul_add_mod, Nat.mod_eq_of_lt hj]
    simp only [g, h1, h2]
  have hNN : (n : Int) * n ≤ 1000000 := (mul_bd (show 0 ≤ (n : Int) ∧ (n : Int) ≤ 1000 by omega) (show 0 ≤ (n : Int) ∧ (n : Int) ≤ 1000 by omega)).2
  have hNN' : ((n * n : Nat) : Int) ≤ 1000000 := by rw [Int.natCast_mul]; exact hNN
  conv => whnf
  refine loop_of (X := Nat) (fun i => i ≤ n) (fun i => [(11, .int .i64 i)]) (fun i => [(1, .cells (.ints .i64 (fillG g (n * n) (n * i))) false)]) (fun i => n - i) 0 W (by rfl) (by omega) ?_ ?_
  · repeat' ((conv => whnf); first | refine And.intro ?_ ?_ | with_reducible exact VC.mk rfl | exact Ok.mk | exact True.intro | refine Nx.mk ?_ | refine Fin.mk ?_ | intro _)
    all_goals ((try refine VC.mk ?_); (try simp only [CL.ncell, CL.cnt, vq] at *); (try omega))
    all_goals simp [fillG_zero]
  · intro i hi
    by_cases hlt : i < n
    · repeat' ((conv => whnf); first | refine And.intro ?_ ?_ | with_reducible exact VC.mk rfl | exact Ok.mk | exact True.intro | refine Nx.mk ?_ | refine Fin.mk ?_ | intro _)
      all_goals ((try refine VC.mk ?_); (try simp only [CL.ncell, CL.cnt, vq] at *); (try omega))
      conv => whnf
      refine loop_of (X := Nat) (fun j => j ≤ n) (fun j => [(15, .int .i64 j)]) (fun j => [(1, .cells (.ints .i64 (fillG g (n * n) (n * i + j))) false)]) (fun j => n - j) 0 W (by rfl) (by omega) ?_ ?_
      · repeat' ((conv => whnf); first | refine And.intro ?_ ?_ | with_reducible exact VC.mk rfl | exact Ok.mk | exact True.intro | refine Nx.mk ?_ | refine Fin.mk ?_ | intro _)
        all_goals ((try refine VC.mk ?_); (try simp only [CL.ncell, CL.cnt, vq] at *); (try omega))
        all_goals simp
      · intro j hj
        by_cases hlj : j < n
        · have := hbd i j hlt hlj
          have e1 := hix i j
          have e2 := fillG_len g (n * n) (n * i + j) (by omega)
          repeat' ((conv => whnf); first | refine And.intro ?_ ?_ | with_reducible exact VC.mk rfl | exact Ok.mk | exact True.intro | refine Nx.mk ?_ | refine Fin.mk ?_ | intro _)
          all_goals ((try refine VC.mk ?_); (try simp only [CL.ncell, CL.cnt, vq] at *); (try omega))
          refine ⟨j + 1, [], ⟨by omega, by omega⟩, ?_⟩
          repeat' ((conv => whnf); first | refine And.intro ?_ ?_ | with_reducible exact VC.mk rfl | exact Ok.mk | exact True.intro | refine Nx.mk ?_ | refine Fin.mk ?_ | intro _)
          all_goals ((try refine VC.mk ?_); (try simp only [CL.ncell, CL.cnt, vq] at *); (try omega))
          rw [e1, Int.toNat_natCast, hg i j hlj, fillG_set _ _ _ this]; rfl
        · have : n = j := by omega
          subst this
          repeat' ((conv => whnf); first | refine And.intro ?_ ?_ | with_reducible exact VC.mk rfl | exact Ok.mk | exact True.intro | refine Nx.mk ?_ | refine Fin.mk ?_ | intro _)
          all_goals ((try refine VC.mk ?_); (try simp only [CL.ncell, CL.cnt, vq] at *); (try omega))
          refine ⟨i + 1, [], ⟨by omega, by omega⟩, ?_⟩
          repeat' ((conv => whnf); first | refine And.intro ?_ ?_ | with_reducible exact VC.mk rfl | exact Ok.mk | exact True.intro | refine Nx.mk ?_ | refine Fin.mk ?_ | intro _)
          all_goals ((try refine VC.mk ?_); (try simp only [CL.ncell, CL.cnt, vq] at *); (try omega))
    · have : n = i := by omega
      subst this
      repeat' ((conv => whnf); first | refine And.intro ?_ ?_ | with_reducible exact VC.mk rfl | exact Ok.mk | exact True.intro | refine Nx.mk ?_ | refine Fin.mk ?_ | intro _)
      all_goals ((try refine VC.mk ?_); (try simp only [CL.ncell, CL.cnt, vq] at *); (try omega))
      · rw [fillG_len _ _ _ (Nat.le_refl _)]; exact Nat.le_refl _
      rw [fillG_all]
      refine Sup.via ?_
      repeat' ((conv => whnf); first | refine And.intro ?_ ?_ | with_reducible exact VC.mk rfl | exact Ok.mk | exact True.intro | refine Nx.mk ?_ | refine Fin.mk ?_ | intro _)
      all_goals ((try refine VC.mk ?_); (try simp only [CL.ncell, CL.cnt, vq] at *); (try omega))
      simp [CL.sub, madeL, g, List.take_of_length_le]
theorem made_ok : POK Tryz.prog 18 madeP := by
  intro xs K h
  unfold madeP at h
  split at h
  · rename_i n f fs cs
    obtain ⟨⟨h1⟩, hh, h2, hK⟩ := h
    obtain ⟨m, rfl⟩ : ∃ m : Nat, n = m := ⟨n.toNat, by omega⟩
    simp only [Int.toNat_natCast] at hK
    exact ⟨_, hK, made_spec m (by omega) f fs cs hh (fun i j hi hj => h2 i j (by omega) (by omega))⟩
  · exact h.elim
end Go.Eng.YtppflbccfdbogaaGreat
namespace Go.Eng.YtppflbccfdbogaaGreat
open Go.Proofs
set_option maxRecDepth 100000
set_option maxHeartbeats 0
set_option linter.unusedVariables false
set_option linter.unusedSimpArgs false
theorem find_none {p : Nat → Bool} {n : Nat} (h : ∀ i, i < n → p i = false) : (List.range n).find? p = none := by
  simp only [List.find?_eq_none, List.mem_range]; exact fun i hi => by simp [h i hi]
theorem find_some {p : Nat → Bool} {n y : Nat} (hy : y < n) (hp : p y = true) (h : ∀ i, i < y → p i = false) : (List.range n).find? p = some y := by
  have e : List.range n = List.range y ++ (y :: List.range' (y + 1) (n - y - 1)) := by
    rw [List.range_eq_range', List.range_eq_range', show n = y + (1 + (n - y - 1)) by omega, ← List.range'_append_1, ← List.range'_append_1]
    simp
  rw [e, List.find?_append, find_none h]
  simp [hp]
/-- the numbers laid so far -/
def gAt (c : Nat → Nat) (N x : Nat) : List Int := (List.range x).foldl (fun g y => g.set (c y) ((y : Int) + 1)) (List.replicate N 0)
theorem gAt_succ (c : Nat → Nat) (N x : Nat) : gAt c N (x + 1) = (gAt c N x).set (c x) ((x : Int) + 1) := by simp [gAt, List.range_succ]
theorem gAt_len (c : Nat → Nat) (N : Nat) : ∀ x, (gAt c N x).length = N := by
  intro x
  induction x with
  | zero => simp [gAt]
  | succ x ih => rw [gAt_succ, List.length_set, ih]
theorem gAt_zero (c : Nat → Nat) (N : Nat) : gAt c N 0 = List.replicate N 0 := by simp [gAt]
def meetAt (c : Nat → Nat) (N y : Nat) : Bool := decide ((gAt c N y).getD (c y) 0 ≠ 0)
def meetOf (c : Nat → Nat) (N : Nat) : Option Nat := (List.range N).find? (meetAt c N)
def rowOf (n s x b k : Int) : Int := (s + (k - 1) % n * x + (k - 1) / n * b) % n
theorem cellOf_eq (n s0 s1 x0 x1 b0 b1 k : Int) : cellOf n s0 s1 x0 x1 b0 b1 k = rowOf n s0 x0 b0 k * n + rowOf n s1 x1 b1 k := rfl
theorem rowOf_bd (n s x b k : Int) (hn : 0 < n) : 0 ≤ rowOf n s x b k ∧ rowOf n s x b k < n := ⟨Int.emod_nonneg _ (by omega), Int.emod_lt_of_pos _ hn⟩
theorem cellOf_bd (n s0 s1 x0 x1 b0 b1 k : Int) (hn : 0 < n) : 0 ≤ cellOf n s0 s1 x0 x1 b0 b1 k ∧ cellOf n s0 s1 x0 x1 b0 b1 k < n * n := by
  have h1 := rowOf_bd n s0 x0 b0 k hn
  have h2 := rowOf_bd n s1 x1 b1 k hn
  rw [cellOf_eq]
  have h3 := Int.mul_le_mul_of_nonneg_right (show rowOf n s0 x0 b0 k ≤ n - 1 by omega) (show 0 ≤ n by omega)
  have h4 := Int.mul_nonneg h1.1 (show 0 ≤ n by omega)
  rw [Int.sub_mul] at h3
  omega
/-- the cell of the y-th number, from 0 -/
def cellN (n s0 s1 x0 x1 b0 b1 : Int) (y : Nat) : Nat := (cellOf n s0 s1 x0 x1 b0 b1 ((y : Int) + 1)).toNat
def layV (n : Int) (c : Nat → Nat) (N : Nat) : PV := match meetOf c N with
  | some y => .tup [gridV 0 0 [], .agg [.int .i64 ((gAt c N y).getD (c y) 0), .int .i64 ((y : Int) + 1)], .bp false]
  | none => .tup [gridV n n (gAt c N N), .agg [.int .i64 0, .int .i64 0], .bp true]
noncomputable def cpL1 : CPT := cpAdd 46 (lendCC [] emptyL) (cpAdd 85 (pureCC cellP) noC)
theorem cpL1_ok : CPOK Tryz.prog cpL1 := cpAdd_ok (lendCC_ok [] emptyL_ok) (cpAdd_ok (pureCC_ok cell_ok) noC_ok)
theorem lay_spec (n s0 s1 x0 x1 b0 b1 : Int) (hn : 1 ≤ n ∧ n ≤ 16) (h : ∀ x ∈ [s0, s1, x0, x1, b0, b1], 0 ≤ x ∧ x < n) :
    PSpec Tryz.prog 54 [.agg [.int .i64 n, .int .i64 s0, .int .i64 s1, .int .i64 x0, .int .i64 x1, .int .i64 b0, .int .i64 b1]] (layV n (cellN n s0 s1 x0 x1 b0 b1) (n * n).toNat) := by
  have h1 := mul_bd (show 0 ≤ n ∧ n ≤ 16 by omega) (show 0 ≤ n ∧ n ≤ 16 by omega)
  refine pspec_of (md := 1) (rf := []) mixed tabOK cpL1_ok Tryz.func54 (by rfl) (by rfl) (by rfl) ?_
  repeat' ((conv => whnf); first | refine And.intro ?_ ?_ | with_reducible exact VC.mk rfl | exact Ok.mk | exact True.intro | refine Nx.mk ?_ | refine Fin.mk ?_ | intro _)
  all_goals ((try refine VC.mk ?_); (try simp only [CL.ncell, CL.cnt, vq] at *); (try omega))
  obtain ⟨N, hN⟩ : ∃ N, N = (n * n).toNat := ⟨_, rfl⟩
  have hN' : (N : Int) = n * n := by omega
  obtain ⟨c, hc⟩ : ∃ c, c = cellN n s0 s1 x0 x1 b0 b1 := ⟨_, rfl⟩
  have hcb : ∀ y, c y < N := fun y => by
    have := cellOf_bd n s0 s1 x0 x1 b0 b1 ((y : Int) + 1) (by omega)
    rw [hc]; unfold cellN; omega
  have hce : ∀ y : Nat, cellOf n s0 s1 x0 x1 b0 b1 ((y : Int) + 1) = c y := fun y => by
    have := cellOf_bd n s0 s1 x0 x1 b0 b1 ((y : Int) + 1) (by omega)
    rw [hc]; unfold cellN; omega
  rw [← hN, ← hc]
  conv => whnf
  refine loop_of (X := Nat) (fun y => y ≤ N ∧ ∀ j, j < y → meetAt c N j = false) (fun y => [(6, .int .i64 ((y : Int) + 1))]) (fun y => [(3, .cells (.ints .i64 (gAt c N y)) false)]) (fun y => N - y) 0 ⟨anyB_ok, mixed, tabOK, cpL1_ok, noY_ok⟩ (by rfl) ⟨by omega, fun j hj => by omega⟩ ?_ ?_
  · repeat' ((conv => whnf); first | refine And.intro ?_ ?_ | with_reducible exact VC.mk rfl | exact Ok.mk | exact True.intro | refine Nx.mk ?_ | refine Fin.mk ?_ | intro _)
    all_goals ((try refine VC.mk ?_); (try simp only [CL.ncell, CL.cnt, vq] at *); (try omega))
  · rintro y ⟨hy, hm⟩
    by_cases hlt : y < N
    · have e1 := hcb y
      have e2 := gAt_len c N y
      have e3 := hce y
      repeat' ((conv => whnf); first | refine And.intro ?_ ?_ | with_reducible exact VC.mk rfl | exact Ok.mk | exact True.intro | refine Nx.mk ?_ | refine Fin.mk ?_ | intro _)
      all_goals ((try refine VC.mk ?_); (try simp only [CL.ncell, CL.cnt, vq] at *); (try omega))
      all_goals (try simp only [e3, Int.toNat_natCast] at *)
      all_goals (try omega)
      · exact ⟨by omega, by omega, h⟩
      · have e : meetOf c N = some y := find_some hlt (by unfold meetAt; simpa using ‹_ ≠ _›) hm
        unfold layV
        rw [e]
        all_goals (first | (refine Sup.of ?_; first | rfl | (simp [*, resOf]; done)) | (refine Sup.via ?_; repeat' ((conv => whnf); first | refine And.intro ?_ ?_ | with_reducible exact VC.mk rfl | exact Ok.mk | exact True.intro | refine Nx.mk ?_ | refine Fin.mk ?_ | intro _); all_goals ((try refine VC.mk ?_); (try simp only [CL.ncell, CL.cnt, vq] at *); (try omega)); all_goals (try (simp [CL.sub]; done))))
      · refine ⟨y + 1, [], ⟨⟨by omega, fun j hj => ?_⟩, by omega⟩, ?_⟩
        · by_cases e : j = y
          · subst e; unfold meetAt; simp_all
          · exact hm j (by omega)
        · repeat' ((conv => whnf); first | refine And.intro ?_ ?_ | with_reducible exact VC.mk rfl | exact Ok.mk | exact True.intro | refine Nx.mk ?_ | refine Fin.mk ?_ | intro _)
          all_goals ((try refine VC.mk ?_); (try simp only [CL.ncell, CL.cnt, vq] at *); (try omega))
          rw [gAt_succ]
    · have : N = y := by omega
      subst this
      have e : meetOf c N = none := find_none hm
      unfold layV
      rw [e]
      repeat' ((conv => whnf); first | refine And.intro ?_ ?_ | with_reducible exact VC.mk rfl | exact Ok.mk | exact True.intro | refine Nx.mk ?_ | refine Fin.mk ?_ | intro _)
      all_goals ((try refine VC.mk ?_); (try simp only [CL.ncell, CL.cnt, vq] at *); (try omega))
      · rw [gAt_len]; exact Nat.le_refl _
      refine Sup.via ?_
      repeat' ((conv => whnf); first | refine And.intro ?_ ?_ | with_reducible exact VC.mk rfl | exact Ok.mk | exact True.intro | refine Nx.mk ?_ | refine Fin.mk ?_ | intro _)
      all_goals ((try refine VC.mk ?_); (try simp only [CL.ncell, CL.cnt, vq] at *); (try omega))
      simp [CL.sub, List.take_of_length_le, gAt_len]
def layP : PSp := fun xs K => match xs with
  | [.agg [.int .i64 n, .int .i64 s0, .int .i64 s1, .int .i64 x0, .int .i64 x1, .int .i64 b0, .int .i64 b1]] => VC ((1 ≤ n ∧ n ≤ 16) ∧ ∀ x ∈ [s0, s1, x0, x1, b0, b1], 0 ≤ x ∧ x < n) ∧ K (layV n (cellN n s0 s1 x0 x1 b0 b1) (n * n).toNat)
  | _ => False
theorem lay_ok : POK Tryz.prog 54 layP := by
  intro xs K h
  unfold layP at h
  split at h
  · exact ⟨_, h.2, lay_spec _ _ _ _ _ _ _ h.1.get.1 h.1.get.2⟩
  · exact h.elim
/-! the reference -/
theorem row_bd (n s x b k : Int) (hn : 1 ≤ n ∧ n ≤ 16) (hk : 1 ≤ k ∧ k ≤ 1000000) :
    (0 ≤ (k - 1) % n * (x % n) ∧ (k - 1) % n * (x % n) ≤ 256) ∧ (0 ≤ (k - 1) / n * (b % n) ∧ (k - 1) / n * (b % n) ≤ 16000000) ∧ (0 ≤ s % n ∧ s % n < n) ∧ (0 ≤ (k - 1) % n ∧ (k - 1) % n < n) ∧ 0 ≤ (k - 1) / n ∧ (k - 1) / n ≤ 1000000 := by
  have hm : ∀ y : Int, 0 ≤ y % n ∧ y % n < n := fun y => ⟨Int.emod_nonneg _ (by omega), Int.emod_lt_of_pos _ (by omega)⟩
  have hd : 0 ≤ (k - 1) / n ∧ (k - 1) / n ≤ 1000000 := ⟨Int.ediv_nonneg (by omega) (by omega), by have := Int.ediv_le_self (a := k - 1) n (by omega); omega⟩
  have h1 := hm (k - 1)
  have h2 := hm x
  have h3 := hm b
  exact ⟨mul_bd (A := 16) (B := 16) (by omega) (by omega), mul_bd (A := 1000000) (B := 16) hd (by omega), hm s, h1, hd⟩
end Go.Eng.YtppflbccfdbogaaGreat
namespace Go.Eng.YtppflbccfdbogaaGreat
open Go.Proofs
set_option maxRecDepth 100000
set_option maxHeartbeats 0
set_option linter.unusedVariables false
set_option linter.unusedSimpArgs false
def stepErr (n s0 s1 x0 x1 b0 b1 : Int) : Int := if (n < 1 ∨ 16 < n) ∨ [s0, s1, x0, x1, b0, b1].any farB = true then 3 else 0
theorem stepErr_zero {n s0 s1 x0 x1 b0 b1 : Int} (h : stepErr n s0 s1 x0 x1 b0 b1 = 0) : (1 ≤ n ∧ n ≤ 16) ∧ ∀ x ∈ [s0, s1, x0, x1, b0, b1], -999999999 ≤ x ∧ x ≤ 999999999 := by
  unfold stepErr at h
  split at h
  · cases h
  · rename_i hh
    simp only [not_or, List.any_eq_true, not_exists, not_and] at hh
    refine ⟨by omega, fun x hx => ?_⟩
    have := hh.2 x hx
    unfold farB at this
    simp at this
    omega
noncomputable def cpS1 : CPT := cpAdd 102 (pureCC farP) cp2
theorem cpS1_ok : CPOK Tryz.prog cpS1 := cpAdd_ok (pureCC_ok far_ok) cp2_ok
theorem checkStep_spec (n s0 s1 x0 x1 b0 b1 : Int) : PSpec Tryz.prog 70 [.agg [.int .i64 n, .int .i64 s0, .int .i64 s1, .int .i64 x0, .int .i64 x1, .int .i64 b0, .int .i64 b1]] (.int .i64 (stepErr n s0 s1 x0 x1 b0 b1)) := by
  refine pspec_of (md := 1) (rf := []) mixed tabOK cpS1_ok Tryz.func70 (by rfl) (by rfl) (by rfl) ?_
  repeat' ((conv => whnf); first | refine And.intro ?_ ?_ | with_reducible exact VC.mk rfl | exact Ok.mk | exact True.intro | refine Nx.mk ?_ | refine Fin.mk ?_ | intro _)
  all_goals ((try refine VC.mk ?_); (try simp only [CL.ncell, CL.cnt, vq] at *); (try omega))
  all_goals refine Sup.of ?_
  all_goals simp_all [resOf, stepErr, firstOf]
  all_goals (try (by_cases hn : n < 1 ∨ 16 < n <;> cases hf : farB b1 <;> simp_all <;> omega))
def checkStepP : PSp := fun xs K => match xs with
  | [.agg [.int .i64 n, .int .i64 s0, .int .i64 s1, .int .i64 x0, .int .i64 x1, .int .i64 b0, .int .i64 b1]] => VC (True) ∧ K (.int .i64 (stepErr n s0 s1 x0 x1 b0 b1))
  | _ => False
theorem checkStep_ok : POK Tryz.prog 70 checkStepP := by
  intro xs K h
  unfold checkStepP at h
  split at h
  · exact ⟨_, h.2, checkStep_spec _ _ _ _ _ _ _⟩
  · exact h.elim
theorem emod_all {n : Int} (hn : 1 ≤ n) (s0 s1 x0 x1 b0 b1 : Int) : ∀ x ∈ [s0 % n, s1 % n, x0 % n, x1 % n, b0 % n, b1 % n], 0 ≤ x ∧ x < n := by
  have hm : ∀ y : Int, 0 ≤ y % n ∧ y % n < n := fun y => ⟨Int.emod_nonneg _ (by omega), Int.emod_lt_of_pos _ (by omega)⟩
  intro x hx
  simp only [List.mem_cons, List.not_mem_nil, or_false] at hx
  rcases hx with rfl | rfl | rfl | rfl | rfl | rfl <;> exact hm _
/-- the cells of a rule -/
abbrev cellS (n s0 s1 x0 x1 b0 b1 : Int) : Nat → Nat := cellN n (s0 % n) (s1 % n) (x0 % n) (x1 % n) (b0 % n) (b1 % n)
/-! Uniform -/
def uniV (n : Int) (c : Nat → Nat) (N : Nat) : PV := match meetOf c N with
  | some _ => .tup [gridV 0 0 [], .int .i64 18]
  | none => .tup [gridV n n (gAt c N N), .int .i64 0]
def uniformV (n s0 s1 x0 x1 b0 b1 : Int) : PV := if stepErr n s0 s1 x0 x1 b0 b1 = 0 then uniV n (cellS n s0 s1 x0 x1 b0 b1) (n * n).toNat else .tup [gridV 0 0 [], .int .i64 (stepErr n s0 s1 x0 x1 b0 b1)]
noncomputable def cpS2 : CPT := cpAdd 70 (pureCC checkStepP) (cpAdd 61 (pureCC reducedP) (cpAdd 54 (pureCC layP) (cpAdd 85 (pureCC cellP) cp2)))
theorem cpS2_ok : CPOK Tryz.prog cpS2 := cpAdd_ok (pureCC_ok checkStep_ok) (cpAdd_ok (pureCC_ok reduced_ok) (cpAdd_ok (pureCC_ok lay_ok) (cpAdd_ok (pureCC_ok cell_ok) cp2_ok)))
theorem uniform_spec (n s0 s1 x0 x1 b0 b1 : Int) : PSpec Tryz.prog 37 [.agg [.int .i64 n, .int .i64 s0, .int .i64 s1, .int .i64 x0, .int .i64 x1, .int .i64 b0, .int .i64 b1]] (uniformV n s0 s1 x0 x1 b0 b1) := by
  by_cases hz : stepErr n s0 s1 x0 x1 b0 b1 = 0
  · obtain ⟨h1, h2⟩ := stepErr_zero hz
    have h3 := emod_all h1.1 s0 s1 x0 x1 b0 b1
    unfold uniformV
    rw [if_pos hz]
    refine pspec_of (md := 1) (rf := []) mixed tabOK cpS2_ok Tryz.func37 (by rfl) (by rfl) (by rfl) ?_
    repeat' ((conv => whnf); first | refine And.intro ?_ ?_ | with_reducible exact VC.mk rfl | exact Ok.mk | exact True.intro | refine Nx.mk ?_ | refine Fin.mk ?_ | intro _)
    all_goals ((try refine VC.mk ?_); (try simp only [CL.ncell, CL.cnt, vq] at *); (try omega))
    · exact ⟨by omega, fun x hx => by have := h2 x hx; omega⟩
    · exact ⟨h1, h3⟩
    cases hm : meetOf (cellN n (s0 % n) (s1 % n) (x0 % n) (x1 % n) (b0 % n) (b1 % n)) (n * n).toNat
    all_goals simp only [layV, uniV, hm]
    all_goals repeat' ((conv => whnf); first | refine And.intro ?_ ?_ | with_reducible exact VC.mk rfl | exact Ok.mk | exact True.intro | refine Nx.mk ?_ | refine Fin.mk ?_ | intro _)
    all_goals all_goals ((try refine VC.mk ?_); (try simp only [CL.ncell, CL.cnt, vq] at *); (try omega))
    all_goals (first | (refine Sup.of ?_; first | rfl | (simp [*, resOf]; done)) | (refine Sup.via ?_; repeat' ((conv => whnf); first | refine And.intro ?_ ?_ | with_reducible exact VC.mk rfl | exact Ok.mk | exact True.intro | refine Nx.mk ?_ | refine Fin.mk ?_ | intro _); all_goals ((try refine VC.mk ?_); (try simp only [CL.ncell, CL.cnt, vq] at *); (try omega)); all_goals (try (simp [CL.sub]; done))))
  · unfold uniformV
    rw [if_neg hz]
    refine pspec_of (md := 1) (rf := []) mixed tabOK cpS2_ok Tryz.func37 (by rfl) (by rfl) (by rfl) ?_
    repeat' ((conv => whnf); first | refine And.intro ?_ ?_ | with_reducible exact VC.mk rfl | exact Ok.mk | exact True.intro | refine Nx.mk ?_ | refine Fin.mk ?_ | intro _)
    all_goals ((try refine VC.mk ?_); (try simp only [CL.ncell, CL.cnt, vq] at *); (try omega))
    all_goals (first | (refine Sup.of ?_; first | rfl | (simp [*, resOf]; done)) | (refine Sup.via ?_; repeat' ((conv => whnf); first | refine And.intro ?_ ?_ | with_reducible exact VC.mk rfl | exact Ok.mk | exact True.intro | refine Nx.mk ?_ | refine Fin.mk ?_ | intro _); all_goals ((try refine VC.mk ?_); (try simp only [CL.ncell, CL.cnt, vq] at *); (try omega)); all_goals (try (simp [CL.sub]; done))))
def uniformP : PSp := fun xs K => match xs with
  | [.agg [.int .i64 n, .int .i64 s0, .int .i64 s1, .int .i64 x0, .int .i64 x1, .int .i64 b0, .int .i64 b1]] => VC (True) ∧ K (uniformV n s0 s1 x0 x1 b0 b1)
  | _ => False
theorem uniform_ok : POK Tryz.prog 37 uniformP := by
  intro xs K h
  unfold uniformP at h
  split at h
  · exact ⟨_, h.2, uniform_spec _ _ _ _ _ _ _⟩
  · exact h.elim
end Go.Eng.YtppflbccfdbogaaGreat
namespace Go.Eng.YtppflbccfdbogaaGreat
open Go.Proofs
set_option maxRecDepth 100000
set_option maxHeartbeats 0
set_option linter.unusedVariables false
set_option linter.unusedSimpArgs false
theorem gAt_nonneg (c : Nat → Nat) (N : Nat) : ∀ x, ∀ v ∈ gAt c N x, 0 ≤ v := by
  intro x
  induction x with
  | zero => intro v hv; rw [gAt_zero] at hv; have := List.eq_of_mem_replicate hv; omega
  | succ x ih =>
    intro v hv
    rw [gAt_succ] at hv
    rcases List.mem_or_eq_of_mem_set hv with h | h
    · exact ih v h
    · omega
theorem gAt_getD (c : Nat → Nat) (N x i : Nat) : 0 ≤ (gAt c N x).getD i 0 := by
  rw [List.getD_eq_getElem?_getD]
  cases h : (gAt c N x)[i]? with
  | none => simp
  | some v => simpa using gAt_nonneg c N x v (List.mem_of_getElem? h)
theorem cellS_eq {n s0 s1 x0 x1 b0 b1 : Int} (hn : 1 ≤ n) (y : Nat) : rowOf n (s0 % n) (x0 % n) (b0 % n) ((y : Int) + 1) * n + rowOf n (s1 % n) (x1 % n) (b1 % n) ((y : Int) + 1) = cellS n s0 s1 x0 x1 b0 b1 y := by
  rw [← cellOf_eq]
  have := cellOf_bd n (s0 % n) (s1 % n) (x0 % n) (x1 % n) (b0 % n) (b1 % n) ((y : Int) + 1) (by omega)
  unfold cellS cellN; omega
theorem cellS_lt {n s0 s1 x0 x1 b0 b1 : Int} (hn : 1 ≤ n) (y : Nat) : cellS n s0 s1 x0 x1 b0 b1 y < (n * n).toNat := by
  have := cellOf_bd n (s0 % n) (s1 % n) (x0 % n) (x1 % n) (b0 % n) (b1 % n) ((y : Int) + 1) (by omega)
  unfold cellS cellN; omega
theorem rowS_bd {n s x b k : Int} (hn : 1 ≤ n ∧ n ≤ 16) : (0 ≤ rowOf n s x b k ∧ rowOf n s x b k < n) ∧ 0 ≤ rowOf n s x b k * n ∧ rowOf n s x b k * n ≤ 256 := by
  have h := rowOf_bd n s x b k (by omega)
  exact ⟨h, mul_bd (A := 16) (B := 16) (by omega) (by omega)⟩
def meetV (c : Nat → Nat) (N : Nat) : PV := match meetOf c N with
  | some y => .tup [.int .i64 ((gAt c N y).getD (c y) 0), .int .i64 ((y : Int) + 1)]
  | none => .tup [.int .i64 0, .int .i64 0]
/-! Place -/
def placeV (n s0 s1 x0 x1 b0 b1 k : Int) : PV := if stepErr n s0 s1 x0 x1 b0 b1 = 0 then
    (if k < 1 ∨ n * n < k then .tup [.int .i64 0, .int .i64 0, .int .i64 3] else .tup [.int .i64 (rowOf n (s0 % n) (x0 % n) (b0 % n) k), .int .i64 (rowOf n (s1 % n) (x1 % n) (b1 % n) k), .int .i64 0])
  else .tup [.int .i64 0, .int .i64 0, .int .i64 (stepErr n s0 s1 x0 x1 b0 b1)]
end Go.Eng.YtppflbccfdbogaaGreat
namespace Go.Eng.YtppflbccfdbogaaGreat
open Go.Proofs
set_option maxRecDepth 100000
set_option maxHeartbeats 0
set_option linter.unusedVariables false
set_option linter.unusedSimpArgs false
theorem all_true {p : Nat → Bool} {n : Nat} (h : ∀ i, i < n → p i = true) : (List.range n).all p = true := by simp [List.all_eq_true]; exact h
theorem all_false {p : Nat → Bool} {n i : Nat} (hi : i < n) (h : p i = false) : (List.range n).all p = false := by
  simp only [List.all_eq_false, List.mem_range]; exact ⟨i, hi, by simp [h]⟩
/-- which numbers have been seen -/
def seenAt (m : Nat) (l : List Int) (i : Nat) : List Bool := (l.take i).foldl (fun s x => s.set x.toNat true) (List.replicate m false)
theorem seenAt_succ (m : Nat) (l : List Int) (i : Nat) (h : i < l.length) : seenAt m l (i + 1) = (seenAt m l i).set (l.getD i 0).toNat true := by
  unfold seenAt
  rw [List.take_add_one, List.foldl_append]
  simp [h]
theorem seenAt_len (m : Nat) (l : List Int) (i : Nat) : (seenAt m l i).length = m := by
  unfold seenAt
  generalize l.take i = k
  suffices ∀ s : List Bool, (k.foldl (fun s x => s.set x.toNat true) s).length = s.length by rw [this]; simp
  intro s
  induction k generalizing s with
  | nil => rfl
  | cons x r ih => rw [List.foldl_cons, ih]; simp
def okAt (lo : Int) (m : Nat) (l : List Int) (i : Nat) : Bool := decide (lo ≤ l.getD i 0 ∧ l.getD i 0 < m) && !(seenAt m l i).getD (l.getD i 0).toNat false
def distinctIn (lo : Int) (m : Nat) (l : List Int) : Bool := (List.range l.length).all (okAt lo m l)
def isNorm (l : List Int) : Bool := distinctIn 1 (l.length + 1) l
def isPerm (l : List Int) : Bool := distinctIn 0 l.length l
theorem IsNormal_spec (l : List Int) (hl : l.length ≤ 2000000) : PSpec Tryz.prog 40 [.isl (.ints .i64 l) .none] (.bp (isNorm l)) := by
  refine pspec_of (md := 1) (rf := []) mixed tabOK noC_ok Tryz.func40 (by rfl) (by rfl) (by rfl) ?_
  repeat' ((conv => whnf); first | refine And.intro ?_ ?_ | with_reducible exact VC.mk rfl | exact Ok.mk | exact True.intro | refine Nx.mk ?_ | refine Fin.mk ?_ | intro _)
  all_goals ((try refine VC.mk ?_); (try simp only [CL.ncell, CL.cnt, vq] at *); (try omega))
  conv => whnf
  refine loop_of (X := Nat) (fun i => i ≤ l.length ∧ ∀ j, j < i → okAt 1 (l.length + 1) l j = true) (fun i => [(4, .int .i64 i)]) (fun i => [(0, .cells (.bools (seenAt (l.length + 1) l i)) false)]) (fun i => l.length - i) 0 ⟨anyB_ok, mixed, tabOK, noC_ok, noY_ok⟩ (by rfl) ⟨by omega, fun j h => by omega⟩ ?_ ?_
  · repeat' ((conv => whnf); first | refine And.intro ?_ ?_ | with_reducible exact VC.mk rfl | exact Ok.mk | exact True.intro | refine Nx.mk ?_ | refine Fin.mk ?_ | intro _)
    all_goals ((try refine VC.mk ?_); (try simp only [CL.ncell, CL.cnt, vq] at *); (try omega))
    all_goals simp [seenAt]
  · rintro i ⟨hi, hok⟩
    by_cases hlt : i < l.length
    · have e1 := seenAt_len (l.length + 1) l i
      have e2 := seenAt_succ (l.length + 1) l i hlt
      have hbad : okAt 1 (l.length + 1) l i = false → Sup (resOf [.bool false]) (.bp (isNorm l)) := fun h => by rw [show isNorm l = false from all_false hlt h]; all_goals (first | (refine Sup.of ?_; first | rfl | (simp [*, resOf]; done)) | (refine Sup.via ?_; repeat' ((conv => whnf); first | refine And.intro ?_ ?_ | with_reducible exact VC.mk rfl | exact Ok.mk | exact True.intro | refine Nx.mk ?_ | refine Fin.mk ?_ | intro _); all_goals ((try refine VC.mk ?_); (try simp only [CL.ncell, CL.cnt, vq] at *); (try omega)); all_goals (try (simp [CL.sub]; done))))
      repeat' ((conv => whnf); first | refine And.intro ?_ ?_ | with_reducible exact VC.mk rfl | exact Ok.mk | exact True.intro | refine Nx.mk ?_ | refine Fin.mk ?_ | intro _)
      all_goals ((try refine VC.mk ?_); (try simp only [CL.ncell, CL.cnt, vq] at *); (try omega))
      · refine hbad ?_; unfold okAt; simp_all
      · refine ⟨i + 1, [], ⟨⟨by omega, fun j hj => ?_⟩, by omega⟩, ?_⟩
        · by_cases e : j = i
          · subst e; unfold okAt; simp_all; omega
          · exact hok j (by omega)
        · repeat' ((conv => whnf); first | refine And.intro ?_ ?_ | with_reducible exact VC.mk rfl | exact Ok.mk | exact True.intro | refine Nx.mk ?_ | refine Fin.mk ?_ | intro _)
          all_goals ((try refine VC.mk ?_); (try simp only [CL.ncell, CL.cnt, vq] at *); (try omega))
          · exact e2.symm
      · refine hbad ?_; unfold okAt; simp_all; omega
      · refine hbad ?_; unfold okAt; simp_all; omega
    · have : i = l.length := by omega
      subst this
      have e : isNorm l = true := all_true hok
      rw [e]
      repeat' ((conv => whnf); first | refine And.intro ?_ ?_ | with_reducible exact VC.mk rfl | exact Ok.mk | exact True.intro | refine Nx.mk ?_ | refine Fin.mk ?_ | intro _)
      all_goals ((try refine VC.mk ?_); (try simp only [CL.ncell, CL.cnt, vq] at *); (try omega))
      all_goals (first | (refine Sup.of ?_; first | rfl | (simp [*, resOf]; done)) | (refine Sup.via ?_; repeat' ((conv => whnf); first | refine And.intro ?_ ?_ | with_reducible exact VC.mk rfl | exact Ok.mk | exact True.intro | refine Nx.mk ?_ | refine Fin.mk ?_ | intro _); all_goals ((try refine VC.mk ?_); (try simp only [CL.ncell, CL.cnt, vq] at *); (try omega)); all_goals (try (simp [CL.sub]; done))))
def IsNormalP : PSp := fun xs K => match xs with
  | [.isl (.ints .i64 l) .none] => VC (l.length ≤ 2000000) ∧ K (.bp (isNorm l))
  | _ => False
theorem IsNormal_ok : POK Tryz.prog 40 IsNormalP := by
  intro xs K h
  unfold IsNormalP at h
  split at h
  · exact ⟨_, h.2, IsNormal_spec _ h.1.get⟩
  · exact h.elim
/-! shapes -/
def sqErr (r c : Int) (l : List Int) : Int := if r ≠ c ∨ r < 1 ∨ 16 < r ∨ (l.length : Int) ≠ r * c then 2 else 0
theorem sq_mul {r c : Int} (h : r = c) (h1 : 1 ≤ r) (h2 : r ≤ 16) : 0 ≤ r * c ∧ r * c ≤ 256 := by subst h; exact mul_bd ⟨by omega, h2⟩ ⟨by omega, h2⟩
theorem CheckSquare_spec (r c : Int) (l : List Int) : PSpec Tryz.prog 71 [gridV r c l] (.int .i64 (sqErr r c l)) := by
  have hm := @sq_mul r c
  refine pspec_of (md := 1) (rf := []) mixed tabOK noC_ok Tryz.func71 (by rfl) (by rfl) (by rfl) ?_
  repeat' ((conv => whnf); first | refine And.intro ?_ ?_ | with_reducible exact VC.mk rfl | exact Ok.mk | exact True.intro | refine Nx.mk ?_ | refine Fin.mk ?_ | intro _)
  all_goals ((try refine VC.mk ?_); (try simp only [CL.ncell, CL.cnt, vq] at *); (try omega))
  all_goals (refine Sup.of ?_; simp_all [resOf, sqErr] <;> omega)
def CheckSquareP : PSp := fun xs K => match xs with
  | [.agg [.int .i64 r, .int .i64 c, .isl (.ints .i64 l) .none]] => VC (True) ∧ K (.int .i64 (sqErr r c l))
  | _ => False
theorem CheckSquare_ok : POK Tryz.prog 71 CheckSquareP := by
  intro xs K h
  unfold CheckSquareP at h
  split at h
  · exact ⟨_, h.2, CheckSquare_spec _ _ _⟩
  · exact h.elim
theorem checkSquare_spec (r c : Int) (l : List Int) : PSpec Tryz.prog 47 [gridV r c l] (.int .i64 (sqErr r c l)) := by
  have hm := @sq_mul r c
  refine pspec_of (md := 1) (rf := []) mixed tabOK cp1_ok Tryz.func47 (by rfl) (by rfl) (by rfl) ?_
  repeat' ((conv => whnf); first | refine And.intro ?_ ?_ | with_reducible exact VC.mk rfl | exact Ok.mk | exact True.intro | refine Nx.mk ?_ | refine Fin.mk ?_ | intro _)
  all_goals ((try refine VC.mk ?_); (try simp only [CL.ncell, CL.cnt, vq] at *); (try omega))
  all_goals (refine Sup.of ?_; simp_all [resOf, sqErr] <;> omega)
def checkSquareP : PSp := fun xs K => match xs with
  | [.agg [.int .i64 r, .int .i64 c, .isl (.ints .i64 l) .none]] => VC (True) ∧ K (.int .i64 (sqErr r c l))
  | _ => False
theorem checkSquare_ok : POK Tryz.prog 47 checkSquareP := by
  intro xs K h
  unfold checkSquareP at h
  split at h
  · exact ⟨_, h.2, checkSquare_spec _ _ _⟩
  · exact h.elim
theorem sqErr_zero {r c : Int} {l : List Int} (h : sqErr r c l = 0) : r = c ∧ 1 ≤ r ∧ r ≤ 16 ∧ (l.length : Int) = r * r ∧ l.length ≤ 256 := by
  unfold sqErr at h
  split at h
  · cases h
  · rename_i hh
    have h1 : r = c := by omega
    subst h1
    have := sq_mul (r := r) rfl (by omega) (by omega)
    omega
def normErr (r c : Int) (l : List Int) : Int := if sqErr r c l = 0 then (if isNorm l then 0 else 1) else sqErr r c l
noncomputable def cpN1 : CPT := cpAdd 71 (pureCC CheckSquareP) (cpAdd 40 (pureCC IsNormalP) noC)
theorem cpN1_ok : CPOK Tryz.prog cpN1 := cpAdd_ok (pureCC_ok CheckSquare_ok) (cpAdd_ok (pureCC_ok IsNormal_ok) noC_ok)
theorem CheckNormal_spec (r c : Int) (l : List Int) : PSpec Tryz.prog 41 [gridV r c l] (.int .i64 (normErr r c l)) := by
  have hz := @sqErr_zero r c l
  refine pspec_of (md := 1) (rf := []) mixed tabOK cpN1_ok Tryz.func41 (by rfl) (by rfl) (by rfl) ?_
  repeat' ((conv => whnf); first | refine And.intro ?_ ?_ | with_reducible exact VC.mk rfl | exact Ok.mk | exact True.intro | refine Nx.mk ?_ | refine Fin.mk ?_ | intro _)
  all_goals ((try refine VC.mk ?_); (try simp only [CL.ncell, CL.cnt, vq] at *); (try omega))
  all_goals (refine Sup.of ?_; simp_all [resOf, normErr] <;> omega)
def CheckNormalP : PSp := fun xs K => match xs with
  | [.agg [.int .i64 r, .int .i64 c, .isl (.ints .i64 l) .none]] => VC (True) ∧ K (.int .i64 (normErr r c l))
  | _ => False
theorem CheckNormal_ok : POK Tryz.prog 41 CheckNormalP := by
  intro xs K h
  unfold CheckNormalP at h
  split at h
  · exact ⟨_, h.2, CheckNormal_spec _ _ _⟩
  · exact h.elim
noncomputable def cpN2 : CPT := cpAdd 47 (pureCC checkSquareP) cp1
theorem cpN2_ok : CPOK Tryz.prog cpN2 := cpAdd_ok (pureCC_ok checkSquare_ok) cp1_ok
theorem checkNormal_spec (r c : Int) (l : List Int) : PSpec Tryz.prog 20 [gridV r c l] (.int .i64 (normErr r c l)) := by
  have hz := @sqErr_zero r c l
  refine pspec_of (md := 1) (rf := []) mixed tabOK cpN2_ok Tryz.func20 (by rfl) (by rfl) (by rfl) ?_
  repeat' ((conv => whnf); first | refine And.intro ?_ ?_ | with_reducible exact VC.mk rfl | exact Ok.mk | exact True.intro | refine Nx.mk ?_ | refine Fin.mk ?_ | intro _)
  all_goals ((try refine VC.mk ?_); (try simp only [CL.ncell, CL.cnt, vq] at *); (try omega))
  · all_goals (refine Sup.of ?_; simp_all [resOf, normErr] <;> omega)
  have hz := hz (by omega)
  have he : normErr r c l = if isNorm l then 0 else 1 := by unfold normErr; rw [if_pos (by omega)]
  rw [he]
  repeat' ((conv => whnf); first | refine And.intro ?_ ?_ | with_reducible exact VC.mk rfl | exact Ok.mk | exact True.intro | refine Nx.mk ?_ | refine Fin.mk ?_ | intro _)
  all_goals ((try refine VC.mk ?_); (try simp only [CL.ncell, CL.cnt, vq] at *); (try omega))
  conv => whnf
  refine loop_of (X := Nat) (fun i => i ≤ l.length ∧ ∀ j, j < i → okAt 1 (l.length + 1) l j = true) (fun i => [(20, .int .i64 i)]) (fun i => [(5, .cells (.bools (seenAt (l.length + 1) l i)) false)]) (fun i => l.length - i) 0 ⟨anyB_ok, mixed, tabOK, cpN2_ok, noY_ok⟩ (by rfl) ⟨by omega, fun j h => by omega⟩ ?_ ?_
  · repeat' ((conv => whnf); first | refine And.intro ?_ ?_ | with_reducible exact VC.mk rfl | exact Ok.mk | exact True.intro | refine Nx.mk ?_ | refine Fin.mk ?_ | intro _)
    all_goals ((try refine VC.mk ?_); (try simp only [CL.ncell, CL.cnt, vq] at *); (try omega))
    all_goals simp [seenAt]
  · rintro i ⟨hi, hok⟩
    by_cases hlt : i < l.length
    · have e1 := seenAt_len (l.length + 1) l i
      have e2 := seenAt_succ (l.length + 1) l i hlt
      have hbad : okAt 1 (l.length + 1) l i = false → Sup (resOf [.int .i64 1]) (.int .i64 (if isNorm l then 0 else 1)) := fun h => by rw [show isNorm l = false from all_false hlt h]; exact Sup.of rfl
      repeat' ((conv => whnf); first | refine And.intro ?_ ?_ | with_reducible exact VC.mk rfl | exact Ok.mk | exact True.intro | refine Nx.mk ?_ | refine Fin.mk ?_ | intro _)
      all_goals ((try refine VC.mk ?_); (try simp only [CL.ncell, CL.cnt, vq] at *); (try omega))
      · refine hbad ?_; unfold okAt; simp_all
      · refine ⟨i + 1, [], ⟨⟨by omega, fun j hj => ?_⟩, by omega⟩, ?_⟩
        · by_cases e : j = i
          · subst e; unfold okAt; simp_all; omega
          · exact hok j (by omega)
        · repeat' ((conv => whnf); first | refine And.intro ?_ ?_ | with_reducible exact VC.mk rfl | exact Ok.mk | exact True.intro | refine Nx.mk ?_ | refine Fin.mk ?_ | intro _)
          all_goals ((try refine VC.mk ?_); (try simp only [CL.ncell, CL.cnt, vq] at *); (try omega))
          · exact e2.symm
      · refine hbad ?_; unfold okAt; simp_all; omega
      · refine hbad ?_; unfold okAt; simp_all; omega
    · have : i = l.length := by omega
      subst this
      have e : isNorm l = true := all_true hok
      rw [e]
      repeat' ((conv => whnf); first | refine And.intro ?_ ?_ | with_reducible exact VC.mk rfl | exact Ok.mk | exact True.intro | refine Nx.mk ?_ | refine Fin.mk ?_ | intro _)
      all_goals ((try refine VC.mk ?_); (try simp only [CL.ncell, CL.cnt, vq] at *); (try omega))
      exact Sup.of rfl
def checkNormalP : PSp := fun xs K => match xs with
  | [.agg [.int .i64 r, .int .i64 c, .isl (.ints .i64 l) .none]] => VC (True) ∧ K (.int .i64 (normErr r c l))
  | _ => False
theorem checkNormal_ok : POK Tryz.prog 20 checkNormalP := by
  intro xs K h
  unfold checkNormalP at h
  split at h
  · exact ⟨_, h.2, checkNormal_spec _ _ _⟩
  · exact h.elim
/-! permutations -/
def permErr (l : List Int) : Int := if 256 < l.length then 5 else if isPerm l then 0 else 14
end Go.Eng.YtppflbccfdbogaaGreat
namespace Go.Eng.YtppflbccfdbogaaGreat
open Go.Proofs
set_option maxRecDepth 100000
set_option maxHeartbeats 0
set_option linter.unusedVariables false
set_option linter.unusedSimpArgs false
theorem isPerm_bd {l : List Int} (h : isPerm l = true) (i : Nat) (hi : i < l.length) : 0 ≤ l.getD i 0 ∧ l.getD i 0 < l.length := by
  unfold isPerm distinctIn at h
  rw [List.all_eq_true] at h
  have := h i (by simpa using hi)
  unfold okAt at this
  simp only [Bool.and_eq_true, decide_eq_true_eq] at this
  omega
theorem permErr_zero {l : List Int} (h : permErr l = 0) : l.length ≤ 256 ∧ isPerm l = true := by
  unfold permErr at h
  split at h
  · cases h
  · split at h
    · exact ⟨by omega, ‹_›⟩
    · cases h
def halfAt (l : List Int) (i : Nat) : Bool := decide (l.getD i 0 + l.getD (i + l.length / 2) 0 = l.length - 1)
def halvesErr (l : List Int) : Int := if permErr l = 0 then (if (List.range (l.length / 2)).all (halfAt l) then 0 else 18) else 14
end Go.Eng.YtppflbccfdbogaaGreat
namespace Go.Eng.YtppflbccfdbogaaGreat
set_option linter.unusedVariables false
set_option linter.unusedSimpArgs false
open Go.Proofs
def sumAt (cs l : List Int) (i : Nat) : Int := (l.take i).foldl (fun s c => s + cs.getD c.toNat 0) 0
theorem sumAt_succ (cs l : List Int) (i : Nat) (h : i < l.length) : sumAt cs l (i + 1) = sumAt cs l i + cs.getD (l.getD i 0).toNat 0 := by
  unfold sumAt
  rw [List.take_add_one, List.foldl_append]
  simp [h]
def sumP : PSp := fun xs K => match xs with
  | [.agg [.int .i64 n, .int .i64 m, .isl (.ints .i64 cs) .none], .isl (.ints .i64 l) .none] =>
    VC ((∀ c ∈ l, 0 ≤ c ∧ c < cs.length) ∧ l.length < 1000000 ∧ ∀ i, i ≤ l.length → -1000000 < sumAt cs l i ∧ sumAt cs l i < 1000000) ∧ K (.int .i64 (sumAt cs l l.length))
  | _ => False
theorem sum_spec (n m : Int) (cs l : List Int) (h : ∀ c ∈ l, 0 ≤ c ∧ c < cs.length) (hl : l.length < 1000000) (hb : ∀ i, i ≤ l.length → -1000000 < sumAt cs l i ∧ sumAt cs l i < 1000000) :
    PSpec Tryz.prog 56 [.agg [.int .i64 n, .int .i64 m, .isl (.ints .i64 cs) .none], .isl (.ints .i64 l) .none] (.int .i64 (sumAt cs l l.length)) := by
  refine pspec_of (md := 1) (rf := []) mixed tabOK noC_ok Tryz.func56 (by rfl) (by rfl) (by rfl) ?_
  repeat' ((conv => whnf); first | refine And.intro ?_ ?_ | with_reducible exact VC.mk rfl | exact Ok.mk | exact True.intro | refine Nx.mk ?_ | refine Fin.mk ?_ | intro _)
  conv => whnf
  refine loop_of (X := Nat) (fun i => i ≤ l.length) (fun i => [(5, .int .i64 (sumAt cs l i)), (10, .int .i64 i)]) (fun _ => []) (fun i => l.length - i) 0 ⟨anyB_ok, mixed, tabOK, noC_ok, noY_ok⟩ (by rfl) (by omega) ?_ ?_
  · repeat' ((conv => whnf); first | refine And.intro ?_ ?_ | with_reducible exact VC.mk rfl | exact Ok.mk | exact True.intro | refine Nx.mk ?_ | refine Fin.mk ?_ | intro _)
    all_goals ((try refine VC.mk ?_); (try simp only [CL.ncell, CL.cnt, vq] at *); (try omega))
  · intro i hi
    by_cases hlt : i < l.length
    · have key := h (l.getD i 0) (by simp [hlt])
      have hs := hb (i + 1) hlt
      have hs0 := hb i hi
      have e := sumAt_succ cs l i hlt
      repeat' ((conv => whnf); first | refine And.intro ?_ ?_ | with_reducible exact VC.mk rfl | exact Ok.mk | exact True.intro | refine Nx.mk ?_ | refine Fin.mk ?_ | intro _)
      all_goals ((try refine VC.mk ?_); (try simp only [CL.ncell, CL.cnt, vq] at *); (try omega))
      refine ⟨i + 1, [], ⟨by omega, by omega⟩, ?_⟩
      repeat' ((conv => whnf); first | refine And.intro ?_ ?_ | with_reducible exact VC.mk rfl | exact Ok.mk | exact True.intro | refine Nx.mk ?_ | refine Fin.mk ?_ | intro _)
      all_goals ((try refine VC.mk ?_); (try simp only [CL.ncell, CL.cnt, vq] at *); (try omega))
      all_goals rw [e]; exact Sup.of rfl
    · have : i = l.length := by omega
      subst this
      repeat' ((conv => whnf); first | refine And.intro ?_ ?_ | with_reducible exact VC.mk rfl | exact Ok.mk | exact True.intro | refine Nx.mk ?_ | refine Fin.mk ?_ | intro _)
      all_goals ((try refine VC.mk ?_); (try simp only [CL.ncell, CL.cnt, vq] at *); (try omega))
      all_goals (first | (refine Sup.of ?_; first | rfl | (simp [*, resOf]; done)) | (refine Sup.via ?_; repeat' ((conv => whnf); first | refine And.intro ?_ ?_ | with_reducible exact VC.mk rfl | exact Ok.mk | exact True.intro | refine Nx.mk ?_ | refine Fin.mk ?_ | intro _); all_goals ((try refine VC.mk ?_); (try simp only [CL.ncell, CL.cnt, vq] at *); (try omega)); all_goals (try (simp [CL.sub]; done))))
end Go.Eng.YtppflbccfdbogaaGreat
namespace Go.Eng.YtppflbccfdbogaaGreat
open Go.Proofs
set_option maxRecDepth 100000
set_option maxHeartbeats 0
set_option linter.unusedVariables false
set_option linter.unusedSimpArgs false
/-! small closures -/
theorem c119_spec (k i : Int) : PSpec Tryz.prog 88 [.int .i64 i, .ip (.pv [.int .i64 k]) 0] (.int .i64 k) := by
  refine pspec_of (md := 1) (rf := []) mixed tabOK noC_ok Tryz.func88 (by rfl) (by rfl) (by rfl) ?_
  repeat' ((conv => whnf); first | refine And.intro ?_ ?_ | with_reducible exact VC.mk rfl | exact Ok.mk | exact True.intro | refine Nx.mk ?_ | refine Fin.mk ?_ | intro _)
  all_goals (first | (refine Sup.of ?_; first | rfl | (simp [*, resOf]; done)) | (refine Sup.via ?_; repeat' ((conv => whnf); first | refine And.intro ?_ ?_ | with_reducible exact VC.mk rfl | exact Ok.mk | exact True.intro | refine Nx.mk ?_ | refine Fin.mk ?_ | intro _); all_goals ((try refine VC.mk ?_); (try simp only [CL.ncell, CL.cnt, vq] at *); (try omega)); all_goals (try (simp [CL.sub]; done))))
theorem c120_spec (i : Int) : PSpec Tryz.prog 89 [.int .i64 i] (.int .i64 i) := by
  refine pspec_of (md := 1) (rf := []) mixed tabOK noC_ok Tryz.func89 (by rfl) (by rfl) (by rfl) ?_
  repeat' ((conv => whnf); first | refine And.intro ?_ ?_ | with_reducible exact VC.mk rfl | exact Ok.mk | exact True.intro | refine Nx.mk ?_ | refine Fin.mk ?_ | intro _)
  all_goals (first | (refine Sup.of ?_; first | rfl | (simp [*, resOf]; done)) | (refine Sup.via ?_; repeat' ((conv => whnf); first | refine And.intro ?_ ?_ | with_reducible exact VC.mk rfl | exact Ok.mk | exact True.intro | refine Nx.mk ?_ | refine Fin.mk ?_ | intro _); all_goals ((try refine VC.mk ?_); (try simp only [CL.ncell, CL.cnt, vq] at *); (try omega)); all_goals (try (simp [CL.sub]; done))))
theorem c121_spec (n i : Int) (h : (0 ≤ n ∧ n ≤ 1000) ∧ 0 ≤ i ∧ i ≤ 1000) : PSpec Tryz.prog 90 [.int .i64 i, .ip (.pv [.int .i64 n]) 0] (.int .i64 (n - 1 - i)) := by
  refine pspec_of (md := 1) (rf := []) mixed tabOK noC_ok Tryz.func90 (by rfl) (by rfl) (by rfl) ?_
  repeat' ((conv => whnf); first | refine And.intro ?_ ?_ | with_reducible exact VC.mk rfl | exact Ok.mk | exact True.intro | refine Nx.mk ?_ | refine Fin.mk ?_ | intro _)
  all_goals ((try refine VC.mk ?_); (try simp only [CL.ncell, CL.cnt, vq] at *); (try omega))
  all_goals (first | (refine Sup.of ?_; first | rfl | (simp [*, resOf]; done)) | (refine Sup.via ?_; repeat' ((conv => whnf); first | refine And.intro ?_ ?_ | with_reducible exact VC.mk rfl | exact Ok.mk | exact True.intro | refine Nx.mk ?_ | refine Fin.mk ?_ | intro _); all_goals ((try refine VC.mk ?_); (try simp only [CL.ncell, CL.cnt, vq] at *); (try omega)); all_goals (try (simp [CL.sub]; done))))
theorem c122_spec (k i : Int) (h : (0 ≤ k ∧ k ≤ 1000) ∧ 0 ≤ i ∧ i ≤ 1000) : PSpec Tryz.prog 91 [.int .i64 i, .ip (.pv [.int .i64 k]) 0] (.int .i64 (i + k)) := by
  refine pspec_of (md := 1) (rf := []) mixed tabOK noC_ok Tryz.func91 (by rfl) (by rfl) (by rfl) ?_
  repeat' ((conv => whnf); first | refine And.intro ?_ ?_ | with_reducible exact VC.mk rfl | exact Ok.mk | exact True.intro | refine Nx.mk ?_ | refine Fin.mk ?_ | intro _)
  all_goals ((try refine VC.mk ?_); (try simp only [CL.ncell, CL.cnt, vq] at *); (try omega))
  all_goals (first | (refine Sup.of ?_; first | rfl | (simp [*, resOf]; done)) | (refine Sup.via ?_; repeat' ((conv => whnf); first | refine And.intro ?_ ?_ | with_reducible exact VC.mk rfl | exact Ok.mk | exact True.intro | refine Nx.mk ?_ | refine Fin.mk ?_ | intro _); all_goals ((try refine VC.mk ?_); (try simp only [CL.ncell, CL.cnt, vq] at *); (try omega)); all_goals (try (simp [CL.sub]; done))))
theorem c123_spec (k i : Int) (h : (0 ≤ k ∧ k ≤ 1000) ∧ 0 ≤ i ∧ i ≤ 1000) : PSpec Tryz.prog 92 [.int .i64 i, .ip (.pv [.int .i64 k]) 0] (.int .i64 (k - i)) := by
  refine pspec_of (md := 1) (rf := []) mixed tabOK noC_ok Tryz.func92 (by rfl) (by rfl) (by rfl) ?_
  repeat' ((conv => whnf); first | refine And.intro ?_ ?_ | with_reducible exact VC.mk rfl | exact Ok.mk | exact True.intro | refine Nx.mk ?_ | refine Fin.mk ?_ | intro _)
  all_goals ((try refine VC.mk ?_); (try simp only [CL.ncell, CL.cnt, vq] at *); (try omega))
  all_goals (first | (refine Sup.of ?_; first | rfl | (simp [*, resOf]; done)) | (refine Sup.via ?_; repeat' ((conv => whnf); first | refine And.intro ?_ ?_ | with_reducible exact VC.mk rfl | exact Ok.mk | exact True.intro | refine Nx.mk ?_ | refine Fin.mk ?_ | intro _); all_goals ((try refine VC.mk ?_); (try simp only [CL.ncell, CL.cnt, vq] at *); (try omega)); all_goals (try (simp [CL.sub]; done))))
/-! one line -/
def colL (n : Nat) (h : Nat → Int) (m : Nat) : List Int := (List.range m).map fun i => (n : Int) * i + h i % n
theorem colL_succ (n : Nat) (h : Nat → Int) (m : Nat) : colL n h (m + 1) = colL n h m ++ [(n : Int) * m + h m % n] := by
  simp [colL, List.range_succ]
def lnY (P : Program) (b : Nat) (G : GT) (go : List PV → Bool) (L : List PV) : LSp := fun xs objs K => match xs, objs with
  | [.fn (.func f) [] cs, .ip (.pv [.int .i64 n]) 0, .ip (.pv [.fv y us vs]) 0], [.ext G' pre] =>
    VC (y = .yield b ∧ us = #[] ∧ vs = #[] ∧ G' = G ∧ inlE.inlF cs = true ∧ 1 ≤ n ∧ n ≤ 16) ∧ ∃ h : Nat → Int, (∀ i : Nat, (i : Int) < n → (-1000 ≤ h i ∧ h i ≤ 1000) ∧ PSpec P f ([.int .i64 i] ++ cs) (.int .i64 (h i))) ∧
      Nxt go L pre (.isl (.ints .i64 (colL n.toNat h n.toNat)) .none) ∧ K [.bp (go (pre ++ [.isl (.ints .i64 (colL n.toNat h n.toNat)) .none]))] [.ext G (pre ++ [.isl (.ints .i64 (colL n.toNat h n.toNat)) .none])]
  | _, _ => False
theorem c118_spec {b : Nat} {G : GT} {go : List PV → Bool} {L : List PV} (hY : Yields Tryz.prog b 1 G go L) (f : Nat) (cs : List PV) (hcs : inlE.inlF cs = true) (n : Nat) (hn : 1 ≤ n ∧ n ≤ 16) (h : Nat → Int)
    (hh : ∀ i : Nat, i < n → (-1000 ≤ h i ∧ h i ≤ 1000) ∧ PSpec Tryz.prog f ([.int .i64 i] ++ cs) (.int .i64 (h i))) (pre : List PV) (hx : Nxt go L pre (.isl (.ints .i64 (colL n h n)) .none)) :
    LSpec Tryz.prog 87 [.fn (.func f) [] cs, .ip (.pv [.int .i64 (n : Int)]) 0, .ip (.pv [.fv (.yield b) #[] #[]]) 0] [.ext G pre] [.bp (go (pre ++ [.isl (.ints .i64 (colL n h n)) .none]))] [.ext G (pre ++ [.isl (.ints .i64 (colL n h n)) .none])] := by
  refine ⟨enters' Tryz.func87 (by rfl) (by rfl), lspecB_open 0 rfl (by simp) rfl hcs fun S0 w0 us vs hu hv => ?_⟩
  have hY1 : YPOK Tryz.prog none (fun S w => anyB S w ∧ fromB S0 w0 S w) (fnY f us vs fun xs K => match xs with
      | [.int .i64 i] => VC (0 ≤ i ∧ i < n) ∧ K (.int .i64 (h i.toNat))
      | _ => False) := fnY_ok (fs := []) (cs := cs) (fun S w hb => ⟨hu.mono hb.2 (.refl _), hv.mono hb.2 (.refl _)⟩) fun xs K hk => by
    split at hk
    · rename_i i
      obtain ⟨⟨h1, h2⟩, hk⟩ := hk
      have := (hh i.toNat (by omega)).2
      rw [Int.toNat_of_nonneg h1] at this
      exact ⟨_, hk, this⟩
    · exact hk.elim
  refine lspecB_of (md := 1) (rf := []) (andB_ok anyB_ok fromB_ok) mixed tabOK (cp3_ok.up _) (funY_ok hY1 (hY none _)) 1 [] Tryz.func87 (by rfl) (by rfl) ?_
  repeat' ((conv => whnf); first | refine And.intro ?_ ?_ | with_reducible exact VC.mk rfl | exact Ok.mk | exact True.intro | refine Nx.mk ?_ | refine Fin.mk ?_ | intro _)
  conv => whnf
  refine loop_of (X := Nat) (fun i => i ≤ n) (fun i => [(8, .int .i64 i), (5, .isl (.ints .i64 (colL n h i)) (.own 1))]) (fun i => [(1, .tok 1 i)]) (fun i => n - i) 0 ⟨andB_ok anyB_ok fromB_ok, mixed, tabOK, cp3_ok.up _, funY_ok hY1 (hY none _)⟩ (by rfl) (by omega) ?_ ?_
  · repeat' ((conv => whnf); first | refine And.intro ?_ ?_ | with_reducible exact VC.mk rfl | exact Ok.mk | exact True.intro | refine Nx.mk ?_ | refine Fin.mk ?_ | intro _)
    all_goals ((try refine VC.mk ?_); (try simp only [CL.ncell, CL.cnt, vq] at *); (try omega))
  · intro i hi
    by_cases hlt : i < n
    · have hb1 := (hh i hlt).1
      have hb2 : 0 ≤ (n : Int) * i ∧ (n : Int) * i ≤ 256 := ⟨Int.mul_nonneg (by omega) (by omega), by have := Int.mul_le_mul (show (n : Int) ≤ 16 by omega) (show (i : Int) ≤ 16 by omega) (by omega) (by omega); omega⟩
      have hb3 : 0 ≤ h i % n ∧ h i % n < n := ⟨Int.emod_nonneg _ (by omega), Int.emod_lt_of_pos _ (by omega)⟩
      have hl : (colL n h i).length = i := by simp [colL]
      repeat' ((conv => whnf); first | refine And.intro ?_ ?_ | with_reducible exact VC.mk rfl | exact Ok.mk | exact True.intro | refine Nx.mk ?_ | refine Fin.mk ?_ | intro _)
      all_goals ((try refine VC.mk ?_); (try simp only [CL.ncell, CL.cnt, vq] at *); (try omega))
      · simp [hl]; omega
      · refine ⟨i + 1, [], ⟨by omega, by omega⟩, ?_⟩
        repeat' ((conv => whnf); first | refine And.intro ?_ ?_ | with_reducible exact VC.mk rfl | exact Ok.mk | exact True.intro | refine Nx.mk ?_ | refine Fin.mk ?_ | intro _)
        all_goals ((try refine VC.mk ?_); (try simp only [CL.ncell, CL.cnt, vq] at *); (try omega))
        · rw [colL_succ]
    · have : i = n := by omega
      subst this
      repeat' ((conv => whnf); first | refine And.intro ?_ ?_ | with_reducible exact VC.mk rfl | exact Ok.mk | exact True.intro | refine Nx.mk ?_ | refine Fin.mk ?_ | intro _)
      all_goals ((try refine VC.mk ?_); (try simp only [CL.ncell, CL.cnt, vq] at *); (try omega))
/-! all lines -/
def rowL (n i m : Nat) : List Int := (List.range m).map fun j : Nat => (n : Int) * (i : Int) + (j : Int)
theorem rowL_succ (n i m : Nat) : rowL n i (m + 1) = rowL n i m ++ [(n : Int) * i + m] := by simp [rowL, List.range_succ]
def lineAt (n i : Nat) : List Int :=
  if i < n then rowL n i n else if i < 2 * n then colL n (fun _ => (i : Int) - n) n else if i = 2 * n then colL n (fun j => j) n else if i = 2 * n + 1 then colL n (fun j => (n : Int) - 1 - j) n
  else if i < 3 * n + 1 then colL n (fun j => (j : Int) + ((i : Int) - 2 * n - 1)) n else colL n (fun j => (i : Int) - 3 * n - 1 - j) n
theorem lineAt_row {n k : Nat} (h : k < n) : lineAt n k = rowL n k n := by simp [lineAt, h]
theorem lineAt_col {n k : Nat} (h : k < n) : lineAt n (n + k) = colL n (fun _ => (k : Int)) n := by
  have h1 : ¬ n + k < n := by omega
  have h2 : n + k < 2 * n := by omega
  have h3 : ((n + k : Nat) : Int) - n = k := by omega
  unfold lineAt; rw [if_neg h1, if_pos h2, h3]
theorem lineAt_d1 {n : Nat} : lineAt n (2 * n) = colL n (fun j => (j : Int)) n := by
  have h1 : ¬ 2 * n < n := by omega
  have h2 : ¬ 2 * n < 2 * n := by omega
  unfold lineAt; rw [if_neg h1, if_neg h2, if_pos rfl]
theorem lineAt_d2 {n : Nat} : lineAt n (2 * n + 1) = colL n (fun j => (n : Int) - 1 - j) n := by
  have h1 : ¬ 2 * n + 1 < n := by omega
  have h2 : ¬ 2 * n + 1 < 2 * n := by omega
  have h3 : ¬ 2 * n + 1 = 2 * n := by omega
  unfold lineAt; rw [if_neg h1, if_neg h2, if_neg h3, if_pos rfl]
theorem lineAt_b1 {n k : Nat} (h : k + 1 < n) : lineAt n (2 * n + 2 + k) = colL n (fun j => (j : Int) + ((k : Int) + 1)) n := by
  have h1 : ¬ 2 * n + 2 + k < n := by omega
  have h2 : ¬ 2 * n + 2 + k < 2 * n := by omega
  have h3 : ¬ 2 * n + 2 + k = 2 * n := by omega
  have h4 : ¬ 2 * n + 2 + k = 2 * n + 1 := by omega
  have h5 : 2 * n + 2 + k < 3 * n + 1 := by omega
  have h6 : ((2 * n + 2 + k : Nat) : Int) - 2 * n - 1 = k + 1 := by omega
  unfold lineAt; rw [if_neg h1, if_neg h2, if_neg h3, if_neg h4, if_pos h5, h6]
theorem lineAt_b2 {n k : Nat} (h : 1 ≤ n) : lineAt n (3 * n + 1 + k) = colL n (fun j => (k : Int) - j) n := by
  have h1 : ¬ 3 * n + 1 + k < n := by omega
  have h2 : ¬ 3 * n + 1 + k < 2 * n := by omega
  have h3 : ¬ 3 * n + 1 + k = 2 * n := by omega
  have h4 : ¬ 3 * n + 1 + k = 2 * n + 1 := by omega
  have h5 : ¬ 3 * n + 1 + k < 3 * n + 1 := by omega
  have h6 : ((3 * n + 1 + k : Nat) : Int) - 3 * n - 1 = k := by omega
  unfold lineAt; rw [if_neg h1, if_neg h2, if_neg h3, if_neg h4, if_neg h5, h6]
def lineCnt (n : Nat) (g : Int) : Nat := if g < 1 then 0 else if g < 2 then 2 * n else if g < 3 then 2 * n + 2 else 4 * n
def linesV (n : Nat) (g : Int) : List PV := (List.range (lineCnt n g)).map fun i => .isl (.ints .i64 (lineAt n i)) .none
theorem nxt_of {go : List PV → Bool} {L : List PV} {i : Nat} {x : PV} (h : L[i]? = some x) (hg : GoTo go L i) : Nxt go L (L.take i) x := ⟨i, (List.getElem?_eq_some_iff.1 h).1, rfl, h, hg⟩
theorem lnY_ok {b : Nat} {G : GT} {go : List PV → Bool} {L : List PV} (hY : Yields Tryz.prog b 1 G go L) : LOK Tryz.prog 87 (lnY Tryz.prog b G go L) := by
  intro xs objs K h
  unfold lnY at h
  split at h
  · obtain ⟨⟨rfl, rfl, rfl, rfl, h1, h2, h3⟩, hh, h4, h5, hK⟩ := h
    rename_i f cs n _ pre
    obtain ⟨m, rfl⟩ : ∃ m : Nat, n = m := ⟨n.toNat, by omega⟩
    simp only [Int.toNat_natCast] at h5 hK
    exact ⟨_, _, hK, c118_spec hY f cs h1 m (by omega) hh (fun i hi => h4 i (by omega)) pre h5⟩
  · exact h.elim
theorem c117_spec (n : Nat) (hn : 1 ≤ n ∧ n ≤ 16) (g : Int) : ISpec Tryz.prog 86 [] [.ip (.pv [.int .i64 (n : Int)]) 0, .ip (.pv [.int .i64 g]) 0] 1 (linesV n g) := by
  refine ispec_of (md := 1) (rf := []) mixed tabOK Tryz.func86 (by rfl) (by rfl) (by rfl) fun G go b hY => ⟨_, cpAdd_ok (lendCC_ok [0] (lnY_ok hY)) noC_ok, ?_⟩
  obtain ⟨L, hL⟩ : ∃ L, L = linesV n g := ⟨_, rfl⟩
  have hlen : L.length = lineCnt n g := by simp [hL, linesV]
  have hget : ∀ i, i < lineCnt n g → L[i]? = some (.isl (.ints .i64 (lineAt n i)) .none) := fun i hi => by simp [hL, linesV, hi]
  rw [← hL] at hY ⊢
  have W : Walk Tryz.prog none anyB tab.get (cpAdd 87 (lendCC [0] (lnY Tryz.prog b G go L)) noC) (yldY b 1 G go L) := ⟨anyB_ok, mixed, tabOK, cpAdd_ok (lendCC_ok [0] (lnY_ok hY)) noC_ok, hY _ _⟩
  have hmul : ∀ i : Nat, i < n → 0 ≤ (n : Int) * i ∧ (n : Int) * i ≤ 256 := fun i h => ⟨Int.mul_nonneg (by omega) (by omega), by have := Int.mul_le_mul (show (n : Int) ≤ 16 by omega) (show (i : Int) ≤ 16 by omega) (by omega) (by omega); omega⟩
  -- what comes to the iterator's end
  have stop : ∀ i, i < lineCnt n g → GoTo go L i → go (L.take i ++ [.isl (.ints .i64 (lineAt n i)) .none]) = false → L.take i ++ [.isl (.ints .i64 (lineAt n i)) .none] = runG go [] L := fun i hi hg h => by
    rw [take_succ' (hget i hi)] at h ⊢
    rw [runG_stop (by omega) hg h]
  have cont : ∀ i, i < lineCnt n g → GoTo go L i → go (L.take i ++ [.isl (.ints .i64 (lineAt n i)) .none]) = true → GoTo go L (i + 1) := fun i hi hg h => hg.succ (by rw [← take_succ' (hget i hi)]; exact h)
  have done : GoTo go L (lineCnt n g) → L.take (lineCnt n g) = runG go [] L := fun hg => by rw [runG_all (by omega) hg, ← hlen]; simp
  have hc0 : g < 1 → lineCnt n g = 0 := fun h => by simp [lineCnt, h]
  have hc1 : 1 ≤ g → 2 * n ≤ lineCnt n g := fun h => by unfold lineCnt; split <;> (try split) <;> (try split) <;> omega
  have hc1' : 1 ≤ g → g < 2 → lineCnt n g = 2 * n := fun h h' => by unfold lineCnt; split <;> (try split) <;> (try split) <;> omega
  have hc2 : 2 ≤ g → 2 * n + 2 ≤ lineCnt n g := fun h => by unfold lineCnt; split <;> (try split) <;> (try split) <;> omega
  have hc2' : 2 ≤ g → g < 3 → lineCnt n g = 2 * n + 2 := fun h h' => by unfold lineCnt; split <;> (try split) <;> (try split) <;> omega
  have hc3 : 3 ≤ g → lineCnt n g = 4 * n := fun h => by unfold lineCnt; split <;> (try split) <;> (try split) <;> omega
  conv => whnf
  refine loop_of (X := Nat) (fun k => k ≤ n ∧ (0 < k → 1 ≤ g) ∧ GoTo go L k) (fun k => [(13, .int .i64 k)]) (fun k => [(0, .ext G (L.take k))]) (fun k => n - k) 0 W (by rfl) ⟨by omega, by omega, .zero⟩ ?_ ?_
  · repeat' ((conv => whnf); first | refine And.intro ?_ ?_ | with_reducible exact VC.mk rfl | exact Ok.mk | exact True.intro | refine Nx.mk ?_ | refine Fin.mk ?_ | intro _)
    all_goals ((try refine VC.mk ?_); (try simp only [CL.ncell, CL.cnt, vq] at *); (try omega))
    all_goals simp
  · intro k hk
    obtain ⟨hk1, hk2, hk3⟩ := hk
    by_cases hlt : k < n
    · repeat' ((conv => whnf); first | refine And.intro ?_ ?_ | with_reducible exact VC.mk rfl | exact Ok.mk | exact True.intro | refine Nx.mk ?_ | refine Fin.mk ?_ | intro _)
      all_goals ((try refine VC.mk ?_); (try simp only [CL.ncell, CL.cnt, vq] at *); (try omega))
      conv => whnf
      refine loop_of (X := Nat) (fun j => j ≤ n) (fun j => [(17, .int .i64 j), (6, .isl (.ints .i64 (rowL n k j)) (.own 2))]) (fun j => [(2, .tok 1 j)]) (fun j => n - j) 0 W (by rfl) (by omega) ?_ ?_
      · repeat' ((conv => whnf); first | refine And.intro ?_ ?_ | with_reducible exact VC.mk rfl | exact Ok.mk | exact True.intro | refine Nx.mk ?_ | refine Fin.mk ?_ | intro _)
        all_goals ((try refine VC.mk ?_); (try simp only [CL.ncell, CL.cnt, vq] at *); (try omega))
      · intro j hj
        by_cases hlj : j < n
        · have hl : (rowL n k j).length = j := by simp [rowL]
          have := hmul k hlt
          repeat' ((conv => whnf); first | refine And.intro ?_ ?_ | with_reducible exact VC.mk rfl | exact Ok.mk | exact True.intro | refine Nx.mk ?_ | refine Fin.mk ?_ | intro _)
          all_goals ((try refine VC.mk ?_); (try simp only [CL.ncell, CL.cnt, vq] at *); (try omega))
          · simp [hl]; omega
          · refine ⟨j + 1, [], ⟨by omega, by omega⟩, ?_⟩
            repeat' ((conv => whnf); first | refine And.intro ?_ ?_ | with_reducible exact VC.mk rfl | exact Ok.mk | exact True.intro | refine Nx.mk ?_ | refine Fin.mk ?_ | intro _)
            all_goals ((try refine VC.mk ?_); (try simp only [CL.ncell, CL.cnt, vq] at *); (try omega))
            · rw [rowL_succ]
        · have : n = j := by omega
          subst this
          have hat : rowL n k n = lineAt n k := (lineAt_row hlt).symm
          rw [hat]
          repeat' ((conv => whnf); first | refine And.intro ?_ ?_ | with_reducible exact VC.mk rfl | exact Ok.mk | exact True.intro | refine Nx.mk ?_ | refine Fin.mk ?_ | intro _)
          all_goals ((try refine VC.mk ?_); (try simp only [CL.ncell, CL.cnt, vq] at *); (try omega))
          · exact nxt_of (hget k (by have := hc1 (by omega); omega)) hk3
          · exact stop k (by have := hc1 (by omega); omega) hk3 (by simp_all)
          · rename_i hgo _ _
            refine ⟨k + 1, [], ⟨⟨by omega, by omega, cont k (by have := hc1 (by omega); omega) hk3 (by simpa using hgo)⟩, by omega⟩, ?_⟩
            repeat' ((conv => whnf); first | refine And.intro ?_ ?_ | with_reducible exact VC.mk rfl | exact Ok.mk | exact True.intro | refine Nx.mk ?_ | refine Fin.mk ?_ | intro _)
            all_goals ((try refine VC.mk ?_); (try simp only [CL.ncell, CL.cnt, vq] at *); (try omega))
            exact take_succ' (hget k (by have := hc1 (by omega); omega))
          · have : g < 1 := by simp_all
            have : k = 0 := by omega
            subst this
            have := hc0 ‹_›
            have h0 : L = [] := List.eq_nil_of_length_eq_zero (by omega)
            rw [h0]; simp [runG]
    · have : n = k := by omega
      subst this
      have hg1 : 1 ≤ g := hk2 (by omega)
      repeat' ((conv => whnf); first | refine And.intro ?_ ?_ | with_reducible exact VC.mk rfl | exact Ok.mk | exact True.intro | refine Nx.mk ?_ | refine Fin.mk ?_ | intro _)
      all_goals ((try refine VC.mk ?_); (try simp only [CL.ncell, CL.cnt, vq] at *); (try omega))
      conv => whnf
      refine loop_of (X := Nat) (fun k => k ≤ n ∧ GoTo go L (n + k)) (fun k => [(39, .int .i64 k)]) (fun k => [(0, .ext G (L.take (n + k)))]) (fun k => n - k) 0 W (by rfl) ⟨by omega, hk3⟩ ?_ ?_
      · repeat' ((conv => whnf); first | refine And.intro ?_ ?_ | with_reducible exact VC.mk rfl | exact Ok.mk | exact True.intro | refine Nx.mk ?_ | refine Fin.mk ?_ | intro _)
        all_goals ((try refine VC.mk ?_); (try simp only [CL.ncell, CL.cnt, vq] at *); (try omega))
        all_goals simp
      · intro k hk
        obtain ⟨hk1, hk3⟩ := hk
        by_cases hlt : k < n
        · have hat : colL n (fun _ => (k : Int)) n = lineAt n (n + k) := (lineAt_col hlt).symm
          have hlt2 : n + k < lineCnt n g := by have := hc1 hg1; omega
          repeat' ((conv => whnf); first | refine And.intro ?_ ?_ | with_reducible exact VC.mk rfl | exact Ok.mk | exact True.intro | refine Nx.mk ?_ | refine Fin.mk ?_ | intro _)
          all_goals ((try refine VC.mk ?_); (try simp only [CL.ncell, CL.cnt, vq] at *); (try omega))
          · exact ⟨rfl, by omega, by omega⟩
          · refine ⟨fun _ => k, fun i hi => ⟨by dsimp only; omega, c119_spec _ _⟩, ?_, ?_⟩
            · simp only [Int.toNat_natCast, hat]
              exact nxt_of (hget _ hlt2) hk3
            · simp only [Int.toNat_natCast, hat]
              repeat' ((conv => whnf); first | refine And.intro ?_ ?_ | with_reducible exact VC.mk rfl | exact Ok.mk | exact True.intro | refine Nx.mk ?_ | refine Fin.mk ?_ | intro _)
              all_goals ((try refine VC.mk ?_); (try simp only [CL.ncell, CL.cnt, vq] at *); (try omega))
              · exact stop _ hlt2 hk3 (by simp_all)
              · refine ⟨k + 1, [], ⟨⟨by omega, cont _ hlt2 hk3 (by simpa using ‹(!go _) = false›)⟩, by omega⟩, ?_⟩
                repeat' ((conv => whnf); first | refine And.intro ?_ ?_ | with_reducible exact VC.mk rfl | exact Ok.mk | exact True.intro | refine Nx.mk ?_ | refine Fin.mk ?_ | intro _)
                all_goals ((try refine VC.mk ?_); (try simp only [CL.ncell, CL.cnt, vq] at *); (try omega))
                exact take_succ' (hget _ hlt2)
        · have : n = k := by omega
          subst this
          have e2 : n + n = 2 * n := by omega
          rw [e2] at hk3 ⊢
          have hat : colL n (fun j => (j : Int)) n = lineAt n (2 * n) := lineAt_d1.symm
          have hat2 : colL n (fun j => (n : Int) - 1 - j) n = lineAt n (2 * n + 1) := lineAt_d2.symm
          have hl1 : 2 ≤ g → 2 * n < lineCnt n g := fun h => by have := hc2 h; omega
          have hl2 : 2 ≤ g → 2 * n + 1 < lineCnt n g := fun h => by have := hc2 h; omega
          repeat' ((conv => whnf); first | refine And.intro ?_ ?_ | with_reducible exact VC.mk rfl | exact Ok.mk | exact True.intro | refine Nx.mk ?_ | refine Fin.mk ?_ | intro _)
          all_goals ((try refine VC.mk ?_); (try simp only [CL.ncell, CL.cnt, vq] at *); (try omega))
          · exact ⟨rfl, by omega, by omega⟩
          · have hg2 : 2 ≤ g := by simp_all
            refine ⟨fun j => j, fun i hi => ⟨by dsimp only; omega, c120_spec _⟩, ?_, ?_⟩
            · simp only [Int.toNat_natCast, hat]
              exact nxt_of (hget _ (hl1 hg2)) hk3
            · simp only [Int.toNat_natCast, hat]
              repeat' ((conv => whnf); first | refine And.intro ?_ ?_ | with_reducible exact VC.mk rfl | exact Ok.mk | exact True.intro | refine Nx.mk ?_ | refine Fin.mk ?_ | intro _)
              all_goals ((try refine VC.mk ?_); (try simp only [CL.ncell, CL.cnt, vq] at *); (try omega))
              · exact ⟨rfl, by omega, by omega⟩
              · have hk4 : GoTo go L (2 * n + 1) := cont _ (hl1 hg2) hk3 (by simpa using ‹(!go _) = false›)
                refine ⟨fun j => (n : Int) - 1 - j, fun i hi => ⟨by dsimp only; omega, c121_spec _ _ (by omega)⟩, ?_, ?_⟩
                · simp only [Int.toNat_natCast, hat2]
                  rw [take_succ' (hget _ (hl1 hg2))]
                  exact nxt_of (hget _ (hl2 hg2)) hk4
                · simp only [Int.toNat_natCast, hat2]
                  rw [take_succ' (hget _ (hl1 hg2))]
                  repeat' ((conv => whnf); first | refine And.intro ?_ ?_ | with_reducible exact VC.mk rfl | exact Ok.mk | exact True.intro | refine Nx.mk ?_ | refine Fin.mk ?_ | intro _)
                  all_goals ((try refine VC.mk ?_); (try simp only [CL.ncell, CL.cnt, vq] at *); (try omega))
                  · have hg3 : lineCnt n g = 2 * n + 2 := hc2' hg2 (by simp_all)
                    rw [take_succ' (hget _ (hl2 hg2)), ← done (by rw [hg3]; exact cont _ (hl2 hg2) hk4 (by simpa using ‹(!go (L.take (2 * n + 1) ++ _)) = false›)), hg3]
                  · have hg3 : lineCnt n g = 4 * n := hc3 (by omega)
                    have hk5 : GoTo go L (2 * n + 2) := cont _ (hl2 hg2) hk4 (by simpa using ‹(!go (L.take (2 * n + 1) ++ _)) = false›)
                    rw [take_succ' (hget _ (hl2 hg2))]
                    conv => whnf
                    refine loop_of (X := Nat) (fun k => k + 1 ≤ n ∧ GoTo go L (2 * n + 2 + k)) (fun k => [(9, .rp 21 0)]) (fun k => [(0, .ext G (L.take (2 * n + 2 + k))), (21, .cells (.pv [.int .i64 ((k : Int) + 1)]) false)]) (fun k => n - k) 0 W (by rfl) ⟨by omega, hk5⟩ ?_ ?_
                    · repeat' ((conv => whnf); first | refine And.intro ?_ ?_ | with_reducible exact VC.mk rfl | exact Ok.mk | exact True.intro | refine Nx.mk ?_ | refine Fin.mk ?_ | intro _)
                      all_goals ((try refine VC.mk ?_); (try simp only [CL.ncell, CL.cnt, vq] at *); (try omega))
                    · intro k hk
                      obtain ⟨hk1, hk3⟩ := hk
                      by_cases hlt : k + 1 < n
                      · have hat : colL n (fun j => (j : Int) + ((k : Int) + 1)) n = lineAt n (2 * n + 2 + k) := (lineAt_b1 hlt).symm
                        have hlt2 : 2 * n + 2 + k < lineCnt n g := by omega
                        repeat' ((conv => whnf); first | refine And.intro ?_ ?_ | with_reducible exact VC.mk rfl | exact Ok.mk | exact True.intro | refine Nx.mk ?_ | refine Fin.mk ?_ | intro _)
                        all_goals ((try refine VC.mk ?_); (try simp only [CL.ncell, CL.cnt, vq] at *); (try omega))
                        · exact ⟨rfl, by omega, by omega⟩
                        · refine ⟨fun j => (j : Int) + ((k : Int) + 1), fun i hi => ⟨by dsimp only; omega, c122_spec _ _ (by omega)⟩, ?_, ?_⟩
                          · simp only [Int.toNat_natCast, hat]
                            exact nxt_of (hget _ hlt2) hk3
                          · simp only [Int.toNat_natCast, hat]
                            repeat' ((conv => whnf); first | refine And.intro ?_ ?_ | with_reducible exact VC.mk rfl | exact Ok.mk | exact True.intro | refine Nx.mk ?_ | refine Fin.mk ?_ | intro _)
                            all_goals ((try refine VC.mk ?_); (try simp only [CL.ncell, CL.cnt, vq] at *); (try omega))
                            · exact stop _ hlt2 hk3 (by simp_all)
                            · refine ⟨k + 1, [(26, 21)], ⟨⟨by omega, cont _ hlt2 hk3 (by simpa using ‹(!go _) = false›)⟩, by omega⟩, ?_⟩
                              repeat' ((conv => whnf); first | refine And.intro ?_ ?_ | with_reducible exact VC.mk rfl | exact Ok.mk | exact True.intro | refine Nx.mk ?_ | refine Fin.mk ?_ | intro _)
                              all_goals ((try refine VC.mk ?_); (try simp only [CL.ncell, CL.cnt, vq] at *); (try omega))
                              exact take_succ' (hget _ hlt2)
                      · have hnk : 3 * n + 1 = 2 * n + 2 + k := by omega
                        have hk6 : GoTo go L (3 * n + 1) := by rw [hnk]; exact hk3
                        rw [← hnk]
                        repeat' ((conv => whnf); first | refine And.intro ?_ ?_ | with_reducible exact VC.mk rfl | exact Ok.mk | exact True.intro | refine Nx.mk ?_ | refine Fin.mk ?_ | intro _)
                        all_goals ((try refine VC.mk ?_); (try simp only [CL.ncell, CL.cnt, vq] at *); (try omega))
                        conv => whnf
                        refine loop_of (X := Nat) (fun k => k + 1 ≤ n ∧ GoTo go L (3 * n + 1 + k)) (fun k => [(76, .int .i64 k)]) (fun k => [(0, .ext G (L.take (3 * n + 1 + k)))]) (fun k => n - k) 0 W (by rfl) ⟨by omega, hk6⟩ ?_ ?_
                        · repeat' ((conv => whnf); first | refine And.intro ?_ ?_ | with_reducible exact VC.mk rfl | exact Ok.mk | exact True.intro | refine Nx.mk ?_ | refine Fin.mk ?_ | intro _)
                          all_goals ((try refine VC.mk ?_); (try simp only [CL.ncell, CL.cnt, vq] at *); (try omega))
                          all_goals simp
                        · intro k hk
                          obtain ⟨hk1, hk3⟩ := hk
                          by_cases hlt : k + 1 < n
                          · have hat : colL n (fun j => (k : Int) - j) n = lineAt n (3 * n + 1 + k) := (lineAt_b2 hn.1).symm
                            have hlt2 : 3 * n + 1 + k < lineCnt n g := by omega
                            repeat' ((conv => whnf); first | refine And.intro ?_ ?_ | with_reducible exact VC.mk rfl | exact Ok.mk | exact True.intro | refine Nx.mk ?_ | refine Fin.mk ?_ | intro _)
                            all_goals ((try refine VC.mk ?_); (try simp only [CL.ncell, CL.cnt, vq] at *); (try omega))
                            · exact ⟨rfl, by omega, by omega⟩
                            · refine ⟨fun j => (k : Int) - j, fun i hi => ⟨by dsimp only; omega, c123_spec _ _ (by omega)⟩, ?_, ?_⟩
                              · simp only [Int.toNat_natCast, hat]
                                exact nxt_of (hget _ hlt2) hk3
                              · simp only [Int.toNat_natCast, hat]
                                repeat' ((conv => whnf); first | refine And.intro ?_ ?_ | with_reducible exact VC.mk rfl | exact Ok.mk | exact True.intro | refine Nx.mk ?_ | refine Fin.mk ?_ | intro _)
                                all_goals ((try refine VC.mk ?_); (try simp only [CL.ncell, CL.cnt, vq] at *); (try omega))
                                · exact stop _ hlt2 hk3 (by simp_all)
                                · refine ⟨k + 1, [], ⟨⟨by omega, cont _ hlt2 hk3 (by simpa using ‹(!go _) = false›)⟩, by omega⟩, ?_⟩
                                  repeat' ((conv => whnf); first | refine And.intro ?_ ?_ | with_reducible exact VC.mk rfl | exact Ok.mk | exact True.intro | refine Nx.mk ?_ | refine Fin.mk ?_ | intro _)
                                  all_goals ((try refine VC.mk ?_); (try simp only [CL.ncell, CL.cnt, vq] at *); (try omega))
                                  exact take_succ' (hget _ hlt2)
                          · have he : 3 * n + 1 + k = 4 * n := by omega
                            rw [he] at hk3 ⊢
                            repeat' ((conv => whnf); first | refine And.intro ?_ ?_ | with_reducible exact VC.mk rfl | exact Ok.mk | exact True.intro | refine Nx.mk ?_ | refine Fin.mk ?_ | intro _)
                            all_goals ((try refine VC.mk ?_); (try simp only [CL.ncell, CL.cnt, vq] at *); (try omega))
                            rw [← done (by rw [hg3]; exact hk3), hg3]
                  · exact stop _ (hl2 hg2) hk4 (by simpa using ‹(!go (L.take (2 * n + 1) ++ _)) = !false›)
              · exact stop _ (hl1 hg2) hk3 (by simp_all)
          · have hg2 : g < 2 := by simp_all
            have := hc1' hg1 hg2
            rw [← done (by rw [this]; exact hk3), this]
/-- the iterator itself: a closure -/
theorem c77_spec (n g : Int) : PSpec Tryz.prog 55 [.int .i64 n, .int .i64 g] (.fn (.func 86) [] [.ip (.pv [.int .i64 n]) 0, .ip (.pv [.int .i64 g]) 0]) := by
  refine pspec_of (md := 1) (rf := []) mixed tabOK noC_ok Tryz.func55 (by rfl) (by rfl) (by rfl) ?_
  repeat' ((conv => whnf); first | refine And.intro ?_ ?_ | with_reducible exact VC.mk rfl | exact Ok.mk | exact True.intro | refine Nx.mk ?_ | refine Fin.mk ?_ | intro _)
  all_goals (first | (refine Sup.of ?_; first | rfl | (simp [*, resOf]; done)) | (refine Sup.via ?_; repeat' ((conv => whnf); first | refine And.intro ?_ ?_ | with_reducible exact VC.mk rfl | exact Ok.mk | exact True.intro | refine Nx.mk ?_ | refine Fin.mk ?_ | intro _); all_goals ((try refine VC.mk ?_); (try simp only [CL.ncell, CL.cnt, vq] at *); (try omega)); all_goals (try (simp [CL.sub]; done))))
def linesP : PSp := fun xs K => match xs with
  | [.int .i64 n, .int .i64 g] => K (.fn (.func 86) [] [.ip (.pv [.int .i64 n]) 0, .ip (.pv [.int .i64 g]) 0])
  | _ => False
theorem lines_ok : POK Tryz.prog 55 linesP := by
  intro xs K h
  unfold linesP at h
  split at h
  · exact ⟨_, h, c77_spec _ _⟩
  · exact h.elim
end Go.Eng.YtppflbccfdbogaaGreat
namespace Go.Eng.YtppflbccfdbogaaGreat
open Go.Proofs
set_option maxRecDepth 100000
set_option maxHeartbeats 0
set_option linter.unusedVariables false
set_option linter.unusedSimpArgs false
/-- the first place at which a condition holds, or -1 -/
def firstAt (p : Nat → Bool) (n : Nat) : Int := match (List.range n).find? p with
  | some i => i
  | none => -1
theorem firstAt_none {p : Nat → Bool} {n : Nat} (h : ∀ i, i < n → p i = false) : firstAt p n = -1 := by unfold firstAt; rw [find_none h]
theorem firstAt_some {p : Nat → Bool} {n y : Nat} (hy : y < n) (hp : p y = true) (h : ∀ i, i < y → p i = false) : firstAt p n = y := by unfold firstAt; rw [find_some hy hp h]
theorem firstAt_nonneg {p : Nat → Bool} {n : Nat} : decide (0 ≤ firstAt p n) = (List.range n).any p := by
  unfold firstAt
  cases h : (List.range n).find? p with
  | some i =>
    have := List.find?_some h
    have hm := List.mem_of_find?_eq_some h
    rw [List.any_eq_true.2 ⟨i, hm, this⟩]; simp
  | none =>
    rw [List.find?_eq_none] at h
    rw [List.any_eq_false.2 (fun x hx => h x hx)]; simp
theorem any_range {α : Type} (p : α → Bool) (d : α) (l : List α) : (List.range l.length).any (fun i => p (l.getD i d)) = l.any p := by
  rw [Bool.eq_iff_iff, List.any_eq_true, List.any_eq_true]
  constructor
  · rintro ⟨i, hi, h⟩
    have hi := List.mem_range.1 hi
    rw [List.getD_eq_getElem?_getD, List.getElem?_eq_getElem hi] at h
    exact ⟨l[i], List.getElem_mem hi, h⟩
  · rintro ⟨x, hx, h⟩
    obtain ⟨i, hi, rfl⟩ := List.getElem_of_mem hx
    exact ⟨i, List.mem_range.2 hi, by rw [List.getD_eq_getElem?_getD, List.getElem?_eq_getElem hi]; exact h⟩
def idxFP : PSp := fun xs K => match xs with
  | [.isl (.ints .i64 l) .none, .fn (.func f) fs cs] => VC (l.length ≤ 2000000) ∧ ∃ p : Int → Bool, (∀ x ∈ l, PSpec Tryz.prog f (fs ++ [.int .i64 x] ++ cs) (.bp (p x))) ∧ K (.int .i64 (firstAt (fun i => p (l.getD i 0)) l.length))
  | _ => False
theorem idxF_spec (l : List Int) (hl : l.length ≤ 2000000) (f : Nat) (fs cs : List PV) (p : Int → Bool) (hp : ∀ x ∈ l, PSpec Tryz.prog f (fs ++ [.int .i64 x] ++ cs) (.bp (p x))) :
    PSpec Tryz.prog 75 [.isl (.ints .i64 l) .none, .fn (.func f) fs cs] (.int .i64 (firstAt (fun i => p (l.getD i 0)) l.length)) := by
  refine pspec_open 1 (enters' Tryz.func75 (by rfl) (by rfl)) rfl (by simp) fun S0 w0 us vs hu hv => ?_
  have hY : ∀ r, YPOK Tryz.prog r (fromB S0 w0) (fnY f us vs fun xs K => match xs with
      | [.int .i64 x] => VC (x ∈ l) ∧ K (.bp (p x))
      | _ => False) := fun r => fnY_ok (fs := fs) (cs := cs) (fun S w hb => ⟨hu.mono hb (.refl _), hv.mono hb (.refl _)⟩) fun xs K hk => by
    split at hk
    · exact ⟨_, hk.2, hp _ hk.1.get⟩
    · exact hk.elim
  have W : Walk Tryz.prog none (fromB S0 w0) tab.get noC _ := ⟨fromB_ok, mixed, tabOK, noC_ok.up _, hY none⟩
  refine pspecB_of fromB_ok mixed tabOK (md := 1) (rf := []) (noC_ok.up _) (hY none) Tryz.func75 (by rfl) (by rfl) ?_
  repeat' ((conv => whnf); first | refine And.intro ?_ ?_ | with_reducible exact VC.mk rfl | exact Ok.mk | exact True.intro | refine Nx.mk ?_ | refine Fin.mk ?_ | intro _)
  all_goals ((try refine VC.mk ?_); (try simp only [CL.ncell, CL.cnt, vq] at *); (try omega))
  conv => whnf
  refine loop_of (X := Nat) (fun i => i ≤ l.length ∧ ∀ j, j < i → p (l.getD j 0) = false) (fun i => [(8, .int .i64 i)]) (fun i => []) (fun i => l.length - i) 0 W (by rfl) ⟨by omega, fun j hj => by omega⟩ ?_ ?_
  · repeat' ((conv => whnf); first | refine And.intro ?_ ?_ | with_reducible exact VC.mk rfl | exact Ok.mk | exact True.intro | refine Nx.mk ?_ | refine Fin.mk ?_ | intro _)
    all_goals ((try refine VC.mk ?_); (try simp only [CL.ncell, CL.cnt, vq] at *); (try omega))
  · rintro i ⟨hi, hok⟩
    by_cases hlt : i < l.length
    · have hm : l.getD i 0 ∈ l := by rw [List.getD_eq_getElem?_getD, List.getElem?_eq_getElem hlt]; exact List.getElem_mem hlt
      repeat' ((conv => whnf); first | refine And.intro ?_ ?_ | with_reducible exact VC.mk rfl | exact Ok.mk | exact True.intro | refine Nx.mk ?_ | refine Fin.mk ?_ | intro _)
      all_goals ((try refine VC.mk ?_); (try simp only [CL.ncell, CL.cnt, vq] at *); (try omega))
      · rw [firstAt_some hlt ‹p (l.getD i 0) = true› hok]; exact Sup.of rfl
      · refine ⟨i + 1, [], ⟨⟨by omega, fun j hj => ?_⟩, by omega⟩, ?_⟩
        · by_cases e : j = i
          · subst e; assumption
          · exact hok j (by omega)
        · repeat' ((conv => whnf); first | refine And.intro ?_ ?_ | with_reducible exact VC.mk rfl | exact Ok.mk | exact True.intro | refine Nx.mk ?_ | refine Fin.mk ?_ | intro _)
          all_goals ((try refine VC.mk ?_); (try simp only [CL.ncell, CL.cnt, vq] at *); (try omega))
    · have : i = l.length := by omega
      subst this
      rw [firstAt_none hok]
      repeat' ((conv => whnf); first | refine And.intro ?_ ?_ | with_reducible exact VC.mk rfl | exact Ok.mk | exact True.intro | refine Nx.mk ?_ | refine Fin.mk ?_ | intro _)
      all_goals ((try refine VC.mk ?_); (try simp only [CL.ncell, CL.cnt, vq] at *); (try omega))
      exact Sup.of rfl
theorem idxF_ok : POK Tryz.prog 75 idxFP := by
  intro xs K h
  unfold idxFP at h
  split at h
  · obtain ⟨⟨h1⟩, p, h2, hK⟩ := h
    exact ⟨_, hK, idxF_spec _ h1 _ _ _ p h2⟩
  · exact h.elim
def hasFP : PSp := fun xs K => match xs with
  | [.isl (.ints .i64 l) .none, .fn (.func f) fs cs] => VC (l.length ≤ 2000000 ∧ inlE.inlF fs = true ∧ inlE.inlF cs = true) ∧ ∃ p : Int → Bool, (∀ x ∈ l, PSpec Tryz.prog f (fs ++ [.int .i64 x] ++ cs) (.bp (p x))) ∧ K (.bp (l.any p))
  | _ => False
theorem hasF_spec (l : List Int) (hl : l.length ≤ 2000000) (f : Nat) (fs cs : List PV) (hfs : inlE.inlF fs = true) (hcs : inlE.inlF cs = true) (p : Int → Bool) (hp : ∀ x ∈ l, PSpec Tryz.prog f (fs ++ [.int .i64 x] ++ cs) (.bp (p x))) :
    PSpec Tryz.prog 44 [.isl (.ints .i64 l) .none, .fn (.func f) fs cs] (.bp (l.any p)) := by
  have hc : CPOK Tryz.prog (cpAdd 75 (pureCC idxFP) noC) := cpAdd_ok (pureCC_ok idxF_ok) noC_ok
  refine pspec_of (md := 1) (rf := []) mixed tabOK hc Tryz.func44 (by rfl) (by rfl) (by rfl) ?_
  repeat' ((conv => whnf); first | refine And.intro ?_ ?_ | with_reducible exact VC.mk rfl | exact Ok.mk | exact True.intro | refine Nx.mk ?_ | refine Fin.mk ?_ | intro _)
  conv => whnf
  simp only [pureCC, pureK, pureEs, pureE, inlE, hfs, hcs]
  repeat' ((conv => whnf); first | refine And.intro ?_ ?_ | with_reducible exact VC.mk rfl | exact Ok.mk | exact True.intro | refine Nx.mk ?_ | refine Fin.mk ?_ | intro _)
  all_goals ((try refine VC.mk ?_); (try simp only [CL.ncell, CL.cnt, vq] at *); (try omega))
  refine ⟨p, hp, ?_⟩
  repeat' ((conv => whnf); first | refine And.intro ?_ ?_ | with_reducible exact VC.mk rfl | exact Ok.mk | exact True.intro | refine Nx.mk ?_ | refine Fin.mk ?_ | intro _)
  all_goals ((try refine VC.mk ?_); (try simp only [CL.ncell, CL.cnt, vq] at *); (try omega))
  refine Sup.via ?_
  repeat' ((conv => whnf); first | refine And.intro ?_ ?_ | with_reducible exact VC.mk rfl | exact Ok.mk | exact True.intro | refine Nx.mk ?_ | refine Fin.mk ?_ | intro _)
  refine VC.mk ?_
  rw [firstAt_nonneg, any_range]
theorem hasF_ok : POK Tryz.prog 44 hasFP := by
  intro xs K h
  unfold hasFP at h
  split at h
  · obtain ⟨⟨h1, h3, h4⟩, p, h2, hK⟩ := h
    exact ⟨_, hK, hasF_spec _ h1 _ _ _ h3 h4 p h2⟩
  · exact h.elim
theorem idxB_spec (l : List Bool) (hl : l.length ≤ 2000000) (b : Bool) : PSpec Tryz.prog 115 [.isl (.bools l) .none, .bp b] (.int .i64 (firstAt (fun i => b == l.getD i false) l.length)) := by
  refine pspec_of (md := 1) (rf := []) mixed tabOK noC_ok Tryz.func115 (by rfl) (by rfl) (by rfl) ?_
  repeat' ((conv => whnf); first | refine And.intro ?_ ?_ | with_reducible exact VC.mk rfl | exact Ok.mk | exact True.intro | refine Nx.mk ?_ | refine Fin.mk ?_ | intro _)
  all_goals ((try refine VC.mk ?_); (try simp only [CL.ncell, CL.cnt, vq] at *); (try omega))
  conv => whnf
  refine loop_of (X := Nat) (fun i => i ≤ l.length ∧ ∀ j, j < i → (b == l.getD j false) = false) (fun i => [(8, .int .i64 i)]) (fun i => []) (fun i => l.length - i) 0 ⟨anyB_ok, mixed, tabOK, noC_ok, noY_ok⟩ (by rfl) ⟨by omega, fun j hj => by omega⟩ ?_ ?_
  · repeat' ((conv => whnf); first | refine And.intro ?_ ?_ | with_reducible exact VC.mk rfl | exact Ok.mk | exact True.intro | refine Nx.mk ?_ | refine Fin.mk ?_ | intro _)
    all_goals ((try refine VC.mk ?_); (try simp only [CL.ncell, CL.cnt, vq] at *); (try omega))
  · rintro i ⟨hi, hok⟩
    by_cases hlt : i < l.length
    · repeat' ((conv => whnf); first | refine And.intro ?_ ?_ | with_reducible exact VC.mk rfl | exact Ok.mk | exact True.intro | refine Nx.mk ?_ | refine Fin.mk ?_ | intro _)
      all_goals ((try refine VC.mk ?_); (try simp only [CL.ncell, CL.cnt, vq] at *); (try omega))
      · rw [firstAt_some hlt ‹(b == l.getD i false) = true› hok]; exact Sup.of rfl
      · refine ⟨i + 1, [], ⟨⟨by omega, fun j hj => ?_⟩, by omega⟩, ?_⟩
        · by_cases e : j = i
          · subst e; assumption
          · exact hok j (by omega)
        · repeat' ((conv => whnf); first | refine And.intro ?_ ?_ | with_reducible exact VC.mk rfl | exact Ok.mk | exact True.intro | refine Nx.mk ?_ | refine Fin.mk ?_ | intro _)
          all_goals ((try refine VC.mk ?_); (try simp only [CL.ncell, CL.cnt, vq] at *); (try omega))
    · have : i = l.length := by omega
      subst this
      rw [firstAt_none hok]
      repeat' ((conv => whnf); first | refine And.intro ?_ ?_ | with_reducible exact VC.mk rfl | exact Ok.mk | exact True.intro | refine Nx.mk ?_ | refine Fin.mk ?_ | intro _)
      all_goals ((try refine VC.mk ?_); (try simp only [CL.ncell, CL.cnt, vq] at *); (try omega))
      exact Sup.of rfl
def idxBP : PSp := fun xs K => match xs with
  | [.isl (.bools l) .none, .bp b] => VC (l.length ≤ 2000000) ∧ K (.int .i64 (firstAt (fun i => b == l.getD i false) l.length))
  | _ => False
theorem idxB_ok : POK Tryz.prog 115 idxBP := by
  intro xs K h
  unfold idxBP at h
  split at h
  · exact ⟨_, h.2, idxB_spec _ h.1.get _⟩
  · exact h.elim
theorem hasB_spec (l : List Bool) (hl : l.length ≤ 2000000) (b : Bool) : PSpec Tryz.prog 114 [.isl (.bools l) .none, .bp b] (.bp (l.any fun x => b == x)) := by
  have hc : CPOK Tryz.prog (cpAdd 115 (pureCC idxBP) noC) := cpAdd_ok (pureCC_ok idxB_ok) noC_ok
  refine pspec_of (md := 1) (rf := []) mixed tabOK hc Tryz.func114 (by rfl) (by rfl) (by rfl) ?_
  repeat' ((conv => whnf); first | refine And.intro ?_ ?_ | with_reducible exact VC.mk rfl | exact Ok.mk | exact True.intro | refine Nx.mk ?_ | refine Fin.mk ?_ | intro _)
  all_goals ((try refine VC.mk ?_); (try simp only [CL.ncell, CL.cnt, vq] at *); (try omega))
  refine Sup.via ?_
  repeat' ((conv => whnf); first | refine And.intro ?_ ?_ | with_reducible exact VC.mk rfl | exact Ok.mk | exact True.intro | refine Nx.mk ?_ | refine Fin.mk ?_ | intro _)
  refine VC.mk ?_
  rw [firstAt_nonneg, any_range (fun x => b == x)]
def hasBP : PSp := fun xs K => match xs with
  | [.isl (.bools l) .none, .bp b] => VC (l.length ≤ 2000000) ∧ K (.bp (l.any fun x => b == x))
  | _ => False
theorem hasB_ok : POK Tryz.prog 114 hasBP := by
  intro xs K h
  unfold hasBP at h
  split at h
  · exact ⟨_, h.2, hasB_spec _ h.1.get _⟩
  · exact h.elim
theorem allB_spec (l : List Bool) (hl : l.length ≤ 2000000) : PSpec Tryz.prog 110 [.isl (.bools l) .none] (.bp (l.all id)) := by
  have hc : CPOK Tryz.prog (cpAdd 114 (pureCC hasBP) noC) := cpAdd_ok (pureCC_ok hasB_ok) noC_ok
  refine pspec_of (md := 1) (rf := []) mixed tabOK hc Tryz.func110 (by rfl) (by rfl) (by rfl) ?_
  repeat' ((conv => whnf); first | refine And.intro ?_ ?_ | with_reducible exact VC.mk rfl | exact Ok.mk | exact True.intro | refine Nx.mk ?_ | refine Fin.mk ?_ | intro _)
  all_goals ((try refine VC.mk ?_); (try simp only [CL.ncell, CL.cnt, vq] at *); (try omega))
  refine Sup.via ?_
  repeat' ((conv => whnf); first | refine And.intro ?_ ?_ | with_reducible exact VC.mk rfl | exact Ok.mk | exact True.intro | refine Nx.mk ?_ | refine Fin.mk ?_ | intro _)
  refine VC.mk ?_
  induction l with
  | nil => rfl
  | cons x r ih => simp only [List.any_cons, List.all_cons, Bool.not_or]; rw [ih (by simp at hl; omega)]; cases x <;> rfl
def allBP : PSp := fun xs K => match xs with
  | [.isl (.bools l) .none] => VC (l.length ≤ 2000000) ∧ K (.bp (l.all id))
  | _ => False
theorem allB_ok : POK Tryz.prog 110 allBP := by
  intro xs K h
  unfold allBP at h
  split at h
  · exact ⟨_, h.2, allB_spec _ h.1.get⟩
  · exact h.elim
end Go.Eng.YtppflbccfdbogaaGreat
namespace Go.Eng.YtppflbccfdbogaaGreat
open Go.Proofs
set_option maxRecDepth 100000
set_option maxHeartbeats 0
set_option linter.unusedVariables false
set_option linter.unusedSimpArgs false
abbrev ruleV (n s0 s1 x0 x1 b0 b1 : Int) : PV := .agg [.int .i64 n, .int .i64 s0, .int .i64 s1, .int .i64 x0, .int .i64 x1, .int .i64 b0, .int .i64 b1]
def coprime (n a : Int) : Bool := decide (Int.gcd (a % n) n = 1)
/-- 'prime''s closure -/
theorem c157_spec (n s0 s1 x0 x1 b0 b1 a : Int) (hn : 0 < n ∧ n ≤ 1000000) (ha : -4611686018427387904 ≤ a ∧ a ≤ 4611686018427387904) :
    PSpec Tryz.prog 112 [.int .i64 a, .ip (.pv [.int .i64 n, .int .i64 s0, .int .i64 s1, .int .i64 x0, .int .i64 x1, .int .i64 b0, .int .i64 b1]) 0] (.bp (!coprime n a)) := by
  have hc : CPOK Tryz.prog (cpAdd 113 (pureCC cgcdP) noC) := cpAdd_ok (pureCC_ok cgcd_ok) noC_ok
  refine pspec_of (md := 1) (rf := []) mixed tabOK hc Tryz.func112 (by rfl) (by rfl) (by rfl) ?_
  repeat' ((conv => whnf); first | refine And.intro ?_ ?_ | with_reducible exact VC.mk rfl | exact Ok.mk | exact True.intro | refine Nx.mk ?_ | refine Fin.mk ?_ | intro _)
  all_goals ((try refine VC.mk ?_); (try simp only [CL.ncell, CL.cnt, vq] at *); (try omega))
  refine Sup.via ?_
  repeat' ((conv => whnf); first | refine And.intro ?_ ?_ | with_reducible exact VC.mk rfl | exact Ok.mk | exact True.intro | refine Nx.mk ?_ | refine Fin.mk ?_ | intro _)
  refine VC.mk ?_
  unfold coprime
  rw [← decide_not]
  congr 1
  simp; omega
theorem primeL_spec (n s0 s1 x0 x1 b0 b1 : Int) (l : List Int) (hn : 0 < n ∧ n ≤ 1000000) (hl : l.length ≤ 2000000) (h : ∀ a ∈ l, -4611686018427387904 ≤ a ∧ a ≤ 4611686018427387904) :
    PSpec Tryz.prog 107 [ruleV n s0 s1 x0 x1 b0 b1, .isl (.ints .i64 l) .none] (.bp (l.all (coprime n))) := by
  have hc : CPOK Tryz.prog (cpAdd 44 (pureCC hasFP) noC) := cpAdd_ok (pureCC_ok hasF_ok) noC_ok
  refine pspec_of (md := 1) (rf := []) mixed tabOK hc Tryz.func107 (by rfl) (by rfl) (by rfl) ?_
  repeat' ((conv => whnf); first | refine And.intro ?_ ?_ | with_reducible exact VC.mk rfl | exact Ok.mk | exact True.intro | refine Nx.mk ?_ | refine Fin.mk ?_ | intro _)
  all_goals ((try refine VC.mk ?_); (try simp only [CL.ncell, CL.cnt, vq] at *); (try omega))
  · exact ⟨hl, rfl, rfl⟩
  refine ⟨fun a => !coprime n a, fun a ha => c157_spec n s0 s1 x0 x1 b0 b1 a hn (h a ha), ?_⟩
  repeat' ((conv => whnf); first | refine And.intro ?_ ?_ | with_reducible exact VC.mk rfl | exact Ok.mk | exact True.intro | refine Nx.mk ?_ | refine Fin.mk ?_ | intro _)
  all_goals ((try refine VC.mk ?_); (try simp only [CL.ncell, CL.cnt, vq] at *); (try omega))
  refine Sup.via ?_
  repeat' ((conv => whnf); first | refine And.intro ?_ ?_ | with_reducible exact VC.mk rfl | exact Ok.mk | exact True.intro | refine Nx.mk ?_ | refine Fin.mk ?_ | intro _)
  refine VC.mk ?_
  rw [List.not_any_eq_all_not]; simp
def primeLP : PSp := fun xs K => match xs with
  | [.agg [.int .i64 n, .int .i64 s0, .int .i64 s1, .int .i64 x0, .int .i64 x1, .int .i64 b0, .int .i64 b1], .isl (.ints .i64 l) .none] => VC ((0 < n ∧ n ≤ 1000000) ∧ l.length ≤ 2000000 ∧ ∀ a ∈ l, -4611686018427387904 ≤ a ∧ a ≤ 4611686018427387904) ∧ K (.bp (l.all (coprime n)))
  | _ => False
theorem primeL_ok : POK Tryz.prog 107 primeLP := by
  intro xs K h
  unfold primeLP at h
  split at h
  · exact ⟨_, h.2, primeL_spec _ _ _ _ _ _ _ _ h.1.get.1 h.1.get.2.1 h.1.get.2.2⟩
  · exact h.elim
noncomputable def cpK1 : CPT := cpAdd 107 (pureCC primeLP) noC
theorem cpK1_ok : CPOK Tryz.prog cpK1 := cpAdd_ok (pureCC_ok primeL_ok) noC_ok
def isSq (n x0 x1 b0 b1 : Int) : Bool := coprime n (x0 * b1 - x1 * b0)
def isSemi (n x0 x1 b0 b1 : Int) : Bool := isSq n x0 x1 b0 b1 && [x0, x1, b0, b1].all (coprime n)
def isPan (n x0 x1 b0 b1 : Int) : Bool := isSemi n x0 x1 b0 b1 && [x0 - x1, x0 + x1, b0 - b1, b0 + b1].all (coprime n)
theorem square_spec (n s0 s1 x0 x1 b0 b1 : Int) (hn : 1 ≤ n ∧ n ≤ 16) (h : ∀ x ∈ [s0, s1, x0, x1, b0, b1], 0 ≤ x ∧ x < n) : PSpec Tryz.prog 103 [ruleV n s0 s1 x0 x1 b0 b1] (.bp (isSq n x0 x1 b0 b1)) := by
  simp only [List.mem_cons, List.not_mem_nil, or_false, forall_eq_or_imp, forall_eq] at h
  obtain ⟨h1, h2, h3, h4, h5, h6⟩ := h
  have m1 := mul_bd (A := 16) (B := 16) (show 0 ≤ x0 ∧ x0 ≤ 16 by omega) (show 0 ≤ b1 ∧ b1 ≤ 16 by omega)
  have m2 := mul_bd (A := 16) (B := 16) (show 0 ≤ x1 ∧ x1 ≤ 16 by omega) (show 0 ≤ b0 ∧ b0 ≤ 16 by omega)
  refine pspec_of (md := 1) (rf := []) mixed tabOK cpK1_ok Tryz.func103 (by rfl) (by rfl) (by rfl) ?_
  repeat' ((conv => whnf); first | refine And.intro ?_ ?_ | with_reducible exact VC.mk rfl | exact Ok.mk | exact True.intro | refine Nx.mk ?_ | refine Fin.mk ?_ | intro _)
  all_goals ((try refine VC.mk ?_); (try simp only [CL.ncell, CL.cnt, vq] at *); (try omega))
  · refine ⟨by omega, by omega, fun a ha => ?_⟩
    simp only [List.mem_cons, List.not_mem_nil, or_false] at ha
    subst ha; omega
  refine Sup.via ?_
  repeat' ((conv => whnf); first | refine And.intro ?_ ?_ | with_reducible exact VC.mk rfl | exact Ok.mk | exact True.intro | refine Nx.mk ?_ | refine Fin.mk ?_ | intro _)
  refine VC.mk ?_
  simp [isSq]
def squareP : PSp := fun xs K => match xs with
  | [.agg [.int .i64 n, .int .i64 s0, .int .i64 s1, .int .i64 x0, .int .i64 x1, .int .i64 b0, .int .i64 b1]] => VC ((1 ≤ n ∧ n ≤ 16) ∧ ∀ x ∈ [s0, s1, x0, x1, b0, b1], 0 ≤ x ∧ x < n) ∧ K (.bp (isSq n x0 x1 b0 b1))
  | _ => False
theorem square_ok : POK Tryz.prog 103 squareP := by
  intro xs K h
  unfold squareP at h
  split at h
  · exact ⟨_, h.2, square_spec _ _ _ _ _ _ _ h.1.get.1 h.1.get.2⟩
  · exact h.elim
noncomputable def cpK2 : CPT := cpAdd 103 (pureCC squareP) cpK1
theorem cpK2_ok : CPOK Tryz.prog cpK2 := cpAdd_ok (pureCC_ok square_ok) cpK1_ok
theorem semi_spec (n s0 s1 x0 x1 b0 b1 : Int) (hn : 1 ≤ n ∧ n ≤ 16) (h : ∀ x ∈ [s0, s1, x0, x1, b0, b1], 0 ≤ x ∧ x < n) : PSpec Tryz.prog 104 [ruleV n s0 s1 x0 x1 b0 b1] (.bp (isSemi n x0 x1 b0 b1)) := by
  have h' : ∀ a ∈ [x0, x1, b0, b1], -4611686018427387904 ≤ a ∧ a ≤ 4611686018427387904 := fun a ha => by
    have := h a (by simp only [List.mem_cons] at ha ⊢; exact .inr (.inr ha)); omega
  refine pspec_of (md := 1) (rf := []) mixed tabOK cpK2_ok Tryz.func104 (by rfl) (by rfl) (by rfl) ?_
  repeat' ((conv => whnf); first | refine And.intro ?_ ?_ | with_reducible exact VC.mk rfl | exact Ok.mk | exact True.intro | refine Nx.mk ?_ | refine Fin.mk ?_ | intro _)
  all_goals ((try refine VC.mk ?_); (try simp only [CL.ncell, CL.cnt, vq] at *); (try omega))
  · exact ⟨hn, h⟩
  · exact ⟨by omega, by omega, h'⟩
  all_goals refine Sup.via ?_
  all_goals repeat' ((conv => whnf); first | refine And.intro ?_ ?_ | with_reducible exact VC.mk rfl | exact Ok.mk | exact True.intro | refine Nx.mk ?_ | refine Fin.mk ?_ | intro _)
  all_goals refine VC.mk ?_
  all_goals simp_all [isSemi]
def semiP : PSp := fun xs K => match xs with
  | [.agg [.int .i64 n, .int .i64 s0, .int .i64 s1, .int .i64 x0, .int .i64 x1, .int .i64 b0, .int .i64 b1]] => VC ((1 ≤ n ∧ n ≤ 16) ∧ ∀ x ∈ [s0, s1, x0, x1, b0, b1], 0 ≤ x ∧ x < n) ∧ K (.bp (isSemi n x0 x1 b0 b1))
  | _ => False
theorem semi_ok : POK Tryz.prog 104 semiP := by
  intro xs K h
  unfold semiP at h
  split at h
  · exact ⟨_, h.2, semi_spec _ _ _ _ _ _ _ h.1.get.1 h.1.get.2⟩
  · exact h.elim
noncomputable def cpK3 : CPT := cpAdd 104 (pureCC semiP) cpK1
theorem cpK3_ok : CPOK Tryz.prog cpK3 := cpAdd_ok (pureCC_ok semi_ok) cpK1_ok
theorem pan_spec (n s0 s1 x0 x1 b0 b1 : Int) (hn : 1 ≤ n ∧ n ≤ 16) (h : ∀ x ∈ [s0, s1, x0, x1, b0, b1], 0 ≤ x ∧ x < n) : PSpec Tryz.prog 106 [ruleV n s0 s1 x0 x1 b0 b1] (.bp (isPan n x0 x1 b0 b1)) := by
  have hh := h
  simp only [List.mem_cons, List.not_mem_nil, or_false, forall_eq_or_imp, forall_eq] at h
  obtain ⟨h1, h2, h3, h4, h5, h6⟩ := h
  have h' : ∀ a ∈ [x0 - x1, x0 + x1, b0 - b1, b0 + b1], -4611686018427387904 ≤ a ∧ a ≤ 4611686018427387904 := fun a ha => by
    simp only [List.mem_cons, List.not_mem_nil, or_false] at ha
    rcases ha with rfl | rfl | rfl | rfl <;> omega
  refine pspec_of (md := 1) (rf := []) mixed tabOK cpK3_ok Tryz.func106 (by rfl) (by rfl) (by rfl) ?_
  repeat' ((conv => whnf); first | refine And.intro ?_ ?_ | with_reducible exact VC.mk rfl | exact Ok.mk | exact True.intro | refine Nx.mk ?_ | refine Fin.mk ?_ | intro _)
  all_goals ((try refine VC.mk ?_); (try simp only [CL.ncell, CL.cnt, vq] at *); (try omega))
  · exact ⟨hn, hh⟩
  · exact ⟨by omega, by omega, h'⟩
  all_goals refine Sup.via ?_
  all_goals repeat' ((conv => whnf); first | refine And.intro ?_ ?_ | with_reducible exact VC.mk rfl | exact Ok.mk | exact True.intro | refine Nx.mk ?_ | refine Fin.mk ?_ | intro _)
  all_goals refine VC.mk ?_
  all_goals simp_all [isPan]
def panP : PSp := fun xs K => match xs with
  | [.agg [.int .i64 n, .int .i64 s0, .int .i64 s1, .int .i64 x0, .int .i64 x1, .int .i64 b0, .int .i64 b1]] => VC ((1 ≤ n ∧ n ≤ 16) ∧ ∀ x ∈ [s0, s1, x0, x1, b0, b1], 0 ≤ x ∧ x < n) ∧ K (.bp (isPan n x0 x1 b0 b1))
  | _ => False
theorem pan_ok : POK Tryz.prog 106 panP := by
  intro xs K h
  unfold panP at h
  split at h
  · exact ⟨_, h.2, pan_spec _ _ _ _ _ _ _ h.1.get.1 h.1.get.2⟩
  · exact h.elim
end Go.Eng.YtppflbccfdbogaaGreat
namespace Go.Eng.YtppflbccfdbogaaGreat
open Go.Proofs
set_option maxRecDepth 100000
set_option maxHeartbeats 0
set_option linter.unusedVariables false
set_option linter.unusedSimpArgs false
theorem c151_spec (n s0 s1 x0 x1 b0 b1 r q i : Int) (l : List Int) (hn : 1 ≤ n ∧ n ≤ 16) (hi : 0 ≤ i ∧ i < n) (hl : (l.length : Int) = n * n) :
    PSpec Tryz.prog 108 [.int .i64 i, .ip (.pv [.int .i64 r, .int .i64 q, .isl (.ints .i64 l) .none]) 0, .ip (.pv [.int .i64 n, .int .i64 s0, .int .i64 s1, .int .i64 x0, .int .i64 x1, .int .i64 b0, .int .i64 b1]) 0] (.int .i64 (l.getD (n * i + i).toNat 0)) := by
  have h1 := mul_bd (A := 16) (B := 16) (show 0 ≤ n ∧ n ≤ 16 by omega) (show 0 ≤ i ∧ i ≤ 16 by omega)
  have h2 : n * i + n ≤ n * n := by
    have := Int.mul_le_mul_of_nonneg_left (show i + 1 ≤ n by omega) (show 0 ≤ n by omega)
    rw [Int.mul_add] at this; omega
  refine pspec_of (md := 1) (rf := []) mixed tabOK noC_ok Tryz.func108 (by rfl) (by rfl) (by rfl) ?_
  repeat' ((conv => whnf); first | refine And.intro ?_ ?_ | with_reducible exact VC.mk rfl | exact Ok.mk | exact True.intro | refine Nx.mk ?_ | refine Fin.mk ?_ | intro _)
  all_goals ((try refine VC.mk ?_); (try simp only [CL.ncell, CL.cnt, vq] at *); (try omega))
  all_goals (first | (refine Sup.of ?_; first | rfl | (simp [*, resOf]; done)) | (refine Sup.via ?_; repeat' ((conv => whnf); first | refine And.intro ?_ ?_ | with_reducible exact VC.mk rfl | exact Ok.mk | exact True.intro | refine Nx.mk ?_ | refine Fin.mk ?_ | intro _); all_goals ((try refine VC.mk ?_); (try simp only [CL.ncell, CL.cnt, vq] at *); (try omega)); all_goals (try (simp [CL.sub]; done))))
theorem c152_spec (n s0 s1 x0 x1 b0 b1 r q i : Int) (l : List Int) (hn : 1 ≤ n ∧ n ≤ 16) (hi : 0 ≤ i ∧ i < n) (hl : (l.length : Int) = n * n) :
    PSpec Tryz.prog 109 [.int .i64 i, .ip (.pv [.int .i64 r, .int .i64 q, .isl (.ints .i64 l) .none]) 0, .ip (.pv [.int .i64 n, .int .i64 s0, .int .i64 s1, .int .i64 x0, .int .i64 x1, .int .i64 b0, .int .i64 b1]) 0] (.int .i64 (l.getD (n * i + n - 1 - i).toNat 0)) := by
  have h1 := mul_bd (A := 16) (B := 16) (show 0 ≤ n ∧ n ≤ 16 by omega) (show 0 ≤ i ∧ i ≤ 16 by omega)
  have h2 : n * i + n ≤ n * n := by
    have := Int.mul_le_mul_of_nonneg_left (show i + 1 ≤ n by omega) (show 0 ≤ n by omega)
    rw [Int.mul_add] at this; omega
  refine pspec_of (md := 1) (rf := []) mixed tabOK noC_ok Tryz.func109 (by rfl) (by rfl) (by rfl) ?_
  repeat' ((conv => whnf); first | refine And.intro ?_ ?_ | with_reducible exact VC.mk rfl | exact Ok.mk | exact True.intro | refine Nx.mk ?_ | refine Fin.mk ?_ | intro _)
  all_goals ((try refine VC.mk ?_); (try simp only [CL.ncell, CL.cnt, vq] at *); (try omega))
  all_goals (first | (refine Sup.of ?_; first | rfl | (simp [*, resOf]; done)) | (refine Sup.via ?_; repeat' ((conv => whnf); first | refine And.intro ?_ ?_ | with_reducible exact VC.mk rfl | exact Ok.mk | exact True.intro | refine Nx.mk ?_ | refine Fin.mk ?_ | intro _); all_goals ((try refine VC.mk ?_); (try simp only [CL.ncell, CL.cnt, vq] at *); (try omega)); all_goals (try (simp [CL.sub]; done))))
def gcdN (n a : Int) : Int := (Int.gcd (a % n) n : Int)
theorem gcdN_bd {n a : Int} (hn : 1 ≤ n ∧ n ≤ 16) : 1 ≤ gcdN n a ∧ gcdN n a ≤ 16 := by
  unfold gcdN
  have h1 : 0 < Int.gcd (a % n) n := Int.gcd_pos_of_ne_zero_right _ (by omega)
  have h2 : (Int.gcd (a % n) n : Int) ∣ n := Int.gcd_dvd_right ..
  have := Int.le_of_dvd (by omega) h2
  omega
def balAt (n : Int) (d e : Int) (h : Nat → Int) (i : Nat) : Bool := decide ((h i - 1) % n % d = (d - 1) / 2) && decide ((h i - 1) / n % e = (e - 1) / 2)
def balB (n : Int) (h : Nat → Int) (u v : Int) : Bool := !decide (gcdN n v % 2 = 0) && !decide (gcdN n u % 2 = 0) && (List.range n.toNat).all (balAt n (gcdN n v) (gcdN n u) h)
def balP : PSp := fun xs K => match xs with
  | [.agg [.int .i64 n, .int .i64 s0, .int .i64 s1, .int .i64 x0, .int .i64 x1, .int .i64 b0, .int .i64 b1], .fn (.func f) fs cs, .int .i64 u, .int .i64 v] =>
    VC ((1 ≤ n ∧ n ≤ 16) ∧ (-1000 ≤ u ∧ u ≤ 1000) ∧ -1000 ≤ v ∧ v ≤ 1000) ∧ ∃ h : Nat → Int, (∀ i : Nat, (i : Int) < n → (1 ≤ h i ∧ h i ≤ 1000) ∧ PSpec Tryz.prog f (fs ++ [.int .i64 i] ++ cs) (.int .i64 (h i))) ∧ K (.bp (balB n h u v))
  | _ => False
theorem bal_spec (n s0 s1 x0 x1 b0 b1 u v : Int) (hn : 1 ≤ n ∧ n ≤ 16) (hu' : -1000 ≤ u ∧ u ≤ 1000) (hv' : -1000 ≤ v ∧ v ≤ 1000) (f : Nat) (fs cs : List PV) (h : Nat → Int)
    (hh : ∀ i : Nat, (i : Int) < n → (1 ≤ h i ∧ h i ≤ 1000) ∧ PSpec Tryz.prog f (fs ++ [.int .i64 i] ++ cs) (.int .i64 (h i))) :
    PSpec Tryz.prog 111 [ruleV n s0 s1 x0 x1 b0 b1, .fn (.func f) fs cs, .int .i64 u, .int .i64 v] (.bp (balB n h u v)) := by
  refine pspec_open 1 (enters' Tryz.func111 (by rfl) (by rfl)) rfl (by simp) fun S0 w0 us vs hu hv => ?_
  have hY : ∀ r, YPOK Tryz.prog r (fromB S0 w0) (fnY f us vs fun xs K => match xs with
      | [.int .i64 i] => VC (0 ≤ i ∧ i < n) ∧ K (.int .i64 (h i.toNat))
      | _ => False) := fun r => fnY_ok (fs := fs) (cs := cs) (fun S w hb => ⟨hu.mono hb (.refl _), hv.mono hb (.refl _)⟩) fun xs K hk => by
    split at hk
    · rename_i i
      obtain ⟨⟨h1, h2⟩, hk⟩ := hk
      have := (hh i.toNat (by omega)).2
      rw [Int.toNat_of_nonneg h1] at this
      exact ⟨_, hk, this⟩
    · exact hk.elim
  have hC : CPOKB Tryz.prog (fromB S0 w0) (cpAdd 113 (pureCC cgcdP) noC) := CPOK.up (cpAdd_ok (pureCC_ok cgcd_ok) noC_ok) _
  have W : Walk Tryz.prog none (fromB S0 w0) tab.get _ _ := ⟨fromB_ok, mixed, tabOK, hC, hY none⟩
  obtain ⟨m, rfl⟩ : ∃ m : Nat, n = m := ⟨n.toNat, by omega⟩
  have d1 := gcdN_bd (n := (m : Int)) (a := v) hn
  have d2 := gcdN_bd (n := (m : Int)) (a := u) hn
  unfold balB gcdN
  unfold gcdN at d1 d2
  refine pspecB_of fromB_ok mixed tabOK (md := 0) (rf := []) hC (hY none) Tryz.func111 (by rfl) (by rfl) ?_
  repeat' ((conv => whnf); first | refine And.intro ?_ ?_ | with_reducible exact VC.mk rfl | exact Ok.mk | exact True.intro | refine Nx.mk ?_ | refine Fin.mk ?_ | intro _)
  all_goals ((try refine VC.mk ?_); (try simp only [CL.ncell, CL.cnt, vq] at *); (try omega))
  · rw [show (decide ((Int.gcd (u % m) m : Int) % 2 = 0)) = true from by simpa using ‹(Int.gcd (u % m) m : Int) % 2 = 0›]; simp; exact Sup.via ⟨⟨rfl⟩, trivial⟩
  · generalize (Int.gcd (v % m) m : Int) = d at *
    generalize (Int.gcd (u % m) m : Int) = e at *
    rw [show decide (d % 2 = 0) = false from by simpa using ‹¬ d % 2 = 0›, show decide (e % 2 = 0) = false from by simpa using ‹¬ e % 2 = 0›]
    simp only [Bool.not_false, Bool.true_and, Int.toNat_natCast]
    conv => whnf
    refine loop_of (X := Nat) (fun i => i ≤ m ∧ ∀ j, j < i → balAt m d e h j = true) (fun i => [(32, .int .i64 i)]) (fun i => []) (fun i => m - i) 0 W (by rfl) ⟨by omega, fun j hj => by omega⟩ ?_ ?_
    · repeat' ((conv => whnf); first | refine And.intro ?_ ?_ | with_reducible exact VC.mk rfl | exact Ok.mk | exact True.intro | refine Nx.mk ?_ | refine Fin.mk ?_ | intro _)
      all_goals ((try refine VC.mk ?_); (try simp only [CL.ncell, CL.cnt, vq] at *); (try omega))
    · rintro i ⟨hi, hok⟩
      by_cases hlt : i < m
      · have b1 := (hh i (by omega)).1
        have b2 : 0 ≤ (h i - 1) % m ∧ (h i - 1) % m < m := ⟨Int.emod_nonneg _ (by omega), Int.emod_lt_of_pos _ (by omega)⟩
        have b3 : 0 ≤ (h i - 1) / m ∧ (h i - 1) / m ≤ 1000 := ⟨Int.ediv_nonneg (by omega) (by omega), by have := Int.ediv_le_self (a := h i - 1) m (by omega); omega⟩
        have hbad : balAt m d e h i = false → Sup (resOf [.bool false]) (.bp ((List.range m).all (balAt m d e h))) := fun hf => by rw [all_false hlt hf]; all_goals (first | (refine Sup.of ?_; first | rfl | (simp [*, resOf]; done)) | (refine Sup.via ?_; repeat' ((conv => whnf); first | refine And.intro ?_ ?_ | with_reducible exact VC.mk rfl | exact Ok.mk | exact True.intro | refine Nx.mk ?_ | refine Fin.mk ?_ | intro _); all_goals ((try refine VC.mk ?_); (try simp only [CL.ncell, CL.cnt, vq] at *); (try omega)); all_goals (try (simp [CL.sub]; done))))
        repeat' ((conv => whnf); first | refine And.intro ?_ ?_ | with_reducible exact VC.mk rfl | exact Ok.mk | exact True.intro | refine Nx.mk ?_ | refine Fin.mk ?_ | intro _)
        all_goals ((try refine VC.mk ?_); (try simp only [CL.ncell, CL.cnt, vq] at *); (try omega))
        · refine hbad ?_; unfold balAt; simp_all
        · refine ⟨i + 1, [], ⟨⟨by omega, fun j hj => ?_⟩, by omega⟩, ?_⟩
          · by_cases e : j = i
            · subst e; unfold balAt; simp_all
            · exact hok j (by omega)
          · repeat' ((conv => whnf); first | refine And.intro ?_ ?_ | with_reducible exact VC.mk rfl | exact Ok.mk | exact True.intro | refine Nx.mk ?_ | refine Fin.mk ?_ | intro _)
            all_goals ((try refine VC.mk ?_); (try simp only [CL.ncell, CL.cnt, vq] at *); (try omega))
        · refine hbad ?_; unfold balAt; simp_all
      · have : m = i := by omega
        subst this
        rw [all_true hok]
        repeat' ((conv => whnf); first | refine And.intro ?_ ?_ | with_reducible exact VC.mk rfl | exact Ok.mk | exact True.intro | refine Nx.mk ?_ | refine Fin.mk ?_ | intro _)
        all_goals ((try refine VC.mk ?_); (try simp only [CL.ncell, CL.cnt, vq] at *); (try omega))
        all_goals (first | (refine Sup.of ?_; first | rfl | (simp [*, resOf]; done)) | (refine Sup.via ?_; repeat' ((conv => whnf); first | refine And.intro ?_ ?_ | with_reducible exact VC.mk rfl | exact Ok.mk | exact True.intro | refine Nx.mk ?_ | refine Fin.mk ?_ | intro _); all_goals ((try refine VC.mk ?_); (try simp only [CL.ncell, CL.cnt, vq] at *); (try omega)); all_goals (try (simp [CL.sub]; done))))
  · rw [show (decide ((Int.gcd (v % m) m : Int) % 2 = 0)) = true from by simpa using ‹(Int.gcd (v % m) m : Int) % 2 = 0›]; simp; exact Sup.via ⟨⟨rfl⟩, trivial⟩
theorem bal_ok : POK Tryz.prog 111 balP := by
  intro xs K h
  unfold balP at h
  split at h
  · obtain ⟨⟨h1, h2, h3⟩, hh, h4, hK⟩ := h
    exact ⟨_, hK, bal_spec _ _ _ _ _ _ _ _ _ h1 h2 h3 _ _ _ hh h4⟩
  · exact h.elim
end Go.Eng.YtppflbccfdbogaaGreat
namespace Go.Eng.YtppflbccfdbogaaGreat
set_option linter.unusedSimpArgs false
open Go.Proofs
set_option linter.unusedVariables false
/-- what is free of earlier numbers -/
theorem gAt_free (c : Nat → Nat) (N : Nat) : ∀ (x i : Nat), (∀ j, j < x → c j ≠ i) → (gAt c N x).getD i 0 = 0 := by
  intro x
  induction x with
  | zero =>
    intro i _
    rw [gAt_zero, List.getD_eq_getElem?_getD, List.getElem?_replicate]
    split <;> rfl
  | succ x ih =>
    intro i h
    rw [gAt_succ, List.getD_eq_getElem?_getD, List.getElem?_set_ne (h x (by omega)), ← List.getD_eq_getElem?_getD]
    exact ih i fun j hj => h j (by omega)
theorem meetOf_none {c : Nat → Nat} {N : Nat} (h : ∀ i j, i < j → j < N → c i ≠ c j) : meetOf c N = none := by
  refine find_none fun y hy => ?_
  unfold meetAt
  rw [gAt_free c N y (c y) fun j hj => h j y hj hy]
  simp
theorem dvd_of_coprime {n a b : Int} (h : Int.gcd (b % n) n = 1) (hd : n ∣ a * b) : n ∣ a := by
  have h1 : n ∣ a * (b % n) := by
    obtain ⟨k, hk⟩ := hd
    have := Int.emod_add_mul_ediv b n
    exact ⟨k - a * (b / n), by grind⟩
  have h2 := Int.natAbs_dvd_natAbs.2 h1
  rw [Int.natAbs_mul] at h2
  exact Int.natAbs_dvd_natAbs.1 (Nat.Coprime.dvd_of_dvd_mul_right (Nat.Coprime.symm h) h2)
theorem emod_eq_dvd {n a b : Int} (h : a % n = b % n) : n ∣ a - b := by
  rw [Int.dvd_iff_emod_eq_zero]; exact Int.emod_eq_emod_iff_emod_sub_eq_zero.1 h
theorem small_dvd {n a : Int} (hn : 0 < n) (h : n ∣ a) (h1 : -n < a) (h2 : a < n) : a = 0 := by
  obtain ⟨k, rfl⟩ := h
  have : k = 0 := by
    rcases Int.lt_trichotomy k 0 with hk | hk | hk
    · have := Int.mul_le_mul_of_nonneg_left (show k ≤ -1 by omega) (show 0 ≤ n by omega); omega
    · exact hk
    · have := Int.mul_le_mul_of_nonneg_left (show 1 ≤ k by omega) (show 0 ≤ n by omega); omega
  rw [this]; simp
theorem cell_inj {n s0 s1 x0 x1 b0 b1 : Int} (hn : 1 ≤ n) (hs : isSq n x0 x1 b0 b1 = true) (i j : Nat) (hi : (i : Int) < n * n) (hj : (j : Int) < n * n)
    (h : cellN n s0 s1 x0 x1 b0 b1 i = cellN n s0 s1 x0 x1 b0 b1 j) : i = j := by
  have hd : Int.gcd ((x0 * b1 - x1 * b0) % n) n = 1 := by
    unfold isSq coprime at hs
    exact of_decide_eq_true hs
  have ci := cellOf_bd n s0 s1 x0 x1 b0 b1 ((i : Int) + 1) (by omega)
  have cj := cellOf_bd n s0 s1 x0 x1 b0 b1 ((j : Int) + 1) (by omega)
  have he : cellOf n s0 s1 x0 x1 b0 b1 ((i : Int) + 1) = cellOf n s0 s1 x0 x1 b0 b1 ((j : Int) + 1) := by unfold cellN at h; omega
  rw [cellOf_eq, cellOf_eq] at he
  have r1 := rowOf_bd n s0 x0 b0 ((i : Int) + 1) (by omega)
  have r2 := rowOf_bd n s0 x0 b0 ((j : Int) + 1) (by omega)
  have q1 := rowOf_bd n s1 x1 b1 ((i : Int) + 1) (by omega)
  have q2 := rowOf_bd n s1 x1 b1 ((j : Int) + 1) (by omega)
  have er : rowOf n s0 x0 b0 ((i : Int) + 1) = rowOf n s0 x0 b0 ((j : Int) + 1) := by
    have := small_dvd (n := n) (a := rowOf n s1 x1 b1 ((j : Int) + 1) - rowOf n s1 x1 b1 ((i : Int) + 1)) (by omega) ⟨rowOf n s0 x0 b0 ((i : Int) + 1) - rowOf n s0 x0 b0 ((j : Int) + 1), by rw [Int.mul_sub, Int.mul_comm n, Int.mul_comm n]; omega⟩ (by omega) (by omega)
    have h0 : (rowOf n s0 x0 b0 ((i : Int) + 1) - rowOf n s0 x0 b0 ((j : Int) + 1)) * n = 0 := by rw [Int.sub_mul]; omega
    rcases Int.mul_eq_zero.1 h0 with h0 | h0 <;> omega
  have eq : rowOf n s1 x1 b1 ((i : Int) + 1) = rowOf n s1 x1 b1 ((j : Int) + 1) := by rw [er] at he; omega
  unfold rowOf at er eq
  simp only [Int.add_sub_cancel] at er eq
  have d1 := emod_eq_dvd er
  have d2 := emod_eq_dvd eq
  obtain ⟨a, ha⟩ : ∃ a, a = (i : Int) % n := ⟨_, rfl⟩
  obtain ⟨b, hb⟩ : ∃ b, b = (i : Int) / n := ⟨_, rfl⟩
  obtain ⟨a', ha'⟩ : ∃ a, a = (j : Int) % n := ⟨_, rfl⟩
  obtain ⟨b', hb'⟩ : ∃ b, b = (j : Int) / n := ⟨_, rfl⟩
  rw [← ha, ← hb, ← ha', ← hb'] at d1 d2
  have e1 : n ∣ (a - a') * (x0 * b1 - x1 * b0) := by
    obtain ⟨k1, h1⟩ := d1
    obtain ⟨k2, h2⟩ := d2
    exact ⟨k1 * b1 - k2 * b0, by grind⟩
  have e2 : n ∣ (b - b') * (x0 * b1 - x1 * b0) := by
    obtain ⟨k1, h1⟩ := d1
    obtain ⟨k2, h2⟩ := d2
    exact ⟨k2 * x0 - k1 * x1, by grind⟩
  have f1 := small_dvd (by omega) (dvd_of_coprime hd e1) (by have := Int.emod_nonneg (i : Int) (show n ≠ 0 by omega); have := Int.emod_lt_of_pos (j : Int) (show 0 < n by omega); omega) (by have := Int.emod_nonneg (j : Int) (show n ≠ 0 by omega); have := Int.emod_lt_of_pos (i : Int) (show 0 < n by omega); omega)
  have hbi : 0 ≤ b ∧ b < n := ⟨by rw [hb]; exact Int.ediv_nonneg (by omega) (by omega), by rw [hb]; exact Int.ediv_lt_of_lt_mul (by omega) hi⟩
  have hbj : 0 ≤ b' ∧ b' < n := ⟨by rw [hb']; exact Int.ediv_nonneg (by omega) (by omega), by rw [hb']; exact Int.ediv_lt_of_lt_mul (by omega) hj⟩
  have f2 := small_dvd (by omega) (dvd_of_coprime hd e2) (by omega) (by omega)
  have g1 := Int.emod_add_mul_ediv (i : Int) n
  have g2 := Int.emod_add_mul_ediv (j : Int) n
  rw [← ha, ← hb] at g1
  rw [← ha', ← hb'] at g2
  have : b = b' := by omega
  rw [this] at g1
  omega
theorem pigeon : ∀ (N : Nat) (c : Nat → Nat), (∀ i, i < N + 1 → c i < N) → ∃ i j, i < j ∧ j < N + 1 ∧ c i = c j := by
  intro N
  induction N with
  | zero => intro c h; have := h 0 (by omega); omega
  | succ N ih =>
    intro c h
    by_cases hv : ∃ i, i < N + 1 ∧ c i = c (N + 1)
    · obtain ⟨i, h1, h2⟩ := hv; exact ⟨i, N + 1, by omega, by omega, h2⟩
    · have hne : ∀ i, i < N + 1 → c i ≠ c (N + 1) := fun i hi e => hv ⟨i, hi, e⟩
      have hl := h (N + 1) (by omega)
      obtain ⟨i, j, h1, h2, h3⟩ := ih (fun i => if c i = N then c (N + 1) else c i) (fun i hi => by
        have a := h i (by omega)
        have b := hne i hi
        by_cases e : c i = N
        · simp only [e, if_true]; omega
        · simp only [e, if_false]; omega)
      refine ⟨i, j, h1, by omega, ?_⟩
      have a := hne i (by omega)
      have b := hne j (by omega)
      by_cases e1 : c i = N
      · by_cases e2 : c j = N
        · omega
        · simp only [e1, e2, if_true, if_false] at h3; omega
      · by_cases e2 : c j = N
        · simp only [e1, e2, if_true, if_false] at h3; omega
        · simp only [e1, e2, if_false] at h3; exact h3
theorem inj_surj {c : Nat → Nat} {N : Nat} (hb : ∀ i, i < N → c i < N) (h : ∀ i j, i < j → j < N → c i ≠ c j) (y : Nat) (hy : y < N) : ∃ i, i < N ∧ c i = y := by
  rcases Classical.em (∃ i, i < N ∧ c i = y) with hh | hh
  · exact hh
  · exfalso
    have hne : ∀ i, i < N → c i ≠ y := fun i hi e => hh ⟨i, hi, e⟩
    obtain ⟨M, rfl⟩ : ∃ M, N = M + 1 := ⟨N - 1, by omega⟩
    obtain ⟨i, j, h1, h2, h3⟩ := pigeon M (fun i => if c i = M then y else c i) (fun i hi => by
      have a := hb i hi
      have b := hne i hi
      by_cases e : c i = M
      · simp only [e, if_true]; omega
      · simp only [e, if_false]; omega)
    have a := hne i (by omega)
    have b := hne j (by omega)
    have d := h i j h1 h2
    by_cases e1 : c i = M
    · by_cases e2 : c j = M
      · omega
      · simp only [e1, e2, if_true, if_false] at h3; omega
    · by_cases e2 : c j = M
      · simp only [e1, e2, if_true, if_false] at h3; omega
      · simp only [e1, e2, if_false] at h3; omega
theorem gAt_at {c : Nat → Nat} {N : Nat} (hb : ∀ i, i < N → c i < N) (h : ∀ i j, i < j → j < N → c i ≠ c j) : ∀ (x i : Nat), i < x → x ≤ N → (gAt c N x).getD (c i) 0 = (i : Int) + 1 := by
  intro x
  induction x with
  | zero => intro i hi; omega
  | succ x ih =>
    intro i hi hx
    rw [gAt_succ, List.getD_eq_getElem?_getD]
    by_cases e : i = x
    · subst e
      rw [List.getElem?_set_self (by rw [gAt_len]; exact hb i (by omega))]; rfl
    · rw [List.getElem?_set_ne (Ne.symm (h i x (by omega) (by omega))), ← List.getD_eq_getElem?_getD]
      exact ih i (by omega) (by omega)
/-- where no two numbers meet, each cell has one -/
theorem gAt_full {c : Nat → Nat} {N : Nat} (hb : ∀ i, i < N → c i < N) (h : ∀ i j, i < j → j < N → c i ≠ c j) (y : Nat) (hy : y < N) : ∃ i, i < N ∧ c i = y ∧ (gAt c N N).getD y 0 = (i : Int) + 1 := by
  obtain ⟨i, h1, h2⟩ := inj_surj hb h y hy
  exact ⟨i, h1, h2, by rw [← h2]; exact gAt_at hb h N i h1 (Nat.le_refl _)⟩
theorem meetOf_inj {c : Nat → Nat} {N : Nat} (hb : ∀ i, i < N → c i < N) (h : meetOf c N = none) : ∀ i j, i < j → j < N → c i ≠ c j := by
  have hm : ∀ y, y < N → (gAt c N y).getD (c y) 0 = 0 := fun y hy => by
    unfold meetOf at h
    rw [List.find?_eq_none] at h
    have := h y (List.mem_range.2 hy)
    unfold meetAt at this
    simpa using this
  -- of the numbers laid so far, each lies where it was laid
  have key : ∀ x, x ≤ N → ∀ i, i < x → (gAt c N x).getD (c i) 0 = (i : Int) + 1 := by
    intro x
    induction x with
    | zero => intro _ i hi; omega
    | succ x ih =>
      intro hx i hi
      rw [gAt_succ, List.getD_eq_getElem?_getD]
      by_cases e : c i = c x
      · by_cases e' : i = x
        · subst e'; rw [List.getElem?_set_self (by rw [gAt_len]; exact hb i (by omega))]; rfl
        · have h1 := ih (by omega) i (by omega)
          have h2 := hm x (by omega)
          rw [← e, h1] at h2; omega
      · have e' : i ≠ x := fun h => e (by rw [h])
        rw [List.getElem?_set_ne (Ne.symm e), ← List.getD_eq_getElem?_getD]
        exact ih (by omega) i (by omega)
  intro i j hij hj e
  have h1 := key j (by omega) i hij
  have h2 := hm j hj
  rw [← e, h1] at h2; omega
theorem cellN_lt {n s0 s1 x0 x1 b0 b1 : Int} (hn : 1 ≤ n) (y : Nat) : cellN n s0 s1 x0 x1 b0 b1 y < (n * n).toNat := by
  have := cellOf_bd n s0 s1 x0 x1 b0 b1 ((y : Int) + 1) (by omega)
  unfold cellN; omega
theorem meet_none {n s0 s1 x0 x1 b0 b1 : Int} (hn : 1 ≤ n) (hs : isSq n x0 x1 b0 b1 = true) : meetOf (cellN n s0 s1 x0 x1 b0 b1) (n * n).toNat = none :=
  meetOf_none fun i j hij hj h => by
    have := cell_inj hn hs i j (by omega) (by omega) h
    omega
end Go.Eng.YtppflbccfdbogaaGreat
namespace Go.Eng.YtppflbccfdbogaaGreat
open Go.Proofs
set_option maxRecDepth 100000
set_option maxHeartbeats 0
set_option linter.unusedVariables false
set_option linter.unusedSimpArgs false
abbrev diagI (n : Int) (i : Nat) : Int := n * i + i
def mainAt (n : Int) (l : List Int) (i : Nat) : Int := l.getD (n * i + i).toNat 0
def antiAt (n : Int) (l : List Int) (i : Nat) : Int := l.getD (n * i + n - 1 - i).toNat 0
def sqL (n s0 s1 x0 x1 b0 b1 : Int) : List Int := gAt (cellN n s0 s1 x0 x1 b0 b1) (n * n).toNat (n * n).toNat
def isMag (n s0 s1 x0 x1 b0 b1 : Int) : Bool := isSemi n x0 x1 b0 b1 && (balB n (mainAt n (sqL n s0 s1 x0 x1 b0 b1)) (x0 - x1) (b0 - b1) && balB n (antiAt n (sqL n s0 s1 x0 x1 b0 b1)) (x0 + x1) (b0 + b1))
noncomputable def cpG : CPT := cpAdd 104 (pureCC semiP) (cpAdd 54 (pureCC layP) (cpAdd 111 (pureCC balP) (cpAdd 110 (pureCC allBP) noC)))
theorem cpG_ok : CPOK Tryz.prog cpG := cpAdd_ok (pureCC_ok semi_ok) (cpAdd_ok (pureCC_ok lay_ok) (cpAdd_ok (pureCC_ok bal_ok) (cpAdd_ok (pureCC_ok allB_ok) noC_ok)))
theorem mag_spec (n s0 s1 x0 x1 b0 b1 : Int) (hn : 1 ≤ n ∧ n ≤ 16) (h : ∀ x ∈ [s0, s1, x0, x1, b0, b1], 0 ≤ x ∧ x < n) : PSpec Tryz.prog 105 [ruleV n s0 s1 x0 x1 b0 b1] (.bp (isMag n s0 s1 x0 x1 b0 b1)) := by
  have hh := h
  simp only [List.mem_cons, List.not_mem_nil, or_false, forall_eq_or_imp, forall_eq] at h
  obtain ⟨h1, h2, h3, h4, h5, h6⟩ := h
  cases hs : isSemi n x0 x1 b0 b1 with
  | false =>
    unfold isMag
    rw [hs]
    refine pspec_of (md := 1) (rf := []) mixed tabOK cpG_ok Tryz.func105 (by rfl) (by rfl) (by rfl) ?_
    repeat' ((conv => whnf); first | refine And.intro ?_ ?_ | with_reducible exact VC.mk rfl | exact Ok.mk | exact True.intro | refine Nx.mk ?_ | refine Fin.mk ?_ | intro _)
    all_goals ((try refine VC.mk ?_); (try simp only [CL.ncell, CL.cnt, vq] at *); (try omega))
    · exact ⟨hn, hh⟩
    · simp only [Bool.false_and]; all_goals (first | (refine Sup.of ?_; first | rfl | (simp [*, resOf]; done)) | (refine Sup.via ?_; repeat' ((conv => whnf); first | refine And.intro ?_ ?_ | with_reducible exact VC.mk rfl | exact Ok.mk | exact True.intro | refine Nx.mk ?_ | refine Fin.mk ?_ | intro _); all_goals ((try refine VC.mk ?_); (try simp only [CL.ncell, CL.cnt, vq] at *); (try omega)); all_goals (try (simp [CL.sub]; done))))
    · exact ⟨hn, hh⟩
    · exfalso; simp_all
  | true =>
    have hsq : isSq n x0 x1 b0 b1 = true := by unfold isSemi at hs; simp at hs; exact hs.1
    have hm := meet_none (s0 := s0) (s1 := s1) hn.1 hsq
    obtain ⟨l, hl⟩ : ∃ l, l = sqL n s0 s1 x0 x1 b0 b1 := ⟨_, rfl⟩
    have hnn := mul_bd (show 0 ≤ n ∧ n ≤ 16 by omega) (show 0 ≤ n ∧ n ≤ 16 by omega)
    have hlen : (l.length : Int) = n * n := by rw [hl]; unfold sqL; rw [gAt_len]; omega
    have hval : ∀ k : Int, 0 ≤ k → k < n * n → 1 ≤ l.getD k.toNat 0 ∧ l.getD k.toNat 0 ≤ 1000 := fun k h1 h2 => by
      obtain ⟨i, q1, q2, q3⟩ := gAt_full (fun i _ => cellN_lt (s0 := s0) (s1 := s1) (x0 := x0) (x1 := x1) (b0 := b0) (b1 := b1) hn.1 i) (meetOf_inj (fun i _ => cellN_lt hn.1 i) hm) k.toNat (by omega)
      rw [hl]; unfold sqL; rw [q3]; omega
    have hidx : ∀ i : Nat, (i : Int) < n → (0 ≤ n * i ∧ n * i + n ≤ n * n) := fun i hi => by
      have := Int.mul_le_mul_of_nonneg_left (show (i : Int) + 1 ≤ n by omega) (show 0 ≤ n by omega)
      rw [Int.mul_add] at this
      exact ⟨Int.mul_nonneg (by omega) (by omega), by omega⟩
    unfold isMag
    rw [hs, ← hl]
    refine pspec_of (md := 1) (rf := []) mixed tabOK cpG_ok Tryz.func105 (by rfl) (by rfl) (by rfl) ?_
    repeat' ((conv => whnf); first | refine And.intro ?_ ?_ | with_reducible exact VC.mk rfl | exact Ok.mk | exact True.intro | refine Nx.mk ?_ | refine Fin.mk ?_ | intro _)
    all_goals ((try refine VC.mk ?_); (try simp only [CL.ncell, CL.cnt, vq] at *); (try omega))
    · exact ⟨hn, hh⟩
    · exfalso; simp_all
    · exact ⟨hn, hh⟩
    · simp only [layV, hm]
      rw [show gAt (cellN n s0 s1 x0 x1 b0 b1) (n * n).toNat (n * n).toNat = l from hl.symm]
      repeat' ((conv => whnf); first | refine And.intro ?_ ?_ | with_reducible exact VC.mk rfl | exact Ok.mk | exact True.intro | refine Nx.mk ?_ | refine Fin.mk ?_ | intro _)
      all_goals ((try refine VC.mk ?_); (try simp only [CL.ncell, CL.cnt, vq] at *); (try omega))
      refine ⟨mainAt n l, fun i hi => ⟨hval _ (by have := hidx i hi; omega) (by have := hidx i hi; omega), c151_spec n s0 s1 x0 x1 b0 b1 n n i l hn (by omega) hlen⟩, ?_⟩
      repeat' ((conv => whnf); first | refine And.intro ?_ ?_ | with_reducible exact VC.mk rfl | exact Ok.mk | exact True.intro | refine Nx.mk ?_ | refine Fin.mk ?_ | intro _)
      all_goals ((try refine VC.mk ?_); (try simp only [CL.ncell, CL.cnt, vq] at *); (try omega))
      refine ⟨antiAt n l, fun i hi => ⟨hval _ (by have := hidx i hi; omega) (by have := hidx i hi; omega), c152_spec n s0 s1 x0 x1 b0 b1 n n i l hn (by omega) hlen⟩, ?_⟩
      repeat' ((conv => whnf); first | refine And.intro ?_ ?_ | with_reducible exact VC.mk rfl | exact Ok.mk | exact True.intro | refine Nx.mk ?_ | refine Fin.mk ?_ | intro _)
      all_goals ((try refine VC.mk ?_); (try simp only [CL.ncell, CL.cnt, vq] at *); (try omega))
      refine Sup.via ?_
      repeat' ((conv => whnf); first | refine And.intro ?_ ?_ | with_reducible exact VC.mk rfl | exact Ok.mk | exact True.intro | refine Nx.mk ?_ | refine Fin.mk ?_ | intro _)
      refine VC.mk ?_
      simp
def magP : PSp := fun xs K => match xs with
  | [.agg [.int .i64 n, .int .i64 s0, .int .i64 s1, .int .i64 x0, .int .i64 x1, .int .i64 b0, .int .i64 b1]] => VC ((1 ≤ n ∧ n ≤ 16) ∧ ∀ x ∈ [s0, s1, x0, x1, b0, b1], 0 ≤ x ∧ x < n) ∧ K (.bp (isMag n s0 s1 x0 x1 b0 b1))
  | _ => False
theorem mag_ok : POK Tryz.prog 105 magP := by
  intro xs K h
  unfold magP at h
  split at h
  · exact ⟨_, h.2, mag_spec _ _ _ _ _ _ _ h.1.get.1 h.1.get.2⟩
  · exact h.elim
/-! the table of kinds -/
abbrev kSq : ByteArray := ⟨#[115, 113, 117, 97, 114, 101]⟩
abbrev kSemi : ByteArray := ⟨#[115, 101, 109, 105, 109, 97, 103, 105, 99]⟩
abbrev kMag : ByteArray := ⟨#[109, 97, 103, 105, 99]⟩
abbrev kPan : ByteArray := ⟨#[112, 97, 110, 100, 105, 97, 103, 111, 110, 97, 108]⟩
def kindsL : LSp := fun xs objs K => match xs, objs with
  | [], [] => K [.rm 0] [.map [(.str kSq, .agg [.fn (.func 103) [] [], .int .i64 0]), (.str kSemi, .agg [.fn (.func 104) [] [], .int .i64 1]), (.str kMag, .agg [.fn (.func 105) [] [], .int .i64 2]), (.str kPan, .agg [.fn (.func 106) [] [], .int .i64 3])]]
  | _, _ => False
theorem kinds_spec : LSpec Tryz.prog 84 [] [] [.rm 0] [.map [(.str kSq, .agg [.fn (.func 103) [] [], .int .i64 0]), (.str kSemi, .agg [.fn (.func 104) [] [], .int .i64 1]), (.str kMag, .agg [.fn (.func 105) [] [], .int .i64 2]), (.str kPan, .agg [.fn (.func 106) [] [], .int .i64 3])]] := by
  refine lspec_of (md := 1) (rf := []) mixed tabOK noC_ok 0 [] Tryz.func84 (by rfl) (by rfl) (by rfl) ?_
  repeat' ((conv => whnf); first | refine And.intro ?_ ?_ | with_reducible exact VC.mk rfl | exact Ok.mk | exact True.intro | refine Nx.mk ?_ | refine Fin.mk ?_ | intro _)
  all_goals exact absurd ‹_› (by decide)
theorem kinds_ok : LOK Tryz.prog 84 kindsL := by
  intro xs objs K h
  unfold kindsL at h
  split at h
  · exact ⟨_, _, h, kinds_spec⟩
  · exact h.elim
/-! known -/
abbrev stepV (n s0 s1 x0 x1 b0 b1 : Int) : PV := .agg [.int .i64 n, .int .i64 s0, .int .i64 s1, .int .i64 x0, .int .i64 x1, .int .i64 b0, .int .i64 b1]
abbrev knownE (e : Int) : PV := .tup [ruleV 0 0 0 0 0 0 0, .agg [.nilf, .int .i64 0], .int .i64 e]
abbrev knownK (n s0 s1 x0 x1 b0 b1 : Int) (f : Nat) (g : Int) : PV := .tup [ruleV n (s0 % n) (s1 % n) (x0 % n) (x1 % n) (b0 % n) (b1 % n), .agg [.fn (.func f) [] [], .int .i64 g], .int .i64 0]
def noKind (s : ByteArray) : Prop := s ≠ kSq ∧ s ≠ kSemi ∧ s ≠ kMag ∧ s ≠ kPan
noncomputable def cpN : CPT := cpAdd 84 (lendCC [] kindsL) (cpAdd 70 (pureCC checkStepP) (cpAdd 61 (pureCC reducedP) cp2))
theorem cpN_ok : CPOK Tryz.prog cpN := cpAdd_ok (lendCC_ok [] kinds_ok) (cpAdd_ok (pureCC_ok checkStep_ok) (cpAdd_ok (pureCC_ok reduced_ok) cp2_ok))
theorem known_err (n s0 s1 x0 x1 b0 b1 : Int) (s : ByteArray) (h : stepErr n s0 s1 x0 x1 b0 b1 ≠ 0) : PSpec Tryz.prog 53 [stepV n s0 s1 x0 x1 b0 b1, .str s] (knownE (stepErr n s0 s1 x0 x1 b0 b1)) := by
  refine pspec_of (md := 1) (rf := []) mixed tabOK cpN_ok Tryz.func53 (by rfl) (by rfl) (by rfl) ?_
  repeat' ((conv => whnf); first | refine And.intro ?_ ?_ | with_reducible exact VC.mk rfl | exact Ok.mk | exact True.intro | refine Nx.mk ?_ | refine Fin.mk ?_ | intro _)
  all_goals ((try refine VC.mk ?_); (try simp only [CL.ncell, CL.cnt, vq] at *); (try omega))
  all_goals first | (exfalso; simp_all [firstOf]; done) | (refine Sup.of ?_; simp_all [resOf, firstOf, knownE, ruleV]; done)
theorem known_none (n s0 s1 x0 x1 b0 b1 : Int) (s : ByteArray) (h : stepErr n s0 s1 x0 x1 b0 b1 = 0) (hs : noKind s) : PSpec Tryz.prog 53 [stepV n s0 s1 x0 x1 b0 b1, .str s] (knownE 13) := by
  obtain ⟨k1, k2, k3, k4⟩ := hs
  refine pspec_of (md := 1) (rf := []) mixed tabOK cpN_ok Tryz.func53 (by rfl) (by rfl) (by rfl) ?_
  repeat' ((conv => whnf); first | refine And.intro ?_ ?_ | with_reducible exact VC.mk rfl | exact Ok.mk | exact True.intro | refine Nx.mk ?_ | refine Fin.mk ?_ | intro _)
  all_goals ((try refine VC.mk ?_); (try simp only [CL.ncell, CL.cnt, vq] at *); (try omega))
  all_goals first | (exfalso; contradiction) | (exfalso; simp_all [firstOf]; done) | (refine Sup.of ?_; simp_all [resOf, firstOf, knownE, ruleV]; done)
theorem known_sq (n s0 s1 x0 x1 b0 b1 : Int) (h : stepErr n s0 s1 x0 x1 b0 b1 = 0) : PSpec Tryz.prog 53 [stepV n s0 s1 x0 x1 b0 b1, .str kSq] (knownK n s0 s1 x0 x1 b0 b1 103 0) := by
  obtain ⟨h1, h2⟩ := stepErr_zero h
  have h10 : (0 < n ∧ n ≤ 1000000) ∧ ∀ x ∈ [s0, s1, x0, x1, b0, b1], -4611686018427387904 ≤ x ∧ x ≤ 4611686018427387904 := ⟨by omega, fun x hx => by have := h2 x hx; omega⟩
  refine pspec_of (md := 1) (rf := []) mixed tabOK cpN_ok Tryz.func53 (by rfl) (by rfl) (by rfl) ?_
  repeat' ((conv => whnf); first | refine And.intro ?_ ?_ | with_reducible exact VC.mk rfl | exact Ok.mk | exact True.intro | refine Nx.mk ?_ | refine Fin.mk ?_ | intro _)
  all_goals ((try refine VC.mk ?_); (try simp only [CL.ncell, CL.cnt, vq] at *); (try omega))
  all_goals first | (exfalso; exact absurd ‹_ = (_ : ByteArray)› (by decide)) | (with_reducible exact h10) | (exfalso; simp_all [firstOf]; done) | (refine Sup.of ?_; simp_all [resOf, firstOf, knownK, ruleV]; done)
theorem known_semi (n s0 s1 x0 x1 b0 b1 : Int) (h : stepErr n s0 s1 x0 x1 b0 b1 = 0) : PSpec Tryz.prog 53 [stepV n s0 s1 x0 x1 b0 b1, .str kSemi] (knownK n s0 s1 x0 x1 b0 b1 104 1) := by
  obtain ⟨h1, h2⟩ := stepErr_zero h
  have h10 : (0 < n ∧ n ≤ 1000000) ∧ ∀ x ∈ [s0, s1, x0, x1, b0, b1], -4611686018427387904 ≤ x ∧ x ≤ 4611686018427387904 := ⟨by omega, fun x hx => by have := h2 x hx; omega⟩
  refine pspec_of (md := 1) (rf := []) mixed tabOK cpN_ok Tryz.func53 (by rfl) (by rfl) (by rfl) ?_
  repeat' ((conv => whnf); first | refine And.intro ?_ ?_ | with_reducible exact VC.mk rfl | exact Ok.mk | exact True.intro | refine Nx.mk ?_ | refine Fin.mk ?_ | intro _)
  all_goals ((try refine VC.mk ?_); (try simp only [CL.ncell, CL.cnt, vq] at *); (try omega))
  all_goals first | (exfalso; exact absurd ‹_ = (_ : ByteArray)› (by decide)) | (with_reducible exact h10) | (exfalso; simp_all [firstOf]; done) | (refine Sup.of ?_; simp_all [resOf, firstOf, knownK, ruleV]; done)
theorem known_mag (n s0 s1 x0 x1 b0 b1 : Int) (h : stepErr n s0 s1 x0 x1 b0 b1 = 0) : PSpec Tryz.prog 53 [stepV n s0 s1 x0 x1 b0 b1, .str kMag] (knownK n s0 s1 x0 x1 b0 b1 105 2) := by
  obtain ⟨h1, h2⟩ := stepErr_zero h
  have h10 : (0 < n ∧ n ≤ 1000000) ∧ ∀ x ∈ [s0, s1, x0, x1, b0, b1], -4611686018427387904 ≤ x ∧ x ≤ 4611686018427387904 := ⟨by omega, fun x hx => by have := h2 x hx; omega⟩
  refine pspec_of (md := 1) (rf := []) mixed tabOK cpN_ok Tryz.func53 (by rfl) (by rfl) (by rfl) ?_
  repeat' ((conv => whnf); first | refine And.intro ?_ ?_ | with_reducible exact VC.mk rfl | exact Ok.mk | exact True.intro | refine Nx.mk ?_ | refine Fin.mk ?_ | intro _)
  all_goals ((try refine VC.mk ?_); (try simp only [CL.ncell, CL.cnt, vq] at *); (try omega))
  all_goals first | (exfalso; exact absurd ‹_ = (_ : ByteArray)› (by decide)) | (with_reducible exact h10) | (exfalso; simp_all [firstOf]; done) | (refine Sup.of ?_; simp_all [resOf, firstOf, knownK, ruleV]; done)
theorem known_pan (n s0 s1 x0 x1 b0 b1 : Int) (h : stepErr n s0 s1 x0 x1 b0 b1 = 0) : PSpec Tryz.prog 53 [stepV n s0 s1 x0 x1 b0 b1, .str kPan] (knownK n s0 s1 x0 x1 b0 b1 106 3) := by
  obtain ⟨h1, h2⟩ := stepErr_zero h
  have h10 : (0 < n ∧ n ≤ 1000000) ∧ ∀ x ∈ [s0, s1, x0, x1, b0, b1], -4611686018427387904 ≤ x ∧ x ≤ 4611686018427387904 := ⟨by omega, fun x hx => by have := h2 x hx; omega⟩
  refine pspec_of (md := 1) (rf := []) mixed tabOK cpN_ok Tryz.func53 (by rfl) (by rfl) (by rfl) ?_
  repeat' ((conv => whnf); first | refine And.intro ?_ ?_ | with_reducible exact VC.mk rfl | exact Ok.mk | exact True.intro | refine Nx.mk ?_ | refine Fin.mk ?_ | intro _)
  all_goals ((try refine VC.mk ?_); (try simp only [CL.ncell, CL.cnt, vq] at *); (try omega))
  all_goals first | (exfalso; exact absurd ‹_ = (_ : ByteArray)› (by decide)) | (with_reducible exact h10) | (exfalso; simp_all [firstOf]; done) | (refine Sup.of ?_; simp_all [resOf, firstOf, knownK, ruleV]; done)
def knownP : PSp := fun xs K => match xs with
  | [.agg [.int .i64 n, .int .i64 s0, .int .i64 s1, .int .i64 x0, .int .i64 x1, .int .i64 b0, .int .i64 b1], .str s] =>
    (stepErr n s0 s1 x0 x1 b0 b1 ≠ 0 → K (knownE (stepErr n s0 s1 x0 x1 b0 b1))) ∧ (stepErr n s0 s1 x0 x1 b0 b1 = 0 → (noKind s → K (knownE 13)) ∧ (s = kSq → K (knownK n s0 s1 x0 x1 b0 b1 103 0)) ∧ (s = kSemi → K (knownK n s0 s1 x0 x1 b0 b1 104 1)) ∧
      (s = kMag → K (knownK n s0 s1 x0 x1 b0 b1 105 2)) ∧ (s = kPan → K (knownK n s0 s1 x0 x1 b0 b1 106 3)))
  | _ => False
theorem known_ok : POK Tryz.prog 53 knownP := by
  intro xs K h
  unfold knownP at h
  split at h
  · rename_i n s0 s1 x0 x1 b0 b1 s
    by_cases h0 : stepErr n s0 s1 x0 x1 b0 b1 = 0
    · obtain ⟨g0, g1, g2, g3, g4⟩ := h.2 h0
      by_cases e1 : s = kSq
      · subst e1; exact ⟨_, g1 rfl, known_sq _ _ _ _ _ _ _ h0⟩
      by_cases e2 : s = kSemi
      · subst e2; exact ⟨_, g2 rfl, known_semi _ _ _ _ _ _ _ h0⟩
      by_cases e3 : s = kMag
      · subst e3; exact ⟨_, g3 rfl, known_mag _ _ _ _ _ _ _ h0⟩
      by_cases e4 : s = kPan
      · subst e4; exact ⟨_, g4 rfl, known_pan _ _ _ _ _ _ _ h0⟩
      exact ⟨_, g0 ⟨e1, e2, e3, e4⟩, known_none _ _ _ _ _ _ _ _ h0 ⟨e1, e2, e3, e4⟩⟩
    · exact ⟨_, h.1 h0, known_err _ _ _ _ _ _ _ _ h0⟩
  · exact h.elim
end Go.Eng.YtppflbccfdbogaaGreat
namespace Go.Eng.YtppflbccfdbogaaGreat
open Go.Proofs
set_option maxRecDepth 100000
set_option maxHeartbeats 0
set_option linter.unusedVariables false
set_option linter.unusedSimpArgs false
/-! Admits -/
def admB (n s0 s1 x0 x1 b0 b1 : Int) (s : ByteArray) : Bool :=
  if s = kSq then isSq n (x0 % n) (x1 % n) (b0 % n) (b1 % n) else if s = kSemi then isSemi n (x0 % n) (x1 % n) (b0 % n) (b1 % n) else if s = kMag then isMag n (s0 % n) (s1 % n) (x0 % n) (x1 % n) (b0 % n) (b1 % n)
  else isPan n (x0 % n) (x1 % n) (b0 % n) (b1 % n)
def kindErr (s : ByteArray) : Int := if s = kSq ∨ s = kSemi ∨ s = kMag ∨ s = kPan then 0 else 13
def askErr (n s0 s1 x0 x1 b0 b1 : Int) (s : ByteArray) : Int := if stepErr n s0 s1 x0 x1 b0 b1 = 0 then kindErr s else stepErr n s0 s1 x0 x1 b0 b1
def admitsV (n s0 s1 x0 x1 b0 b1 : Int) (s : ByteArray) : PV := .tup [.bp (decide (askErr n s0 s1 x0 x1 b0 b1 s = 0) && admB n s0 s1 x0 x1 b0 b1 s), .int .i64 (askErr n s0 s1 x0 x1 b0 b1 s)]
noncomputable def cpA : CPT := cpAdd 53 (pureCC knownP) (cpAdd 103 (pureCC squareP) (cpAdd 104 (pureCC semiP) (cpAdd 105 (pureCC magP) (cpAdd 106 (pureCC panP) noC))))
theorem cpA_ok : CPOK Tryz.prog cpA := cpAdd_ok (pureCC_ok known_ok) (cpAdd_ok (pureCC_ok square_ok) (cpAdd_ok (pureCC_ok semi_ok) (cpAdd_ok (pureCC_ok mag_ok) (cpAdd_ok (pureCC_ok pan_ok) noC_ok))))
theorem admits_spec (n s0 s1 x0 x1 b0 b1 : Int) (s : ByteArray) : PSpec Tryz.prog 29 [stepV n s0 s1 x0 x1 b0 b1, .str s] (admitsV n s0 s1 x0 x1 b0 b1 s) := by
  have hz := @stepErr_zero n s0 s1 x0 x1 b0 b1
  have he := fun h => @emod_all n h s0 s1 x0 x1 b0 b1
  refine pspec_of (md := 1) (rf := []) mixed tabOK cpA_ok Tryz.func29 (by rfl) (by rfl) (by rfl) ?_
  repeat' ((conv => whnf); first | refine And.intro ?_ ?_ | with_reducible exact VC.mk rfl | exact Ok.mk | exact True.intro | refine Nx.mk ?_ | refine Fin.mk ?_ | intro _)
  all_goals ((try refine VC.mk ?_); (try simp only [CL.ncell, CL.cnt, vq] at *); (try omega))
  all_goals first | (with_reducible exact ⟨(hz ‹_›).1, he (hz ‹_›).1.1⟩) | skip
  all_goals (refine Sup.via ?_; unfold admitsV; repeat' ((conv => whnf); first | refine And.intro ?_ ?_ | with_reducible exact VC.mk rfl | exact Ok.mk | exact True.intro | refine Nx.mk ?_ | refine Fin.mk ?_ | intro _))
  all_goals refine VC.mk ?_
  all_goals simp_all [askErr, kindErr, admB, noKind]
def admitsP : PSp := fun xs K => match xs with
  | [.agg [.int .i64 n, .int .i64 s0, .int .i64 s1, .int .i64 x0, .int .i64 x1, .int .i64 b0, .int .i64 b1], .str s] => VC (True) ∧ K (admitsV n s0 s1 x0 x1 b0 b1 s)
  | _ => False
theorem admits_ok : POK Tryz.prog 29 admitsP := by
  intro xs K h
  unfold admitsP at h
  split at h
  · exact ⟨_, h.2, admits_spec _ _ _ _ _ _ _ _⟩
  · exact h.elim
end Go.Eng.YtppflbccfdbogaaGreat
namespace Go.Eng.YtppflbccfdbogaaGreat
open Go.Proofs
set_option maxRecDepth 100000
set_option maxHeartbeats 0
set_option linter.unusedVariables false
set_option linter.unusedSimpArgs false
theorem sum_ok : POK Tryz.prog 56 sumP := by
  intro xs K h
  unfold sumP at h
  split at h
  · exact ⟨_, h.2, sum_spec _ _ _ _ h.1.get.1 h.1.get.2.1 h.1.get.2.2⟩
  · exact h.elim
theorem sumAt_bd (cs l : List Int) (hc : ∀ c ∈ l, 0 ≤ cs.getD c.toNat 0 ∧ cs.getD c.toNat 0 ≤ 1000) : ∀ i, i ≤ l.length → 0 ≤ sumAt cs l i ∧ sumAt cs l i ≤ 1000 * i := by
  intro i
  induction i with
  | zero => intro _; simp [sumAt]
  | succ i ih =>
    intro hi
    have := ih (by omega)
    have h2 := hc (l.getD i 0) (by rw [List.getD_eq_getElem?_getD, List.getElem?_eq_getElem (by omega)]; exact List.getElem_mem _)
    rw [sumAt_succ cs l i (by omega)]
    omega
theorem rowL_len (n i m : Nat) : (rowL n i m).length = m := by simp [rowL]
theorem colL_len (n : Nat) (h : Nat → Int) (m : Nat) : (colL n h m).length = m := by simp [colL]
theorem lineAt_len (n i : Nat) : (lineAt n i).length = n := by
  unfold lineAt
  repeat' split
  all_goals simp [rowL, colL]
theorem mul_lt_sq {n i : Nat} {j : Int} (hi : i < n) (hj : 0 ≤ j ∧ j < n) : 0 ≤ (n : Int) * i + j ∧ (n : Int) * i + j < (n : Int) * n := by
  have h1 := Int.mul_le_mul_of_nonneg_left (show (i : Int) + 1 ≤ n by omega) (show 0 ≤ (n : Int) by omega)
  have h2 := Int.mul_nonneg (show 0 ≤ (n : Int) by omega) (show 0 ≤ (i : Int) by omega)
  rw [Int.mul_add] at h1
  omega
theorem colL_mem {n : Nat} {h : Nat → Int} (c : Int) (hc : c ∈ colL n h n) : 0 ≤ c ∧ c < (n : Int) * n := by
  unfold colL at hc
  obtain ⟨i, hi, rfl⟩ := List.mem_map.1 hc
  have hi := List.mem_range.1 hi
  exact mul_lt_sq hi ⟨Int.emod_nonneg _ (by omega), Int.emod_lt_of_pos _ (by omega)⟩
theorem lineAt_mem {n i : Nat} (c : Int) (hc : c ∈ lineAt n i) : 0 ≤ c ∧ c < (n : Int) * n := by
  unfold lineAt at hc
  split at hc
  · rename_i hlt
    unfold rowL at hc
    obtain ⟨j, hj, rfl⟩ := List.mem_map.1 hc
    have hj := List.mem_range.1 hj
    exact mul_lt_sq hlt ⟨by omega, by omega⟩
  · repeat' (split at hc)
    all_goals exact colL_mem c hc
theorem linesV_get {n : Nat} {g : Int} {i : Nat} {x : PV} (h : (linesV n g)[i]? = some x) : i < lineCnt n g ∧ x = .isl (.ints .i64 (lineAt n i)) .none := by
  unfold linesV at h
  rw [List.getElem?_map] at h
  cases hr : (List.range (lineCnt n g))[i]? with
  | none => rw [hr] at h; simp at h
  | some j =>
    rw [hr] at h
    obtain ⟨h1, h2⟩ := List.getElem?_eq_some_iff.1 hr
    simp at h1 h2
    subst h2
    simp at h
    exact ⟨h1, h.symm⟩
theorem linesV_len (n : Nat) (g : Int) : (linesV n g).length = lineCnt n g := by simp [linesV]
/-- the sum of a line -/
def lineSum (n : Nat) (l : List Int) (i : Nat) : Int := sumAt l (lineAt n i) n
def lineOk (n : Nat) (l : List Int) (i : Nat) : Bool := decide (lineSum n l i = constOf n)
def linesOk (n : Nat) (g : Int) (l : List Int) : Bool := (List.range (lineCnt n g)).all (lineOk n l)
noncomputable def cpQ : CPT := cpAdd 55 (pureCC linesP) (cpAdd 56 (pureCC sumP) (cpAdd 57 (pureCC constantP) noC))
theorem cpQ_ok : CPOK Tryz.prog cpQ := cpAdd_ok (pureCC_ok lines_ok) (cpAdd_ok (pureCC_ok sum_ok) (cpAdd_ok (pureCC_ok constant_ok) noC_ok))
theorem isMagic_spec (n : Nat) (c : Int) (l : List Int) (hn : 1 ≤ n ∧ n ≤ 16) (hl : (l.length : Int) = (n : Int) * n) (hv : ∀ x ∈ l, 0 ≤ x ∧ x ≤ 1000) : PSpec Tryz.prog 66 [gridV n c l] (.bp (linesOk n 2 l)) := by
  have hg : ∀ k : Int, 0 ≤ k → k < (n : Int) * n → 0 ≤ l.getD k.toNat 0 ∧ l.getD k.toNat 0 ≤ 1000 := fun k h1 h2 => by
    rw [List.getD_eq_getElem?_getD, List.getElem?_eq_getElem (by omega)]; exact hv _ (List.getElem_mem _)
  refine pspec_of (md := 1) (rf := []) mixed tabOK cpQ_ok Tryz.func66 (by rfl) (by rfl) (by rfl) ?_
  repeat' ((conv => whnf); first | refine And.intro ?_ ?_ | with_reducible exact VC.mk rfl | exact Ok.mk | exact True.intro | refine Nx.mk ?_ | refine Fin.mk ?_ | intro _)
  all_goals ((try refine VC.mk ?_); (try simp only [CL.ncell, CL.cnt, vq] at *); (try omega))
  conv => whnf
  refine range_of anyB_ok mixed tabOK cpQ_ok (fun r => noY_ok) (fs := []) (cs := [.ip (.pv [.int .i64 (n : Int)]) 0, .ip (.pv [.int .i64 2]) 0]) (linesV n 2) (lineOk n l) (fun _ => []) (by rfl) (by rfl) (by rfl) (c117_spec n hn 2) (by rfl) (by rfl) (by rfl) (by rfl) ?_ ?_ ?_
  · repeat' ((conv => whnf); first | refine And.intro ?_ ?_ | with_reducible exact VC.mk rfl | exact Ok.mk | exact True.intro | refine Nx.mk ?_ | refine Fin.mk ?_ | intro _)
    all_goals ((try refine VC.mk ?_); (try simp only [CL.ncell, CL.cnt, vq] at *); (try omega))
  · intro hall
    repeat' ((conv => whnf); first | refine And.intro ?_ ?_ | with_reducible exact VC.mk rfl | exact Ok.mk | exact True.intro | refine Nx.mk ?_ | refine Fin.mk ?_ | intro _)
    all_goals ((try refine VC.mk ?_); (try simp only [CL.ncell, CL.cnt, vq] at *); (try omega))
    rw [show linesOk n 2 l = true from all_true (fun j hj => hall j (by rw [linesV_len]; exact hj))]
    all_goals (first | (refine Sup.of ?_; first | rfl | (simp [*, resOf]; done)) | (refine Sup.via ?_; repeat' ((conv => whnf); first | refine And.intro ?_ ?_ | with_reducible exact VC.mk rfl | exact Ok.mk | exact True.intro | refine Nx.mk ?_ | refine Fin.mk ?_ | intro _); all_goals ((try refine VC.mk ?_); (try simp only [CL.ncell, CL.cnt, vq] at *); (try omega)); all_goals (try (simp [CL.sub]; done))))
  · intro i x hx hall lp
    obtain ⟨h1, rfl⟩ := linesV_get hx
    have hm := fun c hc => lineAt_mem (n := n) (i := i) c hc
    have hb := sumAt_bd l (lineAt n i) (fun c hc => hg c (hm c hc).1 (hm c hc).2)
    have hbad : sumAt l (lineAt n i) (lineAt n i).length ≠ constOf n → lineOk n l i = false := fun h => by
      rw [lineAt_len] at h; unfold lineOk lineSum; simpa using h
    have hgood : ¬ sumAt l (lineAt n i) (lineAt n i).length ≠ constOf n → lineOk n l i = true := fun h => by
      rw [lineAt_len] at h; unfold lineOk lineSum; simpa using h
    repeat' ((conv => whnf); first | refine And.intro ?_ ?_ | with_reducible exact VC.mk rfl | exact Ok.mk | exact True.intro | refine Nx.mk ?_ | refine Fin.mk ?_ | intro _)
    all_goals ((try refine VC.mk ?_); (try simp only [CL.ncell, CL.cnt, vq] at *); (try omega))
    · refine ⟨fun c hc => by have := hm c hc; omega, by rw [lineAt_len]; omega, fun j hj => ?_⟩
      have := hb j hj
      rw [lineAt_len] at hj
      omega
    · exact hbad ‹_›
    · rw [show linesOk n 2 l = false from all_false h1 (hbad ‹_›)]
      all_goals (first | (refine Sup.of ?_; first | rfl | (simp [*, resOf]; done)) | (refine Sup.via ?_; repeat' ((conv => whnf); first | refine And.intro ?_ ?_ | with_reducible exact VC.mk rfl | exact Ok.mk | exact True.intro | refine Nx.mk ?_ | refine Fin.mk ?_ | intro _); all_goals ((try refine VC.mk ?_); (try simp only [CL.ncell, CL.cnt, vq] at *); (try omega)); all_goals (try (simp [CL.sub]; done))))
    · refine ⟨[], hgood ‹_›, ?_⟩
      repeat' ((conv => whnf); first | refine And.intro ?_ ?_ | with_reducible exact VC.mk rfl | exact Ok.mk | exact True.intro | refine Nx.mk ?_ | refine Fin.mk ?_ | intro _)
      all_goals ((try refine VC.mk ?_); (try simp only [CL.ncell, CL.cnt, vq] at *); (try omega))
def isMagicP : PSp := fun xs K => match xs with
  | [.agg [.int .i64 n, .int .i64 c, .isl (.ints .i64 l) .none]] => VC ((1 ≤ n ∧ n ≤ 16) ∧ (l.length : Int) = n * n ∧ ∀ x ∈ l, 0 ≤ x ∧ x ≤ 1000) ∧ K (.bp (linesOk n.toNat 2 l))
  | _ => False
theorem isMagic_ok : POK Tryz.prog 66 isMagicP := by
  intro xs K h
  unfold isMagicP at h
  split at h
  · rename_i n c l
    obtain ⟨⟨h1, h2, h3⟩, hK⟩ := h
    obtain ⟨m, rfl⟩ : ∃ m : Nat, n = m := ⟨n.toNat, by omega⟩
    simp only [Int.toNat_natCast] at hK
    exact ⟨_, hK, isMagic_spec m c l (by omega) h2 h3⟩
  · exact h.elim
end Go.Eng.YtppflbccfdbogaaGreat
namespace Go.Eng.YtppflbccfdbogaaGreat
open Go.Proofs
set_option maxRecDepth 100000
set_option maxHeartbeats 0
set_option linter.unusedVariables false
set_option linter.unusedSimpArgs false
abbrev refV (k : ByteArray) (a b : Int) (l : List Int) (s : Int) : PV := .agg [.str k, .int .i64 a, .int .i64 b, .isl (.ints .i64 l) .none, .int .i64 s]
abbrev kMeet : ByteArray := ⟨#[109, 101, 101, 116]⟩
abbrev kSum : ByteArray := ⟨#[115, 117, 109]⟩
abbrev kNo : ByteArray := ⟨#[]⟩
/-- the first line of the first groups whose sum is wrong -/
def badLine (n : Nat) (g : Int) (l : List Int) : Option Nat := (List.range (lineCnt n g)).find? (fun i => !lineOk n l i)
/-- the first refusal -/
def refuseV (n : Nat) (c : Nat → Nat) (g : Int) : PV := match meetOf c (n * n) with
  | some y => .tup [refV kMeet ((gAt c (n * n) y).getD (c y) 0) ((y : Int) + 1) [] 0, .int .i64 0]
  | none => match badLine n g (gAt c (n * n) (n * n)) with
    | some i => .tup [refV kSum 0 0 (lineAt n i) (lineSum n (gAt c (n * n) (n * n)) i), .int .i64 0]
    | none => .tup [refV kNo 0 0 [] 0, .int .i64 7]
theorem gAt_le (c : Nat → Nat) (N : Nat) : ∀ x, ∀ v ∈ gAt c N x, v ≤ x := by
  intro x
  induction x with
  | zero => intro v hv; rw [gAt_zero] at hv; have := List.eq_of_mem_replicate hv; omega
  | succ x ih =>
    intro v hv
    rw [gAt_succ] at hv
    rcases List.mem_or_eq_of_mem_set hv with h | h
    · have := ih v h; omega
    · omega
noncomputable def cpR : CPT := cpAdd 53 (pureCC knownP) (cpAdd 54 (pureCC layP) cpQ)
theorem cpR_ok : CPOK Tryz.prog cpR := cpAdd_ok (pureCC_ok known_ok) (cpAdd_ok (pureCC_ok lay_ok) cpQ_ok)
/-- one kind -/
theorem refuse_kind (n : Nat) (s0 s1 x0 x1 b0 b1 : Int) (s : ByteArray) (f : Nat) (g : Int) (hz : stepErr n s0 s1 x0 x1 b0 b1 = 0)
    (hk : PSpec Tryz.prog 53 [stepV n s0 s1 x0 x1 b0 b1, .str s] (knownK n s0 s1 x0 x1 b0 b1 f g)) :
    PSpec Tryz.prog 30 [stepV n s0 s1 x0 x1 b0 b1, .str s] (refuseV n (cellS n s0 s1 x0 x1 b0 b1) g) := by
  obtain ⟨h1, h2⟩ := stepErr_zero hz
  have h3 := emod_all h1.1 s0 s1 x0 x1 b0 b1
  have hC : CPOK Tryz.prog (cpAdd 53 (pureCC fun xs K => match xs with
      | [.agg [.int .i64 a0, .int .i64 a1, .int .i64 a2, .int .i64 a3, .int .i64 a4, .int .i64 a5, .int .i64 a6], .str t] => VC (a0 = n ∧ a1 = s0 ∧ a2 = s1 ∧ a3 = x0 ∧ a4 = x1 ∧ a5 = b0 ∧ a6 = b1 ∧ t = s) ∧ K (knownK n s0 s1 x0 x1 b0 b1 f g)
      | _ => False) (cpAdd 54 (pureCC layP) cpQ)) := cpAdd_ok (pureCC_ok fun xs K h => by
    split at h
    · obtain ⟨⟨rfl, rfl, rfl, rfl, rfl, rfl, rfl, rfl⟩, hK⟩ := h
      exact ⟨_, hK, hk⟩
    · exact h.elim) (cpAdd_ok (pureCC_ok lay_ok) cpQ_ok)
  have eN : ((n : Int) * n).toNat = n * n := by rw [← Int.natCast_mul, Int.toNat_natCast]
  obtain ⟨c, hc⟩ : ∃ c, c = cellS n s0 s1 x0 x1 b0 b1 := ⟨_, rfl⟩
  have hc' : cellN n (s0 % n) (s1 % n) (x0 % n) (x1 % n) (b0 % n) (b1 % n) = c := hc.symm
  cases hm : meetOf c (n * n) with
  | some y =>
    rw [← hc]
    unfold refuseV
    rw [hm]
    refine pspec_of (md := 1) (rf := []) mixed tabOK hC Tryz.func30 (by rfl) (by rfl) (by rfl) ?_
    repeat' ((conv => whnf); first | refine And.intro ?_ ?_ | with_reducible exact VC.mk rfl | exact Ok.mk | exact True.intro | refine Nx.mk ?_ | refine Fin.mk ?_ | intro _)
    all_goals ((try refine VC.mk ?_); (try simp only [CL.ncell, CL.cnt, vq] at *); (try omega))
    · exact ⟨by omega, h3⟩
    · simp only [layV, hc', eN, hm]
      repeat' ((conv => whnf); first | refine And.intro ?_ ?_ | with_reducible exact VC.mk rfl | exact Ok.mk | exact True.intro | refine Nx.mk ?_ | refine Fin.mk ?_ | intro _)
      all_goals ((try refine VC.mk ?_); (try simp only [CL.ncell, CL.cnt, vq] at *); (try omega))
      all_goals (refine Sup.via ?_; repeat' ((conv => whnf); first | refine And.intro ?_ ?_ | with_reducible exact VC.mk rfl | exact Ok.mk | exact True.intro | refine Nx.mk ?_ | refine Fin.mk ?_ | intro _); all_goals ((try refine VC.mk ?_); (try simp only [CL.ncell, CL.cnt, vq] at *); (try omega)); all_goals (try (simp [CL.sub]; done)))
  | none =>
    obtain ⟨l, hl⟩ : ∃ l, l = gAt c (n * n) (n * n) := ⟨_, rfl⟩
    have hnn := mul_bd (show 0 ≤ (n : Int) ∧ (n : Int) ≤ 16 by omega) (show 0 ≤ (n : Int) ∧ (n : Int) ≤ 16 by omega)
    have hlen : (l.length : Int) = (n : Int) * n := by rw [hl, gAt_len, Int.natCast_mul]
    have hg : ∀ k : Int, 0 ≤ k → k < (n : Int) * n → 0 ≤ l.getD k.toNat 0 ∧ l.getD k.toNat 0 ≤ 1000 := fun k q1 q2 => by
      rw [List.getD_eq_getElem?_getD, List.getElem?_eq_getElem (by omega)]
      have hm := List.getElem_mem (l := l) (n := k.toNat) (by omega)
      have a := gAt_nonneg c (n * n) (n * n) _ (by rw [← hl]; exact hm)
      have b := gAt_le c (n * n) (n * n) _ (by rw [← hl]; exact hm)
      rw [Int.natCast_mul] at b
      simp only [Option.getD_some]; omega
    rw [← hc]
    unfold refuseV
    rw [hm, ← hl]
    refine pspec_of (md := 1) (rf := []) mixed tabOK hC Tryz.func30 (by rfl) (by rfl) (by rfl) ?_
    repeat' ((conv => whnf); first | refine And.intro ?_ ?_ | with_reducible exact VC.mk rfl | exact Ok.mk | exact True.intro | refine Nx.mk ?_ | refine Fin.mk ?_ | intro _)
    all_goals ((try refine VC.mk ?_); (try simp only [CL.ncell, CL.cnt, vq] at *); (try omega))
    · exact ⟨by omega, h3⟩
    simp only [layV, hc', eN, hm, ← hl]
    repeat' ((conv => whnf); first | refine And.intro ?_ ?_ | with_reducible exact VC.mk rfl | exact Ok.mk | exact True.intro | refine Nx.mk ?_ | refine Fin.mk ?_ | intro _)
    all_goals ((try refine VC.mk ?_); (try simp only [CL.ncell, CL.cnt, vq] at *); (try omega))
    conv => whnf
    refine range_of anyB_ok mixed tabOK hC (fun r => noY_ok) (fs := []) (cs := [.ip (.pv [.int .i64 (n : Int)]) 0, .ip (.pv [.int .i64 g]) 0]) (linesV n g) (lineOk n l) (fun _ => []) (by rfl) (by rfl) (by rfl) (c117_spec n (by omega) g) (by rfl) (by rfl) (by rfl) (by rfl) ?_ ?_ ?_
    · repeat' ((conv => whnf); first | refine And.intro ?_ ?_ | with_reducible exact VC.mk rfl | exact Ok.mk | exact True.intro | refine Nx.mk ?_ | refine Fin.mk ?_ | intro _)
      all_goals ((try refine VC.mk ?_); (try simp only [CL.ncell, CL.cnt, vq] at *); (try omega))
    · intro hall
      rw [show badLine n g l = none from find_none (fun j hj => by rw [hall j (by rw [linesV_len]; exact hj)]; rfl)]
      repeat' ((conv => whnf); first | refine And.intro ?_ ?_ | with_reducible exact VC.mk rfl | exact Ok.mk | exact True.intro | refine Nx.mk ?_ | refine Fin.mk ?_ | intro _)
      all_goals ((try refine VC.mk ?_); (try simp only [CL.ncell, CL.cnt, vq] at *); (try omega))
      all_goals (first | (refine Sup.of ?_; first | rfl | (simp [*, resOf]; done)) | (refine Sup.via ?_; repeat' ((conv => whnf); first | refine And.intro ?_ ?_ | with_reducible exact VC.mk rfl | exact Ok.mk | exact True.intro | refine Nx.mk ?_ | refine Fin.mk ?_ | intro _); all_goals ((try refine VC.mk ?_); (try simp only [CL.ncell, CL.cnt, vq] at *); (try omega)); all_goals (try (simp [CL.sub]; done))))
    · intro i x hx hall lp
      obtain ⟨q1, rfl⟩ := linesV_get hx
      have hmm := fun c hc => lineAt_mem (n := n) (i := i) c hc
      have hb := sumAt_bd l (lineAt n i) (fun c hc => hg c (hmm c hc).1 (hmm c hc).2)
      have hbad : sumAt l (lineAt n i) (lineAt n i).length ≠ constOf n → lineOk n l i = false := fun h => by
        rw [lineAt_len] at h; unfold lineOk lineSum; simpa using h
      have hgood : ¬ sumAt l (lineAt n i) (lineAt n i).length ≠ constOf n → lineOk n l i = true := fun h => by
        rw [lineAt_len] at h; unfold lineOk lineSum; simpa using h
      repeat' ((conv => whnf); first | refine And.intro ?_ ?_ | with_reducible exact VC.mk rfl | exact Ok.mk | exact True.intro | refine Nx.mk ?_ | refine Fin.mk ?_ | intro _)
      all_goals ((try refine VC.mk ?_); (try simp only [CL.ncell, CL.cnt, vq] at *); (try omega))
      · refine ⟨fun c hc => by have := hmm c hc; omega, by rw [lineAt_len]; omega, fun j hj => ?_⟩
        have := hb j hj
        rw [lineAt_len] at hj
        omega
      · exact hbad ‹_›
      · rw [show badLine n g l = some i from find_some q1 (by rw [hbad ‹_›]; rfl) (fun j hj => by rw [hall j hj]; rfl)]
        refine Sup.via ?_
        repeat' ((conv => whnf); first | refine And.intro ?_ ?_ | with_reducible exact VC.mk rfl | exact Ok.mk | exact True.intro | refine Nx.mk ?_ | refine Fin.mk ?_ | intro _)
        all_goals ((try refine VC.mk ?_); (try simp only [CL.ncell, CL.cnt, vq] at *); (try omega))
        all_goals (try (unfold lineSum; rw [lineAt_len]))
      · refine ⟨[], hgood ‹_›, ?_⟩
        repeat' ((conv => whnf); first | refine And.intro ?_ ?_ | with_reducible exact VC.mk rfl | exact Ok.mk | exact True.intro | refine Nx.mk ?_ | refine Fin.mk ?_ | intro _)
        all_goals ((try refine VC.mk ?_); (try simp only [CL.ncell, CL.cnt, vq] at *); (try omega))
theorem refuse_err (n s0 s1 x0 x1 b0 b1 : Int) (s : ByteArray) (e : Int) (he : e ≠ 0) (hk : PSpec Tryz.prog 53 [stepV n s0 s1 x0 x1 b0 b1, .str s] (knownE e)) : PSpec Tryz.prog 30 [stepV n s0 s1 x0 x1 b0 b1, .str s] (.tup [refV kNo 0 0 [] 0, .int .i64 e]) := by
  have hC : CPOK Tryz.prog (cpAdd 53 (pureCC fun xs K => match xs with
      | [.agg [.int .i64 a0, .int .i64 a1, .int .i64 a2, .int .i64 a3, .int .i64 a4, .int .i64 a5, .int .i64 a6], .str t] => VC (a0 = n ∧ a1 = s0 ∧ a2 = s1 ∧ a3 = x0 ∧ a4 = x1 ∧ a5 = b0 ∧ a6 = b1 ∧ t = s) ∧ K (knownE e)
      | _ => False) noC) := cpAdd_ok (pureCC_ok fun xs K h => by
    split at h
    · obtain ⟨⟨rfl, rfl, rfl, rfl, rfl, rfl, rfl, rfl⟩, hK⟩ := h
      exact ⟨_, hK, hk⟩
    · exact h.elim) noC_ok
  refine pspec_of (md := 1) (rf := []) mixed tabOK hC Tryz.func30 (by rfl) (by rfl) (by rfl) ?_
  repeat' ((conv => whnf); first | refine And.intro ?_ ?_ | with_reducible exact VC.mk rfl | exact Ok.mk | exact True.intro | refine Nx.mk ?_ | refine Fin.mk ?_ | intro _)
  all_goals ((try refine VC.mk ?_); (try simp only [CL.ncell, CL.cnt, vq] at *); (try omega))
  · all_goals (refine Sup.via ?_; repeat' ((conv => whnf); first | refine And.intro ?_ ?_ | with_reducible exact VC.mk rfl | exact Ok.mk | exact True.intro | refine Nx.mk ?_ | refine Fin.mk ?_ | intro _); all_goals ((try refine VC.mk ?_); (try simp only [CL.ncell, CL.cnt, vq] at *); (try omega)); all_goals (try (simp [CL.sub]; done)))
  all_goals (exfalso; simp_all)
/-- what Refuse returns -/
def refuseAll (n s0 s1 x0 x1 b0 b1 : Int) (s : ByteArray) : PV :=
  if askErr n s0 s1 x0 x1 b0 b1 s = 0 then refuseV n.toNat (cellS n s0 s1 x0 x1 b0 b1) (if s = kSq then 0 else if s = kSemi then 1 else if s = kMag then 2 else 3)
  else .tup [refV kNo 0 0 [] 0, .int .i64 (askErr n s0 s1 x0 x1 b0 b1 s)]
theorem refuse_spec (n s0 s1 x0 x1 b0 b1 : Int) (s : ByteArray) : PSpec Tryz.prog 30 [stepV n s0 s1 x0 x1 b0 b1, .str s] (refuseAll n s0 s1 x0 x1 b0 b1 s) := by
  unfold refuseAll
  by_cases hz : stepErr n s0 s1 x0 x1 b0 b1 = 0
  · have h1 := (stepErr_zero hz).1
    obtain ⟨m, rfl⟩ : ∃ m : Nat, n = m := ⟨n.toNat, by omega⟩
    have key : ∀ f g, PSpec Tryz.prog 53 [stepV m s0 s1 x0 x1 b0 b1, .str s] (knownK m s0 s1 x0 x1 b0 b1 f g) → PSpec Tryz.prog 30 [stepV m s0 s1 x0 x1 b0 b1, .str s] (refuseV m (cellS m s0 s1 x0 x1 b0 b1) g) := fun f g hk => refuse_kind m s0 s1 x0 x1 b0 b1 s f g hz hk
    by_cases hk : noKind s
    · have e : askErr m s0 s1 x0 x1 b0 b1 s = 13 := by unfold askErr kindErr; rw [if_pos hz, if_neg (by rintro (h | h | h | h) <;> simp_all [noKind])]
      rw [e, if_neg (by omega)]
      exact refuse_err m s0 s1 x0 x1 b0 b1 s 13 (by omega) (known_none _ _ _ _ _ _ _ _ hz hk)
    · have e : askErr m s0 s1 x0 x1 b0 b1 s = 0 := by
        unfold askErr kindErr; rw [if_pos hz, if_pos]
        unfold noKind at hk
        by_cases e1 : s = kSq
        · exact .inl e1
        by_cases e2 : s = kSemi
        · exact .inr (.inl e2)
        by_cases e3 : s = kMag
        · exact .inr (.inr (.inl e3))
        by_cases e4 : s = kPan
        · exact .inr (.inr (.inr e4))
        exact absurd ⟨e1, e2, e3, e4⟩ hk
      rw [if_pos e, Int.toNat_natCast]
      by_cases e1 : s = kSq
      · rw [if_pos e1]; exact key 103 0 (by subst e1; exact known_sq _ _ _ _ _ _ _ hz)
      rw [if_neg e1]
      by_cases e2 : s = kSemi
      · rw [if_pos e2]; exact key 104 1 (by subst e2; exact known_semi _ _ _ _ _ _ _ hz)
      rw [if_neg e2]
      by_cases e3 : s = kMag
      · rw [if_pos e3]; exact key 105 2 (by subst e3; exact known_mag _ _ _ _ _ _ _ hz)
      rw [if_neg e3]
      by_cases e4 : s = kPan
      · exact key 106 3 (by subst e4; exact known_pan _ _ _ _ _ _ _ hz)
      exact absurd ⟨e1, e2, e3, e4⟩ hk
  · have e : askErr n s0 s1 x0 x1 b0 b1 s = stepErr n s0 s1 x0 x1 b0 b1 := by unfold askErr; rw [if_neg hz]
    rw [e, if_neg hz]
    exact refuse_err n s0 s1 x0 x1 b0 b1 s _ hz (known_err _ _ _ _ _ _ _ _ hz)
def refuseP : PSp := fun xs K => match xs with
  | [.agg [.int .i64 n, .int .i64 s0, .int .i64 s1, .int .i64 x0, .int .i64 x1, .int .i64 b0, .int .i64 b1], .str s] => VC (True) ∧ K (refuseAll n s0 s1 x0 x1 b0 b1 s)
  | _ => False
theorem refuse_ok : POK Tryz.prog 30 refuseP := by
  intro xs K h
  unfold refuseP at h
  split at h
  · exact ⟨_, h.2, refuse_spec _ _ _ _ _ _ _ _⟩
  · exact h.elim
end Go.Eng.YtppflbccfdbogaaGreat
namespace Go.Eng.YtppflbccfdbogaaGreat
open Go.Proofs
set_option maxRecDepth 100000
set_option maxHeartbeats 0
set_option linter.unusedVariables false
set_option linter.unusedSimpArgs false
abbrev noGrid (e : Int) : PV := .tup [gridV 0 0 [], .int .i64 e]
abbrev okGrid (r c : Int) (l : List Int) : PV := .tup [gridV r c l, .int .i64 0]
theorem orderly_err (n : Int) (h : Bool) (f : Fn) (fs cs : List PV) (e : Int) (he : e ≠ 0) (hf : firstOf [if n < 1 ∨ 16 < n then 3 else 0, if (!h) = true then 7 else 0] = e) :
    PSpec Tryz.prog 51 [.int .i64 n, .bp h, .fn f fs cs] (noGrid e) := by
  refine pspec_of (md := 1) (rf := []) mixed tabOK cp2_ok Tryz.func51 (by rfl) (by rfl) (by rfl) ?_
  repeat' ((conv => whnf); first | refine And.intro ?_ ?_ | with_reducible exact VC.mk rfl | exact Ok.mk | exact True.intro | refine Nx.mk ?_ | refine Fin.mk ?_ | intro _)
  all_goals ((try refine VC.mk ?_); (try simp only [CL.ncell, CL.cnt, vq] at *); (try omega))
  · rw [hf]; all_goals (refine Sup.via ?_; repeat' ((conv => whnf); first | refine And.intro ?_ ?_ | with_reducible exact VC.mk rfl | exact Ok.mk | exact True.intro | refine Nx.mk ?_ | refine Fin.mk ?_ | intro _); all_goals ((try refine VC.mk ?_); (try simp only [CL.ncell, CL.cnt, vq] at *); (try omega)); all_goals (try (simp [CL.sub]; done)))
  all_goals (exfalso; simp_all)
theorem orderly_ok (n : Int) (hn : 1 ≤ n ∧ n ≤ 16) (f : Nat) (fs cs : List PV) (r c : Int) (l : List Int) (hf : PSpec Tryz.prog f (fs ++ [] ++ cs) (gridV r c l)) :
    PSpec Tryz.prog 51 [.int .i64 n, .bp true, .fn (.func f) fs cs] (okGrid r c l) := by
  refine pspec_open 2 (enters' Tryz.func51 (by rfl) (by rfl)) rfl (by simp) fun S0 w0 us vs hu hv => ?_
  have hY : ∀ r', YPOK Tryz.prog r' (fromB S0 w0) (fnY f us vs fun xs K => match xs with
      | [] => K (gridV r c l)
      | _ => False) := fun r => fnY_ok (fs := fs) (cs := cs) (fun S w hb => ⟨hu.mono hb (.refl _), hv.mono hb (.refl _)⟩) fun xs K hk => by
    split at hk
    · exact ⟨_, hk, hf⟩
    · exact hk.elim
  have he : firstOf [if n < 1 ∨ 16 < n then 3 else 0, if (!true) = true then 7 else 0] = 0 := by rw [if_neg (by omega)]; rfl
  refine pspecB_of fromB_ok mixed tabOK (md := 1) (rf := []) (cp2_ok.up _) (hY none) Tryz.func51 (by rfl) (by rfl) ?_
  repeat' ((conv => whnf); first | refine And.intro ?_ ?_ | with_reducible exact VC.mk rfl | exact Ok.mk | exact True.intro | refine Nx.mk ?_ | refine Fin.mk ?_ | intro _)
  all_goals ((try refine VC.mk ?_); (try simp only [CL.ncell, CL.cnt, vq] at *); (try omega))
  all_goals (try (exfalso; simp_all; done))
  all_goals (refine Sup.via ?_; repeat' ((conv => whnf); first | refine And.intro ?_ ?_ | with_reducible exact VC.mk rfl | exact Ok.mk | exact True.intro | refine Nx.mk ?_ | refine Fin.mk ?_ | intro _); all_goals ((try refine VC.mk ?_); (try simp only [CL.ncell, CL.cnt, vq] at *); (try omega)); all_goals (try (simp [CL.sub]; done)))
def orderlyP : PSp := fun xs K => match xs with
  | [.int .i64 n, .bp h, .fn (.func f) fs cs] => ((n < 1 ∨ 16 < n) → K (noGrid 3)) ∧ (¬ (n < 1 ∨ 16 < n) → (h = false → K (noGrid 7)) ∧ (h = true → ∃ r c l, PSpec Tryz.prog f (fs ++ [] ++ cs) (gridV r c l) ∧ K (okGrid r c l)))
  | _ => False
theorem orderly_pok : POK Tryz.prog 51 orderlyP := by
  intro xs K hk
  unfold orderlyP at hk
  split at hk
  · rename_i n h f fs cs
    by_cases hn : n < 1 ∨ 16 < n
    · exact ⟨_, hk.1 hn, orderly_err n h _ fs cs 3 (by omega) (by rw [if_pos hn]; rfl)⟩
    · cases h with
      | false => exact ⟨_, (hk.2 hn).1 rfl, orderly_err n false _ fs cs 7 (by omega) (by rw [if_neg hn]; rfl)⟩
      | true =>
        obtain ⟨r, c, l, h1, h2⟩ := (hk.2 hn).2 rfl
        exact ⟨_, h2, orderly_ok n (by omega) f fs cs r c l h1⟩
  · exact hk.elim
/-! odd orders -/
theorem coprime_of {n a u : Int} (h : n ∣ a * u - 1) : coprime n a = true := by
  unfold coprime
  have h1 : (Int.gcd (a % n) n : Int) ∣ 1 := by
    have d1 : (Int.gcd (a % n) n : Int) ∣ n := Int.gcd_dvd_right ..
    have d2 : (Int.gcd (a % n) n : Int) ∣ a % n := Int.gcd_dvd_left ..
    obtain ⟨k, hk⟩ := h
    obtain ⟨p, hp⟩ := d1
    obtain ⟨q, hq⟩ := d2
    have := Int.emod_add_mul_ediv a n
    generalize (Int.gcd (a % n) n : Int) = g at *
    exact ⟨q * u + p * (a / n) * u - p * k, by grind⟩
  have h2 := Int.le_of_dvd (by omega) h1
  have h3 : Int.gcd (a % n) n ∣ 1 := by exact_mod_cast h1
  simp [Nat.dvd_one.1 h3]
theorem isSq_of {n x0 x1 b0 b1 u : Int} (h : n ∣ (x0 * b1 - x1 * b0) * u - 1) : isSq n (x0 % n) (x1 % n) (b0 % n) (b1 % n) = true := by
  unfold isSq
  refine coprime_of (u := u) ?_
  have e0 := Int.emod_add_mul_ediv x0 n
  have e1 := Int.emod_add_mul_ediv x1 n
  have e2 := Int.emod_add_mul_ediv b0 n
  have e3 := Int.emod_add_mul_ediv b1 n
  obtain ⟨k, hk⟩ := h
  generalize x0 % n = y0 at *
  generalize x1 % n = y1 at *
  generalize b0 % n = c0 at *
  generalize b1 % n = c1 at *
  generalize x0 / n = p0 at *
  generalize x1 / n = p1 at *
  generalize b0 / n = q0 at *
  generalize b1 / n = q1 at *
  subst e0 e1 e2 e3
  exact ⟨k - (y0 * q1 + p0 * c1 + n * p0 * q1 - y1 * q0 - p1 * c0 - n * p1 * q0) * u, by grind⟩
def uniL (n s0 s1 x0 x1 b0 b1 : Int) : List Int := gAt (cellS n s0 s1 x0 x1 b0 b1) (n * n).toNat (n * n).toNat
def siaL (n : Int) : List Int := uniL n 0 ((n - 1) / 2) (-1) 1 2 (-1)
noncomputable def cpO1 : CPT := cpAdd 61 (pureCC reducedP) (cpAdd 54 (pureCC layP) noC)
theorem cpO1_ok : CPOK Tryz.prog cpO1 := cpAdd_ok (pureCC_ok reduced_ok) (cpAdd_ok (pureCC_ok lay_ok) noC_ok)
theorem cSia_spec (n : Int) (hn : 1 ≤ n ∧ n ≤ 16) : PSpec Tryz.prog 52 [.int .i64 n] (gridV n n (siaL n)) := by
  have hs : isSq n (-1 % n) (1 % n) (2 % n) (-1 % n) = true := isSq_of (u := -1) ⟨0, by omega⟩
  have hm := meet_none (s0 := 0 % n) (s1 := (n - 1) / 2 % n) hn.1 hs
  have h3 := emod_all hn.1 0 ((n - 1) / 2) (-1) 1 2 (-1)
  refine pspec_of (md := 0) (rf := []) mixed tabOK cpO1_ok Tryz.func52 (by rfl) (by rfl) (by rfl) ?_
  repeat' ((conv => whnf); first | refine And.intro ?_ ?_ | with_reducible exact VC.mk rfl | exact Ok.mk | exact True.intro | refine Nx.mk ?_ | refine Fin.mk ?_ | intro _)
  all_goals ((try refine VC.mk ?_); (try simp only [CL.ncell, CL.cnt, vq] at *); (try omega))
  · refine ⟨by omega, fun x hx => ?_⟩
    simp only [List.mem_cons, List.not_mem_nil, or_false] at hx
    rcases hx with rfl | rfl | rfl | rfl | rfl | rfl <;> omega
  · exact ⟨hn, h3⟩
  simp only [layV, hm]
  unfold siaL uniL
  repeat' ((conv => whnf); first | refine And.intro ?_ ?_ | with_reducible exact VC.mk rfl | exact Ok.mk | exact True.intro | refine Nx.mk ?_ | refine Fin.mk ?_ | intro _)
  all_goals ((try refine VC.mk ?_); (try simp only [CL.ncell, CL.cnt, vq] at *); (try omega))
  all_goals (refine Sup.via ?_; repeat' ((conv => whnf); first | refine And.intro ?_ ?_ | with_reducible exact VC.mk rfl | exact Ok.mk | exact True.intro | refine Nx.mk ?_ | refine Fin.mk ?_ | intro _); all_goals ((try refine VC.mk ?_); (try simp only [CL.ncell, CL.cnt, vq] at *); (try omega)); all_goals (try (simp [CL.sub]; done)))
def cSiaP : PSp := fun xs K => match xs with
  | [.int .i64 n] => VC (1 ≤ n ∧ n ≤ 16) ∧ K (gridV n n (siaL n))
  | _ => False
theorem cSia_ok : POK Tryz.prog 52 cSiaP := by
  intro xs K h
  unfold cSiaP at h
  split at h
  · exact ⟨_, h.2, cSia_spec _ h.1.get⟩
  · exact h.elim
def gridOr (n : Int) (h : Prop) [Decidable h] (l : List Int) : PV := if n < 1 ∨ 16 < n then noGrid 3 else if h then okGrid n n l else noGrid 7
noncomputable def cpO2 : CPT := cpAdd 51 (pureCC orderlyP) noC
theorem cpO2_ok : CPOK Tryz.prog cpO2 := cpAdd_ok (pureCC_ok orderly_pok) noC_ok
theorem siamese_spec (n : Int) : PSpec Tryz.prog 28 [.int .i64 n] (gridOr n (n % 2 = 1) (siaL n)) := by
  have ht : ¬ (n < 1 ∨ 16 < n) → n.tmod 2 = n % 2 := fun h => Int.tmod_eq_emod_of_nonneg (by omega)
  unfold gridOr
  refine pspec_of (md := 1) (rf := []) mixed tabOK cpO2_ok Tryz.func28 (by rfl) (by rfl) (by rfl) ?_
  repeat' ((conv => whnf); first | refine And.intro ?_ ?_ | with_reducible exact VC.mk rfl | exact Ok.mk | exact True.intro | refine Nx.mk ?_ | refine Fin.mk ?_ | intro _)
  all_goals ((try refine VC.mk ?_); (try simp only [CL.ncell, CL.cnt, vq] at *); (try omega))
  · rw [if_pos ‹_›]; all_goals (refine Sup.via ?_; repeat' ((conv => whnf); first | refine And.intro ?_ ?_ | with_reducible exact VC.mk rfl | exact Ok.mk | exact True.intro | refine Nx.mk ?_ | refine Fin.mk ?_ | intro _); all_goals ((try refine VC.mk ?_); (try simp only [CL.ncell, CL.cnt, vq] at *); (try omega)); all_goals (try (simp [CL.sub]; done)))
  · rw [if_neg ‹_›, if_neg (by have := ht ‹_›; omega)]; all_goals (refine Sup.via ?_; repeat' ((conv => whnf); first | refine And.intro ?_ ?_ | with_reducible exact VC.mk rfl | exact Ok.mk | exact True.intro | refine Nx.mk ?_ | refine Fin.mk ?_ | intro _); all_goals ((try refine VC.mk ?_); (try simp only [CL.ncell, CL.cnt, vq] at *); (try omega)); all_goals (try (simp [CL.sub]; done)))
  · have := ht ‹_›
    rw [if_neg ‹_›, if_pos (by omega)]
    refine ⟨n, n, siaL n, cSia_spec n (by omega), ?_⟩
    repeat' ((conv => whnf); first | refine And.intro ?_ ?_ | with_reducible exact VC.mk rfl | exact Ok.mk | exact True.intro | refine Nx.mk ?_ | refine Fin.mk ?_ | intro _)
    all_goals ((try refine VC.mk ?_); (try simp only [CL.ncell, CL.cnt, vq] at *); (try omega))
    all_goals (refine Sup.via ?_; repeat' ((conv => whnf); first | refine And.intro ?_ ?_ | with_reducible exact VC.mk rfl | exact Ok.mk | exact True.intro | refine Nx.mk ?_ | refine Fin.mk ?_ | intro _); all_goals ((try refine VC.mk ?_); (try simp only [CL.ncell, CL.cnt, vq] at *); (try omega)); all_goals (try (simp [CL.sub]; done)))
def siameseP : PSp := fun xs K => match xs with
  | [.int .i64 n] => VC (True) ∧ K (gridOr n (n % 2 = 1) (siaL n))
  | _ => False
theorem siamese_ok : POK Tryz.prog 28 siameseP := by
  intro xs K h
  unfold siameseP at h
  split at h
  · exact ⟨_, h.2, siamese_spec _⟩
  · exact h.elim
/-! orders that 4 divides -/
def dblF (n : Nat) (i j : Nat) : Int := if (i : Int) % 4 = (j : Int) % 4 ∨ ((i : Int) + j) % 4 = 3 then (n : Int) * n + 1 - (n * i + j + 1) else (n : Int) * i + j + 1
theorem c132_spec (n i j : Nat) (hn : n ≤ 16) (hi : i < n) (hj : j < n) : PSpec Tryz.prog 93 ([] ++ [.int .i64 i, .int .i64 j] ++ [.ip (.pv [.int .i64 (n : Int)]) 0]) (.int .i64 (dblF n i j)) := by
  have h1 := mul_bd (show 0 ≤ (n : Int) ∧ (n : Int) ≤ 16 by omega) (show 0 ≤ (i : Int) ∧ (i : Int) ≤ 16 by omega)
  have h2 := mul_bd (show 0 ≤ (n : Int) ∧ (n : Int) ≤ 16 by omega) (show 0 ≤ (n : Int) ∧ (n : Int) ≤ 16 by omega)
  refine pspec_of (md := 0) (rf := []) mixed tabOK noC_ok Tryz.func93 (by rfl) (by rfl) (by rfl) ?_
  repeat' ((conv => whnf); first | refine And.intro ?_ ?_ | with_reducible exact VC.mk rfl | exact Ok.mk | exact True.intro | refine Nx.mk ?_ | refine Fin.mk ?_ | intro _)
  all_goals ((try refine VC.mk ?_); (try simp only [CL.ncell, CL.cnt, vq] at *); (try omega))
  all_goals (refine Sup.of ?_; unfold dblF)
  all_goals simp_all [resOf]
noncomputable def cpO3 : CPT := cpAdd 18 (pureCC madeP) noC
theorem cpO3_ok : CPOK Tryz.prog cpO3 := cpAdd_ok (pureCC_ok made_ok) noC_ok
def dblL (n : Int) : List Int := madeL n.toNat (dblF n.toNat)
theorem cDbl_spec (n : Int) (hn : 1 ≤ n ∧ n ≤ 16) : PSpec Tryz.prog 58 [.int .i64 n] (gridV n n (dblL n)) := by
  obtain ⟨m, rfl⟩ : ∃ m : Nat, n = m := ⟨n.toNat, by omega⟩
  unfold dblL
  simp only [Int.toNat_natCast]
  refine pspec_of (md := 0) (rf := []) mixed tabOK cpO3_ok Tryz.func58 (by rfl) (by rfl) (by rfl) ?_
  repeat' ((conv => whnf); first | refine And.intro ?_ ?_ | with_reducible exact VC.mk rfl | exact Ok.mk | exact True.intro | refine Nx.mk ?_ | refine Fin.mk ?_ | intro _)
  all_goals ((try refine VC.mk ?_); (try simp only [CL.ncell, CL.cnt, vq] at *); (try omega))
  refine ⟨dblF m, fun i j hi hj => c132_spec m i j (by omega) (by omega) (by omega), ?_⟩
  repeat' ((conv => whnf); first | refine And.intro ?_ ?_ | with_reducible exact VC.mk rfl | exact Ok.mk | exact True.intro | refine Nx.mk ?_ | refine Fin.mk ?_ | intro _)
  all_goals ((try refine VC.mk ?_); (try simp only [CL.ncell, CL.cnt, vq] at *); (try omega))
  all_goals (refine Sup.via ?_; repeat' ((conv => whnf); first | refine And.intro ?_ ?_ | with_reducible exact VC.mk rfl | exact Ok.mk | exact True.intro | refine Nx.mk ?_ | refine Fin.mk ?_ | intro _); all_goals ((try refine VC.mk ?_); (try simp only [CL.ncell, CL.cnt, vq] at *); (try omega)); all_goals (try (simp [CL.sub]; done)))
theorem doublyEven_spec (n : Int) : PSpec Tryz.prog 31 [.int .i64 n] (gridOr n (n % 4 = 0) (dblL n)) := by
  have ht : ¬ (n < 1 ∨ 16 < n) → n.tmod 4 = n % 4 := fun h => Int.tmod_eq_emod_of_nonneg (by omega)
  unfold gridOr
  refine pspec_of (md := 1) (rf := []) mixed tabOK cpO2_ok Tryz.func31 (by rfl) (by rfl) (by rfl) ?_
  repeat' ((conv => whnf); first | refine And.intro ?_ ?_ | with_reducible exact VC.mk rfl | exact Ok.mk | exact True.intro | refine Nx.mk ?_ | refine Fin.mk ?_ | intro _)
  all_goals ((try refine VC.mk ?_); (try simp only [CL.ncell, CL.cnt, vq] at *); (try omega))
  · rw [if_pos ‹_›]; all_goals (refine Sup.via ?_; repeat' ((conv => whnf); first | refine And.intro ?_ ?_ | with_reducible exact VC.mk rfl | exact Ok.mk | exact True.intro | refine Nx.mk ?_ | refine Fin.mk ?_ | intro _); all_goals ((try refine VC.mk ?_); (try simp only [CL.ncell, CL.cnt, vq] at *); (try omega)); all_goals (try (simp [CL.sub]; done)))
  · rw [if_neg ‹_›, if_neg (by have := ht ‹_›; omega)]; all_goals (refine Sup.via ?_; repeat' ((conv => whnf); first | refine And.intro ?_ ?_ | with_reducible exact VC.mk rfl | exact Ok.mk | exact True.intro | refine Nx.mk ?_ | refine Fin.mk ?_ | intro _); all_goals ((try refine VC.mk ?_); (try simp only [CL.ncell, CL.cnt, vq] at *); (try omega)); all_goals (try (simp [CL.sub]; done)))
  · have := ht ‹_›
    rw [if_neg ‹_›, if_pos (by omega)]
    refine ⟨n, n, dblL n, cDbl_spec n (by omega), ?_⟩
    repeat' ((conv => whnf); first | refine And.intro ?_ ?_ | with_reducible exact VC.mk rfl | exact Ok.mk | exact True.intro | refine Nx.mk ?_ | refine Fin.mk ?_ | intro _)
    all_goals ((try refine VC.mk ?_); (try simp only [CL.ncell, CL.cnt, vq] at *); (try omega))
    all_goals (refine Sup.via ?_; repeat' ((conv => whnf); first | refine And.intro ?_ ?_ | with_reducible exact VC.mk rfl | exact Ok.mk | exact True.intro | refine Nx.mk ?_ | refine Fin.mk ?_ | intro _); all_goals ((try refine VC.mk ?_); (try simp only [CL.ncell, CL.cnt, vq] at *); (try omega)); all_goals (try (simp [CL.sub]; done)))
def doublyEvenP : PSp := fun xs K => match xs with
  | [.int .i64 n] => VC (True) ∧ K (gridOr n (n % 4 = 0) (dblL n))
  | _ => False
theorem doublyEven_ok : POK Tryz.prog 31 doublyEvenP := by
  intro xs K h
  unfold doublyEvenP at h
  split at h
  · exact ⟨_, h.2, doublyEven_spec _⟩
  · exact h.elim
end Go.Eng.YtppflbccfdbogaaGreat
namespace Go.Eng.YtppflbccfdbogaaGreat
open Go.Proofs
set_option maxRecDepth 100000
set_option maxHeartbeats 0
set_option linter.unusedVariables false
set_option linter.unusedSimpArgs false
/-! Halved -/
def halvedAt (n : Int) (i : Nat) : Int := if (i : Int) < n / 2 then i else n - 1 - (i - n / 2)
def halvedL (n : Int) (m : Nat) : List Int := (List.range m).map (halvedAt n)
theorem halvedL_succ (n : Int) (m : Nat) : halvedL n (m + 1) = halvedL n m ++ [halvedAt n m] := by simp [halvedL, List.range_succ]
theorem halvedL_len (n : Int) (m : Nat) : (halvedL n m).length = m := by simp [halvedL]
def halvedV (n : Int) : PV := if n < 1 ∨ 16 < n then .tup [.isl (.ints .i64 []) .none, .int .i64 3] else if n % 4 = 0 then .tup [.isl (.ints .i64 (halvedL n n.toNat)) .none, .int .i64 0] else .tup [.isl (.ints .i64 []) .none, .int .i64 7]
theorem halved_err (n e : Int) (he : e ≠ 0) (hf : firstOf [if n < 1 ∨ 16 < n then 3 else 0, if n.tmod 4 ≠ 0 then 7 else 0] = e) : PSpec Tryz.prog 62 [.int .i64 n] (.tup [.isl (.ints .i64 []) .none, .int .i64 e]) := by
  refine pspec_of (md := 1) (rf := []) mixed tabOK cp2_ok Tryz.func62 (by rfl) (by rfl) (by rfl) ?_
  repeat' ((conv => whnf); first | refine And.intro ?_ ?_ | with_reducible exact VC.mk rfl | exact Ok.mk | exact True.intro | refine Nx.mk ?_ | refine Fin.mk ?_ | intro _)
  all_goals ((try refine VC.mk ?_); (try simp only [CL.ncell, CL.cnt, vq] at *); (try omega))
  all_goals (try (exfalso; simp_all; done))
  · rw [hf]; all_goals (refine Sup.via ?_; repeat' ((conv => whnf); first | refine And.intro ?_ ?_ | with_reducible exact VC.mk rfl | exact Ok.mk | exact True.intro | refine Nx.mk ?_ | refine Fin.mk ?_ | intro _); all_goals ((try refine VC.mk ?_); (try simp only [CL.ncell, CL.cnt, vq] at *); (try omega)); all_goals (try (simp [CL.sub]; done)))
theorem halved_ok (m : Nat) (hn : 1 ≤ m ∧ m ≤ 16) (h4 : (m : Int) % 4 = 0) : PSpec Tryz.prog 62 [.int .i64 (m : Int)] (.tup [.isl (.ints .i64 (halvedL m m)) .none, .int .i64 0]) := by
  refine pspec_of (md := 0) (rf := []) mixed tabOK cp2_ok Tryz.func62 (by rfl) (by rfl) (by rfl) ?_
  repeat' ((conv => whnf); first | refine And.intro ?_ ?_ | with_reducible exact VC.mk rfl | exact Ok.mk | exact True.intro | refine Nx.mk ?_ | refine Fin.mk ?_ | intro _)
  all_goals ((try refine VC.mk ?_); (try simp only [CL.ncell, CL.cnt, vq] at *); (try omega))
  all_goals (try (exfalso; simp_all [firstOf]; omega))
  conv => whnf
  refine loop_of (X := Nat) (fun i => i ≤ m) (fun i => [(19, .int .i64 i), (5, .isl (.ints .i64 (halvedL m i)) (.own 13))]) (fun i => [(13, .tok 1 i)]) (fun i => m - i) 0 ⟨anyB_ok, mixed, tabOK, cp2_ok, noY_ok⟩ (by rfl) (by omega) ?_ ?_
  · repeat' ((conv => whnf); first | refine And.intro ?_ ?_ | with_reducible exact VC.mk rfl | exact Ok.mk | exact True.intro | refine Nx.mk ?_ | refine Fin.mk ?_ | intro _)
    all_goals ((try refine VC.mk ?_); (try simp only [CL.ncell, CL.cnt, vq] at *); (try omega))
  · intro i hi
    by_cases hlt : i < m
    · have hl := halvedL_len m i
      have e1 := halvedL_succ m i
      repeat' ((conv => whnf); first | refine And.intro ?_ ?_ | with_reducible exact VC.mk rfl | exact Ok.mk | exact True.intro | refine Nx.mk ?_ | refine Fin.mk ?_ | intro _)
      all_goals ((try refine VC.mk ?_); (try simp only [CL.ncell, CL.cnt, vq] at *); (try omega))
      · simp [hl]; omega
      · refine ⟨i + 1, [], ⟨by omega, by omega⟩, ?_⟩
        repeat' ((conv => whnf); first | refine And.intro ?_ ?_ | with_reducible exact VC.mk rfl | exact Ok.mk | exact True.intro | refine Nx.mk ?_ | refine Fin.mk ?_ | intro _)
        all_goals ((try refine VC.mk ?_); (try simp only [CL.ncell, CL.cnt, vq] at *); (try omega))
        · rw [e1]; unfold halvedAt; rw [if_neg (by omega)]
      · simp [hl]; omega
      · refine ⟨i + 1, [], ⟨by omega, by omega⟩, ?_⟩
        repeat' ((conv => whnf); first | refine And.intro ?_ ?_ | with_reducible exact VC.mk rfl | exact Ok.mk | exact True.intro | refine Nx.mk ?_ | refine Fin.mk ?_ | intro _)
        all_goals ((try refine VC.mk ?_); (try simp only [CL.ncell, CL.cnt, vq] at *); (try omega))
        · rw [e1]; unfold halvedAt; rw [if_pos (by omega)]
    · have : m = i := by omega
      subst this
      repeat' ((conv => whnf); first | refine And.intro ?_ ?_ | with_reducible exact VC.mk rfl | exact Ok.mk | exact True.intro | refine Nx.mk ?_ | refine Fin.mk ?_ | intro _)
      all_goals ((try refine VC.mk ?_); (try simp only [CL.ncell, CL.cnt, vq] at *); (try omega))
      all_goals (refine Sup.via ?_; repeat' ((conv => whnf); first | refine And.intro ?_ ?_ | with_reducible exact VC.mk rfl | exact Ok.mk | exact True.intro | refine Nx.mk ?_ | refine Fin.mk ?_ | intro _); all_goals ((try refine VC.mk ?_); (try simp only [CL.ncell, CL.cnt, vq] at *); (try omega)); all_goals (try (simp [CL.sub]; done)))
theorem halved_spec (n : Int) : PSpec Tryz.prog 62 [.int .i64 n] (halvedV n) := by
  unfold halvedV
  by_cases h : n < 1 ∨ 16 < n
  · rw [if_pos h]
    refine halved_err n 3 (by omega) ?_
    rw [if_pos h]; rfl
  · rw [if_neg h]
    have ht : n.tmod 4 = n % 4 := Int.tmod_eq_emod_of_nonneg (by omega)
    by_cases h4 : n % 4 = 0
    · rw [if_pos h4]
      obtain ⟨m, rfl⟩ : ∃ m : Nat, n = m := ⟨n.toNat, by omega⟩
      rw [Int.toNat_natCast]
      exact halved_ok m (by omega) h4
    · rw [if_neg h4]
      refine halved_err n 7 (by omega) ?_
      rw [if_neg h, if_pos (by omega)]; rfl
def halvedCP : PSp := fun xs K => match xs with
  | [.int .i64 n] => VC (True) ∧ K (halvedV n)
  | _ => False
theorem halvedC_ok : POK Tryz.prog 62 halvedCP := by
  intro xs K h
  unfold halvedCP at h
  split at h
  · exact ⟨_, h.2, halved_spec _⟩
  · exact h.elim
/-! most-perfect squares -/
def turned (n x p : Int) : Int := if p % 2 = 1 then n - 1 - x else x
theorem c134_spec (n x p : Int) (hn : 0 ≤ n ∧ n ≤ 1000) (hx : 0 ≤ x ∧ x ≤ 1000) (hp : 0 ≤ p ∧ p ≤ 1000) : PSpec Tryz.prog 95 [.int .i64 x, .int .i64 p, .ip (.pv [.int .i64 n]) 0] (.int .i64 (turned n x p)) := by
  refine pspec_of (md := 0) (rf := []) mixed tabOK noC_ok Tryz.func95 (by rfl) (by rfl) (by rfl) ?_
  repeat' ((conv => whnf); first | refine And.intro ?_ ?_ | with_reducible exact VC.mk rfl | exact Ok.mk | exact True.intro | refine Nx.mk ?_ | refine Fin.mk ?_ | intro _)
  all_goals ((try refine VC.mk ?_); (try simp only [CL.ncell, CL.cnt, vq] at *); (try omega))
  all_goals (refine Sup.of ?_; unfold turned; simp_all [resOf])
def c134P : PSp := fun xs K => match xs with
  | [.int .i64 x, .int .i64 p, .ip (.pv [.int .i64 n]) 0] => VC ((0 ≤ n ∧ n ≤ 1000) ∧ (0 ≤ x ∧ x ≤ 1000) ∧ 0 ≤ p ∧ p ≤ 1000) ∧ K (.int .i64 (turned n x p))
  | _ => False
theorem c134_ok : POK Tryz.prog 95 c134P := by
  intro xs K h
  unfold c134P at h
  split at h
  · exact ⟨_, h.2, c134_spec _ _ _ h.1.get.1 h.1.get.2.1 h.1.get.2.2⟩
  · exact h.elim
def mpF (n : Int) (rows cols : List Int) (i j : Nat) : Int := turned n (rows.getD i 0) j + n * turned n (cols.getD j 0) i + 1
theorem turned_bd {n x p : Int} (hx : 0 ≤ x ∧ x < n) : 0 ≤ turned n x p ∧ turned n x p < n := by unfold turned; split <;> omega
theorem c135_spec (n : Nat) (rows cols : List Int) (i j : Nat) (hn : n ≤ 16) (hr : rows.length = n) (hc : cols.length = n) (hi : i < n) (hj : j < n) (h1 : ∀ k, k < n → 0 ≤ rows.getD k 0 ∧ rows.getD k 0 < n) (h2 : ∀ k, k < n → 0 ≤ cols.getD k 0 ∧ cols.getD k 0 < n) :
    PSpec Tryz.prog 96 ([] ++ [.int .i64 i, .int .i64 j] ++ [.ip (.pv [.fn (.func 95) [] [.ip (.pv [.int .i64 (n : Int)]) 0]]) 0, .ip (.pv [.isl (.ints .i64 rows) .none]) 0, .ip (.pv [.int .i64 (n : Int)]) 0, .ip (.pv [.isl (.ints .i64 cols) .none]) 0]) (.int .i64 (mpF n rows cols i j)) := by
  have hC : CPOK Tryz.prog (cpAdd 95 (pureCC c134P) noC) := cpAdd_ok (pureCC_ok c134_ok) noC_ok
  have a1 := h1 i hi
  have a2 := h2 j hj
  have b1 := turned_bd (p := (j : Int)) a1
  have b2 := turned_bd (p := (i : Int)) a2
  have b3 := mul_bd (A := 16) (B := 16) (show 0 ≤ (n : Int) ∧ (n : Int) ≤ 16 by omega) (show 0 ≤ turned n (cols.getD j 0) i ∧ turned n (cols.getD j 0) i ≤ 16 by omega)
  refine pspec_of (md := 0) (rf := []) mixed tabOK hC Tryz.func96 (by rfl) (by rfl) (by rfl) ?_
  repeat' ((conv => whnf); first | refine And.intro ?_ ?_ | with_reducible exact VC.mk rfl | exact Ok.mk | exact True.intro | refine Nx.mk ?_ | refine Fin.mk ?_ | intro _)
  all_goals ((try refine VC.mk ?_); (try simp only [CL.ncell, CL.cnt, vq] at *); (try omega))
  unfold mpF
  all_goals (refine Sup.via ?_; repeat' ((conv => whnf); first | refine And.intro ?_ ?_ | with_reducible exact VC.mk rfl | exact Ok.mk | exact True.intro | refine Nx.mk ?_ | refine Fin.mk ?_ | intro _); all_goals ((try refine VC.mk ?_); (try simp only [CL.ncell, CL.cnt, vq] at *); (try omega)); all_goals (try (simp [CL.sub]; done)))
def mpL (rows cols : List Int) : List Int := madeL rows.length (mpF rows.length rows cols)
theorem mostPerfect_spec (rows cols : List Int) (hn : rows.length ≤ 16) (hc : cols.length = rows.length) (h1 : ∀ k, k < rows.length → 0 ≤ rows.getD k 0 ∧ rows.getD k 0 < rows.length) (h2 : ∀ k, k < rows.length → 0 ≤ cols.getD k 0 ∧ cols.getD k 0 < rows.length) :
    PSpec Tryz.prog 63 [.isl (.ints .i64 rows) .none, .isl (.ints .i64 cols) .none] (gridV rows.length rows.length (mpL rows cols)) := by
  unfold mpL
  refine pspec_of (md := 0) (rf := []) mixed tabOK cpO3_ok Tryz.func63 (by rfl) (by rfl) (by rfl) ?_
  repeat' ((conv => whnf); first | refine And.intro ?_ ?_ | with_reducible exact VC.mk rfl | exact Ok.mk | exact True.intro | refine Nx.mk ?_ | refine Fin.mk ?_ | intro _)
  all_goals ((try refine VC.mk ?_); (try simp only [CL.ncell, CL.cnt, vq] at *); (try omega))
  refine ⟨mpF rows.length rows cols, fun i j hi hj => c135_spec rows.length rows cols i j hn rfl hc (by omega) (by omega) h1 h2, ?_⟩
  repeat' ((conv => whnf); first | refine And.intro ?_ ?_ | with_reducible exact VC.mk rfl | exact Ok.mk | exact True.intro | refine Nx.mk ?_ | refine Fin.mk ?_ | intro _)
  all_goals ((try refine VC.mk ?_); (try simp only [CL.ncell, CL.cnt, vq] at *); (try omega))
  all_goals (refine Sup.via ?_; repeat' ((conv => whnf); first | refine And.intro ?_ ?_ | with_reducible exact VC.mk rfl | exact Ok.mk | exact True.intro | refine Nx.mk ?_ | refine Fin.mk ?_ | intro _); all_goals ((try refine VC.mk ?_); (try simp only [CL.ncell, CL.cnt, vq] at *); (try omega)); all_goals (try (simp [CL.sub]; done)))
def mostPerfectP : PSp := fun xs K => match xs with
  | [.isl (.ints .i64 rows) .none, .isl (.ints .i64 cols) .none] => VC (rows.length ≤ 16 ∧ cols.length = rows.length ∧ (∀ k, k < rows.length → 0 ≤ rows.getD k 0 ∧ rows.getD k 0 < rows.length) ∧ ∀ k, k < rows.length → 0 ≤ cols.getD k 0 ∧ cols.getD k 0 < rows.length) ∧ K (gridV rows.length rows.length (mpL rows cols))
  | _ => False
theorem mostPerfect_ok : POK Tryz.prog 63 mostPerfectP := by
  intro xs K h
  unfold mostPerfectP at h
  split at h
  · exact ⟨_, h.2, mostPerfect_spec _ _ h.1.get.1 h.1.get.2.1 h.1.get.2.2.1 h.1.get.2.2.2⟩
  · exact h.elim
end Go.Eng.YtppflbccfdbogaaGreat
namespace Go.Eng.YtppflbccfdbogaaGreat
open Go.Proofs
set_option maxRecDepth 100000
set_option maxHeartbeats 0
set_option linter.unusedVariables false
set_option linter.unusedSimpArgs false
def panL (n : Int) : List Int := uniL n 0 0 1 2 2 1
theorem pan_sq {n : Int} (hn : 1 ≤ n) (h : n % 3 ≠ 0) : isSq n (1 % n) (2 % n) (2 % n) (1 % n) = true := by
  by_cases h1 : n % 3 = 1
  · exact isSq_of (u := n / 3) ⟨-1, by have := Int.emod_add_mul_ediv n 3; omega⟩
  · exact isSq_of (u := -(n / 3) - 1) ⟨1, by have := Int.emod_add_mul_ediv n 3; omega⟩
noncomputable def cpP1 : CPT := cpAdd 61 (pureCC reducedP) (cpAdd 54 (pureCC layP) (cpAdd 62 (pureCC halvedCP) (cpAdd 63 (pureCC mostPerfectP) noC)))
theorem cpP1_ok : CPOK Tryz.prog cpP1 := cpAdd_ok (pureCC_ok reduced_ok) (cpAdd_ok (pureCC_ok lay_ok) (cpAdd_ok (pureCC_ok halvedC_ok) (cpAdd_ok (pureCC_ok mostPerfect_ok) noC_ok)))
theorem c97_odd (n : Int) (hn : 1 ≤ n ∧ n ≤ 16) (h : n % 3 ≠ 0) : PSpec Tryz.prog 60 ([] ++ [] ++ [.ip (.pv [.bp true]) 0, .ip (.pv [.int .i64 n]) 0]) (gridV n n (panL n)) := by
  have hm := meet_none (s0 := 0 % n) (s1 := 0 % n) hn.1 (pan_sq hn.1 h)
  have h3 := emod_all hn.1 0 0 1 2 2 1
  unfold panL uniL
  refine pspec_of (md := 0) (rf := []) mixed tabOK cpP1_ok Tryz.func60 (by rfl) (by rfl) (by rfl) ?_
  repeat' ((conv => whnf); first | refine And.intro ?_ ?_ | with_reducible exact VC.mk rfl | exact Ok.mk | exact True.intro | refine Nx.mk ?_ | refine Fin.mk ?_ | intro _)
  all_goals ((try refine VC.mk ?_); (try simp only [CL.ncell, CL.cnt, vq] at *); (try omega))
  · refine ⟨by omega, fun x hx => ?_⟩
    simp only [List.mem_cons, List.not_mem_nil, or_false] at hx
    rcases hx with rfl | rfl | rfl | rfl | rfl | rfl <;> omega
  · exact ⟨hn, h3⟩
  simp only [layV, hm]
  repeat' ((conv => whnf); first | refine And.intro ?_ ?_ | with_reducible exact VC.mk rfl | exact Ok.mk | exact True.intro | refine Nx.mk ?_ | refine Fin.mk ?_ | intro _)
  all_goals ((try refine VC.mk ?_); (try simp only [CL.ncell, CL.cnt, vq] at *); (try omega))
  all_goals (refine Sup.via ?_; repeat' ((conv => whnf); first | refine And.intro ?_ ?_ | with_reducible exact VC.mk rfl | exact Ok.mk | exact True.intro | refine Nx.mk ?_ | refine Fin.mk ?_ | intro _); all_goals ((try refine VC.mk ?_); (try simp only [CL.ncell, CL.cnt, vq] at *); (try omega)); all_goals (try (simp [CL.sub]; done)))
theorem halved_bd (n : Int) (hn : 1 ≤ n ∧ n ≤ 16) (k : Nat) (hk : k < n.toNat) : 0 ≤ (halvedL n n.toNat).getD k 0 ∧ (halvedL n n.toNat).getD k 0 < n := by
  unfold halvedL
  rw [List.getD_eq_getElem?_getD, List.getElem?_map, List.getElem?_range hk]
  simp only [Option.map_some, Option.getD_some]
  unfold halvedAt
  split <;> omega
def panM (n : Int) : List Int := mpL (halvedL n n.toNat) (halvedL n n.toNat)
theorem c97_four (n : Int) (hn : 1 ≤ n ∧ n ≤ 16) (h : n % 4 = 0) : PSpec Tryz.prog 60 ([] ++ [] ++ [.ip (.pv [.bp false]) 0, .ip (.pv [.int .i64 n]) 0]) (gridV n n (panM n)) := by
  have hv : halvedV n = .tup [.isl (.ints .i64 (halvedL n n.toNat)) .none, .int .i64 0] := by unfold halvedV; rw [if_neg (by omega), if_pos h]
  have hl : ((halvedL n n.toNat).length : Int) = n := by rw [halvedL_len]; omega
  have hb := halved_bd n hn
  refine pspec_of (md := 0) (rf := []) mixed tabOK cpP1_ok Tryz.func60 (by rfl) (by rfl) (by rfl) ?_
  repeat' ((conv => whnf); first | refine And.intro ?_ ?_ | with_reducible exact VC.mk rfl | exact Ok.mk | exact True.intro | refine Nx.mk ?_ | refine Fin.mk ?_ | intro _)
  all_goals ((try refine VC.mk ?_); (try simp only [CL.ncell, CL.cnt, vq] at *); (try omega))
  simp only [hv]
  repeat' ((conv => whnf); first | refine And.intro ?_ ?_ | with_reducible exact VC.mk rfl | exact Ok.mk | exact True.intro | refine Nx.mk ?_ | refine Fin.mk ?_ | intro _)
  all_goals ((try refine VC.mk ?_); (try simp only [CL.ncell, CL.cnt, vq] at *); (try omega))
  · exact ⟨by rw [halvedL_len]; omega, fun k hk => by rw [hl]; exact hb k (by rw [halvedL_len] at hk; exact hk)⟩
  rw [hl]
  unfold panM
  all_goals (refine Sup.via ?_; repeat' ((conv => whnf); first | refine And.intro ?_ ?_ | with_reducible exact VC.mk rfl | exact Ok.mk | exact True.intro | refine Nx.mk ?_ | refine Fin.mk ?_ | intro _); all_goals ((try refine VC.mk ?_); (try simp only [CL.ncell, CL.cnt, vq] at *); (try omega)); all_goals (try (simp [CL.sub]; done)))
theorem pandiagonal_spec (n : Int) : PSpec Tryz.prog 33 [.int .i64 n] (gridOr n (n % 2 = 1 ∧ n % 3 ≠ 0 ∨ n % 4 = 0) (if n % 2 = 1 then panL n else panM n)) := by
  unfold gridOr
  by_cases hn : n < 1 ∨ 16 < n
  · rw [if_pos hn]
    refine pspec_of (md := 1) (rf := []) mixed tabOK cpO2_ok Tryz.func33 (by rfl) (by rfl) (by rfl) ?_
    repeat' ((conv => whnf); first | refine And.intro ?_ ?_ | with_reducible exact VC.mk rfl | exact Ok.mk | exact True.intro | refine Nx.mk ?_ | refine Fin.mk ?_ | intro _)
    all_goals ((try refine VC.mk ?_); (try simp only [CL.ncell, CL.cnt, vq] at *); (try omega))
    all_goals (try (exfalso; omega))
    all_goals (refine Sup.via ?_; repeat' ((conv => whnf); first | refine And.intro ?_ ?_ | with_reducible exact VC.mk rfl | exact Ok.mk | exact True.intro | refine Nx.mk ?_ | refine Fin.mk ?_ | intro _); all_goals ((try refine VC.mk ?_); (try simp only [CL.ncell, CL.cnt, vq] at *); (try omega)); all_goals (try (simp [CL.sub]; done)))
  · rw [if_neg hn]
    have h2 : n.tmod 2 = n % 2 := Int.tmod_eq_emod_of_nonneg (by omega)
    have h3 : n.tmod 3 = n % 3 := Int.tmod_eq_emod_of_nonneg (by omega)
    have h4 : n.tmod 4 = n % 4 := Int.tmod_eq_emod_of_nonneg (by omega)
    by_cases c1 : n % 2 = 1 ∧ n % 3 ≠ 0
    · rw [if_pos (.inl c1), if_pos c1.1]
      refine pspec_of (md := 1) (rf := []) mixed tabOK cpO2_ok Tryz.func33 (by rfl) (by rfl) (by rfl) ?_
      repeat' ((conv => whnf); first | refine And.intro ?_ ?_ | with_reducible exact VC.mk rfl | exact Ok.mk | exact True.intro | refine Nx.mk ?_ | refine Fin.mk ?_ | intro _)
      all_goals ((try refine VC.mk ?_); (try simp only [CL.ncell, CL.cnt, vq] at *); (try omega))
      all_goals (try (exfalso; omega))
      all_goals (refine ⟨n, n, panL n, (by rw [show decide (n.tmod 2 ≠ 0) = true from by simp; omega]; exact c97_odd n (by omega) c1.2), ?_⟩)
      all_goals repeat' ((conv => whnf); first | refine And.intro ?_ ?_ | with_reducible exact VC.mk rfl | exact Ok.mk | exact True.intro | refine Nx.mk ?_ | refine Fin.mk ?_ | intro _)
      all_goals all_goals ((try refine VC.mk ?_); (try simp only [CL.ncell, CL.cnt, vq] at *); (try omega))
      all_goals (refine Sup.via ?_; repeat' ((conv => whnf); first | refine And.intro ?_ ?_ | with_reducible exact VC.mk rfl | exact Ok.mk | exact True.intro | refine Nx.mk ?_ | refine Fin.mk ?_ | intro _); all_goals ((try refine VC.mk ?_); (try simp only [CL.ncell, CL.cnt, vq] at *); (try omega)); all_goals (try (simp [CL.sub]; done)))
    · by_cases c2 : n % 4 = 0
      · rw [if_pos (.inr c2), if_neg (by omega)]
        refine pspec_of (md := 1) (rf := []) mixed tabOK cpO2_ok Tryz.func33 (by rfl) (by rfl) (by rfl) ?_
        repeat' ((conv => whnf); first | refine And.intro ?_ ?_ | with_reducible exact VC.mk rfl | exact Ok.mk | exact True.intro | refine Nx.mk ?_ | refine Fin.mk ?_ | intro _)
        all_goals ((try refine VC.mk ?_); (try simp only [CL.ncell, CL.cnt, vq] at *); (try omega))
        all_goals (try (exfalso; omega))
        all_goals (refine ⟨n, n, panM n, (by rw [show decide (n.tmod 2 ≠ 0) = false from by simp; omega]; exact c97_four n (by omega) c2), ?_⟩)
        all_goals repeat' ((conv => whnf); first | refine And.intro ?_ ?_ | with_reducible exact VC.mk rfl | exact Ok.mk | exact True.intro | refine Nx.mk ?_ | refine Fin.mk ?_ | intro _)
        all_goals all_goals ((try refine VC.mk ?_); (try simp only [CL.ncell, CL.cnt, vq] at *); (try omega))
        all_goals (refine Sup.via ?_; repeat' ((conv => whnf); first | refine And.intro ?_ ?_ | with_reducible exact VC.mk rfl | exact Ok.mk | exact True.intro | refine Nx.mk ?_ | refine Fin.mk ?_ | intro _); all_goals ((try refine VC.mk ?_); (try simp only [CL.ncell, CL.cnt, vq] at *); (try omega)); all_goals (try (simp [CL.sub]; done)))
      · rw [if_neg (by omega)]
        refine pspec_of (md := 1) (rf := []) mixed tabOK cpO2_ok Tryz.func33 (by rfl) (by rfl) (by rfl) ?_
        repeat' ((conv => whnf); first | refine And.intro ?_ ?_ | with_reducible exact VC.mk rfl | exact Ok.mk | exact True.intro | refine Nx.mk ?_ | refine Fin.mk ?_ | intro _)
        all_goals ((try refine VC.mk ?_); (try simp only [CL.ncell, CL.cnt, vq] at *); (try omega))
        all_goals (try (exfalso; omega))
        all_goals (refine Sup.via ?_; repeat' ((conv => whnf); first | refine And.intro ?_ ?_ | with_reducible exact VC.mk rfl | exact Ok.mk | exact True.intro | refine Nx.mk ?_ | refine Fin.mk ?_ | intro _); all_goals ((try refine VC.mk ?_); (try simp only [CL.ncell, CL.cnt, vq] at *); (try omega)); all_goals (try (simp [CL.sub]; done)))
def pandiagonalP : PSp := fun xs K => match xs with
  | [.int .i64 n] => VC (True) ∧ K (gridOr n (n % 2 = 1 ∧ n % 3 ≠ 0 ∨ n % 4 = 0) (if n % 2 = 1 then panL n else panM n))
  | _ => False
theorem pandiagonal_ok : POK Tryz.prog 33 pandiagonalP := by
  intro xs K h
  unfold pandiagonalP at h
  split at h
  · exact ⟨_, h.2, pandiagonal_spec _⟩
  · exact h.elim
end Go.Eng.YtppflbccfdbogaaGreat
