/-
  Contracts of functions of the program: what each returns. Their conditions stand in them.
-/
import Derived.Test.YtppflbccfdbogaaEd
namespace Go.Eng.Ytppflbccfdbogaa
open Go.Proofs
set_option linter.unusedVariables false
set_option linter.unusedSimpArgs false
theorem te3b : te3.bytes = 8 := by rfl
theorem te4b : te4.bytes = 1 := by rfl
theorem te3s : te3.size = 1 := by rfl
theorem te4s : te4.size = 1 := by rfl
/-! when, checkOrder, first -/
def whenP : PSp := fun xs K => match xs with
  | [.bp h, .int .i64 e] => K (.int .i64 (if h then e else 0))
  | [.bool h, .int .i64 e] => K (.int .i64 (if h then e else 0))
  | _ => False
theorem when_spec (h : Bool) (e : Int) : PSpec Try.prog 86 [.bp h, .int .i64 e] (.int .i64 (if h then e else 0)) := by
  refine pspec_of (md := 1) (rf := []) mixed tabOK noC_ok Try.func86 (by rfl) (by rfl) (by rfl) ?_
  repeat' (first | ((conv => whnf); refine And.intro ?_ ?_) | ((conv => whnf); with_reducible exact VC.mk rfl) | ((conv => whnf); exact Ok.mk) | ((conv => whnf); exact True.intro) | ((conv => whnf); refine Nx.mk ?_) | ((conv => whnf); refine Fin.mk ?_) | ((conv => whnf); intro _))
  all_goals (first | (refine Sup.of ?_; first | rfl | (simp [*, resOf]; done)) | (refine Sup.via ?_; repeat' (first | ((conv => whnf); refine And.intro ?_ ?_) | ((conv => whnf); with_reducible exact VC.mk rfl) | ((conv => whnf); exact Ok.mk) | ((conv => whnf); exact True.intro) | ((conv => whnf); refine Nx.mk ?_) | ((conv => whnf); refine Fin.mk ?_) | ((conv => whnf); intro _)); all_goals ((try refine VC.mk ?_); (try simp only [CL.ncell, CL.cnt, Int.toNat_natCast, decide_eq_true_eq, decide_eq_false_iff_not, Bool.not_eq_true, Bool.not_false, Bool.not_true, and_self, and_true, true_and, te3b, te4b, te3s, te4s, Nat.mul_one, Nat.zero_add, List.length_cons, List.length_nil, Bool.false_eq_true, Bool.true_eq_false] at *); (try omega)); all_goals (try (simp [CL.sub]; done))))
theorem when_spec' (h : Bool) (e : Int) : PSpec Try.prog 86 [.bool h, .int .i64 e] (.int .i64 (if h then e else 0)) := by
  cases h
  all_goals
  refine pspec_of (md := 1) (rf := []) mixed tabOK noC_ok Try.func86 (by rfl) (by rfl) (by rfl) ?_
  repeat' (first | ((conv => whnf); refine And.intro ?_ ?_) | ((conv => whnf); with_reducible exact VC.mk rfl) | ((conv => whnf); exact Ok.mk) | ((conv => whnf); exact True.intro) | ((conv => whnf); refine Nx.mk ?_) | ((conv => whnf); refine Fin.mk ?_) | ((conv => whnf); intro _))
  all_goals (first | (refine Sup.of ?_; first | rfl | (simp [*, resOf]; done)) | (refine Sup.via ?_; repeat' (first | ((conv => whnf); refine And.intro ?_ ?_) | ((conv => whnf); with_reducible exact VC.mk rfl) | ((conv => whnf); exact Ok.mk) | ((conv => whnf); exact True.intro) | ((conv => whnf); refine Nx.mk ?_) | ((conv => whnf); refine Fin.mk ?_) | ((conv => whnf); intro _)); all_goals ((try refine VC.mk ?_); (try simp only [CL.ncell, CL.cnt, Int.toNat_natCast, decide_eq_true_eq, decide_eq_false_iff_not, Bool.not_eq_true, Bool.not_false, Bool.not_true, and_self, and_true, true_and, te3b, te4b, te3s, te4s, Nat.mul_one, Nat.zero_add, List.length_cons, List.length_nil, Bool.false_eq_true, Bool.true_eq_false] at *); (try omega)); all_goals (try (simp [CL.sub]; done))))
theorem when_ok : POK Try.prog 86 whenP := by
  intro xs K h
  unfold whenP at h
  split at h
  · exact ⟨_, h, when_spec _ _⟩
  · exact ⟨_, h, when_spec' _ _⟩
  · exact h.elim
noncomputable def cp1 : CPT := cpAdd 86 (pureCC whenP) noC
theorem cp1_ok : CPOK Try.prog cp1 := cpAdd_ok (pureCC_ok when_ok) noC_ok
theorem checkOrder_spec (n : Int) : PSpec Try.prog 85 [.int .i64 n] (.int .i64 (if n < 1 ∨ 16 < n then 3 else 0)) := by
  refine pspec_of (md := 1) (rf := []) mixed tabOK cp1_ok Try.func85 (by rfl) (by rfl) (by rfl) ?_
  repeat' (first | ((conv => whnf); refine And.intro ?_ ?_) | ((conv => whnf); with_reducible exact VC.mk rfl) | ((conv => whnf); exact Ok.mk) | ((conv => whnf); exact True.intro) | ((conv => whnf); refine Nx.mk ?_) | ((conv => whnf); refine Fin.mk ?_) | ((conv => whnf); intro _))
  all_goals refine Sup.of ?_
  all_goals simp_all [resOf]
  all_goals (split <;> split <;> omega)
def checkOrderP : PSp := fun xs K => match xs with
  | [.int .i64 n] => K (.int .i64 (if n < 1 ∨ 16 < n then 3 else 0))
  | _ => False
theorem checkOrder_ok : POK Try.prog 85 checkOrderP := by
  intro xs K h
  unfold checkOrderP at h
  split at h
  · exact ⟨_, h, checkOrder_spec _⟩
  · exact h.elim
/-- the first number that is not 0 -/
def firstOf : List Int → Int
  | [] => 0
  | x :: r => if x = 0 then firstOf r else x
theorem firstOf_zero : ∀ (l : List Int), (∀ i, i < l.length → l.getD i 0 = 0) → firstOf l = 0 := by
  intro l
  induction l with
  | nil => intro _; rfl
  | cons x r ih =>
    intro h
    have h0 := h 0 (by simp)
    simp at h0
    subst h0
    exact ih fun i hi => by simpa using h (i + 1) (by simpa using hi)
theorem firstOf_at : ∀ (l : List Int) (k : Nat), k < l.length → (∀ i, i < k → l.getD i 0 = 0) → l.getD k 0 ≠ 0 → firstOf l = l.getD k 0 := by
  intro l
  induction l with
  | nil => intro k hk; simp at hk
  | cons x r ih =>
    intro k hk h hne
    cases k with
    | zero => simp at hne; simp [firstOf, hne]
    | succ k =>
      have h0 := h 0 (by omega)
      simp at h0
      subst h0
      have := ih k (by simpa using hk) (fun i hi => by simpa using h (i + 1) (by omega)) (by simpa using hne)
      simp [firstOf, this]
theorem first_spec (l : List Int) (hl : l.length < 1000000) : PSpec Try.prog 84 [.isl (.ints .i64 l) .none] (.int .i64 (firstOf l)) := by
  refine pspec_of (md := 1) (rf := []) mixed tabOK noC_ok Try.func84 (by rfl) (by rfl) (by rfl) ?_
  repeat' (first | ((conv => whnf); refine And.intro ?_ ?_) | ((conv => whnf); with_reducible exact VC.mk rfl) | ((conv => whnf); exact Ok.mk) | ((conv => whnf); exact True.intro) | ((conv => whnf); refine Nx.mk ?_) | ((conv => whnf); refine Fin.mk ?_) | ((conv => whnf); intro _))
  conv => whnf
  refine loop_of (X := Nat) (fun i => i ≤ l.length ∧ ∀ j, j < i → l.getD j 0 = 0) (fun i => [(7, .int .i64 i)]) (fun _ => []) (fun i => l.length - i) 0 ⟨anyB_ok, mixed, tabOK, noC_ok, noY_ok⟩ (by rfl) ⟨by omega, fun j hj => by omega⟩ ?_ ?_
  · repeat' (first | ((conv => whnf); refine And.intro ?_ ?_) | ((conv => whnf); with_reducible exact VC.mk rfl) | ((conv => whnf); exact Ok.mk) | ((conv => whnf); exact True.intro) | ((conv => whnf); refine Nx.mk ?_) | ((conv => whnf); refine Fin.mk ?_) | ((conv => whnf); intro _))
    all_goals ((try refine VC.mk ?_); (try simp only [CL.ncell, CL.cnt, Int.toNat_natCast, decide_eq_true_eq, decide_eq_false_iff_not, Bool.not_eq_true, Bool.not_false, Bool.not_true, and_self, and_true, true_and, te3b, te4b, te3s, te4s, Nat.mul_one, Nat.zero_add, List.length_cons, List.length_nil, Bool.false_eq_true, Bool.true_eq_false] at *); (try omega))
  · intro i hi
    obtain ⟨hi, hz⟩ := hi
    repeat' (first | ((conv => whnf); refine And.intro ?_ ?_) | ((conv => whnf); with_reducible exact VC.mk rfl) | ((conv => whnf); exact Ok.mk) | ((conv => whnf); exact True.intro) | ((conv => whnf); refine Nx.mk ?_) | ((conv => whnf); refine Fin.mk ?_) | ((conv => whnf); intro _))
    all_goals ((try refine VC.mk ?_); (try simp only [CL.ncell, CL.cnt, Int.toNat_natCast, decide_eq_true_eq, decide_eq_false_iff_not, Bool.not_eq_true, Bool.not_false, Bool.not_true, and_self, and_true, true_and, te3b, te4b, te3s, te4s, Nat.mul_one, Nat.zero_add, List.length_cons, List.length_nil, Bool.false_eq_true, Bool.true_eq_false] at *); (try omega))
    · rename_i hne
      have := firstOf_at l i (by omega) hz (by simpa using hne)
      rw [this]; exact Sup.of rfl
    · rename_i hne
      have hne : l.getD i 0 = 0 := by simpa using hne
      refine ⟨i + 1, [], ⟨⟨by omega, fun j hj => ?_⟩, by omega⟩, ?_⟩
      · by_cases e : j = i
        · subst e; exact hne
        · exact hz j (by omega)
      · repeat' (first | ((conv => whnf); refine And.intro ?_ ?_) | ((conv => whnf); with_reducible exact VC.mk rfl) | ((conv => whnf); exact Ok.mk) | ((conv => whnf); exact True.intro) | ((conv => whnf); refine Nx.mk ?_) | ((conv => whnf); refine Fin.mk ?_) | ((conv => whnf); intro _))
        all_goals ((try refine VC.mk ?_); (try simp only [CL.ncell, CL.cnt, Int.toNat_natCast, decide_eq_true_eq, decide_eq_false_iff_not, Bool.not_eq_true, Bool.not_false, Bool.not_true, and_self, and_true, true_and, te3b, te4b, te3s, te4s, Nat.mul_one, Nat.zero_add, List.length_cons, List.length_nil, Bool.false_eq_true, Bool.true_eq_false] at *); (try omega))
    · have : i = l.length := by omega
      subst this
      rw [firstOf_zero l hz]; exact Sup.of rfl
def firstP : PSp := fun xs K => match xs with
  | [.isl (.ints .i64 l) .none] => VC (l.length < 1000000) ∧ K (.int .i64 (firstOf l))
  | [.nils] => K (.int .i64 0)
  | _ => False
theorem first_nil : PSpec Try.prog 84 [.nils] (.int .i64 0) := by
  refine pspec_of (md := 1) (rf := []) mixed tabOK noC_ok Try.func84 (by rfl) (by rfl) (by rfl) ?_
  repeat' (first | ((conv => whnf); refine And.intro ?_ ?_) | ((conv => whnf); with_reducible exact VC.mk rfl) | ((conv => whnf); exact Ok.mk) | ((conv => whnf); exact True.intro) | ((conv => whnf); refine Nx.mk ?_) | ((conv => whnf); refine Fin.mk ?_) | ((conv => whnf); intro _))
  conv => whnf
  refine loop_of (X := Unit) (fun _ => True) (fun _ => [(7, .int .i64 0)]) (fun _ => []) (fun _ => 0) () ⟨anyB_ok, mixed, tabOK, noC_ok, noY_ok⟩ (by rfl) trivial ?_ ?_
  · repeat' (first | ((conv => whnf); refine And.intro ?_ ?_) | ((conv => whnf); with_reducible exact VC.mk rfl) | ((conv => whnf); exact Ok.mk) | ((conv => whnf); exact True.intro) | ((conv => whnf); refine Nx.mk ?_) | ((conv => whnf); refine Fin.mk ?_) | ((conv => whnf); intro _))
    all_goals ((try refine VC.mk ?_); (try simp only [CL.ncell, CL.cnt, Int.toNat_natCast, decide_eq_true_eq, decide_eq_false_iff_not, Bool.not_eq_true, Bool.not_false, Bool.not_true, and_self, and_true, true_and, te3b, te4b, te3s, te4s, Nat.mul_one, Nat.zero_add, List.length_cons, List.length_nil, Bool.false_eq_true, Bool.true_eq_false] at *); (try omega))
  · intro i hi
    repeat' (first | ((conv => whnf); refine And.intro ?_ ?_) | ((conv => whnf); with_reducible exact VC.mk rfl) | ((conv => whnf); exact Ok.mk) | ((conv => whnf); exact True.intro) | ((conv => whnf); refine Nx.mk ?_) | ((conv => whnf); refine Fin.mk ?_) | ((conv => whnf); intro _))
    all_goals ((try refine VC.mk ?_); (try simp only [CL.ncell, CL.cnt, Int.toNat_natCast, decide_eq_true_eq, decide_eq_false_iff_not, Bool.not_eq_true, Bool.not_false, Bool.not_true, and_self, and_true, true_and, te3b, te4b, te3s, te4s, Nat.mul_one, Nat.zero_add, List.length_cons, List.length_nil, Bool.false_eq_true, Bool.true_eq_false] at *); (try omega))
    all_goals (first | (refine Sup.of ?_; first | rfl | (simp [*, resOf]; done)) | (refine Sup.via ?_; repeat' (first | ((conv => whnf); refine And.intro ?_ ?_) | ((conv => whnf); with_reducible exact VC.mk rfl) | ((conv => whnf); exact Ok.mk) | ((conv => whnf); exact True.intro) | ((conv => whnf); refine Nx.mk ?_) | ((conv => whnf); refine Fin.mk ?_) | ((conv => whnf); intro _)); all_goals ((try refine VC.mk ?_); (try simp only [CL.ncell, CL.cnt, Int.toNat_natCast, decide_eq_true_eq, decide_eq_false_iff_not, Bool.not_eq_true, Bool.not_false, Bool.not_true, and_self, and_true, true_and, te3b, te4b, te3s, te4s, Nat.mul_one, Nat.zero_add, List.length_cons, List.length_nil, Bool.false_eq_true, Bool.true_eq_false] at *); (try omega)); all_goals (try (simp [CL.sub]; done))))
theorem first_ok : POK Try.prog 84 firstP := by
  intro xs K h
  unfold firstP at h
  split at h
  · exact ⟨_, h.2, first_spec _ h.1.get⟩
  · exact ⟨_, h, first_nil⟩
  · exact h.elim
noncomputable def cp2 : CPT := cpAdd 84 (pureCC firstP) (cpAdd 85 (pureCC checkOrderP) cp1)
theorem cp2_ok : CPOK Try.prog cp2 := cpAdd_ok (pureCC_ok first_ok) (cpAdd_ok (pureCC_ok checkOrder_ok) cp1_ok)
end Go.Eng.Ytppflbccfdbogaa
namespace Go.Eng.Ytppflbccfdbogaa
open Go.Proofs
set_option maxRecDepth 100000
set_option linter.unusedVariables false
set_option linter.unusedSimpArgs false
theorem mod_eq (a n : Int) (hn : 0 < n) : (a.tmod n + n).tmod n = a % n := by
  have h1 : -n < a.tmod n := by have := Int.lt_tmod_of_pos a hn; omega
  have h2 : a.tmod n < n := Int.tmod_lt_of_pos a hn
  rw [Int.tmod_eq_emod_of_nonneg (by omega), Int.add_emod_right, Int.tmod_def, Int.sub_mul_emod_self_left]
theorem mod_spec (a n : Int) (ha : -4611686018427387904 ≤ a ∧ a ≤ 4611686018427387904) (hn : 0 < n ∧ n ≤ 1000000) : PSpec Try.prog 96 [.int .i64 a, .int .i64 n] (.int .i64 (a % n)) := by
  have h1 : -n < a.tmod n := by have := Int.lt_tmod_of_pos a hn.1; omega
  have h2 : a.tmod n < n := Int.tmod_lt_of_pos a hn.1
  refine pspec_of (md := 1) (rf := []) mixed tabOK noC_ok Try.func96 (by rfl) (by rfl) (by rfl) ?_
  repeat' (first | ((conv => whnf); refine And.intro ?_ ?_) | ((conv => whnf); with_reducible exact VC.mk rfl) | ((conv => whnf); exact Ok.mk) | ((conv => whnf); exact True.intro) | ((conv => whnf); refine Nx.mk ?_) | ((conv => whnf); refine Fin.mk ?_) | ((conv => whnf); intro _))
  all_goals ((try refine VC.mk ?_); (try simp only [CL.ncell, CL.cnt, Int.toNat_natCast, decide_eq_true_eq, decide_eq_false_iff_not, Bool.not_eq_true, Bool.not_false, Bool.not_true, and_self, and_true, true_and, te3b, te4b, te3s, te4s, Nat.mul_one, Nat.zero_add, List.length_cons, List.length_nil, Bool.false_eq_true, Bool.true_eq_false] at *); (try omega))
  rw [← mod_eq a n hn.1]; exact Sup.of rfl
def modP : PSp := fun xs K => match xs with
  | [.int .i64 a, .int .i64 n] => VC ((-4611686018427387904 ≤ a ∧ a ≤ 4611686018427387904) ∧ 0 < n ∧ n ≤ 1000000) ∧ K (.int .i64 (a % n))
  | _ => False
theorem mod_ok : POK Try.prog 96 modP := by
  intro xs K h
  unfold modP at h
  split at h
  · exact ⟨_, h.2, mod_spec _ _ h.1.get.1 h.1.get.2⟩
  · exact h.elim
noncomputable def cp3 : CPT := cpAdd 96 (pureCC modP) cp2
theorem cp3_ok : CPOK Try.prog cp3 := cpAdd_ok (pureCC_ok mod_ok) cp2_ok
theorem reduced_spec (n s0 s1 x0 x1 b0 b1 : Int) (hn : 0 < n ∧ n ≤ 1000000) (h : ∀ x ∈ [s0, s1, x0, x1, b0, b1], -4611686018427387904 ≤ x ∧ x ≤ 4611686018427387904) :
    PSpec Try.prog 98 [.agg [.int .i64 n, .int .i64 s0, .int .i64 s1, .int .i64 x0, .int .i64 x1, .int .i64 b0, .int .i64 b1]]
      (.agg [.int .i64 n, .int .i64 (s0 % n), .int .i64 (s1 % n), .int .i64 (x0 % n), .int .i64 (x1 % n), .int .i64 (b0 % n), .int .i64 (b1 % n)]) := by
  simp only [List.mem_cons, List.not_mem_nil, or_false, forall_eq_or_imp, forall_eq] at h
  obtain ⟨h1, h2, h3, h4, h5, h6⟩ := h
  refine pspec_of (md := 1) (rf := []) mixed tabOK cp3_ok Try.func98 (by rfl) (by rfl) (by rfl) ?_
  repeat' (first | ((conv => whnf); refine And.intro ?_ ?_) | ((conv => whnf); with_reducible exact VC.mk rfl) | ((conv => whnf); exact Ok.mk) | ((conv => whnf); exact True.intro) | ((conv => whnf); refine Nx.mk ?_) | ((conv => whnf); refine Fin.mk ?_) | ((conv => whnf); intro _))
  conv => whnf
  refine loop_rounds 3 (rounds_succ ⟨anyB_ok, mixed, tabOK, cp3_ok, noY_ok⟩ (by rfl) ?_)
  repeat' (first | ((conv => whnf); refine And.intro ?_ ?_) | ((conv => whnf); with_reducible exact VC.mk rfl) | ((conv => whnf); exact Ok.mk) | ((conv => whnf); exact True.intro) | ((conv => whnf); refine Nx.mk ?_) | ((conv => whnf); refine Fin.mk ?_) | ((conv => whnf); intro _))
  all_goals ((try refine VC.mk ?_); (try simp only [CL.ncell, CL.cnt, Int.toNat_natCast, decide_eq_true_eq, decide_eq_false_iff_not, Bool.not_eq_true, Bool.not_false, Bool.not_true, and_self, and_true, true_and, te3b, te4b, te3s, te4s, Nat.mul_one, Nat.zero_add, List.length_cons, List.length_nil, Bool.false_eq_true, Bool.true_eq_false] at *); (try omega))
  conv => whnf
  refine rounds_succ ⟨anyB_ok, mixed, tabOK, cp3_ok, noY_ok⟩ (by rfl) ?_
  repeat' (first | ((conv => whnf); refine And.intro ?_ ?_) | ((conv => whnf); with_reducible exact VC.mk rfl) | ((conv => whnf); exact Ok.mk) | ((conv => whnf); exact True.intro) | ((conv => whnf); refine Nx.mk ?_) | ((conv => whnf); refine Fin.mk ?_) | ((conv => whnf); intro _))
  all_goals ((try refine VC.mk ?_); (try simp only [CL.ncell, CL.cnt, Int.toNat_natCast, decide_eq_true_eq, decide_eq_false_iff_not, Bool.not_eq_true, Bool.not_false, Bool.not_true, and_self, and_true, true_and, te3b, te4b, te3s, te4s, Nat.mul_one, Nat.zero_add, List.length_cons, List.length_nil, Bool.false_eq_true, Bool.true_eq_false] at *); (try omega))
  conv => whnf
  refine rounds_succ ⟨anyB_ok, mixed, tabOK, cp3_ok, noY_ok⟩ (by rfl) ?_
  repeat' (first | ((conv => whnf); refine And.intro ?_ ?_) | ((conv => whnf); with_reducible exact VC.mk rfl) | ((conv => whnf); exact Ok.mk) | ((conv => whnf); exact True.intro) | ((conv => whnf); refine Nx.mk ?_) | ((conv => whnf); refine Fin.mk ?_) | ((conv => whnf); intro _))
  all_goals ((try refine VC.mk ?_); (try simp only [CL.ncell, CL.cnt, Int.toNat_natCast, decide_eq_true_eq, decide_eq_false_iff_not, Bool.not_eq_true, Bool.not_false, Bool.not_true, and_self, and_true, true_and, te3b, te4b, te3s, te4s, Nat.mul_one, Nat.zero_add, List.length_cons, List.length_nil, Bool.false_eq_true, Bool.true_eq_false] at *); (try omega))
  all_goals (first | (refine Sup.of ?_; first | rfl | (simp [*, resOf]; done)) | (refine Sup.via ?_; repeat' (first | ((conv => whnf); refine And.intro ?_ ?_) | ((conv => whnf); with_reducible exact VC.mk rfl) | ((conv => whnf); exact Ok.mk) | ((conv => whnf); exact True.intro) | ((conv => whnf); refine Nx.mk ?_) | ((conv => whnf); refine Fin.mk ?_) | ((conv => whnf); intro _)); all_goals ((try refine VC.mk ?_); (try simp only [CL.ncell, CL.cnt, Int.toNat_natCast, decide_eq_true_eq, decide_eq_false_iff_not, Bool.not_eq_true, Bool.not_false, Bool.not_true, and_self, and_true, true_and, te3b, te4b, te3s, te4s, Nat.mul_one, Nat.zero_add, List.length_cons, List.length_nil, Bool.false_eq_true, Bool.true_eq_false] at *); (try omega)); all_goals (try (simp [CL.sub]; done))))
def reducedP : PSp := fun xs K => match xs with
  | [.agg [.int .i64 n, .int .i64 s0, .int .i64 s1, .int .i64 x0, .int .i64 x1, .int .i64 b0, .int .i64 b1]] =>
    VC ((0 < n ∧ n ≤ 1000000) ∧ ∀ x ∈ [s0, s1, x0, x1, b0, b1], -4611686018427387904 ≤ x ∧ x ≤ 4611686018427387904) ∧
      K (.agg [.int .i64 n, .int .i64 (s0 % n), .int .i64 (s1 % n), .int .i64 (x0 % n), .int .i64 (x1 % n), .int .i64 (b0 % n), .int .i64 (b1 % n)])
  | _ => False
theorem reduced_ok : POK Try.prog 98 reducedP := by
  intro xs K h
  unfold reducedP at h
  split at h
  · exact ⟨_, h.2, reduced_spec _ _ _ _ _ _ _ h.1.get.1 h.1.get.2⟩
  · exact h.elim
/-- the cell of a number -/
def cellOf (n s0 s1 x0 x1 b0 b1 k : Int) : Int := ((s0 + (k - 1) % n * x0 + (k - 1) / n * b0) % n) * n + (s1 + (k - 1) % n * x1 + (k - 1) / n * b1) % n
theorem cell_spec (n s0 s1 x0 x1 b0 b1 k : Int) (hn : 0 < n ∧ n ≤ 1000) (hk : 1 ≤ k ∧ k ≤ 1000000) (h : ∀ x ∈ [s0, s1, x0, x1, b0, b1], 0 ≤ x ∧ x < n) :
    PSpec Try.prog 101 [.agg [.int .i64 n, .int .i64 s0, .int .i64 s1, .int .i64 x0, .int .i64 x1, .int .i64 b0, .int .i64 b1], .int .i64 k] (.int .i64 (cellOf n s0 s1 x0 x1 b0 b1 k)) := by
  simp only [List.mem_cons, List.not_mem_nil, or_false, forall_eq_or_imp, forall_eq] at h
  obtain ⟨h1, h2, h3, h4, h5, h6⟩ := h
  have ha : 0 ≤ (k - 1) % n ∧ (k - 1) % n < n := ⟨Int.emod_nonneg _ (by omega), Int.emod_lt_of_pos _ hn.1⟩
  have hb : 0 ≤ (k - 1) / n ∧ (k - 1) / n < 1000000 := ⟨Int.ediv_nonneg (by omega) (by omega), by
    have := Int.ediv_le_self (a := k - 1) n (by omega); omega⟩
  have m : ∀ x, 0 ≤ x ∧ x < n → (0 ≤ (k - 1) % n * x ∧ (k - 1) % n * x ≤ 1000000) ∧ (0 ≤ (k - 1) / n * x ∧ (k - 1) / n * x ≤ 1000000000) := fun x hx =>
    ⟨⟨Int.mul_nonneg ha.1 hx.1, by have := Int.mul_le_mul (Int.le_of_lt ha.2) (Int.le_of_lt hx.2) hx.1 (by omega); have := Int.mul_le_mul hn.2 hn.2 (by omega) (by omega); omega⟩,
     ⟨Int.mul_nonneg hb.1 hx.1, by have := Int.mul_le_mul (Int.le_of_lt hb.2) (by omega : x ≤ 1000) hx.1 (by omega); omega⟩⟩
  have q : ∀ y : Int, (0 ≤ y % n ∧ y % n < n) ∧ 0 ≤ y % n * n ∧ y % n * n ≤ 1000000 := fun y => by
    have h1 := Int.emod_nonneg y (by omega : n ≠ 0)
    have h2 := Int.emod_lt_of_pos y hn.1
    exact ⟨⟨h1, h2⟩, Int.mul_nonneg h1 (by omega), by have := Int.mul_le_mul (Int.le_of_lt h2) (Int.le_refl n) (by omega) (by omega); have := Int.mul_le_mul hn.2 hn.2 (by omega) (by omega); omega⟩
  have q1 := q (s0 + (k - 1) % n * x0 + (k - 1) / n * b0)
  have q2 := q (s1 + (k - 1) % n * x1 + (k - 1) / n * b1)
  have m3 := m x0 h3
  have m4 := m x1 h4
  have m5 := m b0 h5
  have m6 := m b1 h6
  refine pspec_of (md := 0) (rf := []) mixed tabOK noC_ok Try.func101 (by rfl) (by rfl) (by rfl) ?_
  repeat' (first | ((conv => whnf); refine And.intro ?_ ?_) | ((conv => whnf); with_reducible exact VC.mk rfl) | ((conv => whnf); exact Ok.mk) | ((conv => whnf); exact True.intro) | ((conv => whnf); refine Nx.mk ?_) | ((conv => whnf); refine Fin.mk ?_) | ((conv => whnf); intro _))
  all_goals ((try refine VC.mk ?_); (try simp only [CL.ncell, CL.cnt, Int.toNat_natCast, decide_eq_true_eq, decide_eq_false_iff_not, Bool.not_eq_true, Bool.not_false, Bool.not_true, and_self, and_true, true_and, te3b, te4b, te3s, te4s, Nat.mul_one, Nat.zero_add, List.length_cons, List.length_nil, Bool.false_eq_true, Bool.true_eq_false] at *); (try omega))
  conv => whnf
  refine loop_rounds 3 (rounds_succ ⟨anyB_ok, mixed, tabOK, noC_ok, noY_ok⟩ (by rfl) ?_)
  repeat' (first | ((conv => whnf); refine And.intro ?_ ?_) | ((conv => whnf); with_reducible exact VC.mk rfl) | ((conv => whnf); exact Ok.mk) | ((conv => whnf); exact True.intro) | ((conv => whnf); refine Nx.mk ?_) | ((conv => whnf); refine Fin.mk ?_) | ((conv => whnf); intro _))
  all_goals ((try refine VC.mk ?_); (try simp only [CL.ncell, CL.cnt, Int.toNat_natCast, decide_eq_true_eq, decide_eq_false_iff_not, Bool.not_eq_true, Bool.not_false, Bool.not_true, and_self, and_true, true_and, te3b, te4b, te3s, te4s, Nat.mul_one, Nat.zero_add, List.length_cons, List.length_nil, Bool.false_eq_true, Bool.true_eq_false] at *); (try omega))
  conv => whnf
  refine rounds_succ ⟨anyB_ok, mixed, tabOK, noC_ok, noY_ok⟩ (by rfl) ?_
  repeat' (first | ((conv => whnf); refine And.intro ?_ ?_) | ((conv => whnf); with_reducible exact VC.mk rfl) | ((conv => whnf); exact Ok.mk) | ((conv => whnf); exact True.intro) | ((conv => whnf); refine Nx.mk ?_) | ((conv => whnf); refine Fin.mk ?_) | ((conv => whnf); intro _))
  all_goals ((try refine VC.mk ?_); (try simp only [CL.ncell, CL.cnt, Int.toNat_natCast, decide_eq_true_eq, decide_eq_false_iff_not, Bool.not_eq_true, Bool.not_false, Bool.not_true, and_self, and_true, true_and, te3b, te4b, te3s, te4s, Nat.mul_one, Nat.zero_add, List.length_cons, List.length_nil, Bool.false_eq_true, Bool.true_eq_false] at *); (try omega))
  conv => whnf
  refine rounds_succ ⟨anyB_ok, mixed, tabOK, noC_ok, noY_ok⟩ (by rfl) ?_
  repeat' (first | ((conv => whnf); refine And.intro ?_ ?_) | ((conv => whnf); with_reducible exact VC.mk rfl) | ((conv => whnf); exact Ok.mk) | ((conv => whnf); exact True.intro) | ((conv => whnf); refine Nx.mk ?_) | ((conv => whnf); refine Fin.mk ?_) | ((conv => whnf); intro _))
  all_goals ((try refine VC.mk ?_); (try simp only [CL.ncell, CL.cnt, Int.toNat_natCast, decide_eq_true_eq, decide_eq_false_iff_not, Bool.not_eq_true, Bool.not_false, Bool.not_true, and_self, and_true, true_and, te3b, te4b, te3s, te4s, Nat.mul_one, Nat.zero_add, List.length_cons, List.length_nil, Bool.false_eq_true, Bool.true_eq_false] at *); (try omega))
  all_goals first | omega | exact Sup.of rfl
def cellP : PSp := fun xs K => match xs with
  | [.agg [.int .i64 n, .int .i64 s0, .int .i64 s1, .int .i64 x0, .int .i64 x1, .int .i64 b0, .int .i64 b1], .int .i64 k] =>
    VC ((0 < n ∧ n ≤ 1000) ∧ (1 ≤ k ∧ k ≤ 1000000) ∧ ∀ x ∈ [s0, s1, x0, x1, b0, b1], 0 ≤ x ∧ x < n) ∧ K (.int .i64 (cellOf n s0 s1 x0 x1 b0 b1 k))
  | _ => False
theorem cell_ok : POK Try.prog 101 cellP := by
  intro xs K h
  unfold cellP at h
  split at h
  · exact ⟨_, h.2, cell_spec _ _ _ _ _ _ _ _ h.1.get.1 h.1.get.2.1 h.1.get.2.2⟩
  · exact h.elim
end Go.Eng.Ytppflbccfdbogaa
namespace Go.Eng.Ytppflbccfdbogaa
open Go.Proofs
set_option maxRecDepth 100000
set_option maxHeartbeats 0
set_option linter.unusedVariables false
set_option linter.unusedSimpArgs false
theorem mul_bd {a b A B : Int} (ha : 0 ≤ a ∧ a ≤ A) (hb : 0 ≤ b ∧ b ≤ B) : 0 ≤ a * b ∧ a * b ≤ A * B :=
  ⟨Int.mul_nonneg ha.1 hb.1, Int.mul_le_mul ha.2 hb.2 hb.1 (by omega)⟩
abbrev gridV (r c : Int) (l : List Int) : PV := .agg [.int .i64 r, .int .i64 c, .isl (.ints .i64 l) .none]
/-! constants -/
def constOf (n : Int) : Int := n * (n * n + 1) / 2
theorem constant_spec (n : Int) (h : 0 ≤ n ∧ n ≤ 1000) : PSpec Try.prog 79 [.int .i64 n] (.int .i64 (constOf n)) := by
  have h1 := mul_bd h h
  have h2 := mul_bd h (b := n * n + 1) (B := 1000001) (by omega)
  have h3 : 0 ≤ n * (n * n + 1) / 2 ∧ n * (n * n + 1) / 2 ≤ 1000001000 := by omega
  refine pspec_of (md := 0) (rf := []) mixed tabOK noC_ok Try.func79 (by rfl) (by rfl) (by rfl) ?_
  repeat' (first | ((conv => whnf); refine And.intro ?_ ?_) | ((conv => whnf); with_reducible exact VC.mk rfl) | ((conv => whnf); exact Ok.mk) | ((conv => whnf); exact True.intro) | ((conv => whnf); refine Nx.mk ?_) | ((conv => whnf); refine Fin.mk ?_) | ((conv => whnf); intro _))
  all_goals ((try refine VC.mk ?_); (try simp only [CL.ncell, CL.cnt, Int.toNat_natCast, decide_eq_true_eq, decide_eq_false_iff_not, Bool.not_eq_true, Bool.not_false, Bool.not_true, and_self, and_true, true_and, te3b, te4b, te3s, te4s, Nat.mul_one, Nat.zero_add, List.length_cons, List.length_nil, Bool.false_eq_true, Bool.true_eq_false] at *); (try omega))
  all_goals (first | (refine Sup.of ?_; first | rfl | (simp [*, resOf]; done)) | (refine Sup.via ?_; repeat' (first | ((conv => whnf); refine And.intro ?_ ?_) | ((conv => whnf); with_reducible exact VC.mk rfl) | ((conv => whnf); exact Ok.mk) | ((conv => whnf); exact True.intro) | ((conv => whnf); refine Nx.mk ?_) | ((conv => whnf); refine Fin.mk ?_) | ((conv => whnf); intro _)); all_goals ((try refine VC.mk ?_); (try simp only [CL.ncell, CL.cnt, Int.toNat_natCast, decide_eq_true_eq, decide_eq_false_iff_not, Bool.not_eq_true, Bool.not_false, Bool.not_true, and_self, and_true, true_and, te3b, te4b, te3s, te4s, Nat.mul_one, Nat.zero_add, List.length_cons, List.length_nil, Bool.false_eq_true, Bool.true_eq_false] at *); (try omega)); all_goals (try (simp [CL.sub]; done))))
def constantP : PSp := fun xs K => match xs with
  | [.int .i64 n] => VC (0 ≤ n ∧ n ≤ 1000) ∧ K (.int .i64 (constOf n))
  | _ => False
theorem constant_ok : POK Try.prog 79 constantP := by
  intro xs K h
  unfold constantP at h
  split at h
  · exact ⟨_, h.2, constant_spec _ h.1.get⟩
  · exact h.elim
theorem Constant_spec (n : Int) (h : 0 ≤ n ∧ n ≤ 1000) : PSpec Try.prog 72 [.int .i64 n] (.int .i64 (constOf n)) := by
  have h1 := mul_bd h h
  have h2 := mul_bd h (b := n * n + 1) (B := 1000001) (by omega)
  have h3 : 0 ≤ n * (n * n + 1) / 2 ∧ n * (n * n + 1) / 2 ≤ 1000001000 := by omega
  refine pspec_of (md := 0) (rf := []) mixed tabOK noC_ok Try.func72 (by rfl) (by rfl) (by rfl) ?_
  repeat' (first | ((conv => whnf); refine And.intro ?_ ?_) | ((conv => whnf); with_reducible exact VC.mk rfl) | ((conv => whnf); exact Ok.mk) | ((conv => whnf); exact True.intro) | ((conv => whnf); refine Nx.mk ?_) | ((conv => whnf); refine Fin.mk ?_) | ((conv => whnf); intro _))
  all_goals ((try refine VC.mk ?_); (try simp only [CL.ncell, CL.cnt, Int.toNat_natCast, decide_eq_true_eq, decide_eq_false_iff_not, Bool.not_eq_true, Bool.not_false, Bool.not_true, and_self, and_true, true_and, te3b, te4b, te3s, te4s, Nat.mul_one, Nat.zero_add, List.length_cons, List.length_nil, Bool.false_eq_true, Bool.true_eq_false] at *); (try omega))
  all_goals (first | (refine Sup.of ?_; first | rfl | (simp [*, resOf]; done)) | (refine Sup.via ?_; repeat' (first | ((conv => whnf); refine And.intro ?_ ?_) | ((conv => whnf); with_reducible exact VC.mk rfl) | ((conv => whnf); exact Ok.mk) | ((conv => whnf); exact True.intro) | ((conv => whnf); refine Nx.mk ?_) | ((conv => whnf); refine Fin.mk ?_) | ((conv => whnf); intro _)); all_goals ((try refine VC.mk ?_); (try simp only [CL.ncell, CL.cnt, Int.toNat_natCast, decide_eq_true_eq, decide_eq_false_iff_not, Bool.not_eq_true, Bool.not_false, Bool.not_true, and_self, and_true, true_and, te3b, te4b, te3s, te4s, Nat.mul_one, Nat.zero_add, List.length_cons, List.length_nil, Bool.false_eq_true, Bool.true_eq_false] at *); (try omega)); all_goals (try (simp [CL.sub]; done))))
def ConstantP : PSp := fun xs K => match xs with
  | [.int .i64 n] => VC (0 ≤ n ∧ n ≤ 1000) ∧ K (.int .i64 (constOf n))
  | _ => False
theorem Constant_ok : POK Try.prog 72 ConstantP := by
  intro xs K h
  unfold ConstantP at h
  split at h
  · exact ⟨_, h.2, Constant_spec _ h.1.get⟩
  · exact h.elim
/-! remainders -/
theorem Mod_spec (a n : Int) (ha : -4611686018427387904 ≤ a ∧ a ≤ 4611686018427387904) (hn : 0 < n ∧ n ≤ 1000000) : PSpec Try.prog 80 [.int .i64 a, .int .i64 n] (.int .i64 (a % n)) := by
  have h1 : -n < a.tmod n := by have := Int.lt_tmod_of_pos a hn.1; omega
  have h2 : a.tmod n < n := Int.tmod_lt_of_pos a hn.1
  refine pspec_of (md := 1) (rf := []) mixed tabOK noC_ok Try.func80 (by rfl) (by rfl) (by rfl) ?_
  repeat' (first | ((conv => whnf); refine And.intro ?_ ?_) | ((conv => whnf); with_reducible exact VC.mk rfl) | ((conv => whnf); exact Ok.mk) | ((conv => whnf); exact True.intro) | ((conv => whnf); refine Nx.mk ?_) | ((conv => whnf); refine Fin.mk ?_) | ((conv => whnf); intro _))
  all_goals ((try refine VC.mk ?_); (try simp only [CL.ncell, CL.cnt, Int.toNat_natCast, decide_eq_true_eq, decide_eq_false_iff_not, Bool.not_eq_true, Bool.not_false, Bool.not_true, and_self, and_true, true_and, te3b, te4b, te3s, te4s, Nat.mul_one, Nat.zero_add, List.length_cons, List.length_nil, Bool.false_eq_true, Bool.true_eq_false] at *); (try omega))
  rw [← mod_eq a n hn.1]; exact Sup.of rfl
def ModP : PSp := fun xs K => match xs with
  | [.int .i64 a, .int .i64 n] => VC ((-4611686018427387904 ≤ a ∧ a ≤ 4611686018427387904) ∧ 0 < n ∧ n ≤ 1000000) ∧ K (.int .i64 (a % n))
  | _ => False
theorem Mod_ok : POK Try.prog 80 ModP := by
  intro xs K h
  unfold ModP at h
  split at h
  · exact ⟨_, h.2, Mod_spec _ _ h.1.get.1 h.1.get.2⟩
  · exact h.elim
/-! greatest common divisors -/
theorem gcd_step (a b : Int) (ha : 0 ≤ a) (hb : 0 < b) : Int.gcd b (a % b) = Int.gcd a b := by
  obtain ⟨m, rfl⟩ := Int.eq_ofNat_of_zero_le ha
  obtain ⟨k, rfl⟩ := Int.eq_ofNat_of_zero_le (Int.le_of_lt hb)
  rw [← Int.natCast_emod, Int.gcd_natCast_natCast, Int.gcd_natCast_natCast, Nat.gcd_comm k, ← Nat.gcd_rec, Nat.gcd_comm]
theorem rgcd_spec (a b : Int) (ha : 0 ≤ a ∧ a ≤ 1000000000) (hb : 0 ≤ b ∧ b ≤ 1000000000) : PSpec Try.prog 149 [.int .i64 a, .int .i64 b] (.int .i64 (Int.gcd a b)) := by
  refine pspec_of (md := 0) (rf := []) mixed tabOK noC_ok Try.func149 (by rfl) (by rfl) (by rfl) ?_
  repeat' (first | ((conv => whnf); refine And.intro ?_ ?_) | ((conv => whnf); with_reducible exact VC.mk rfl) | ((conv => whnf); exact Ok.mk) | ((conv => whnf); exact True.intro) | ((conv => whnf); refine Nx.mk ?_) | ((conv => whnf); refine Fin.mk ?_) | ((conv => whnf); intro _))
  conv => whnf
  refine loop_of (X := Int × Int) (fun x => (0 ≤ x.1 ∧ x.1 ≤ 1000000000) ∧ (0 ≤ x.2 ∧ x.2 ≤ 1000000000) ∧ Int.gcd x.1 x.2 = Int.gcd a b) (fun x => [(0, .int .i64 x.1), (1, .int .i64 x.2)]) (fun _ => []) (fun x => x.2.toNat) (a, b) ⟨anyB_ok, mixed, tabOK, noC_ok, noY_ok⟩ (by rfl) ⟨ha, hb, rfl⟩ ?_ ?_
  · repeat' (first | ((conv => whnf); refine And.intro ?_ ?_) | ((conv => whnf); with_reducible exact VC.mk rfl) | ((conv => whnf); exact Ok.mk) | ((conv => whnf); exact True.intro) | ((conv => whnf); refine Nx.mk ?_) | ((conv => whnf); refine Fin.mk ?_) | ((conv => whnf); intro _))
    all_goals ((try refine VC.mk ?_); (try simp only [CL.ncell, CL.cnt, Int.toNat_natCast, decide_eq_true_eq, decide_eq_false_iff_not, Bool.not_eq_true, Bool.not_false, Bool.not_true, and_self, and_true, true_and, te3b, te4b, te3s, te4s, Nat.mul_one, Nat.zero_add, List.length_cons, List.length_nil, Bool.false_eq_true, Bool.true_eq_false] at *); (try omega))
  · rintro ⟨x, y⟩ ⟨hx, hy, he⟩
    dsimp only at hx hy he ⊢
    have h1 : 0 < y → 0 ≤ x % y ∧ x % y < y := fun h => ⟨Int.emod_nonneg _ (by omega), Int.emod_lt_of_pos _ h⟩
    repeat' (first | ((conv => whnf); refine And.intro ?_ ?_) | ((conv => whnf); with_reducible exact VC.mk rfl) | ((conv => whnf); exact Ok.mk) | ((conv => whnf); exact True.intro) | ((conv => whnf); refine Nx.mk ?_) | ((conv => whnf); refine Fin.mk ?_) | ((conv => whnf); intro _))
    all_goals ((try refine VC.mk ?_); (try simp only [CL.ncell, CL.cnt, Int.toNat_natCast, decide_eq_true_eq, decide_eq_false_iff_not, Bool.not_eq_true, Bool.not_false, Bool.not_true, and_self, and_true, true_and, te3b, te4b, te3s, te4s, Nat.mul_one, Nat.zero_add, List.length_cons, List.length_nil, Bool.false_eq_true, Bool.true_eq_false] at *); (try omega))
    · rename_i hlt
      have := h1 hlt
      refine ⟨(y, x % y), [], ⟨⟨by dsimp only; omega, by dsimp only; omega, by dsimp only; rw [gcd_step x y hx.1 hlt]; exact he⟩, by dsimp only; omega⟩, ?_⟩
      repeat' (first | ((conv => whnf); refine And.intro ?_ ?_) | ((conv => whnf); with_reducible exact VC.mk rfl) | ((conv => whnf); exact Ok.mk) | ((conv => whnf); exact True.intro) | ((conv => whnf); refine Nx.mk ?_) | ((conv => whnf); refine Fin.mk ?_) | ((conv => whnf); intro _))
      all_goals ((try refine VC.mk ?_); (try simp only [CL.ncell, CL.cnt, Int.toNat_natCast, decide_eq_true_eq, decide_eq_false_iff_not, Bool.not_eq_true, Bool.not_false, Bool.not_true, and_self, and_true, true_and, te3b, te4b, te3s, te4s, Nat.mul_one, Nat.zero_add, List.length_cons, List.length_nil, Bool.false_eq_true, Bool.true_eq_false] at *); (try omega))
    · have : y = 0 := by omega
      subst this
      rw [← he]
      refine Sup.of ?_
      simp [resOf]; omega
def rgcdP : PSp := fun xs K => match xs with
  | [.int .i64 a, .int .i64 b] => VC ((0 ≤ a ∧ a ≤ 1000000000) ∧ 0 ≤ b ∧ b ≤ 1000000000) ∧ K (.int .i64 (Int.gcd a b))
  | _ => False
theorem rgcd_ok : POK Try.prog 149 rgcdP := by
  intro xs K h
  unfold rgcdP at h
  split at h
  · exact ⟨_, h.2, rgcd_spec _ _ h.1.get.1 h.1.get.2⟩
  · exact h.elim
theorem Gcd_spec (a b : Int) (ha : 0 ≤ a ∧ a ≤ 1000000000) (hb : 0 ≤ b ∧ b ≤ 1000000000) : PSpec Try.prog 124 [.int .i64 a, .int .i64 b] (.int .i64 (Int.gcd a b)) := by
  have h1 : max a (0 - a) = a := by omega
  have h2 : max b (0 - b) = b := by omega
  have hc : CPOK Try.prog (cpAdd 149 (pureCC rgcdP) noC) := cpAdd_ok (pureCC_ok rgcd_ok) noC_ok
  refine pspec_of (md := 0) (rf := []) mixed tabOK hc Try.func124 (by rfl) (by rfl) (by rfl) ?_
  repeat' (first | ((conv => whnf); refine And.intro ?_ ?_) | ((conv => whnf); with_reducible exact VC.mk rfl) | ((conv => whnf); exact Ok.mk) | ((conv => whnf); exact True.intro) | ((conv => whnf); refine Nx.mk ?_) | ((conv => whnf); refine Fin.mk ?_) | ((conv => whnf); intro _))
  all_goals ((try refine VC.mk ?_); (try simp only [CL.ncell, CL.cnt, Int.toNat_natCast, decide_eq_true_eq, decide_eq_false_iff_not, Bool.not_eq_true, Bool.not_false, Bool.not_true, and_self, and_true, true_and, te3b, te4b, te3s, te4s, Nat.mul_one, Nat.zero_add, List.length_cons, List.length_nil, Bool.false_eq_true, Bool.true_eq_false] at *); (try omega))
  rw [h1, h2]; exact Sup.of rfl
def GcdP : PSp := fun xs K => match xs with
  | [.int .i64 a, .int .i64 b] => VC ((0 ≤ a ∧ a ≤ 1000000000) ∧ 0 ≤ b ∧ b ≤ 1000000000) ∧ K (.int .i64 (Int.gcd a b))
  | _ => False
theorem Gcd_ok : POK Try.prog 124 GcdP := by
  intro xs K h
  unfold GcdP at h
  split at h
  · exact ⟨_, h.2, Gcd_spec _ _ h.1.get.1 h.1.get.2⟩
  · exact h.elim
theorem prime_spec (a n : Int) (ha : -4611686018427387904 ≤ a ∧ a ≤ 4611686018427387904) (hn : 0 < n ∧ n ≤ 1000000) : PSpec Try.prog 81 [.int .i64 a, .int .i64 n] (.bp (decide (Int.gcd (a % n) n = 1))) := by
  have h1 : 0 ≤ a % n ∧ a % n < n := ⟨Int.emod_nonneg _ (by omega), Int.emod_lt_of_pos _ hn.1⟩
  have hc : CPOK Try.prog (cpAdd 124 (pureCC GcdP) (cpAdd 80 (pureCC ModP) noC)) := cpAdd_ok (pureCC_ok Gcd_ok) (cpAdd_ok (pureCC_ok Mod_ok) noC_ok)
  refine pspec_of (md := 0) (rf := []) mixed tabOK hc Try.func81 (by rfl) (by rfl) (by rfl) ?_
  repeat' (first | ((conv => whnf); refine And.intro ?_ ?_) | ((conv => whnf); with_reducible exact VC.mk rfl) | ((conv => whnf); exact Ok.mk) | ((conv => whnf); exact True.intro) | ((conv => whnf); refine Nx.mk ?_) | ((conv => whnf); refine Fin.mk ?_) | ((conv => whnf); intro _))
  all_goals ((try refine VC.mk ?_); (try simp only [CL.ncell, CL.cnt, Int.toNat_natCast, decide_eq_true_eq, decide_eq_false_iff_not, Bool.not_eq_true, Bool.not_false, Bool.not_true, and_self, and_true, true_and, te3b, te4b, te3s, te4s, Nat.mul_one, Nat.zero_add, List.length_cons, List.length_nil, Bool.false_eq_true, Bool.true_eq_false] at *); (try omega))
  refine Sup.of ?_
  simp [resOf]; omega
def primeP : PSp := fun xs K => match xs with
  | [.int .i64 a, .int .i64 n] => VC ((-4611686018427387904 ≤ a ∧ a ≤ 4611686018427387904) ∧ 0 < n ∧ n ≤ 1000000) ∧ K (.bp (decide (Int.gcd (a % n) n = 1)))
  | _ => False
theorem prime_ok : POK Try.prog 81 primeP := by
  intro xs K h
  unfold primeP at h
  split at h
  · exact ⟨_, h.2, prime_spec _ _ h.1.get.1 h.1.get.2⟩
  · exact h.elim
/-- the greatest common divisor of a number with an order -/
theorem cgcd_spec (a n : Int) (ha : -4611686018427387904 ≤ a ∧ a ≤ 4611686018427387904) (hn : 0 < n ∧ n ≤ 1000000) : PSpec Try.prog 158 [.int .i64 a, .int .i64 n] (.int .i64 (Int.gcd (a % n) n)) := by
  have h1 : 0 ≤ a % n ∧ a % n < n := ⟨Int.emod_nonneg _ (by omega), Int.emod_lt_of_pos _ hn.1⟩
  have hc : CPOK Try.prog (cpAdd 96 (pureCC modP) noC) := cpAdd_ok (pureCC_ok mod_ok) noC_ok
  refine pspec_of (md := 0) (rf := []) mixed tabOK hc Try.func158 (by rfl) (by rfl) (by rfl) ?_
  repeat' (first | ((conv => whnf); refine And.intro ?_ ?_) | ((conv => whnf); with_reducible exact VC.mk rfl) | ((conv => whnf); exact Ok.mk) | ((conv => whnf); exact True.intro) | ((conv => whnf); refine Nx.mk ?_) | ((conv => whnf); refine Fin.mk ?_) | ((conv => whnf); intro _))
  all_goals ((try refine VC.mk ?_); (try simp only [CL.ncell, CL.cnt, Int.toNat_natCast, decide_eq_true_eq, decide_eq_false_iff_not, Bool.not_eq_true, Bool.not_false, Bool.not_true, and_self, and_true, true_and, te3b, te4b, te3s, te4s, Nat.mul_one, Nat.zero_add, List.length_cons, List.length_nil, Bool.false_eq_true, Bool.true_eq_false] at *); (try omega))
  conv => whnf
  refine loop_of (X := Int × Int) (fun x => (0 ≤ x.1 ∧ x.1 ≤ 1000000000) ∧ (0 ≤ x.2 ∧ x.2 ≤ 1000000000) ∧ Int.gcd x.1 x.2 = Int.gcd (a % n) n) (fun x => [(0, .int .i64 x.1), (1, .int .i64 x.2)]) (fun _ => []) (fun x => x.1.toNat) (a % n, n) ⟨anyB_ok, mixed, tabOK, hc, noY_ok⟩ (by rfl) ⟨by dsimp only; omega, by dsimp only; omega, rfl⟩ ?_ ?_
  · repeat' (first | ((conv => whnf); refine And.intro ?_ ?_) | ((conv => whnf); with_reducible exact VC.mk rfl) | ((conv => whnf); exact Ok.mk) | ((conv => whnf); exact True.intro) | ((conv => whnf); refine Nx.mk ?_) | ((conv => whnf); refine Fin.mk ?_) | ((conv => whnf); intro _))
    all_goals ((try refine VC.mk ?_); (try simp only [CL.ncell, CL.cnt, Int.toNat_natCast, decide_eq_true_eq, decide_eq_false_iff_not, Bool.not_eq_true, Bool.not_false, Bool.not_true, and_self, and_true, true_and, te3b, te4b, te3s, te4s, Nat.mul_one, Nat.zero_add, List.length_cons, List.length_nil, Bool.false_eq_true, Bool.true_eq_false] at *); (try omega))
  · rintro ⟨x, y⟩ ⟨hx, hy, he⟩
    dsimp only at hx hy he ⊢
    have h1 : 0 < x → 0 ≤ y % x ∧ y % x < x := fun h => ⟨Int.emod_nonneg _ (by omega), Int.emod_lt_of_pos _ h⟩
    repeat' (first | ((conv => whnf); refine And.intro ?_ ?_) | ((conv => whnf); with_reducible exact VC.mk rfl) | ((conv => whnf); exact Ok.mk) | ((conv => whnf); exact True.intro) | ((conv => whnf); refine Nx.mk ?_) | ((conv => whnf); refine Fin.mk ?_) | ((conv => whnf); intro _))
    all_goals ((try refine VC.mk ?_); (try simp only [CL.ncell, CL.cnt, Int.toNat_natCast, decide_eq_true_eq, decide_eq_false_iff_not, Bool.not_eq_true, Bool.not_false, Bool.not_true, and_self, and_true, true_and, te3b, te4b, te3s, te4s, Nat.mul_one, Nat.zero_add, List.length_cons, List.length_nil, Bool.false_eq_true, Bool.true_eq_false] at *); (try omega))
    · rename_i hne
      have hlt : 0 < x := by omega
      have := h1 hlt
      refine ⟨(y % x, x), [], ⟨⟨by dsimp only; omega, by dsimp only; omega, by dsimp only; rw [Int.gcd_comm, gcd_step y x hy.1 hlt, Int.gcd_comm]; exact he⟩, by dsimp only; omega⟩, ?_⟩
      repeat' (first | ((conv => whnf); refine And.intro ?_ ?_) | ((conv => whnf); with_reducible exact VC.mk rfl) | ((conv => whnf); exact Ok.mk) | ((conv => whnf); exact True.intro) | ((conv => whnf); refine Nx.mk ?_) | ((conv => whnf); refine Fin.mk ?_) | ((conv => whnf); intro _))
      all_goals ((try refine VC.mk ?_); (try simp only [CL.ncell, CL.cnt, Int.toNat_natCast, decide_eq_true_eq, decide_eq_false_iff_not, Bool.not_eq_true, Bool.not_false, Bool.not_true, and_self, and_true, true_and, te3b, te4b, te3s, te4s, Nat.mul_one, Nat.zero_add, List.length_cons, List.length_nil, Bool.false_eq_true, Bool.true_eq_false] at *); (try omega))
    · have : x = 0 := by omega
      subst this
      rw [← he]
      refine Sup.of ?_
      simp [resOf]; omega
def cgcdP : PSp := fun xs K => match xs with
  | [.int .i64 a, .int .i64 n] => VC ((-4611686018427387904 ≤ a ∧ a ≤ 4611686018427387904) ∧ 0 < n ∧ n ≤ 1000000) ∧ K (.int .i64 (Int.gcd (a % n) n))
  | _ => False
theorem cgcd_ok : POK Try.prog 158 cgcdP := by
  intro xs K h
  unfold cgcdP at h
  split at h
  · exact ⟨_, h.2, cgcd_spec _ _ h.1.get.1 h.1.get.2⟩
  · exact h.elim
/-! ranges -/
def farB (a : Int) : Bool := decide (a < -999999999 ∨ 999999999 < a)
theorem far_spec (a : Int) : PSpec Try.prog 102 [.int .i64 a] (.bp (farB a)) := by
  refine pspec_of (md := 0) (rf := []) mixed tabOK noC_ok Try.func102 (by rfl) (by rfl) (by rfl) ?_
  repeat' (first | ((conv => whnf); refine And.intro ?_ ?_) | ((conv => whnf); with_reducible exact VC.mk rfl) | ((conv => whnf); exact Ok.mk) | ((conv => whnf); exact True.intro) | ((conv => whnf); refine Nx.mk ?_) | ((conv => whnf); refine Fin.mk ?_) | ((conv => whnf); intro _))
  all_goals ((try refine VC.mk ?_); (try simp only [CL.ncell, CL.cnt, Int.toNat_natCast, decide_eq_true_eq, decide_eq_false_iff_not, Bool.not_eq_true, Bool.not_false, Bool.not_true, and_self, and_true, true_and, te3b, te4b, te3s, te4s, Nat.mul_one, Nat.zero_add, List.length_cons, List.length_nil, Bool.false_eq_true, Bool.true_eq_false] at *); (try omega))
  all_goals refine Sup.via ?_
  repeat' (first | ((conv => whnf); refine And.intro ?_ ?_) | ((conv => whnf); with_reducible exact VC.mk rfl) | ((conv => whnf); exact Ok.mk) | ((conv => whnf); exact True.intro) | ((conv => whnf); refine Nx.mk ?_) | ((conv => whnf); refine Fin.mk ?_) | ((conv => whnf); intro _))
  all_goals refine VC.mk ?_
  all_goals simp_all [farB]
  all_goals (try omega)
def farP : PSp := fun xs K => match xs with
  | [.int .i64 a] => VC (True) ∧ K (.bp (farB a))
  | _ => False
theorem far_ok : POK Try.prog 102 farP := by
  intro xs K h
  unfold farP at h
  split at h
  · exact ⟨_, h.2, far_spec _⟩
  · exact h.elim
theorem order_spec (n : Int) : PSpec Try.prog 35 [.int .i64 n] (.int .i64 (if n < 1 ∨ 16 < n then 3 else 0)) := by
  refine pspec_of (md := 0) (rf := []) mixed tabOK noC_ok Try.func35 (by rfl) (by rfl) (by rfl) ?_
  repeat' (first | ((conv => whnf); refine And.intro ?_ ?_) | ((conv => whnf); with_reducible exact VC.mk rfl) | ((conv => whnf); exact Ok.mk) | ((conv => whnf); exact True.intro) | ((conv => whnf); refine Nx.mk ?_) | ((conv => whnf); refine Fin.mk ?_) | ((conv => whnf); intro _))
  all_goals refine Sup.of ?_
  all_goals simp_all [resOf]
def orderP : PSp := fun xs K => match xs with
  | [.int .i64 n] => VC (True) ∧ K (.int .i64 (if n < 1 ∨ 16 < n then 3 else 0))
  | _ => False
theorem order_ok : POK Try.prog 35 orderP := by
  intro xs K h
  unfold orderP at h
  split at h
  · exact ⟨_, h.2, order_spec _⟩
  · exact h.elim
theorem none_spec (n : Int) (b : Bool) : PSpec Try.prog 36 [.int .i64 n, .bp b] (.int .i64 (if n = 0 ∧ b = false then 7 else n)) := by
  refine pspec_of (md := 0) (rf := []) mixed tabOK noC_ok Try.func36 (by rfl) (by rfl) (by rfl) ?_
  repeat' (first | ((conv => whnf); refine And.intro ?_ ?_) | ((conv => whnf); with_reducible exact VC.mk rfl) | ((conv => whnf); exact Ok.mk) | ((conv => whnf); exact True.intro) | ((conv => whnf); refine Nx.mk ?_) | ((conv => whnf); refine Fin.mk ?_) | ((conv => whnf); intro _))
  all_goals refine Sup.of ?_
  all_goals simp_all [resOf]
def noneP : PSp := fun xs K => match xs with
  | [.int .i64 n, .bp b] => VC (True) ∧ K (.int .i64 (if n = 0 ∧ b = false then 7 else n))
  | _ => False
theorem none_ok : POK Try.prog 36 noneP := by
  intro xs K h
  unfold noneP at h
  split at h
  · exact ⟨_, h.2, none_spec _ _⟩
  · exact h.elim
theorem grid_spec (n : Int) (l : List Int) : PSpec Try.prog 73 [.int .i64 n, .isl (.ints .i64 l) .none] (gridV n n l) := by
  refine pspec_of (md := 0) (rf := []) mixed tabOK noC_ok Try.func73 (by rfl) (by rfl) (by rfl) ?_
  repeat' (first | ((conv => whnf); refine And.intro ?_ ?_) | ((conv => whnf); with_reducible exact VC.mk rfl) | ((conv => whnf); exact Ok.mk) | ((conv => whnf); exact True.intro) | ((conv => whnf); refine Nx.mk ?_) | ((conv => whnf); refine Fin.mk ?_) | ((conv => whnf); intro _))
  all_goals (first | (refine Sup.of ?_; first | rfl | (simp [*, resOf]; done)) | (refine Sup.via ?_; repeat' (first | ((conv => whnf); refine And.intro ?_ ?_) | ((conv => whnf); with_reducible exact VC.mk rfl) | ((conv => whnf); exact Ok.mk) | ((conv => whnf); exact True.intro) | ((conv => whnf); refine Nx.mk ?_) | ((conv => whnf); refine Fin.mk ?_) | ((conv => whnf); intro _)); all_goals ((try refine VC.mk ?_); (try simp only [CL.ncell, CL.cnt, Int.toNat_natCast, decide_eq_true_eq, decide_eq_false_iff_not, Bool.not_eq_true, Bool.not_false, Bool.not_true, and_self, and_true, true_and, te3b, te4b, te3s, te4s, Nat.mul_one, Nat.zero_add, List.length_cons, List.length_nil, Bool.false_eq_true, Bool.true_eq_false] at *); (try omega)); all_goals (try (simp [CL.sub]; done))))
def gridP : PSp := fun xs K => match xs with
  | [.int .i64 n, .isl (.ints .i64 l) .none] => VC (True) ∧ K (gridV n n l)
  | _ => False
theorem grid_ok : POK Try.prog 73 gridP := by
  intro xs K h
  unfold gridP at h
  split at h
  · exact ⟨_, h.2, grid_spec _ _⟩
  · exact h.elim
theorem great_spec (r c : Int) (l : List Int) (n : Int) : PSpec Try.prog 51 [gridV r c l, .int .i64 n] (.bp (decide (n < l.length))) := by
  refine pspec_of (md := 0) (rf := []) mixed tabOK noC_ok Try.func51 (by rfl) (by rfl) (by rfl) ?_
  repeat' (first | ((conv => whnf); refine And.intro ?_ ?_) | ((conv => whnf); with_reducible exact VC.mk rfl) | ((conv => whnf); exact Ok.mk) | ((conv => whnf); exact True.intro) | ((conv => whnf); refine Nx.mk ?_) | ((conv => whnf); refine Fin.mk ?_) | ((conv => whnf); intro _))
  all_goals (first | (refine Sup.of ?_; first | rfl | (simp [*, resOf]; done)) | (refine Sup.via ?_; repeat' (first | ((conv => whnf); refine And.intro ?_ ?_) | ((conv => whnf); with_reducible exact VC.mk rfl) | ((conv => whnf); exact Ok.mk) | ((conv => whnf); exact True.intro) | ((conv => whnf); refine Nx.mk ?_) | ((conv => whnf); refine Fin.mk ?_) | ((conv => whnf); intro _)); all_goals ((try refine VC.mk ?_); (try simp only [CL.ncell, CL.cnt, Int.toNat_natCast, decide_eq_true_eq, decide_eq_false_iff_not, Bool.not_eq_true, Bool.not_false, Bool.not_true, and_self, and_true, true_and, te3b, te4b, te3s, te4s, Nat.mul_one, Nat.zero_add, List.length_cons, List.length_nil, Bool.false_eq_true, Bool.true_eq_false] at *); (try omega)); all_goals (try (simp [CL.sub]; done))))
def greatP : PSp := fun xs K => match xs with
  | [.agg [.int .i64 r, .int .i64 c, .isl (.ints .i64 l) .none], .int .i64 n] => VC (True) ∧ K (.bp (decide (n < l.length)))
  | _ => False
theorem great_ok : POK Try.prog 51 greatP := by
  intro xs K h
  unfold greatP at h
  split at h
  · exact ⟨_, h.2, great_spec _ _ _ _⟩
  · exact h.elim
theorem Square_spec (n : Int) (h : 0 ≤ n ∧ n ≤ 1000) : PSpec Try.prog 100 [.int .i64 n] (gridV n n (List.replicate (n * n).toNat 0)) := by
  have h1 := mul_bd h h
  refine pspec_of (md := 0) (rf := []) mixed tabOK noC_ok Try.func100 (by rfl) (by rfl) (by rfl) ?_
  repeat' (first | ((conv => whnf); refine And.intro ?_ ?_) | ((conv => whnf); with_reducible exact VC.mk rfl) | ((conv => whnf); exact Ok.mk) | ((conv => whnf); exact True.intro) | ((conv => whnf); refine Nx.mk ?_) | ((conv => whnf); refine Fin.mk ?_) | ((conv => whnf); intro _))
  all_goals ((try refine VC.mk ?_); (try simp only [CL.ncell, CL.cnt, Int.toNat_natCast, decide_eq_true_eq, decide_eq_false_iff_not, Bool.not_eq_true, Bool.not_false, Bool.not_true, and_self, and_true, true_and, te3b, te4b, te3s, te4s, Nat.mul_one, Nat.zero_add, List.length_cons, List.length_nil, Bool.false_eq_true, Bool.true_eq_false] at *); (try omega))
  · simp
  all_goals (first | (refine Sup.of ?_; first | rfl | (simp [*, resOf]; done)) | (refine Sup.via ?_; repeat' (first | ((conv => whnf); refine And.intro ?_ ?_) | ((conv => whnf); with_reducible exact VC.mk rfl) | ((conv => whnf); exact Ok.mk) | ((conv => whnf); exact True.intro) | ((conv => whnf); refine Nx.mk ?_) | ((conv => whnf); refine Fin.mk ?_) | ((conv => whnf); intro _)); all_goals ((try refine VC.mk ?_); (try simp only [CL.ncell, CL.cnt, Int.toNat_natCast, decide_eq_true_eq, decide_eq_false_iff_not, Bool.not_eq_true, Bool.not_false, Bool.not_true, and_self, and_true, true_and, te3b, te4b, te3s, te4s, Nat.mul_one, Nat.zero_add, List.length_cons, List.length_nil, Bool.false_eq_true, Bool.true_eq_false] at *); (try omega)); all_goals (try (simp [CL.sub]; done))))
def SquareP : PSp := fun xs K => match xs with
  | [.int .i64 n] => VC (0 ≤ n ∧ n ≤ 1000) ∧ K (gridV n n (List.replicate (n * n).toNat 0))
  | _ => False
theorem Square_ok : POK Try.prog 100 SquareP := by
  intro xs K h
  unfold SquareP at h
  split at h
  · exact ⟨_, h.2, Square_spec _ h.1.get⟩
  · exact h.elim
end Go.Eng.Ytppflbccfdbogaa
namespace Go.Eng.Ytppflbccfdbogaa
open Go.Proofs
set_option maxRecDepth 100000
set_option maxHeartbeats 0
set_option linter.unusedVariables false
set_option linter.unusedSimpArgs false
/-- a square that may be written -/
def emptyL : LSp := fun xs objs K => match xs, objs with
  | [.int .i64 n], [] => VC (0 ≤ n ∧ n ≤ 1000) ∧ K [.agg [.int .i64 n, .int .i64 n, .rsl 0 0 (n * n).toNat]] [.cells (.ints .i64 (List.replicate (n * n).toNat 0)) false]
  | _, _ => False
theorem emptyL_spec (n : Int) (h : 0 ≤ n ∧ n ≤ 1000) : LSpec Try.prog 116 [.int .i64 n] [] [.agg [.int .i64 n, .int .i64 n, .rsl 0 0 (n * n).toNat]] [.cells (.ints .i64 (List.replicate (n * n).toNat 0)) false] := by
  have h1 := mul_bd h h
  refine lspec_of (md := 1) (rf := []) mixed tabOK noC_ok 0 [(1, 0)] Try.func116 (by rfl) (by rfl) (by rfl) ?_
  repeat' (first | ((conv => whnf); refine And.intro ?_ ?_) | ((conv => whnf); with_reducible exact VC.mk rfl) | ((conv => whnf); exact Ok.mk) | ((conv => whnf); exact True.intro) | ((conv => whnf); refine Nx.mk ?_) | ((conv => whnf); refine Fin.mk ?_) | ((conv => whnf); intro _))
  all_goals ((try refine VC.mk ?_); (try simp only [CL.ncell, CL.cnt, Int.toNat_natCast, decide_eq_true_eq, decide_eq_false_iff_not, Bool.not_eq_true, Bool.not_false, Bool.not_true, and_self, and_true, true_and, te3b, te4b, te3s, te4s, Nat.mul_one, Nat.zero_add, List.length_cons, List.length_nil, Bool.false_eq_true, Bool.true_eq_false] at *); (try omega))
theorem emptyL_ok : LOK Try.prog 116 emptyL := by
  intro xs objs K h
  unfold emptyL at h
  split at h
  · exact ⟨_, _, h.2, emptyL_spec _ h.1.get⟩
  · exact h.elim
theorem SquareL_spec (n : Int) (h : 0 ≤ n ∧ n ≤ 1000) : LSpec Try.prog 100 [.int .i64 n] [] [.agg [.int .i64 n, .int .i64 n, .rsl 0 0 (n * n).toNat]] [.cells (.ints .i64 (List.replicate (n * n).toNat 0)) false] := by
  have h1 := mul_bd h h
  refine lspec_of (md := 1) (rf := []) mixed tabOK noC_ok 0 [(1, 0)] Try.func100 (by rfl) (by rfl) (by rfl) ?_
  repeat' (first | ((conv => whnf); refine And.intro ?_ ?_) | ((conv => whnf); with_reducible exact VC.mk rfl) | ((conv => whnf); exact Ok.mk) | ((conv => whnf); exact True.intro) | ((conv => whnf); refine Nx.mk ?_) | ((conv => whnf); refine Fin.mk ?_) | ((conv => whnf); intro _))
  all_goals ((try refine VC.mk ?_); (try simp only [CL.ncell, CL.cnt, Int.toNat_natCast, decide_eq_true_eq, decide_eq_false_iff_not, Bool.not_eq_true, Bool.not_false, Bool.not_true, and_self, and_true, true_and, te3b, te4b, te3s, te4s, Nat.mul_one, Nat.zero_add, List.length_cons, List.length_nil, Bool.false_eq_true, Bool.true_eq_false] at *); (try omega))
theorem SquareL_ok : LOK Try.prog 100 emptyL := by
  intro xs objs K h
  unfold emptyL at h
  split at h
  · exact ⟨_, _, h.2, SquareL_spec _ h.1.get⟩
  · exact h.elim
/-! filled from the left -/
def fillG (f : Nat → Int) (N m : Nat) : List Int := (List.range m).map f ++ List.replicate (N - m) 0
theorem fillG_len (f : Nat → Int) (N m : Nat) (h : m ≤ N) : (fillG f N m).length = N := by simp [fillG]; omega
theorem fillG_set (f : Nat → Int) (N m : Nat) (h : m < N) : (fillG f N m).set m (f m) = fillG f N (m + 1) := by
  unfold fillG
  rw [List.set_append_right _ _ (by simp), show N - m = (N - (m + 1)) + 1 by omega, List.replicate_succ, List.range_succ]
  simp
theorem fillG_all (f : Nat → Int) (N : Nat) : fillG f N N = (List.range N).map f := by simp [fillG]
theorem fillG_zero (f : Nat → Int) (N : Nat) : fillG f N 0 = List.replicate N 0 := by simp [fillG]
def madeL (n : Nat) (h : Nat → Nat → Int) : List Int := (List.range (n * n)).map fun k => h (k / n) (k % n)
def madeP : PSp := fun xs K => match xs with
  | [.int .i64 n, .fn (.func f) fs cs] => VC (0 ≤ n ∧ n ≤ 1000) ∧ ∃ h : Nat → Nat → Int, (∀ i j : Nat, (i : Int) < n → (j : Int) < n → PSpec Try.prog f (fs ++ [.int .i64 i, .int .i64 j] ++ cs) (.int .i64 (h i j))) ∧ K (gridV n n (madeL n.toNat h))
  | _ => False
theorem made_spec (n : Nat) (hn : n ≤ 1000) (f : Nat) (fs cs : List PV) (h : Nat → Nat → Int) (hh : ∀ i j : Nat, i < n → j < n → PSpec Try.prog f (fs ++ [.int .i64 i, .int .i64 j] ++ cs) (.int .i64 (h i j))) :
    PSpec Try.prog 103 [.int .i64 (n : Int), .fn (.func f) fs cs] (gridV n n (madeL n h)) := by
  refine pspec_open 1 (enters' Try.func103 (by rfl) (by rfl)) rfl (by simp) fun S0 w0 us vs hu hv => ?_
  have hY : ∀ r, YPOK Try.prog r (fromB S0 w0) (fnY f us vs fun xs K => match xs with
      | [.int .i64 i, .int .i64 j] => VC ((0 ≤ i ∧ i < n) ∧ 0 ≤ j ∧ j < n) ∧ K (.int .i64 (h i.toNat j.toNat))
      | _ => False) := fun r => fnY_ok (fs := fs) (cs := cs) (fun S w hb => ⟨hu.mono hb (.refl _), hv.mono hb (.refl _)⟩) fun xs K hk => by
    split at hk
    · rename_i i j
      obtain ⟨⟨h1, h2⟩, hk⟩ := hk
      have := hh i.toNat j.toNat (by omega) (by omega)
      rw [Int.toNat_of_nonneg h1.1, Int.toNat_of_nonneg h2.1] at this
      exact ⟨_, hk, this⟩
    · exact hk.elim
  have hC : CPOKB Try.prog (fromB S0 w0) (cpAdd 116 (lendCC [] emptyL) noC) := CPOK.up (cpAdd_ok (lendCC_ok [] emptyL_ok) noC_ok) _
  have W : Walk Try.prog none (fromB S0 w0) tab.get _ _ := ⟨fromB_ok, mixed, tabOK, hC, hY none⟩
  refine pspecB_of fromB_ok mixed tabOK (md := 1) (rf := []) hC (hY none) Try.func103 (by rfl) (by rfl) ?_
  repeat' (first | ((conv => whnf); refine And.intro ?_ ?_) | ((conv => whnf); with_reducible exact VC.mk rfl) | ((conv => whnf); exact Ok.mk) | ((conv => whnf); exact True.intro) | ((conv => whnf); refine Nx.mk ?_) | ((conv => whnf); refine Fin.mk ?_) | ((conv => whnf); intro _))
  all_goals ((try refine VC.mk ?_); (try simp only [CL.ncell, CL.cnt, Int.toNat_natCast, decide_eq_true_eq, decide_eq_false_iff_not, Bool.not_eq_true, Bool.not_false, Bool.not_true, and_self, and_true, true_and, te3b, te4b, te3s, te4s, Nat.mul_one, Nat.zero_add, List.length_cons, List.length_nil, Bool.false_eq_true, Bool.true_eq_false] at *); (try omega))
  have eN : ((n : Int) * n).toNat = n * n := by rw [← Int.natCast_mul, Int.toNat_natCast]
  simp only [eN]
  let g : Nat → Int := fun k => h (k / n) (k % n)
  have hbd : ∀ i j : Nat, i < n → j < n → n * i + j < n * n := fun i j hi hj => by
    have := Nat.mul_le_mul_left n (show i + 1 ≤ n by omega)
    rw [Nat.mul_add] at this; omega
  have hix : ∀ i j : Nat, ((n : Int) * i + j) = ((n * i + j : Nat) : Int) := fun i j => by push_cast; rfl
  have hg : ∀ i j : Nat, j < n → h i j = g (n * i + j) := fun i j hj => by
    have h1 : (n * i + j) / n = i := by rw [Nat.mul_add_div (by omega), Nat.div_eq_of_lt hj]; simp
    have h2 : (n * i + j) % n = j := by rw [Nat.mul_add_mod, Nat.mod_eq_of_lt hj]
    simp only [g, h1, h2]
  have hNN : (n : Int) * n ≤ 1000000 := (mul_bd (show 0 ≤ (n : Int) ∧ (n : Int) ≤ 1000 by omega) (show 0 ≤ (n : Int) ∧ (n : Int) ≤ 1000 by omega)).2
  have hNN' : ((n * n : Nat) : Int) ≤ 1000000 := by rw [Int.natCast_mul]; exact hNN
  conv => whnf
  refine loop_of (X := Nat) (fun i => i ≤ n) (fun i => [(11, .int .i64 i)]) (fun i => [(1, .cells (.ints .i64 (fillG g (n * n) (n * i))) false)]) (fun i => n - i) 0 W (by rfl) (by omega) ?_ ?_
  · repeat' (first | ((conv => whnf); refine And.intro ?_ ?_) | ((conv => whnf); with_reducible exact VC.mk rfl) | ((conv => whnf); exact Ok.mk) | ((conv => whnf); exact True.intro) | ((conv => whnf); refine Nx.mk ?_) | ((conv => whnf); refine Fin.mk ?_) | ((conv => whnf); intro _))
    all_goals ((try refine VC.mk ?_); (try simp only [CL.ncell, CL.cnt, Int.toNat_natCast, decide_eq_true_eq, decide_eq_false_iff_not, Bool.not_eq_true, Bool.not_false, Bool.not_true, and_self, and_true, true_and, te3b, te4b, te3s, te4s, Nat.mul_one, Nat.zero_add, List.length_cons, List.length_nil, Bool.false_eq_true, Bool.true_eq_false] at *); (try omega))
    all_goals simp [fillG_zero]
  · intro i hi
    by_cases hlt : i < n
    · repeat' (first | ((conv => whnf); refine And.intro ?_ ?_) | ((conv => whnf); with_reducible exact VC.mk rfl) | ((conv => whnf); exact Ok.mk) | ((conv => whnf); exact True.intro) | ((conv => whnf); refine Nx.mk ?_) | ((conv => whnf); refine Fin.mk ?_) | ((conv => whnf); intro _))
      all_goals ((try refine VC.mk ?_); (try simp only [CL.ncell, CL.cnt, Int.toNat_natCast, decide_eq_true_eq, decide_eq_false_iff_not, Bool.not_eq_true, Bool.not_false, Bool.not_true, and_self, and_true, true_and, te3b, te4b, te3s, te4s, Nat.mul_one, Nat.zero_add, List.length_cons, List.length_nil, Bool.false_eq_true, Bool.true_eq_false] at *); (try omega))
      conv => whnf
      refine loop_of (X := Nat) (fun j => j ≤ n) (fun j => [(15, .int .i64 j)]) (fun j => [(1, .cells (.ints .i64 (fillG g (n * n) (n * i + j))) false)]) (fun j => n - j) 0 W (by rfl) (by omega) ?_ ?_
      · repeat' (first | ((conv => whnf); refine And.intro ?_ ?_) | ((conv => whnf); with_reducible exact VC.mk rfl) | ((conv => whnf); exact Ok.mk) | ((conv => whnf); exact True.intro) | ((conv => whnf); refine Nx.mk ?_) | ((conv => whnf); refine Fin.mk ?_) | ((conv => whnf); intro _))
        all_goals ((try refine VC.mk ?_); (try simp only [CL.ncell, CL.cnt, Int.toNat_natCast, decide_eq_true_eq, decide_eq_false_iff_not, Bool.not_eq_true, Bool.not_false, Bool.not_true, and_self, and_true, true_and, te3b, te4b, te3s, te4s, Nat.mul_one, Nat.zero_add, List.length_cons, List.length_nil, Bool.false_eq_true, Bool.true_eq_false] at *); (try omega))
        all_goals simp
      · intro j hj
        by_cases hlj : j < n
        · have := hbd i j hlt hlj
          have e1 := hix i j
          have e2 := fillG_len g (n * n) (n * i + j) (by omega)
          repeat' (first | ((conv => whnf); refine And.intro ?_ ?_) | ((conv => whnf); with_reducible exact VC.mk rfl) | ((conv => whnf); exact Ok.mk) | ((conv => whnf); exact True.intro) | ((conv => whnf); refine Nx.mk ?_) | ((conv => whnf); refine Fin.mk ?_) | ((conv => whnf); intro _))
          all_goals ((try refine VC.mk ?_); (try simp only [CL.ncell, CL.cnt, Int.toNat_natCast, decide_eq_true_eq, decide_eq_false_iff_not, Bool.not_eq_true, Bool.not_false, Bool.not_true, and_self, and_true, true_and, te3b, te4b, te3s, te4s, Nat.mul_one, Nat.zero_add, List.length_cons, List.length_nil, Bool.false_eq_true, Bool.true_eq_false] at *); (try omega))
          refine ⟨j + 1, [], ⟨by omega, by omega⟩, ?_⟩
          repeat' (first | ((conv => whnf); refine And.intro ?_ ?_) | ((conv => whnf); with_reducible exact VC.mk rfl) | ((conv => whnf); exact Ok.mk) | ((conv => whnf); exact True.intro) | ((conv => whnf); refine Nx.mk ?_) | ((conv => whnf); refine Fin.mk ?_) | ((conv => whnf); intro _))
          all_goals ((try refine VC.mk ?_); (try simp only [CL.ncell, CL.cnt, Int.toNat_natCast, decide_eq_true_eq, decide_eq_false_iff_not, Bool.not_eq_true, Bool.not_false, Bool.not_true, and_self, and_true, true_and, te3b, te4b, te3s, te4s, Nat.mul_one, Nat.zero_add, List.length_cons, List.length_nil, Bool.false_eq_true, Bool.true_eq_false] at *); (try omega))
          rw [e1, Int.toNat_natCast, hg i j hlj, fillG_set _ _ _ this]; rfl
        · have : n = j := by omega
          subst this
          repeat' (first | ((conv => whnf); refine And.intro ?_ ?_) | ((conv => whnf); with_reducible exact VC.mk rfl) | ((conv => whnf); exact Ok.mk) | ((conv => whnf); exact True.intro) | ((conv => whnf); refine Nx.mk ?_) | ((conv => whnf); refine Fin.mk ?_) | ((conv => whnf); intro _))
          all_goals ((try refine VC.mk ?_); (try simp only [CL.ncell, CL.cnt, Int.toNat_natCast, decide_eq_true_eq, decide_eq_false_iff_not, Bool.not_eq_true, Bool.not_false, Bool.not_true, and_self, and_true, true_and, te3b, te4b, te3s, te4s, Nat.mul_one, Nat.zero_add, List.length_cons, List.length_nil, Bool.false_eq_true, Bool.true_eq_false] at *); (try omega))
          refine ⟨i + 1, [], ⟨by omega, by omega⟩, ?_⟩
          repeat' (first | ((conv => whnf); refine And.intro ?_ ?_) | ((conv => whnf); with_reducible exact VC.mk rfl) | ((conv => whnf); exact Ok.mk) | ((conv => whnf); exact True.intro) | ((conv => whnf); refine Nx.mk ?_) | ((conv => whnf); refine Fin.mk ?_) | ((conv => whnf); intro _))
          all_goals ((try refine VC.mk ?_); (try simp only [CL.ncell, CL.cnt, Int.toNat_natCast, decide_eq_true_eq, decide_eq_false_iff_not, Bool.not_eq_true, Bool.not_false, Bool.not_true, and_self, and_true, true_and, te3b, te4b, te3s, te4s, Nat.mul_one, Nat.zero_add, List.length_cons, List.length_nil, Bool.false_eq_true, Bool.true_eq_false] at *); (try omega))
    · have : n = i := by omega
      subst this
      repeat' (first | ((conv => whnf); refine And.intro ?_ ?_) | ((conv => whnf); with_reducible exact VC.mk rfl) | ((conv => whnf); exact Ok.mk) | ((conv => whnf); exact True.intro) | ((conv => whnf); refine Nx.mk ?_) | ((conv => whnf); refine Fin.mk ?_) | ((conv => whnf); intro _))
      all_goals ((try refine VC.mk ?_); (try simp only [CL.ncell, CL.cnt, Int.toNat_natCast, decide_eq_true_eq, decide_eq_false_iff_not, Bool.not_eq_true, Bool.not_false, Bool.not_true, and_self, and_true, true_and, te3b, te4b, te3s, te4s, Nat.mul_one, Nat.zero_add, List.length_cons, List.length_nil, Bool.false_eq_true, Bool.true_eq_false] at *); (try omega))
      · rw [fillG_len _ _ _ (Nat.le_refl _)]; exact Nat.le_refl _
      rw [fillG_all]
      refine Sup.via ?_
      repeat' (first | ((conv => whnf); refine And.intro ?_ ?_) | ((conv => whnf); with_reducible exact VC.mk rfl) | ((conv => whnf); exact Ok.mk) | ((conv => whnf); exact True.intro) | ((conv => whnf); refine Nx.mk ?_) | ((conv => whnf); refine Fin.mk ?_) | ((conv => whnf); intro _))
      all_goals ((try refine VC.mk ?_); (try simp only [CL.ncell, CL.cnt, Int.toNat_natCast, decide_eq_true_eq, decide_eq_false_iff_not, Bool.not_eq_true, Bool.not_false, Bool.not_true, and_self, and_true, true_and, te3b, te4b, te3s, te4s, Nat.mul_one, Nat.zero_add, List.length_cons, List.length_nil, Bool.false_eq_true, Bool.true_eq_false] at *); (try omega))
      simp [CL.sub, madeL, g, List.take_of_length_le]
theorem made_ok : POK Try.prog 103 madeP := by
  intro xs K h
  unfold madeP at h
  split at h
  · rename_i n f fs cs
    obtain ⟨⟨h1⟩, hh, h2, hK⟩ := h
    obtain ⟨m, rfl⟩ : ∃ m : Nat, n = m := ⟨n.toNat, by omega⟩
    simp only [Int.toNat_natCast] at hK
    exact ⟨_, hK, made_spec m (by omega) f fs cs hh (fun i j hi hj => h2 i j (by omega) (by omega))⟩
  · exact h.elim
end Go.Eng.Ytppflbccfdbogaa
namespace Go.Eng.Ytppflbccfdbogaa
open Go.Proofs
set_option maxRecDepth 100000
set_option maxHeartbeats 0
set_option linter.unusedVariables false
set_option linter.unusedSimpArgs false
theorem find_none {p : Nat → Bool} {n : Nat} (h : ∀ i, i < n → p i = false) : (List.range n).find? p = none := by
  simp only [List.find?_eq_none, List.mem_range]; exact fun i hi => by simp [h i hi]
theorem find_some {p : Nat → Bool} {n y : Nat} (hy : y < n) (hp : p y = true) (h : ∀ i, i < y → p i = false) : (List.range n).find? p = some y := by
  have e : List.range n = List.range y ++ (y :: List.range' (y + 1) (n - y - 1)) := by
    rw [List.range_eq_range', List.range_eq_range', show n = y + (1 + (n - y - 1)) by omega, ← List.range'_append_1, ← List.range'_append_1]
    simp
  rw [e, List.find?_append, find_none h]
  simp [hp]
/-- the numbers laid so far -/
def gAt (c : Nat → Nat) (N x : Nat) : List Int := (List.range x).foldl (fun g y => g.set (c y) ((y : Int) + 1)) (List.replicate N 0)
theorem gAt_succ (c : Nat → Nat) (N x : Nat) : gAt c N (x + 1) = (gAt c N x).set (c x) ((x : Int) + 1) := by simp [gAt, List.range_succ]
theorem gAt_len (c : Nat → Nat) (N : Nat) : ∀ x, (gAt c N x).length = N := by
  intro x
  induction x with
  | zero => simp [gAt]
  | succ x ih => rw [gAt_succ, List.length_set, ih]
theorem gAt_zero (c : Nat → Nat) (N : Nat) : gAt c N 0 = List.replicate N 0 := by simp [gAt]
def meetAt (c : Nat → Nat) (N y : Nat) : Bool := decide ((gAt c N y).getD (c y) 0 ≠ 0)
def meetOf (c : Nat → Nat) (N : Nat) : Option Nat := (List.range N).find? (meetAt c N)
def rowOf (n s x b k : Int) : Int := (s + (k - 1) % n * x + (k - 1) / n * b) % n
theorem cellOf_eq (n s0 s1 x0 x1 b0 b1 k : Int) : cellOf n s0 s1 x0 x1 b0 b1 k = rowOf n s0 x0 b0 k * n + rowOf n s1 x1 b1 k := rfl
theorem rowOf_bd (n s x b k : Int) (hn : 0 < n) : 0 ≤ rowOf n s x b k ∧ rowOf n s x b k < n := ⟨Int.emod_nonneg _ (by omega), Int.emod_lt_of_pos _ hn⟩
theorem cellOf_bd (n s0 s1 x0 x1 b0 b1 k : Int) (hn : 0 < n) : 0 ≤ cellOf n s0 s1 x0 x1 b0 b1 k ∧ cellOf n s0 s1 x0 x1 b0 b1 k < n * n := by
  have h1 := rowOf_bd n s0 x0 b0 k hn
  have h2 := rowOf_bd n s1 x1 b1 k hn
  rw [cellOf_eq]
  have h3 := Int.mul_le_mul_of_nonneg_right (show rowOf n s0 x0 b0 k ≤ n - 1 by omega) (show 0 ≤ n by omega)
  have h4 := Int.mul_nonneg h1.1 (show 0 ≤ n by omega)
  rw [Int.sub_mul] at h3
  omega
/-- the cell of the y-th number, from 0 -/
def cellN (n s0 s1 x0 x1 b0 b1 : Int) (y : Nat) : Nat := (cellOf n s0 s1 x0 x1 b0 b1 ((y : Int) + 1)).toNat
def layV (n : Int) (c : Nat → Nat) (N : Nat) : PV := match meetOf c N with
  | some y => .tup [gridV 0 0 [], .agg [.int .i64 ((gAt c N y).getD (c y) 0), .int .i64 ((y : Int) + 1)], .bp false]
  | none => .tup [gridV n n (gAt c N N), .agg [.int .i64 0, .int .i64 0], .bp true]
noncomputable def cpL1 : CPT := cpAdd 116 (lendCC [] emptyL) (cpAdd 101 (pureCC cellP) noC)
theorem cpL1_ok : CPOK Try.prog cpL1 := cpAdd_ok (lendCC_ok [] emptyL_ok) (cpAdd_ok (pureCC_ok cell_ok) noC_ok)
theorem lay_spec (n s0 s1 x0 x1 b0 b1 : Int) (hn : 1 ≤ n ∧ n ≤ 16) (h : ∀ x ∈ [s0, s1, x0, x1, b0, b1], 0 ≤ x ∧ x < n) :
    PSpec Try.prog 76 [.agg [.int .i64 n, .int .i64 s0, .int .i64 s1, .int .i64 x0, .int .i64 x1, .int .i64 b0, .int .i64 b1]] (layV n (cellN n s0 s1 x0 x1 b0 b1) (n * n).toNat) := by
  have h1 := mul_bd (show 0 ≤ n ∧ n ≤ 16 by omega) (show 0 ≤ n ∧ n ≤ 16 by omega)
  refine pspec_of (md := 1) (rf := []) mixed tabOK cpL1_ok Try.func76 (by rfl) (by rfl) (by rfl) ?_
  repeat' (first | ((conv => whnf); refine And.intro ?_ ?_) | ((conv => whnf); with_reducible exact VC.mk rfl) | ((conv => whnf); exact Ok.mk) | ((conv => whnf); exact True.intro) | ((conv => whnf); refine Nx.mk ?_) | ((conv => whnf); refine Fin.mk ?_) | ((conv => whnf); intro _))
  all_goals ((try refine VC.mk ?_); (try simp only [CL.ncell, CL.cnt, Int.toNat_natCast, decide_eq_true_eq, decide_eq_false_iff_not, Bool.not_eq_true, Bool.not_false, Bool.not_true, and_self, and_true, true_and, te3b, te4b, te3s, te4s, Nat.mul_one, Nat.zero_add, List.length_cons, List.length_nil, Bool.false_eq_true, Bool.true_eq_false] at *); (try omega))
  obtain ⟨N, hN⟩ : ∃ N, N = (n * n).toNat := ⟨_, rfl⟩
  have hN' : (N : Int) = n * n := by omega
  obtain ⟨c, hc⟩ : ∃ c, c = cellN n s0 s1 x0 x1 b0 b1 := ⟨_, rfl⟩
  have hcb : ∀ y, c y < N := fun y => by
    have := cellOf_bd n s0 s1 x0 x1 b0 b1 ((y : Int) + 1) (by omega)
    rw [hc]; unfold cellN; omega
  have hce : ∀ y : Nat, cellOf n s0 s1 x0 x1 b0 b1 ((y : Int) + 1) = c y := fun y => by
    have := cellOf_bd n s0 s1 x0 x1 b0 b1 ((y : Int) + 1) (by omega)
    rw [hc]; unfold cellN; omega
  rw [← hN, ← hc]
  conv => whnf
  refine loop_of (X := Nat) (fun y => y ≤ N ∧ ∀ j, j < y → meetAt c N j = false) (fun y => [(6, .int .i64 ((y : Int) + 1))]) (fun y => [(3, .cells (.ints .i64 (gAt c N y)) false)]) (fun y => N - y) 0 ⟨anyB_ok, mixed, tabOK, cpL1_ok, noY_ok⟩ (by rfl) ⟨by omega, fun j hj => by omega⟩ ?_ ?_
  · repeat' (first | ((conv => whnf); refine And.intro ?_ ?_) | ((conv => whnf); with_reducible exact VC.mk rfl) | ((conv => whnf); exact Ok.mk) | ((conv => whnf); exact True.intro) | ((conv => whnf); refine Nx.mk ?_) | ((conv => whnf); refine Fin.mk ?_) | ((conv => whnf); intro _))
    all_goals ((try refine VC.mk ?_); (try simp only [CL.ncell, CL.cnt, Int.toNat_natCast, decide_eq_true_eq, decide_eq_false_iff_not, Bool.not_eq_true, Bool.not_false, Bool.not_true, and_self, and_true, true_and, te3b, te4b, te3s, te4s, Nat.mul_one, Nat.zero_add, List.length_cons, List.length_nil, Bool.false_eq_true, Bool.true_eq_false] at *); (try omega))
  · rintro y ⟨hy, hm⟩
    by_cases hlt : y < N
    · have e1 := hcb y
      have e2 := gAt_len c N y
      have e3 := hce y
      repeat' (first | ((conv => whnf); refine And.intro ?_ ?_) | ((conv => whnf); with_reducible exact VC.mk rfl) | ((conv => whnf); exact Ok.mk) | ((conv => whnf); exact True.intro) | ((conv => whnf); refine Nx.mk ?_) | ((conv => whnf); refine Fin.mk ?_) | ((conv => whnf); intro _))
      all_goals ((try refine VC.mk ?_); (try simp only [CL.ncell, CL.cnt, Int.toNat_natCast, decide_eq_true_eq, decide_eq_false_iff_not, Bool.not_eq_true, Bool.not_false, Bool.not_true, and_self, and_true, true_and, te3b, te4b, te3s, te4s, Nat.mul_one, Nat.zero_add, List.length_cons, List.length_nil, Bool.false_eq_true, Bool.true_eq_false] at *); (try omega))
      all_goals (try simp only [e3, Int.toNat_natCast] at *)
      all_goals (try omega)
      · exact ⟨by omega, by omega, h⟩
      · have e : meetOf c N = some y := find_some hlt (by unfold meetAt; simpa using ‹_ ≠ _›) hm
        unfold layV
        rw [e]
        all_goals (first | (refine Sup.of ?_; first | rfl | (simp [*, resOf]; done)) | (refine Sup.via ?_; repeat' (first | ((conv => whnf); refine And.intro ?_ ?_) | ((conv => whnf); with_reducible exact VC.mk rfl) | ((conv => whnf); exact Ok.mk) | ((conv => whnf); exact True.intro) | ((conv => whnf); refine Nx.mk ?_) | ((conv => whnf); refine Fin.mk ?_) | ((conv => whnf); intro _)); all_goals ((try refine VC.mk ?_); (try simp only [CL.ncell, CL.cnt, Int.toNat_natCast, decide_eq_true_eq, decide_eq_false_iff_not, Bool.not_eq_true, Bool.not_false, Bool.not_true, and_self, and_true, true_and, te3b, te4b, te3s, te4s, Nat.mul_one, Nat.zero_add, List.length_cons, List.length_nil, Bool.false_eq_true, Bool.true_eq_false] at *); (try omega)); all_goals (try (simp [CL.sub]; done))))
      · refine ⟨y + 1, [], ⟨⟨by omega, fun j hj => ?_⟩, by omega⟩, ?_⟩
        · by_cases e : j = y
          · subst e; unfold meetAt; simp_all
          · exact hm j (by omega)
        · repeat' (first | ((conv => whnf); refine And.intro ?_ ?_) | ((conv => whnf); with_reducible exact VC.mk rfl) | ((conv => whnf); exact Ok.mk) | ((conv => whnf); exact True.intro) | ((conv => whnf); refine Nx.mk ?_) | ((conv => whnf); refine Fin.mk ?_) | ((conv => whnf); intro _))
          all_goals ((try refine VC.mk ?_); (try simp only [CL.ncell, CL.cnt, Int.toNat_natCast, decide_eq_true_eq, decide_eq_false_iff_not, Bool.not_eq_true, Bool.not_false, Bool.not_true, and_self, and_true, true_and, te3b, te4b, te3s, te4s, Nat.mul_one, Nat.zero_add, List.length_cons, List.length_nil, Bool.false_eq_true, Bool.true_eq_false] at *); (try omega))
          rw [gAt_succ]
    · have : N = y := by omega
      subst this
      have e : meetOf c N = none := find_none hm
      unfold layV
      rw [e]
      repeat' (first | ((conv => whnf); refine And.intro ?_ ?_) | ((conv => whnf); with_reducible exact VC.mk rfl) | ((conv => whnf); exact Ok.mk) | ((conv => whnf); exact True.intro) | ((conv => whnf); refine Nx.mk ?_) | ((conv => whnf); refine Fin.mk ?_) | ((conv => whnf); intro _))
      all_goals ((try refine VC.mk ?_); (try simp only [CL.ncell, CL.cnt, Int.toNat_natCast, decide_eq_true_eq, decide_eq_false_iff_not, Bool.not_eq_true, Bool.not_false, Bool.not_true, and_self, and_true, true_and, te3b, te4b, te3s, te4s, Nat.mul_one, Nat.zero_add, List.length_cons, List.length_nil, Bool.false_eq_true, Bool.true_eq_false] at *); (try omega))
      · rw [gAt_len]; exact Nat.le_refl _
      refine Sup.via ?_
      repeat' (first | ((conv => whnf); refine And.intro ?_ ?_) | ((conv => whnf); with_reducible exact VC.mk rfl) | ((conv => whnf); exact Ok.mk) | ((conv => whnf); exact True.intro) | ((conv => whnf); refine Nx.mk ?_) | ((conv => whnf); refine Fin.mk ?_) | ((conv => whnf); intro _))
      all_goals ((try refine VC.mk ?_); (try simp only [CL.ncell, CL.cnt, Int.toNat_natCast, decide_eq_true_eq, decide_eq_false_iff_not, Bool.not_eq_true, Bool.not_false, Bool.not_true, and_self, and_true, true_and, te3b, te4b, te3s, te4s, Nat.mul_one, Nat.zero_add, List.length_cons, List.length_nil, Bool.false_eq_true, Bool.true_eq_false] at *); (try omega))
      simp [CL.sub, List.take_of_length_le, gAt_len]
def layP : PSp := fun xs K => match xs with
  | [.agg [.int .i64 n, .int .i64 s0, .int .i64 s1, .int .i64 x0, .int .i64 x1, .int .i64 b0, .int .i64 b1]] => VC ((1 ≤ n ∧ n ≤ 16) ∧ ∀ x ∈ [s0, s1, x0, x1, b0, b1], 0 ≤ x ∧ x < n) ∧ K (layV n (cellN n s0 s1 x0 x1 b0 b1) (n * n).toNat)
  | _ => False
theorem lay_ok : POK Try.prog 76 layP := by
  intro xs K h
  unfold layP at h
  split at h
  · exact ⟨_, h.2, lay_spec _ _ _ _ _ _ _ h.1.get.1 h.1.get.2⟩
  · exact h.elim
/-! the reference -/
noncomputable def cpL2 : CPT := cpAdd 80 (pureCC ModP) noC
theorem cpL2_ok : CPOK Try.prog cpL2 := cpAdd_ok (pureCC_ok Mod_ok) noC_ok
theorem row_bd (n s x b k : Int) (hn : 1 ≤ n ∧ n ≤ 16) (hk : 1 ≤ k ∧ k ≤ 1000000) :
    (0 ≤ (k - 1) % n * (x % n) ∧ (k - 1) % n * (x % n) ≤ 256) ∧ (0 ≤ (k - 1) / n * (b % n) ∧ (k - 1) / n * (b % n) ≤ 16000000) ∧ (0 ≤ s % n ∧ s % n < n) ∧ (0 ≤ (k - 1) % n ∧ (k - 1) % n < n) ∧ 0 ≤ (k - 1) / n ∧ (k - 1) / n ≤ 1000000 := by
  have hm : ∀ y : Int, 0 ≤ y % n ∧ y % n < n := fun y => ⟨Int.emod_nonneg _ (by omega), Int.emod_lt_of_pos _ (by omega)⟩
  have hd : 0 ≤ (k - 1) / n ∧ (k - 1) / n ≤ 1000000 := ⟨Int.ediv_nonneg (by omega) (by omega), by have := Int.ediv_le_self (a := k - 1) n (by omega); omega⟩
  have h1 := hm (k - 1)
  have h2 := hm x
  have h3 := hm b
  exact ⟨mul_bd (A := 16) (B := 16) (by omega) (by omega), mul_bd (A := 1000000) (B := 16) hd (by omega), hm s, h1, hd⟩
theorem rPlace_spec (n s0 s1 x0 x1 b0 b1 k : Int) (hn : 1 ≤ n ∧ n ≤ 16) (hk : 1 ≤ k ∧ k ≤ 1000000) (h : ∀ x ∈ [s0, s1, x0, x1, b0, b1], -4611686018427387904 ≤ x ∧ x ≤ 4611686018427387904) :
    PSpec Try.prog 48 [.agg [.int .i64 n, .int .i64 s0, .int .i64 s1, .int .i64 x0, .int .i64 x1, .int .i64 b0, .int .i64 b1], .int .i64 k] (.tup [.int .i64 (rowOf n (s0 % n) (x0 % n) (b0 % n) k), .int .i64 (rowOf n (s1 % n) (x1 % n) (b1 % n) k)]) := by
  simp only [List.mem_cons, List.not_mem_nil, or_false, forall_eq_or_imp, forall_eq] at h
  obtain ⟨h1, h2, h3, h4, h5, h6⟩ := h
  have r1 := row_bd n s0 x0 b0 k hn hk
  have r2 := row_bd n s1 x1 b1 k hn hk
  refine pspec_of (md := 0) (rf := []) mixed tabOK cpL2_ok Try.func48 (by rfl) (by rfl) (by rfl) ?_
  repeat' (first | ((conv => whnf); refine And.intro ?_ ?_) | ((conv => whnf); with_reducible exact VC.mk rfl) | ((conv => whnf); exact Ok.mk) | ((conv => whnf); exact True.intro) | ((conv => whnf); refine Nx.mk ?_) | ((conv => whnf); refine Fin.mk ?_) | ((conv => whnf); intro _))
  all_goals ((try refine VC.mk ?_); (try simp only [CL.ncell, CL.cnt, Int.toNat_natCast, decide_eq_true_eq, decide_eq_false_iff_not, Bool.not_eq_true, Bool.not_false, Bool.not_true, and_self, and_true, true_and, te3b, te4b, te3s, te4s, Nat.mul_one, Nat.zero_add, List.length_cons, List.length_nil, Bool.false_eq_true, Bool.true_eq_false] at *); (try omega))
  all_goals (first | (refine Sup.of ?_; first | rfl | (simp [*, resOf]; done)) | (refine Sup.via ?_; repeat' (first | ((conv => whnf); refine And.intro ?_ ?_) | ((conv => whnf); with_reducible exact VC.mk rfl) | ((conv => whnf); exact Ok.mk) | ((conv => whnf); exact True.intro) | ((conv => whnf); refine Nx.mk ?_) | ((conv => whnf); refine Fin.mk ?_) | ((conv => whnf); intro _)); all_goals ((try refine VC.mk ?_); (try simp only [CL.ncell, CL.cnt, Int.toNat_natCast, decide_eq_true_eq, decide_eq_false_iff_not, Bool.not_eq_true, Bool.not_false, Bool.not_true, and_self, and_true, true_and, te3b, te4b, te3s, te4s, Nat.mul_one, Nat.zero_add, List.length_cons, List.length_nil, Bool.false_eq_true, Bool.true_eq_false] at *); (try omega)); all_goals (try (simp [CL.sub]; done))))
def rPlaceP : PSp := fun xs K => match xs with
  | [.agg [.int .i64 n, .int .i64 s0, .int .i64 s1, .int .i64 x0, .int .i64 x1, .int .i64 b0, .int .i64 b1], .int .i64 k] => VC ((1 ≤ n ∧ n ≤ 16) ∧ (1 ≤ k ∧ k ≤ 1000000) ∧ ∀ x ∈ [s0, s1, x0, x1, b0, b1], -4611686018427387904 ≤ x ∧ x ≤ 4611686018427387904) ∧ K (.tup [.int .i64 (rowOf n (s0 % n) (x0 % n) (b0 % n) k), .int .i64 (rowOf n (s1 % n) (x1 % n) (b1 % n) k)])
  | _ => False
theorem rPlace_ok : POK Try.prog 48 rPlaceP := by
  intro xs K h
  unfold rPlaceP at h
  split at h
  · exact ⟨_, h.2, rPlace_spec _ _ _ _ _ _ _ _ h.1.get.1 h.1.get.2.1 h.1.get.2.2⟩
  · exact h.elim
end Go.Eng.Ytppflbccfdbogaa
namespace Go.Eng.Ytppflbccfdbogaa
open Go.Proofs
set_option maxRecDepth 100000
set_option maxHeartbeats 0
set_option linter.unusedVariables false
set_option linter.unusedSimpArgs false
def stepErr (n s0 s1 x0 x1 b0 b1 : Int) : Int := if (n < 1 ∨ 16 < n) ∨ [s0, s1, x0, x1, b0, b1].any farB = true then 3 else 0
theorem stepErr_zero {n s0 s1 x0 x1 b0 b1 : Int} (h : stepErr n s0 s1 x0 x1 b0 b1 = 0) : (1 ≤ n ∧ n ≤ 16) ∧ ∀ x ∈ [s0, s1, x0, x1, b0, b1], -999999999 ≤ x ∧ x ≤ 999999999 := by
  unfold stepErr at h
  split at h
  · cases h
  · rename_i hh
    simp only [not_or, List.any_eq_true, not_exists, not_and] at hh
    refine ⟨by omega, fun x hx => ?_⟩
    have := hh.2 x hx
    unfold farB at this
    simp at this
    omega
noncomputable def cpS1 : CPT := cpAdd 102 (pureCC farP) cp2
theorem cpS1_ok : CPOK Try.prog cpS1 := cpAdd_ok (pureCC_ok far_ok) cp2_ok
theorem checkStep_spec (n s0 s1 x0 x1 b0 b1 : Int) : PSpec Try.prog 47 [.agg [.int .i64 n, .int .i64 s0, .int .i64 s1, .int .i64 x0, .int .i64 x1, .int .i64 b0, .int .i64 b1]] (.int .i64 (stepErr n s0 s1 x0 x1 b0 b1)) := by
  refine pspec_of (md := 1) (rf := []) mixed tabOK cpS1_ok Try.func47 (by rfl) (by rfl) (by rfl) ?_
  repeat' (first | ((conv => whnf); refine And.intro ?_ ?_) | ((conv => whnf); with_reducible exact VC.mk rfl) | ((conv => whnf); exact Ok.mk) | ((conv => whnf); exact True.intro) | ((conv => whnf); refine Nx.mk ?_) | ((conv => whnf); refine Fin.mk ?_) | ((conv => whnf); intro _))
  all_goals ((try refine VC.mk ?_); (try simp only [CL.ncell, CL.cnt, Int.toNat_natCast, decide_eq_true_eq, decide_eq_false_iff_not, Bool.not_eq_true, Bool.not_false, Bool.not_true, and_self, and_true, true_and, te3b, te4b, te3s, te4s, Nat.mul_one, Nat.zero_add, List.length_cons, List.length_nil, Bool.false_eq_true, Bool.true_eq_false] at *); (try omega))
  all_goals refine Sup.of ?_
  all_goals simp_all [resOf, stepErr, firstOf]
  all_goals (try (by_cases hn : n < 1 ∨ 16 < n <;> cases hf : farB b1 <;> simp_all <;> omega))
def checkStepP : PSp := fun xs K => match xs with
  | [.agg [.int .i64 n, .int .i64 s0, .int .i64 s1, .int .i64 x0, .int .i64 x1, .int .i64 b0, .int .i64 b1]] => VC (True) ∧ K (.int .i64 (stepErr n s0 s1 x0 x1 b0 b1))
  | _ => False
theorem checkStep_ok : POK Try.prog 47 checkStepP := by
  intro xs K h
  unfold checkStepP at h
  split at h
  · exact ⟨_, h.2, checkStep_spec _ _ _ _ _ _ _⟩
  · exact h.elim
theorem rCheckStep_spec (n s0 s1 x0 x1 b0 b1 : Int) : PSpec Try.prog 19 [.agg [.int .i64 n, .int .i64 s0, .int .i64 s1, .int .i64 x0, .int .i64 x1, .int .i64 b0, .int .i64 b1]] (.int .i64 (stepErr n s0 s1 x0 x1 b0 b1)) := by
  refine pspec_of (md := 1) (rf := []) mixed tabOK noC_ok Try.func19 (by rfl) (by rfl) (by rfl) ?_
  repeat' (first | ((conv => whnf); refine And.intro ?_ ?_) | ((conv => whnf); with_reducible exact VC.mk rfl) | ((conv => whnf); exact Ok.mk) | ((conv => whnf); exact True.intro) | ((conv => whnf); refine Nx.mk ?_) | ((conv => whnf); refine Fin.mk ?_) | ((conv => whnf); intro _))
  all_goals ((try refine VC.mk ?_); (try simp only [CL.ncell, CL.cnt, Int.toNat_natCast, decide_eq_true_eq, decide_eq_false_iff_not, Bool.not_eq_true, Bool.not_false, Bool.not_true, and_self, and_true, true_and, te3b, te4b, te3s, te4s, Nat.mul_one, Nat.zero_add, List.length_cons, List.length_nil, Bool.false_eq_true, Bool.true_eq_false] at *); (try omega))
  · all_goals (refine Sup.of ?_; simp_all [resOf, stepErr] <;> omega)
  · unfold stepErr
    obtain ⟨L, hL⟩ : ∃ L : List Int, [s0, s1, x0, x1, b0, b1] = L := ⟨_, rfl⟩
    have hlen : L.length = 6 := by rw [← hL]; rfl
    have hn : ¬ (n < 1 ∨ 16 < n) := by simp_all
    rw [hL]
    conv => whnf
    refine loop_of (X := Nat) (fun i => i ≤ 6 ∧ ∀ j, j < i → farB (L.getD j 0) = false) (fun i => [(4, .int .i64 i)]) (fun i => []) (fun i => 6 - i) 0 ⟨anyB_ok, mixed, tabOK, noC_ok, noY_ok⟩ (by rfl) ⟨by omega, fun j hj => by omega⟩ ?_ ?_
    · repeat' (first | ((conv => whnf); refine And.intro ?_ ?_) | ((conv => whnf); with_reducible exact VC.mk rfl) | ((conv => whnf); exact Ok.mk) | ((conv => whnf); exact True.intro) | ((conv => whnf); refine Nx.mk ?_) | ((conv => whnf); refine Fin.mk ?_) | ((conv => whnf); intro _))
      all_goals ((try refine VC.mk ?_); (try simp only [CL.ncell, CL.cnt, Int.toNat_natCast, decide_eq_true_eq, decide_eq_false_iff_not, Bool.not_eq_true, Bool.not_false, Bool.not_true, and_self, and_true, true_and, te3b, te4b, te3s, te4s, Nat.mul_one, Nat.zero_add, List.length_cons, List.length_nil, Bool.false_eq_true, Bool.true_eq_false] at *); (try omega))
    · rintro i ⟨hi, hok⟩
      by_cases hlt : i < 6
      · have hbad : farB (L.getD i 0) = true → Sup (resOf [.int .i64 3]) (.int .i64 (if (n < 1 ∨ 16 < n) ∨ L.any farB = true then 3 else 0)) := fun h => by
          rw [if_pos (.inr (List.any_eq_true.2 ⟨L.getD i 0, by rw [List.getD_eq_getElem?_getD, List.getElem?_eq_getElem (by omega)]; exact List.getElem_mem _, h⟩))]; exact Sup.of rfl
        repeat' (first | ((conv => whnf); refine And.intro ?_ ?_) | ((conv => whnf); with_reducible exact VC.mk rfl) | ((conv => whnf); exact Ok.mk) | ((conv => whnf); exact True.intro) | ((conv => whnf); refine Nx.mk ?_) | ((conv => whnf); refine Fin.mk ?_) | ((conv => whnf); intro _))
        all_goals ((try refine VC.mk ?_); (try simp only [CL.ncell, CL.cnt, Int.toNat_natCast, decide_eq_true_eq, decide_eq_false_iff_not, Bool.not_eq_true, Bool.not_false, Bool.not_true, and_self, and_true, true_and, te3b, te4b, te3s, te4s, Nat.mul_one, Nat.zero_add, List.length_cons, List.length_nil, Bool.false_eq_true, Bool.true_eq_false] at *); (try omega))
        · exact hbad (by unfold farB; simp_all)
        · refine ⟨i + 1, [], ⟨⟨by omega, fun j hj => ?_⟩, by omega⟩, ?_⟩
          · by_cases e : j = i
            · subst e; unfold farB; simp_all
            · exact hok j (by omega)
          · repeat' (first | ((conv => whnf); refine And.intro ?_ ?_) | ((conv => whnf); with_reducible exact VC.mk rfl) | ((conv => whnf); exact Ok.mk) | ((conv => whnf); exact True.intro) | ((conv => whnf); refine Nx.mk ?_) | ((conv => whnf); refine Fin.mk ?_) | ((conv => whnf); intro _))
            all_goals ((try refine VC.mk ?_); (try simp only [CL.ncell, CL.cnt, Int.toNat_natCast, decide_eq_true_eq, decide_eq_false_iff_not, Bool.not_eq_true, Bool.not_false, Bool.not_true, and_self, and_true, true_and, te3b, te4b, te3s, te4s, Nat.mul_one, Nat.zero_add, List.length_cons, List.length_nil, Bool.false_eq_true, Bool.true_eq_false] at *); (try omega))
        · exact hbad (by unfold farB; simp_all)
      · have : i = 6 := by omega
        subst this
        have e : ¬ ((n < 1 ∨ 16 < n) ∨ L.any farB = true) := by
          rintro (h | h)
          · exact hn h
          · obtain ⟨x, hx, hf⟩ := List.any_eq_true.1 h
            obtain ⟨j, hj, rfl⟩ := List.getElem_of_mem hx
            have := hok j (by omega)
            rw [List.getD_eq_getElem?_getD, List.getElem?_eq_getElem hj] at this
            simp at this; rw [this] at hf; cases hf
        rw [if_neg e]
        repeat' (first | ((conv => whnf); refine And.intro ?_ ?_) | ((conv => whnf); with_reducible exact VC.mk rfl) | ((conv => whnf); exact Ok.mk) | ((conv => whnf); exact True.intro) | ((conv => whnf); refine Nx.mk ?_) | ((conv => whnf); refine Fin.mk ?_) | ((conv => whnf); intro _))
        all_goals ((try refine VC.mk ?_); (try simp only [CL.ncell, CL.cnt, Int.toNat_natCast, decide_eq_true_eq, decide_eq_false_iff_not, Bool.not_eq_true, Bool.not_false, Bool.not_true, and_self, and_true, true_and, te3b, te4b, te3s, te4s, Nat.mul_one, Nat.zero_add, List.length_cons, List.length_nil, Bool.false_eq_true, Bool.true_eq_false] at *); (try omega))
        all_goals (try exact Sup.of rfl)
  · all_goals (refine Sup.of ?_; simp_all [resOf, stepErr] <;> omega)
def rCheckStepP : PSp := fun xs K => match xs with
  | [.agg [.int .i64 n, .int .i64 s0, .int .i64 s1, .int .i64 x0, .int .i64 x1, .int .i64 b0, .int .i64 b1]] => VC (True) ∧ K (.int .i64 (stepErr n s0 s1 x0 x1 b0 b1))
  | _ => False
theorem rCheckStep_ok : POK Try.prog 19 rCheckStepP := by
  intro xs K h
  unfold rCheckStepP at h
  split at h
  · exact ⟨_, h.2, rCheckStep_spec _ _ _ _ _ _ _⟩
  · exact h.elim
theorem emod_all {n : Int} (hn : 1 ≤ n) (s0 s1 x0 x1 b0 b1 : Int) : ∀ x ∈ [s0 % n, s1 % n, x0 % n, x1 % n, b0 % n, b1 % n], 0 ≤ x ∧ x < n := by
  have hm : ∀ y : Int, 0 ≤ y % n ∧ y % n < n := fun y => ⟨Int.emod_nonneg _ (by omega), Int.emod_lt_of_pos _ (by omega)⟩
  intro x hx
  simp only [List.mem_cons, List.not_mem_nil, or_false] at hx
  rcases hx with rfl | rfl | rfl | rfl | rfl | rfl <;> exact hm _
/-- the cells of a rule -/
abbrev cellS (n s0 s1 x0 x1 b0 b1 : Int) : Nat → Nat := cellN n (s0 % n) (s1 % n) (x0 % n) (x1 % n) (b0 % n) (b1 % n)
/-! Uniform -/
def uniV (n : Int) (c : Nat → Nat) (N : Nat) : PV := match meetOf c N with
  | some _ => .tup [gridV 0 0 [], .int .i64 18]
  | none => .tup [gridV n n (gAt c N N), .int .i64 0]
def uniformV (n s0 s1 x0 x1 b0 b1 : Int) : PV := if stepErr n s0 s1 x0 x1 b0 b1 = 0 then uniV n (cellS n s0 s1 x0 x1 b0 b1) (n * n).toNat else .tup [gridV 0 0 [], .int .i64 (stepErr n s0 s1 x0 x1 b0 b1)]
noncomputable def cpS2 : CPT := cpAdd 47 (pureCC checkStepP) (cpAdd 98 (pureCC reducedP) (cpAdd 76 (pureCC layP) (cpAdd 101 (pureCC cellP) cp2)))
theorem cpS2_ok : CPOK Try.prog cpS2 := cpAdd_ok (pureCC_ok checkStep_ok) (cpAdd_ok (pureCC_ok reduced_ok) (cpAdd_ok (pureCC_ok lay_ok) (cpAdd_ok (pureCC_ok cell_ok) cp2_ok)))
theorem uniform_spec (n s0 s1 x0 x1 b0 b1 : Int) : PSpec Try.prog 46 [.agg [.int .i64 n, .int .i64 s0, .int .i64 s1, .int .i64 x0, .int .i64 x1, .int .i64 b0, .int .i64 b1]] (uniformV n s0 s1 x0 x1 b0 b1) := by
  by_cases hz : stepErr n s0 s1 x0 x1 b0 b1 = 0
  · obtain ⟨h1, h2⟩ := stepErr_zero hz
    have h3 := emod_all h1.1 s0 s1 x0 x1 b0 b1
    unfold uniformV
    rw [if_pos hz]
    refine pspec_of (md := 1) (rf := []) mixed tabOK cpS2_ok Try.func46 (by rfl) (by rfl) (by rfl) ?_
    repeat' (first | ((conv => whnf); refine And.intro ?_ ?_) | ((conv => whnf); with_reducible exact VC.mk rfl) | ((conv => whnf); exact Ok.mk) | ((conv => whnf); exact True.intro) | ((conv => whnf); refine Nx.mk ?_) | ((conv => whnf); refine Fin.mk ?_) | ((conv => whnf); intro _))
    all_goals ((try refine VC.mk ?_); (try simp only [CL.ncell, CL.cnt, Int.toNat_natCast, decide_eq_true_eq, decide_eq_false_iff_not, Bool.not_eq_true, Bool.not_false, Bool.not_true, and_self, and_true, true_and, te3b, te4b, te3s, te4s, Nat.mul_one, Nat.zero_add, List.length_cons, List.length_nil, Bool.false_eq_true, Bool.true_eq_false] at *); (try omega))
    · exact ⟨by omega, fun x hx => by have := h2 x hx; omega⟩
    · exact ⟨h1, h3⟩
    cases hm : meetOf (cellN n (s0 % n) (s1 % n) (x0 % n) (x1 % n) (b0 % n) (b1 % n)) (n * n).toNat
    all_goals simp only [layV, uniV, hm]
    all_goals repeat' (first | ((conv => whnf); refine And.intro ?_ ?_) | ((conv => whnf); with_reducible exact VC.mk rfl) | ((conv => whnf); exact Ok.mk) | ((conv => whnf); exact True.intro) | ((conv => whnf); refine Nx.mk ?_) | ((conv => whnf); refine Fin.mk ?_) | ((conv => whnf); intro _))
    all_goals all_goals ((try refine VC.mk ?_); (try simp only [CL.ncell, CL.cnt, Int.toNat_natCast, decide_eq_true_eq, decide_eq_false_iff_not, Bool.not_eq_true, Bool.not_false, Bool.not_true, and_self, and_true, true_and, te3b, te4b, te3s, te4s, Nat.mul_one, Nat.zero_add, List.length_cons, List.length_nil, Bool.false_eq_true, Bool.true_eq_false] at *); (try omega))
    all_goals (first | (refine Sup.of ?_; first | rfl | (simp [*, resOf]; done)) | (refine Sup.via ?_; repeat' (first | ((conv => whnf); refine And.intro ?_ ?_) | ((conv => whnf); with_reducible exact VC.mk rfl) | ((conv => whnf); exact Ok.mk) | ((conv => whnf); exact True.intro) | ((conv => whnf); refine Nx.mk ?_) | ((conv => whnf); refine Fin.mk ?_) | ((conv => whnf); intro _)); all_goals ((try refine VC.mk ?_); (try simp only [CL.ncell, CL.cnt, Int.toNat_natCast, decide_eq_true_eq, decide_eq_false_iff_not, Bool.not_eq_true, Bool.not_false, Bool.not_true, and_self, and_true, true_and, te3b, te4b, te3s, te4s, Nat.mul_one, Nat.zero_add, List.length_cons, List.length_nil, Bool.false_eq_true, Bool.true_eq_false] at *); (try omega)); all_goals (try (simp [CL.sub]; done))))
  · unfold uniformV
    rw [if_neg hz]
    refine pspec_of (md := 1) (rf := []) mixed tabOK cpS2_ok Try.func46 (by rfl) (by rfl) (by rfl) ?_
    repeat' (first | ((conv => whnf); refine And.intro ?_ ?_) | ((conv => whnf); with_reducible exact VC.mk rfl) | ((conv => whnf); exact Ok.mk) | ((conv => whnf); exact True.intro) | ((conv => whnf); refine Nx.mk ?_) | ((conv => whnf); refine Fin.mk ?_) | ((conv => whnf); intro _))
    all_goals ((try refine VC.mk ?_); (try simp only [CL.ncell, CL.cnt, Int.toNat_natCast, decide_eq_true_eq, decide_eq_false_iff_not, Bool.not_eq_true, Bool.not_false, Bool.not_true, and_self, and_true, true_and, te3b, te4b, te3s, te4s, Nat.mul_one, Nat.zero_add, List.length_cons, List.length_nil, Bool.false_eq_true, Bool.true_eq_false] at *); (try omega))
    all_goals (first | (refine Sup.of ?_; first | rfl | (simp [*, resOf]; done)) | (refine Sup.via ?_; repeat' (first | ((conv => whnf); refine And.intro ?_ ?_) | ((conv => whnf); with_reducible exact VC.mk rfl) | ((conv => whnf); exact Ok.mk) | ((conv => whnf); exact True.intro) | ((conv => whnf); refine Nx.mk ?_) | ((conv => whnf); refine Fin.mk ?_) | ((conv => whnf); intro _)); all_goals ((try refine VC.mk ?_); (try simp only [CL.ncell, CL.cnt, Int.toNat_natCast, decide_eq_true_eq, decide_eq_false_iff_not, Bool.not_eq_true, Bool.not_false, Bool.not_true, and_self, and_true, true_and, te3b, te4b, te3s, te4s, Nat.mul_one, Nat.zero_add, List.length_cons, List.length_nil, Bool.false_eq_true, Bool.true_eq_false] at *); (try omega)); all_goals (try (simp [CL.sub]; done))))
def uniformP : PSp := fun xs K => match xs with
  | [.agg [.int .i64 n, .int .i64 s0, .int .i64 s1, .int .i64 x0, .int .i64 x1, .int .i64 b0, .int .i64 b1]] => VC (True) ∧ K (uniformV n s0 s1 x0 x1 b0 b1)
  | _ => False
theorem uniform_ok : POK Try.prog 46 uniformP := by
  intro xs K h
  unfold uniformP at h
  split at h
  · exact ⟨_, h.2, uniform_spec _ _ _ _ _ _ _⟩
  · exact h.elim
end Go.Eng.Ytppflbccfdbogaa
namespace Go.Eng.Ytppflbccfdbogaa
open Go.Proofs
set_option maxRecDepth 100000
set_option maxHeartbeats 0
set_option linter.unusedVariables false
set_option linter.unusedSimpArgs false
theorem gAt_nonneg (c : Nat → Nat) (N : Nat) : ∀ x, ∀ v ∈ gAt c N x, 0 ≤ v := by
  intro x
  induction x with
  | zero => intro v hv; rw [gAt_zero] at hv; have := List.eq_of_mem_replicate hv; omega
  | succ x ih =>
    intro v hv
    rw [gAt_succ] at hv
    rcases List.mem_or_eq_of_mem_set hv with h | h
    · exact ih v h
    · omega
theorem gAt_getD (c : Nat → Nat) (N x i : Nat) : 0 ≤ (gAt c N x).getD i 0 := by
  rw [List.getD_eq_getElem?_getD]
  cases h : (gAt c N x)[i]? with
  | none => simp
  | some v => simpa using gAt_nonneg c N x v (List.mem_of_getElem? h)
theorem cellS_eq {n s0 s1 x0 x1 b0 b1 : Int} (hn : 1 ≤ n) (y : Nat) : rowOf n (s0 % n) (x0 % n) (b0 % n) ((y : Int) + 1) * n + rowOf n (s1 % n) (x1 % n) (b1 % n) ((y : Int) + 1) = cellS n s0 s1 x0 x1 b0 b1 y := by
  rw [← cellOf_eq]
  have := cellOf_bd n (s0 % n) (s1 % n) (x0 % n) (x1 % n) (b0 % n) (b1 % n) ((y : Int) + 1) (by omega)
  unfold cellS cellN; omega
theorem cellS_lt {n s0 s1 x0 x1 b0 b1 : Int} (hn : 1 ≤ n) (y : Nat) : cellS n s0 s1 x0 x1 b0 b1 y < (n * n).toNat := by
  have := cellOf_bd n (s0 % n) (s1 % n) (x0 % n) (x1 % n) (b0 % n) (b1 % n) ((y : Int) + 1) (by omega)
  unfold cellS cellN; omega
theorem rowS_bd {n s x b k : Int} (hn : 1 ≤ n ∧ n ≤ 16) : (0 ≤ rowOf n s x b k ∧ rowOf n s x b k < n) ∧ 0 ≤ rowOf n s x b k * n ∧ rowOf n s x b k * n ≤ 256 := by
  have h := rowOf_bd n s x b k (by omega)
  exact ⟨h, mul_bd (A := 16) (B := 16) (by omega) (by omega)⟩
def meetV (c : Nat → Nat) (N : Nat) : PV := match meetOf c N with
  | some y => .tup [.int .i64 ((gAt c N y).getD (c y) 0), .int .i64 ((y : Int) + 1)]
  | none => .tup [.int .i64 0, .int .i64 0]
noncomputable def cpM : CPT := cpAdd 48 (pureCC rPlaceP) (cpAdd 100 (lendCC [] emptyL) noC)
theorem cpM_ok : CPOK Try.prog cpM := cpAdd_ok (pureCC_ok rPlace_ok) (cpAdd_ok (lendCC_ok [] SquareL_ok) noC_ok)
theorem rMeet_spec (n s0 s1 x0 x1 b0 b1 : Int) (hn : 1 ≤ n ∧ n ≤ 16) (h : ∀ x ∈ [s0, s1, x0, x1, b0, b1], -999999999 ≤ x ∧ x ≤ 999999999) :
    PSpec Try.prog 49 [.agg [.int .i64 n, .int .i64 s0, .int .i64 s1, .int .i64 x0, .int .i64 x1, .int .i64 b0, .int .i64 b1]] (meetV (cellS n s0 s1 x0 x1 b0 b1) (n * n).toNat) := by
  have h1 := mul_bd (show 0 ≤ n ∧ n ≤ 16 by omega) (show 0 ≤ n ∧ n ≤ 16 by omega)
  have h' : ∀ x ∈ [s0, s1, x0, x1, b0, b1], -4611686018427387904 ≤ x ∧ x ≤ 4611686018427387904 := fun x hx => by have := h x hx; omega
  refine pspec_of (md := 1) (rf := []) mixed tabOK cpM_ok Try.func49 (by rfl) (by rfl) (by rfl) ?_
  repeat' (first | ((conv => whnf); refine And.intro ?_ ?_) | ((conv => whnf); with_reducible exact VC.mk rfl) | ((conv => whnf); exact Ok.mk) | ((conv => whnf); exact True.intro) | ((conv => whnf); refine Nx.mk ?_) | ((conv => whnf); refine Fin.mk ?_) | ((conv => whnf); intro _))
  all_goals ((try refine VC.mk ?_); (try simp only [CL.ncell, CL.cnt, Int.toNat_natCast, decide_eq_true_eq, decide_eq_false_iff_not, Bool.not_eq_true, Bool.not_false, Bool.not_true, and_self, and_true, true_and, te3b, te4b, te3s, te4s, Nat.mul_one, Nat.zero_add, List.length_cons, List.length_nil, Bool.false_eq_true, Bool.true_eq_false] at *); (try omega))
  obtain ⟨N, hN⟩ : ∃ N, N = (n * n).toNat := ⟨_, rfl⟩
  have hN' : (N : Int) = n * n := by omega
  have hce := fun y => cellS_eq (s0 := s0) (s1 := s1) (x0 := x0) (x1 := x1) (b0 := b0) (b1 := b1) hn.1 y
  have hcb := fun y => cellS_lt (s0 := s0) (s1 := s1) (x0 := x0) (x1 := x1) (b0 := b0) (b1 := b1) hn.1 y
  obtain ⟨c, hc⟩ : ∃ c, c = cellS n s0 s1 x0 x1 b0 b1 := ⟨_, rfl⟩
  rw [← hc] at hce hcb
  rw [← hN] at hcb
  rw [← hN, ← hc]
  conv => whnf
  refine loop_of (X := Nat) (fun y => y ≤ N ∧ ∀ j, j < y → meetAt c N j = false) (fun y => [(5, .int .i64 ((y : Int) + 1))]) (fun y => [(1, .cells (.ints .i64 (gAt c N y)) false)]) (fun y => N - y) 0 ⟨anyB_ok, mixed, tabOK, cpM_ok, noY_ok⟩ (by rfl) ⟨by omega, fun j hj => by omega⟩ ?_ ?_
  · repeat' (first | ((conv => whnf); refine And.intro ?_ ?_) | ((conv => whnf); with_reducible exact VC.mk rfl) | ((conv => whnf); exact Ok.mk) | ((conv => whnf); exact True.intro) | ((conv => whnf); refine Nx.mk ?_) | ((conv => whnf); refine Fin.mk ?_) | ((conv => whnf); intro _))
    all_goals ((try refine VC.mk ?_); (try simp only [CL.ncell, CL.cnt, Int.toNat_natCast, decide_eq_true_eq, decide_eq_false_iff_not, Bool.not_eq_true, Bool.not_false, Bool.not_true, and_self, and_true, true_and, te3b, te4b, te3s, te4s, Nat.mul_one, Nat.zero_add, List.length_cons, List.length_nil, Bool.false_eq_true, Bool.true_eq_false] at *); (try omega))
  · rintro y ⟨hy, hm⟩
    by_cases hlt : y < N
    · have e1 := hcb y
      have e2 := gAt_len c N y
      have e3 := hce y
      have e4 := rowS_bd (n := n) (s := s0 % n) (x := x0 % n) (b := b0 % n) (k := (y : Int) + 1) hn
      have e5 := rowS_bd (n := n) (s := s1 % n) (x := x1 % n) (b := b1 % n) (k := (y : Int) + 1) hn
      have e6 := gAt_getD c N y (c y)
      repeat' (first | ((conv => whnf); refine And.intro ?_ ?_) | ((conv => whnf); with_reducible exact VC.mk rfl) | ((conv => whnf); exact Ok.mk) | ((conv => whnf); exact True.intro) | ((conv => whnf); refine Nx.mk ?_) | ((conv => whnf); refine Fin.mk ?_) | ((conv => whnf); intro _))
      all_goals ((try refine VC.mk ?_); (try simp only [CL.ncell, CL.cnt, Int.toNat_natCast, decide_eq_true_eq, decide_eq_false_iff_not, Bool.not_eq_true, Bool.not_false, Bool.not_true, and_self, and_true, true_and, te3b, te4b, te3s, te4s, Nat.mul_one, Nat.zero_add, List.length_cons, List.length_nil, Bool.false_eq_true, Bool.true_eq_false] at *); (try omega))
      all_goals (try simp only [e3, Int.toNat_natCast] at *)
      all_goals (try omega)
      · exact ⟨by omega, by omega, h'⟩
      · have e : meetOf c N = some y := find_some hlt (by unfold meetAt; simp only [decide_eq_true_eq]; omega) hm
        unfold meetV
        rw [e]
        all_goals (first | (refine Sup.of ?_; first | rfl | (simp [*, resOf]; done)) | (refine Sup.via ?_; repeat' (first | ((conv => whnf); refine And.intro ?_ ?_) | ((conv => whnf); with_reducible exact VC.mk rfl) | ((conv => whnf); exact Ok.mk) | ((conv => whnf); exact True.intro) | ((conv => whnf); refine Nx.mk ?_) | ((conv => whnf); refine Fin.mk ?_) | ((conv => whnf); intro _)); all_goals ((try refine VC.mk ?_); (try simp only [CL.ncell, CL.cnt, Int.toNat_natCast, decide_eq_true_eq, decide_eq_false_iff_not, Bool.not_eq_true, Bool.not_false, Bool.not_true, and_self, and_true, true_and, te3b, te4b, te3s, te4s, Nat.mul_one, Nat.zero_add, List.length_cons, List.length_nil, Bool.false_eq_true, Bool.true_eq_false] at *); (try omega)); all_goals (try (simp [CL.sub]; done))))
      · refine ⟨y + 1, [], ⟨⟨by omega, fun j hj => ?_⟩, by omega⟩, ?_⟩
        · by_cases e : j = y
          · subst e; unfold meetAt; simp only [decide_eq_false_iff_not]; omega
          · exact hm j (by omega)
        · repeat' (first | ((conv => whnf); refine And.intro ?_ ?_) | ((conv => whnf); with_reducible exact VC.mk rfl) | ((conv => whnf); exact Ok.mk) | ((conv => whnf); exact True.intro) | ((conv => whnf); refine Nx.mk ?_) | ((conv => whnf); refine Fin.mk ?_) | ((conv => whnf); intro _))
          all_goals ((try refine VC.mk ?_); (try simp only [CL.ncell, CL.cnt, Int.toNat_natCast, decide_eq_true_eq, decide_eq_false_iff_not, Bool.not_eq_true, Bool.not_false, Bool.not_true, and_self, and_true, true_and, te3b, te4b, te3s, te4s, Nat.mul_one, Nat.zero_add, List.length_cons, List.length_nil, Bool.false_eq_true, Bool.true_eq_false] at *); (try omega))
          rw [gAt_succ]
    · have : N = y := by omega
      subst this
      have e : meetOf c N = none := find_none hm
      unfold meetV
      rw [e]
      repeat' (first | ((conv => whnf); refine And.intro ?_ ?_) | ((conv => whnf); with_reducible exact VC.mk rfl) | ((conv => whnf); exact Ok.mk) | ((conv => whnf); exact True.intro) | ((conv => whnf); refine Nx.mk ?_) | ((conv => whnf); refine Fin.mk ?_) | ((conv => whnf); intro _))
      all_goals ((try refine VC.mk ?_); (try simp only [CL.ncell, CL.cnt, Int.toNat_natCast, decide_eq_true_eq, decide_eq_false_iff_not, Bool.not_eq_true, Bool.not_false, Bool.not_true, and_self, and_true, true_and, te3b, te4b, te3s, te4s, Nat.mul_one, Nat.zero_add, List.length_cons, List.length_nil, Bool.false_eq_true, Bool.true_eq_false] at *); (try omega))
      all_goals (first | (refine Sup.of ?_; first | rfl | (simp [*, resOf]; done)) | (refine Sup.via ?_; repeat' (first | ((conv => whnf); refine And.intro ?_ ?_) | ((conv => whnf); with_reducible exact VC.mk rfl) | ((conv => whnf); exact Ok.mk) | ((conv => whnf); exact True.intro) | ((conv => whnf); refine Nx.mk ?_) | ((conv => whnf); refine Fin.mk ?_) | ((conv => whnf); intro _)); all_goals ((try refine VC.mk ?_); (try simp only [CL.ncell, CL.cnt, Int.toNat_natCast, decide_eq_true_eq, decide_eq_false_iff_not, Bool.not_eq_true, Bool.not_false, Bool.not_true, and_self, and_true, true_and, te3b, te4b, te3s, te4s, Nat.mul_one, Nat.zero_add, List.length_cons, List.length_nil, Bool.false_eq_true, Bool.true_eq_false] at *); (try omega)); all_goals (try (simp [CL.sub]; done))))
def rMeetP : PSp := fun xs K => match xs with
  | [.agg [.int .i64 n, .int .i64 s0, .int .i64 s1, .int .i64 x0, .int .i64 x1, .int .i64 b0, .int .i64 b1]] => VC ((1 ≤ n ∧ n ≤ 16) ∧ ∀ x ∈ [s0, s1, x0, x1, b0, b1], -999999999 ≤ x ∧ x ≤ 999999999) ∧ K (meetV (cellS n s0 s1 x0 x1 b0 b1) (n * n).toNat)
  | _ => False
theorem rMeet_ok : POK Try.prog 49 rMeetP := by
  intro xs K h
  unfold rMeetP at h
  split at h
  · exact ⟨_, h.2, rMeet_spec _ _ _ _ _ _ _ h.1.get.1 h.1.get.2⟩
  · exact h.elim
theorem rUniform_spec (n s0 s1 x0 x1 b0 b1 : Int) (hn : 1 ≤ n ∧ n ≤ 16) (h : ∀ x ∈ [s0, s1, x0, x1, b0, b1], -999999999 ≤ x ∧ x ≤ 999999999) :
    PSpec Try.prog 50 [.agg [.int .i64 n, .int .i64 s0, .int .i64 s1, .int .i64 x0, .int .i64 x1, .int .i64 b0, .int .i64 b1]] (gridV n n (gAt (cellS n s0 s1 x0 x1 b0 b1) (n * n).toNat (n * n).toNat)) := by
  have h1 := mul_bd (show 0 ≤ n ∧ n ≤ 16 by omega) (show 0 ≤ n ∧ n ≤ 16 by omega)
  have h' : ∀ x ∈ [s0, s1, x0, x1, b0, b1], -4611686018427387904 ≤ x ∧ x ≤ 4611686018427387904 := fun x hx => by have := h x hx; omega
  refine pspec_of (md := 1) (rf := []) mixed tabOK cpM_ok Try.func50 (by rfl) (by rfl) (by rfl) ?_
  repeat' (first | ((conv => whnf); refine And.intro ?_ ?_) | ((conv => whnf); with_reducible exact VC.mk rfl) | ((conv => whnf); exact Ok.mk) | ((conv => whnf); exact True.intro) | ((conv => whnf); refine Nx.mk ?_) | ((conv => whnf); refine Fin.mk ?_) | ((conv => whnf); intro _))
  all_goals ((try refine VC.mk ?_); (try simp only [CL.ncell, CL.cnt, Int.toNat_natCast, decide_eq_true_eq, decide_eq_false_iff_not, Bool.not_eq_true, Bool.not_false, Bool.not_true, and_self, and_true, true_and, te3b, te4b, te3s, te4s, Nat.mul_one, Nat.zero_add, List.length_cons, List.length_nil, Bool.false_eq_true, Bool.true_eq_false] at *); (try omega))
  obtain ⟨N, hN⟩ : ∃ N, N = (n * n).toNat := ⟨_, rfl⟩
  have hN' : (N : Int) = n * n := by omega
  have hce := fun y => cellS_eq (s0 := s0) (s1 := s1) (x0 := x0) (x1 := x1) (b0 := b0) (b1 := b1) hn.1 y
  have hcb := fun y => cellS_lt (s0 := s0) (s1 := s1) (x0 := x0) (x1 := x1) (b0 := b0) (b1 := b1) hn.1 y
  obtain ⟨c, hc⟩ : ∃ c, c = cellS n s0 s1 x0 x1 b0 b1 := ⟨_, rfl⟩
  rw [← hc] at hce hcb
  rw [← hN] at hcb
  rw [← hN, ← hc]
  conv => whnf
  refine loop_of (X := Nat) (fun y => y ≤ N) (fun y => [(4, .int .i64 ((y : Int) + 1))]) (fun y => [(2, .cells (.ints .i64 (gAt c N y)) false)]) (fun y => N - y) 0 ⟨anyB_ok, mixed, tabOK, cpM_ok, noY_ok⟩ (by rfl) (by omega) ?_ ?_
  · repeat' (first | ((conv => whnf); refine And.intro ?_ ?_) | ((conv => whnf); with_reducible exact VC.mk rfl) | ((conv => whnf); exact Ok.mk) | ((conv => whnf); exact True.intro) | ((conv => whnf); refine Nx.mk ?_) | ((conv => whnf); refine Fin.mk ?_) | ((conv => whnf); intro _))
    all_goals ((try refine VC.mk ?_); (try simp only [CL.ncell, CL.cnt, Int.toNat_natCast, decide_eq_true_eq, decide_eq_false_iff_not, Bool.not_eq_true, Bool.not_false, Bool.not_true, and_self, and_true, true_and, te3b, te4b, te3s, te4s, Nat.mul_one, Nat.zero_add, List.length_cons, List.length_nil, Bool.false_eq_true, Bool.true_eq_false] at *); (try omega))
  · rintro y hy
    by_cases hlt : y < N
    · have e1 := hcb y
      have e2 := gAt_len c N y
      have e3 := hce y
      have e4 := rowS_bd (n := n) (s := s0 % n) (x := x0 % n) (b := b0 % n) (k := (y : Int) + 1) hn
      have e5 := rowS_bd (n := n) (s := s1 % n) (x := x1 % n) (b := b1 % n) (k := (y : Int) + 1) hn
      repeat' (first | ((conv => whnf); refine And.intro ?_ ?_) | ((conv => whnf); with_reducible exact VC.mk rfl) | ((conv => whnf); exact Ok.mk) | ((conv => whnf); exact True.intro) | ((conv => whnf); refine Nx.mk ?_) | ((conv => whnf); refine Fin.mk ?_) | ((conv => whnf); intro _))
      all_goals ((try refine VC.mk ?_); (try simp only [CL.ncell, CL.cnt, Int.toNat_natCast, decide_eq_true_eq, decide_eq_false_iff_not, Bool.not_eq_true, Bool.not_false, Bool.not_true, and_self, and_true, true_and, te3b, te4b, te3s, te4s, Nat.mul_one, Nat.zero_add, List.length_cons, List.length_nil, Bool.false_eq_true, Bool.true_eq_false] at *); (try omega))
      all_goals (try simp only [e3, Int.toNat_natCast] at *)
      all_goals (try omega)
      · exact ⟨by omega, by omega, h'⟩
      · refine ⟨y + 1, [], ⟨by omega, by omega⟩, ?_⟩
        repeat' (first | ((conv => whnf); refine And.intro ?_ ?_) | ((conv => whnf); with_reducible exact VC.mk rfl) | ((conv => whnf); exact Ok.mk) | ((conv => whnf); exact True.intro) | ((conv => whnf); refine Nx.mk ?_) | ((conv => whnf); refine Fin.mk ?_) | ((conv => whnf); intro _))
        all_goals ((try refine VC.mk ?_); (try simp only [CL.ncell, CL.cnt, Int.toNat_natCast, decide_eq_true_eq, decide_eq_false_iff_not, Bool.not_eq_true, Bool.not_false, Bool.not_true, and_self, and_true, true_and, te3b, te4b, te3s, te4s, Nat.mul_one, Nat.zero_add, List.length_cons, List.length_nil, Bool.false_eq_true, Bool.true_eq_false] at *); (try omega))
        rw [gAt_succ]
    · have : N = y := by omega
      subst this
      repeat' (first | ((conv => whnf); refine And.intro ?_ ?_) | ((conv => whnf); with_reducible exact VC.mk rfl) | ((conv => whnf); exact Ok.mk) | ((conv => whnf); exact True.intro) | ((conv => whnf); refine Nx.mk ?_) | ((conv => whnf); refine Fin.mk ?_) | ((conv => whnf); intro _))
      all_goals ((try refine VC.mk ?_); (try simp only [CL.ncell, CL.cnt, Int.toNat_natCast, decide_eq_true_eq, decide_eq_false_iff_not, Bool.not_eq_true, Bool.not_false, Bool.not_true, and_self, and_true, true_and, te3b, te4b, te3s, te4s, Nat.mul_one, Nat.zero_add, List.length_cons, List.length_nil, Bool.false_eq_true, Bool.true_eq_false] at *); (try omega))
      · rw [gAt_len]; exact Nat.le_refl _
      refine Sup.via ?_
      repeat' (first | ((conv => whnf); refine And.intro ?_ ?_) | ((conv => whnf); with_reducible exact VC.mk rfl) | ((conv => whnf); exact Ok.mk) | ((conv => whnf); exact True.intro) | ((conv => whnf); refine Nx.mk ?_) | ((conv => whnf); refine Fin.mk ?_) | ((conv => whnf); intro _))
      all_goals ((try refine VC.mk ?_); (try simp only [CL.ncell, CL.cnt, Int.toNat_natCast, decide_eq_true_eq, decide_eq_false_iff_not, Bool.not_eq_true, Bool.not_false, Bool.not_true, and_self, and_true, true_and, te3b, te4b, te3s, te4s, Nat.mul_one, Nat.zero_add, List.length_cons, List.length_nil, Bool.false_eq_true, Bool.true_eq_false] at *); (try omega))
      simp [CL.sub, List.take_of_length_le, gAt_len]
def rUniformP : PSp := fun xs K => match xs with
  | [.agg [.int .i64 n, .int .i64 s0, .int .i64 s1, .int .i64 x0, .int .i64 x1, .int .i64 b0, .int .i64 b1]] => VC ((1 ≤ n ∧ n ≤ 16) ∧ ∀ x ∈ [s0, s1, x0, x1, b0, b1], -999999999 ≤ x ∧ x ≤ 999999999) ∧ K (gridV n n (gAt (cellS n s0 s1 x0 x1 b0 b1) (n * n).toNat (n * n).toNat))
  | _ => False
theorem rUniform_ok : POK Try.prog 50 rUniformP := by
  intro xs K h
  unfold rUniformP at h
  split at h
  · exact ⟨_, h.2, rUniform_spec _ _ _ _ _ _ _ h.1.get.1 h.1.get.2⟩
  · exact h.elim
/-! Place -/
def placeV (n s0 s1 x0 x1 b0 b1 k : Int) : PV := if stepErr n s0 s1 x0 x1 b0 b1 = 0 then
    (if k < 1 ∨ n * n < k then .tup [.int .i64 0, .int .i64 0, .int .i64 3] else .tup [.int .i64 (rowOf n (s0 % n) (x0 % n) (b0 % n) k), .int .i64 (rowOf n (s1 % n) (x1 % n) (b1 % n) k), .int .i64 0])
  else .tup [.int .i64 0, .int .i64 0, .int .i64 (stepErr n s0 s1 x0 x1 b0 b1)]
theorem place_spec (n s0 s1 x0 x1 b0 b1 k : Int) : PSpec Try.prog 45 [.agg [.int .i64 n, .int .i64 s0, .int .i64 s1, .int .i64 x0, .int .i64 x1, .int .i64 b0, .int .i64 b1], .int .i64 k] (placeV n s0 s1 x0 x1 b0 b1 k) := by
  unfold placeV
  by_cases hz : stepErr n s0 s1 x0 x1 b0 b1 = 0
  · rw [if_pos hz]
    obtain ⟨h1, h2⟩ := stepErr_zero hz
    have h3 := emod_all h1.1 s0 s1 x0 x1 b0 b1
    have h4 := mul_bd (show 0 ≤ n ∧ n ≤ 16 by omega) (show 0 ≤ n ∧ n ≤ 16 by omega)
    have h5 := cellOf_bd n (s0 % n) (s1 % n) (x0 % n) (x1 % n) (b0 % n) (b1 % n) k (by omega)
    have h6 := rowOf_bd n (s0 % n) (x0 % n) (b0 % n) k (by omega)
    have h7 := rowOf_bd n (s1 % n) (x1 % n) (b1 % n) k (by omega)
    have h8 : cellOf n (s0 % n) (s1 % n) (x0 % n) (x1 % n) (b0 % n) (b1 % n) k / n = rowOf n (s0 % n) (x0 % n) (b0 % n) k := by
      rw [cellOf_eq, Int.mul_comm, Int.add_comm, Int.add_mul_ediv_left _ _ (by omega), Int.ediv_eq_zero_of_lt h7.1 h7.2]; omega
    have h9 : cellOf n (s0 % n) (s1 % n) (x0 % n) (x1 % n) (b0 % n) (b1 % n) k % n = rowOf n (s1 % n) (x1 % n) (b1 % n) k := by
      rw [cellOf_eq, Int.mul_comm, Int.add_comm, Int.add_mul_emod_self_left, Int.emod_eq_of_lt h7.1 h7.2]
    have h10 : (0 < n ∧ n ≤ 1000000) ∧ ∀ x ∈ [s0, s1, x0, x1, b0, b1], -4611686018427387904 ≤ x ∧ x ≤ 4611686018427387904 := ⟨by omega, fun x hx => by have := h2 x hx; omega⟩
    by_cases hk : k < 1 ∨ n * n < k
    · rw [if_pos hk]
      refine pspec_of (md := 0) (rf := []) mixed tabOK cpS2_ok Try.func45 (by rfl) (by rfl) (by rfl) ?_
      repeat' (first | ((conv => whnf); refine And.intro ?_ ?_) | ((conv => whnf); with_reducible exact VC.mk rfl) | ((conv => whnf); exact Ok.mk) | ((conv => whnf); exact True.intro) | ((conv => whnf); refine Nx.mk ?_) | ((conv => whnf); refine Fin.mk ?_) | ((conv => whnf); intro _))
      all_goals ((try refine VC.mk ?_); (try simp only [CL.ncell, CL.cnt, Int.toNat_natCast, decide_eq_true_eq, decide_eq_false_iff_not, Bool.not_eq_true, Bool.not_false, Bool.not_true, and_self, and_true, true_and, te3b, te4b, te3s, te4s, Nat.mul_one, Nat.zero_add, List.length_cons, List.length_nil, Bool.false_eq_true, Bool.true_eq_false] at *); (try omega))
      all_goals (try (conv => whnf))
      all_goals repeat' (first | ((conv => whnf); refine And.intro ?_ ?_) | ((conv => whnf); with_reducible exact VC.mk rfl) | ((conv => whnf); exact Ok.mk) | ((conv => whnf); exact True.intro) | ((conv => whnf); refine Nx.mk ?_) | ((conv => whnf); refine Fin.mk ?_) | ((conv => whnf); intro _))
      all_goals all_goals ((try refine VC.mk ?_); (try simp only [CL.ncell, CL.cnt, Int.toNat_natCast, decide_eq_true_eq, decide_eq_false_iff_not, Bool.not_eq_true, Bool.not_false, Bool.not_true, and_self, and_true, true_and, te3b, te4b, te3s, te4s, Nat.mul_one, Nat.zero_add, List.length_cons, List.length_nil, Bool.false_eq_true, Bool.true_eq_false] at *); (try omega))
      all_goals first | exact h10 | (exfalso; simp_all [firstOf]; done) | (refine Sup.of ?_; simp_all [firstOf, resOf]; done)
    · rw [if_neg hk]
      have h11 : (0 < n ∧ n ≤ 1000) ∧ (1 ≤ k ∧ k ≤ 1000000) ∧ ∀ x ∈ [s0 % n, s1 % n, x0 % n, x1 % n, b0 % n, b1 % n], 0 ≤ x ∧ x < n := ⟨by omega, by omega, h3⟩
      refine pspec_of (md := 0) (rf := []) mixed tabOK cpS2_ok Try.func45 (by rfl) (by rfl) (by rfl) ?_
      repeat' (first | ((conv => whnf); refine And.intro ?_ ?_) | ((conv => whnf); with_reducible exact VC.mk rfl) | ((conv => whnf); exact Ok.mk) | ((conv => whnf); exact True.intro) | ((conv => whnf); refine Nx.mk ?_) | ((conv => whnf); refine Fin.mk ?_) | ((conv => whnf); intro _))
      all_goals ((try refine VC.mk ?_); (try simp only [CL.ncell, CL.cnt, Int.toNat_natCast, decide_eq_true_eq, decide_eq_false_iff_not, Bool.not_eq_true, Bool.not_false, Bool.not_true, and_self, and_true, true_and, te3b, te4b, te3s, te4s, Nat.mul_one, Nat.zero_add, List.length_cons, List.length_nil, Bool.false_eq_true, Bool.true_eq_false] at *); (try omega))
      all_goals repeat' (first | ((conv => whnf); refine And.intro ?_ ?_) | ((conv => whnf); with_reducible exact VC.mk rfl) | ((conv => whnf); exact Ok.mk) | ((conv => whnf); exact True.intro) | ((conv => whnf); refine Nx.mk ?_) | ((conv => whnf); refine Fin.mk ?_) | ((conv => whnf); intro _))
      all_goals all_goals ((try refine VC.mk ?_); (try simp only [CL.ncell, CL.cnt, Int.toNat_natCast, decide_eq_true_eq, decide_eq_false_iff_not, Bool.not_eq_true, Bool.not_false, Bool.not_true, and_self, and_true, true_and, te3b, te4b, te3s, te4s, Nat.mul_one, Nat.zero_add, List.length_cons, List.length_nil, Bool.false_eq_true, Bool.true_eq_false] at *); (try omega))
      all_goals first | (with_reducible exact h10) | (with_reducible exact h11) | omega | (rw [h8]; omega) | (exfalso; simp_all [firstOf]; done) | (refine Sup.of ?_; simp_all [firstOf, resOf]; done)
  · rw [if_neg hz]
    refine pspec_of (md := 2) (rf := []) mixed tabOK cpS2_ok Try.func45 (by rfl) (by rfl) (by rfl) ?_
    repeat' (first | ((conv => whnf); refine And.intro ?_ ?_) | ((conv => whnf); with_reducible exact VC.mk rfl) | ((conv => whnf); exact Ok.mk) | ((conv => whnf); exact True.intro) | ((conv => whnf); refine Nx.mk ?_) | ((conv => whnf); refine Fin.mk ?_) | ((conv => whnf); intro _))
    all_goals ((try refine VC.mk ?_); (try simp only [CL.ncell, CL.cnt, Int.toNat_natCast, decide_eq_true_eq, decide_eq_false_iff_not, Bool.not_eq_true, Bool.not_false, Bool.not_true, and_self, and_true, true_and, te3b, te4b, te3s, te4s, Nat.mul_one, Nat.zero_add, List.length_cons, List.length_nil, Bool.false_eq_true, Bool.true_eq_false] at *); (try omega))
    all_goals repeat' (first | ((conv => whnf); refine And.intro ?_ ?_) | ((conv => whnf); with_reducible exact VC.mk rfl) | ((conv => whnf); exact Ok.mk) | ((conv => whnf); exact True.intro) | ((conv => whnf); refine Nx.mk ?_) | ((conv => whnf); refine Fin.mk ?_) | ((conv => whnf); intro _))
    all_goals all_goals ((try refine VC.mk ?_); (try simp only [CL.ncell, CL.cnt, Int.toNat_natCast, decide_eq_true_eq, decide_eq_false_iff_not, Bool.not_eq_true, Bool.not_false, Bool.not_true, and_self, and_true, true_and, te3b, te4b, te3s, te4s, Nat.mul_one, Nat.zero_add, List.length_cons, List.length_nil, Bool.false_eq_true, Bool.true_eq_false] at *); (try omega))
    all_goals first | (exfalso; simp_all [firstOf]; done) | (refine Sup.of ?_; simp_all [firstOf, resOf]; done)
def placeP : PSp := fun xs K => match xs with
  | [.agg [.int .i64 n, .int .i64 s0, .int .i64 s1, .int .i64 x0, .int .i64 x1, .int .i64 b0, .int .i64 b1], .int .i64 k] => VC (True) ∧ K (placeV n s0 s1 x0 x1 b0 b1 k)
  | _ => False
theorem place_ok : POK Try.prog 45 placeP := by
  intro xs K h
  unfold placeP at h
  split at h
  · exact ⟨_, h.2, place_spec _ _ _ _ _ _ _ _⟩
  · exact h.elim
end Go.Eng.Ytppflbccfdbogaa
namespace Go.Eng.Ytppflbccfdbogaa
open Go.Proofs
set_option maxRecDepth 100000
set_option maxHeartbeats 0
set_option linter.unusedVariables false
set_option linter.unusedSimpArgs false
theorem all_true {p : Nat → Bool} {n : Nat} (h : ∀ i, i < n → p i = true) : (List.range n).all p = true := by simp [List.all_eq_true]; exact h
theorem all_false {p : Nat → Bool} {n i : Nat} (hi : i < n) (h : p i = false) : (List.range n).all p = false := by
  simp only [List.all_eq_false, List.mem_range]; exact ⟨i, hi, by simp [h]⟩
/-- which numbers have been seen -/
def seenAt (m : Nat) (l : List Int) (i : Nat) : List Bool := (l.take i).foldl (fun s x => s.set x.toNat true) (List.replicate m false)
theorem seenAt_succ (m : Nat) (l : List Int) (i : Nat) (h : i < l.length) : seenAt m l (i + 1) = (seenAt m l i).set (l.getD i 0).toNat true := by
  unfold seenAt
  rw [List.take_add_one, List.foldl_append]
  simp [h]
theorem seenAt_len (m : Nat) (l : List Int) (i : Nat) : (seenAt m l i).length = m := by
  unfold seenAt
  generalize l.take i = k
  suffices ∀ s : List Bool, (k.foldl (fun s x => s.set x.toNat true) s).length = s.length by rw [this]; simp
  intro s
  induction k generalizing s with
  | nil => rfl
  | cons x r ih => rw [List.foldl_cons, ih]; simp
def okAt (lo : Int) (m : Nat) (l : List Int) (i : Nat) : Bool := decide (lo ≤ l.getD i 0 ∧ l.getD i 0 < m) && !(seenAt m l i).getD (l.getD i 0).toNat false
def distinctIn (lo : Int) (m : Nat) (l : List Int) : Bool := (List.range l.length).all (okAt lo m l)
def isNorm (l : List Int) : Bool := distinctIn 1 (l.length + 1) l
def isPerm (l : List Int) : Bool := distinctIn 0 l.length l
theorem IsNormal_spec (l : List Int) (hl : l.length ≤ 2000000) : PSpec Try.prog 25 [.isl (.ints .i64 l) .none] (.bp (isNorm l)) := by
  refine pspec_of (md := 1) (rf := []) mixed tabOK noC_ok Try.func25 (by rfl) (by rfl) (by rfl) ?_
  repeat' (first | ((conv => whnf); refine And.intro ?_ ?_) | ((conv => whnf); with_reducible exact VC.mk rfl) | ((conv => whnf); exact Ok.mk) | ((conv => whnf); exact True.intro) | ((conv => whnf); refine Nx.mk ?_) | ((conv => whnf); refine Fin.mk ?_) | ((conv => whnf); intro _))
  all_goals ((try refine VC.mk ?_); (try simp only [CL.ncell, CL.cnt, Int.toNat_natCast, decide_eq_true_eq, decide_eq_false_iff_not, Bool.not_eq_true, Bool.not_false, Bool.not_true, and_self, and_true, true_and, te3b, te4b, te3s, te4s, Nat.mul_one, Nat.zero_add, List.length_cons, List.length_nil, Bool.false_eq_true, Bool.true_eq_false] at *); (try omega))
  conv => whnf
  refine loop_of (X := Nat) (fun i => i ≤ l.length ∧ ∀ j, j < i → okAt 1 (l.length + 1) l j = true) (fun i => [(4, .int .i64 i)]) (fun i => [(0, .cells (.bools (seenAt (l.length + 1) l i)) false)]) (fun i => l.length - i) 0 ⟨anyB_ok, mixed, tabOK, noC_ok, noY_ok⟩ (by rfl) ⟨by omega, fun j h => by omega⟩ ?_ ?_
  · repeat' (first | ((conv => whnf); refine And.intro ?_ ?_) | ((conv => whnf); with_reducible exact VC.mk rfl) | ((conv => whnf); exact Ok.mk) | ((conv => whnf); exact True.intro) | ((conv => whnf); refine Nx.mk ?_) | ((conv => whnf); refine Fin.mk ?_) | ((conv => whnf); intro _))
    all_goals ((try refine VC.mk ?_); (try simp only [CL.ncell, CL.cnt, Int.toNat_natCast, decide_eq_true_eq, decide_eq_false_iff_not, Bool.not_eq_true, Bool.not_false, Bool.not_true, and_self, and_true, true_and, te3b, te4b, te3s, te4s, Nat.mul_one, Nat.zero_add, List.length_cons, List.length_nil, Bool.false_eq_true, Bool.true_eq_false] at *); (try omega))
    all_goals simp [seenAt]
  · rintro i ⟨hi, hok⟩
    by_cases hlt : i < l.length
    · have e1 := seenAt_len (l.length + 1) l i
      have e2 := seenAt_succ (l.length + 1) l i hlt
      have hbad : okAt 1 (l.length + 1) l i = false → Sup (resOf [.bool false]) (.bp (isNorm l)) := fun h => by rw [show isNorm l = false from all_false hlt h]; all_goals (first | (refine Sup.of ?_; first | rfl | (simp [*, resOf]; done)) | (refine Sup.via ?_; repeat' (first | ((conv => whnf); refine And.intro ?_ ?_) | ((conv => whnf); with_reducible exact VC.mk rfl) | ((conv => whnf); exact Ok.mk) | ((conv => whnf); exact True.intro) | ((conv => whnf); refine Nx.mk ?_) | ((conv => whnf); refine Fin.mk ?_) | ((conv => whnf); intro _)); all_goals ((try refine VC.mk ?_); (try simp only [CL.ncell, CL.cnt, Int.toNat_natCast, decide_eq_true_eq, decide_eq_false_iff_not, Bool.not_eq_true, Bool.not_false, Bool.not_true, and_self, and_true, true_and, te3b, te4b, te3s, te4s, Nat.mul_one, Nat.zero_add, List.length_cons, List.length_nil, Bool.false_eq_true, Bool.true_eq_false] at *); (try omega)); all_goals (try (simp [CL.sub]; done))))
      repeat' (first | ((conv => whnf); refine And.intro ?_ ?_) | ((conv => whnf); with_reducible exact VC.mk rfl) | ((conv => whnf); exact Ok.mk) | ((conv => whnf); exact True.intro) | ((conv => whnf); refine Nx.mk ?_) | ((conv => whnf); refine Fin.mk ?_) | ((conv => whnf); intro _))
      all_goals ((try refine VC.mk ?_); (try simp only [CL.ncell, CL.cnt, Int.toNat_natCast, decide_eq_true_eq, decide_eq_false_iff_not, Bool.not_eq_true, Bool.not_false, Bool.not_true, and_self, and_true, true_and, te3b, te4b, te3s, te4s, Nat.mul_one, Nat.zero_add, List.length_cons, List.length_nil, Bool.false_eq_true, Bool.true_eq_false] at *); (try omega))
      · refine hbad ?_; unfold okAt; simp_all
      · refine ⟨i + 1, [], ⟨⟨by omega, fun j hj => ?_⟩, by omega⟩, ?_⟩
        · by_cases e : j = i
          · subst e; unfold okAt; simp_all; omega
          · exact hok j (by omega)
        · repeat' (first | ((conv => whnf); refine And.intro ?_ ?_) | ((conv => whnf); with_reducible exact VC.mk rfl) | ((conv => whnf); exact Ok.mk) | ((conv => whnf); exact True.intro) | ((conv => whnf); refine Nx.mk ?_) | ((conv => whnf); refine Fin.mk ?_) | ((conv => whnf); intro _))
          all_goals ((try refine VC.mk ?_); (try simp only [CL.ncell, CL.cnt, Int.toNat_natCast, decide_eq_true_eq, decide_eq_false_iff_not, Bool.not_eq_true, Bool.not_false, Bool.not_true, and_self, and_true, true_and, te3b, te4b, te3s, te4s, Nat.mul_one, Nat.zero_add, List.length_cons, List.length_nil, Bool.false_eq_true, Bool.true_eq_false] at *); (try omega))
          · exact e2.symm
      · refine hbad ?_; unfold okAt; simp_all; omega
      · refine hbad ?_; unfold okAt; simp_all; omega
    · have : i = l.length := by omega
      subst this
      have e : isNorm l = true := all_true hok
      rw [e]
      repeat' (first | ((conv => whnf); refine And.intro ?_ ?_) | ((conv => whnf); with_reducible exact VC.mk rfl) | ((conv => whnf); exact Ok.mk) | ((conv => whnf); exact True.intro) | ((conv => whnf); refine Nx.mk ?_) | ((conv => whnf); refine Fin.mk ?_) | ((conv => whnf); intro _))
      all_goals ((try refine VC.mk ?_); (try simp only [CL.ncell, CL.cnt, Int.toNat_natCast, decide_eq_true_eq, decide_eq_false_iff_not, Bool.not_eq_true, Bool.not_false, Bool.not_true, and_self, and_true, true_and, te3b, te4b, te3s, te4s, Nat.mul_one, Nat.zero_add, List.length_cons, List.length_nil, Bool.false_eq_true, Bool.true_eq_false] at *); (try omega))
      all_goals (first | (refine Sup.of ?_; first | rfl | (simp [*, resOf]; done)) | (refine Sup.via ?_; repeat' (first | ((conv => whnf); refine And.intro ?_ ?_) | ((conv => whnf); with_reducible exact VC.mk rfl) | ((conv => whnf); exact Ok.mk) | ((conv => whnf); exact True.intro) | ((conv => whnf); refine Nx.mk ?_) | ((conv => whnf); refine Fin.mk ?_) | ((conv => whnf); intro _)); all_goals ((try refine VC.mk ?_); (try simp only [CL.ncell, CL.cnt, Int.toNat_natCast, decide_eq_true_eq, decide_eq_false_iff_not, Bool.not_eq_true, Bool.not_false, Bool.not_true, and_self, and_true, true_and, te3b, te4b, te3s, te4s, Nat.mul_one, Nat.zero_add, List.length_cons, List.length_nil, Bool.false_eq_true, Bool.true_eq_false] at *); (try omega)); all_goals (try (simp [CL.sub]; done))))
def IsNormalP : PSp := fun xs K => match xs with
  | [.isl (.ints .i64 l) .none] => VC (l.length ≤ 2000000) ∧ K (.bp (isNorm l))
  | _ => False
theorem IsNormal_ok : POK Try.prog 25 IsNormalP := by
  intro xs K h
  unfold IsNormalP at h
  split at h
  · exact ⟨_, h.2, IsNormal_spec _ h.1.get⟩
  · exact h.elim
/-! shapes -/
def sqErr (r c : Int) (l : List Int) : Int := if r ≠ c ∨ r < 1 ∨ 16 < r ∨ (l.length : Int) ≠ r * c then 2 else 0
theorem sq_mul {r c : Int} (h : r = c) (h1 : 1 ≤ r) (h2 : r ≤ 16) : 0 ≤ r * c ∧ r * c ≤ 256 := by subst h; exact mul_bd ⟨by omega, h2⟩ ⟨by omega, h2⟩
theorem CheckSquare_spec (r c : Int) (l : List Int) : PSpec Try.prog 87 [gridV r c l] (.int .i64 (sqErr r c l)) := by
  have hm := @sq_mul r c
  refine pspec_of (md := 1) (rf := []) mixed tabOK noC_ok Try.func87 (by rfl) (by rfl) (by rfl) ?_
  repeat' (first | ((conv => whnf); refine And.intro ?_ ?_) | ((conv => whnf); with_reducible exact VC.mk rfl) | ((conv => whnf); exact Ok.mk) | ((conv => whnf); exact True.intro) | ((conv => whnf); refine Nx.mk ?_) | ((conv => whnf); refine Fin.mk ?_) | ((conv => whnf); intro _))
  all_goals ((try refine VC.mk ?_); (try simp only [CL.ncell, CL.cnt, Int.toNat_natCast, decide_eq_true_eq, decide_eq_false_iff_not, Bool.not_eq_true, Bool.not_false, Bool.not_true, and_self, and_true, true_and, te3b, te4b, te3s, te4s, Nat.mul_one, Nat.zero_add, List.length_cons, List.length_nil, Bool.false_eq_true, Bool.true_eq_false] at *); (try omega))
  all_goals (refine Sup.of ?_; simp_all [resOf, sqErr] <;> omega)
def CheckSquareP : PSp := fun xs K => match xs with
  | [.agg [.int .i64 r, .int .i64 c, .isl (.ints .i64 l) .none]] => VC (True) ∧ K (.int .i64 (sqErr r c l))
  | _ => False
theorem CheckSquare_ok : POK Try.prog 87 CheckSquareP := by
  intro xs K h
  unfold CheckSquareP at h
  split at h
  · exact ⟨_, h.2, CheckSquare_spec _ _ _⟩
  · exact h.elim
theorem checkSquare_spec (r c : Int) (l : List Int) : PSpec Try.prog 126 [gridV r c l] (.int .i64 (sqErr r c l)) := by
  have hm := @sq_mul r c
  refine pspec_of (md := 1) (rf := []) mixed tabOK cp1_ok Try.func126 (by rfl) (by rfl) (by rfl) ?_
  repeat' (first | ((conv => whnf); refine And.intro ?_ ?_) | ((conv => whnf); with_reducible exact VC.mk rfl) | ((conv => whnf); exact Ok.mk) | ((conv => whnf); exact True.intro) | ((conv => whnf); refine Nx.mk ?_) | ((conv => whnf); refine Fin.mk ?_) | ((conv => whnf); intro _))
  all_goals ((try refine VC.mk ?_); (try simp only [CL.ncell, CL.cnt, Int.toNat_natCast, decide_eq_true_eq, decide_eq_false_iff_not, Bool.not_eq_true, Bool.not_false, Bool.not_true, and_self, and_true, true_and, te3b, te4b, te3s, te4s, Nat.mul_one, Nat.zero_add, List.length_cons, List.length_nil, Bool.false_eq_true, Bool.true_eq_false] at *); (try omega))
  all_goals (refine Sup.of ?_; simp_all [resOf, sqErr] <;> omega)
def checkSquareP : PSp := fun xs K => match xs with
  | [.agg [.int .i64 r, .int .i64 c, .isl (.ints .i64 l) .none]] => VC (True) ∧ K (.int .i64 (sqErr r c l))
  | _ => False
theorem checkSquare_ok : POK Try.prog 126 checkSquareP := by
  intro xs K h
  unfold checkSquareP at h
  split at h
  · exact ⟨_, h.2, checkSquare_spec _ _ _⟩
  · exact h.elim
theorem sqErr_zero {r c : Int} {l : List Int} (h : sqErr r c l = 0) : r = c ∧ 1 ≤ r ∧ r ≤ 16 ∧ (l.length : Int) = r * r ∧ l.length ≤ 256 := by
  unfold sqErr at h
  split at h
  · cases h
  · rename_i hh
    have h1 : r = c := by omega
    subst h1
    have := sq_mul (r := r) rfl (by omega) (by omega)
    omega
def normErr (r c : Int) (l : List Int) : Int := if sqErr r c l = 0 then (if isNorm l then 0 else 1) else sqErr r c l
noncomputable def cpN1 : CPT := cpAdd 87 (pureCC CheckSquareP) (cpAdd 25 (pureCC IsNormalP) noC)
theorem cpN1_ok : CPOK Try.prog cpN1 := cpAdd_ok (pureCC_ok CheckSquare_ok) (cpAdd_ok (pureCC_ok IsNormal_ok) noC_ok)
theorem CheckNormal_spec (r c : Int) (l : List Int) : PSpec Try.prog 26 [gridV r c l] (.int .i64 (normErr r c l)) := by
  have hz := @sqErr_zero r c l
  refine pspec_of (md := 1) (rf := []) mixed tabOK cpN1_ok Try.func26 (by rfl) (by rfl) (by rfl) ?_
  repeat' (first | ((conv => whnf); refine And.intro ?_ ?_) | ((conv => whnf); with_reducible exact VC.mk rfl) | ((conv => whnf); exact Ok.mk) | ((conv => whnf); exact True.intro) | ((conv => whnf); refine Nx.mk ?_) | ((conv => whnf); refine Fin.mk ?_) | ((conv => whnf); intro _))
  all_goals ((try refine VC.mk ?_); (try simp only [CL.ncell, CL.cnt, Int.toNat_natCast, decide_eq_true_eq, decide_eq_false_iff_not, Bool.not_eq_true, Bool.not_false, Bool.not_true, and_self, and_true, true_and, te3b, te4b, te3s, te4s, Nat.mul_one, Nat.zero_add, List.length_cons, List.length_nil, Bool.false_eq_true, Bool.true_eq_false] at *); (try omega))
  all_goals (refine Sup.of ?_; simp_all [resOf, normErr] <;> omega)
def CheckNormalP : PSp := fun xs K => match xs with
  | [.agg [.int .i64 r, .int .i64 c, .isl (.ints .i64 l) .none]] => VC (True) ∧ K (.int .i64 (normErr r c l))
  | _ => False
theorem CheckNormal_ok : POK Try.prog 26 CheckNormalP := by
  intro xs K h
  unfold CheckNormalP at h
  split at h
  · exact ⟨_, h.2, CheckNormal_spec _ _ _⟩
  · exact h.elim
noncomputable def cpN2 : CPT := cpAdd 126 (pureCC checkSquareP) cp1
theorem cpN2_ok : CPOK Try.prog cpN2 := cpAdd_ok (pureCC_ok checkSquare_ok) cp1_ok
theorem checkNormal_spec (r c : Int) (l : List Int) : PSpec Try.prog 88 [gridV r c l] (.int .i64 (normErr r c l)) := by
  have hz := @sqErr_zero r c l
  refine pspec_of (md := 1) (rf := []) mixed tabOK cpN2_ok Try.func88 (by rfl) (by rfl) (by rfl) ?_
  repeat' (first | ((conv => whnf); refine And.intro ?_ ?_) | ((conv => whnf); with_reducible exact VC.mk rfl) | ((conv => whnf); exact Ok.mk) | ((conv => whnf); exact True.intro) | ((conv => whnf); refine Nx.mk ?_) | ((conv => whnf); refine Fin.mk ?_) | ((conv => whnf); intro _))
  all_goals ((try refine VC.mk ?_); (try simp only [CL.ncell, CL.cnt, Int.toNat_natCast, decide_eq_true_eq, decide_eq_false_iff_not, Bool.not_eq_true, Bool.not_false, Bool.not_true, and_self, and_true, true_and, te3b, te4b, te3s, te4s, Nat.mul_one, Nat.zero_add, List.length_cons, List.length_nil, Bool.false_eq_true, Bool.true_eq_false] at *); (try omega))
  · all_goals (refine Sup.of ?_; simp_all [resOf, normErr] <;> omega)
  have hz := hz (by omega)
  have he : normErr r c l = if isNorm l then 0 else 1 := by unfold normErr; rw [if_pos (by omega)]
  rw [he]
  repeat' (first | ((conv => whnf); refine And.intro ?_ ?_) | ((conv => whnf); with_reducible exact VC.mk rfl) | ((conv => whnf); exact Ok.mk) | ((conv => whnf); exact True.intro) | ((conv => whnf); refine Nx.mk ?_) | ((conv => whnf); refine Fin.mk ?_) | ((conv => whnf); intro _))
  all_goals ((try refine VC.mk ?_); (try simp only [CL.ncell, CL.cnt, Int.toNat_natCast, decide_eq_true_eq, decide_eq_false_iff_not, Bool.not_eq_true, Bool.not_false, Bool.not_true, and_self, and_true, true_and, te3b, te4b, te3s, te4s, Nat.mul_one, Nat.zero_add, List.length_cons, List.length_nil, Bool.false_eq_true, Bool.true_eq_false] at *); (try omega))
  conv => whnf
  refine loop_of (X := Nat) (fun i => i ≤ l.length ∧ ∀ j, j < i → okAt 1 (l.length + 1) l j = true) (fun i => [(20, .int .i64 i)]) (fun i => [(5, .cells (.bools (seenAt (l.length + 1) l i)) false)]) (fun i => l.length - i) 0 ⟨anyB_ok, mixed, tabOK, cpN2_ok, noY_ok⟩ (by rfl) ⟨by omega, fun j h => by omega⟩ ?_ ?_
  · repeat' (first | ((conv => whnf); refine And.intro ?_ ?_) | ((conv => whnf); with_reducible exact VC.mk rfl) | ((conv => whnf); exact Ok.mk) | ((conv => whnf); exact True.intro) | ((conv => whnf); refine Nx.mk ?_) | ((conv => whnf); refine Fin.mk ?_) | ((conv => whnf); intro _))
    all_goals ((try refine VC.mk ?_); (try simp only [CL.ncell, CL.cnt, Int.toNat_natCast, decide_eq_true_eq, decide_eq_false_iff_not, Bool.not_eq_true, Bool.not_false, Bool.not_true, and_self, and_true, true_and, te3b, te4b, te3s, te4s, Nat.mul_one, Nat.zero_add, List.length_cons, List.length_nil, Bool.false_eq_true, Bool.true_eq_false] at *); (try omega))
    all_goals simp [seenAt]
  · rintro i ⟨hi, hok⟩
    by_cases hlt : i < l.length
    · have e1 := seenAt_len (l.length + 1) l i
      have e2 := seenAt_succ (l.length + 1) l i hlt
      have hbad : okAt 1 (l.length + 1) l i = false → Sup (resOf [.int .i64 1]) (.int .i64 (if isNorm l then 0 else 1)) := fun h => by rw [show isNorm l = false from all_false hlt h]; exact Sup.of rfl
      repeat' (first | ((conv => whnf); refine And.intro ?_ ?_) | ((conv => whnf); with_reducible exact VC.mk rfl) | ((conv => whnf); exact Ok.mk) | ((conv => whnf); exact True.intro) | ((conv => whnf); refine Nx.mk ?_) | ((conv => whnf); refine Fin.mk ?_) | ((conv => whnf); intro _))
      all_goals ((try refine VC.mk ?_); (try simp only [CL.ncell, CL.cnt, Int.toNat_natCast, decide_eq_true_eq, decide_eq_false_iff_not, Bool.not_eq_true, Bool.not_false, Bool.not_true, and_self, and_true, true_and, te3b, te4b, te3s, te4s, Nat.mul_one, Nat.zero_add, List.length_cons, List.length_nil, Bool.false_eq_true, Bool.true_eq_false] at *); (try omega))
      · refine hbad ?_; unfold okAt; simp_all
      · refine ⟨i + 1, [], ⟨⟨by omega, fun j hj => ?_⟩, by omega⟩, ?_⟩
        · by_cases e : j = i
          · subst e; unfold okAt; simp_all; omega
          · exact hok j (by omega)
        · repeat' (first | ((conv => whnf); refine And.intro ?_ ?_) | ((conv => whnf); with_reducible exact VC.mk rfl) | ((conv => whnf); exact Ok.mk) | ((conv => whnf); exact True.intro) | ((conv => whnf); refine Nx.mk ?_) | ((conv => whnf); refine Fin.mk ?_) | ((conv => whnf); intro _))
          all_goals ((try refine VC.mk ?_); (try simp only [CL.ncell, CL.cnt, Int.toNat_natCast, decide_eq_true_eq, decide_eq_false_iff_not, Bool.not_eq_true, Bool.not_false, Bool.not_true, and_self, and_true, true_and, te3b, te4b, te3s, te4s, Nat.mul_one, Nat.zero_add, List.length_cons, List.length_nil, Bool.false_eq_true, Bool.true_eq_false] at *); (try omega))
          · exact e2.symm
      · refine hbad ?_; unfold okAt; simp_all; omega
      · refine hbad ?_; unfold okAt; simp_all; omega
    · have : i = l.length := by omega
      subst this
      have e : isNorm l = true := all_true hok
      rw [e]
      repeat' (first | ((conv => whnf); refine And.intro ?_ ?_) | ((conv => whnf); with_reducible exact VC.mk rfl) | ((conv => whnf); exact Ok.mk) | ((conv => whnf); exact True.intro) | ((conv => whnf); refine Nx.mk ?_) | ((conv => whnf); refine Fin.mk ?_) | ((conv => whnf); intro _))
      all_goals ((try refine VC.mk ?_); (try simp only [CL.ncell, CL.cnt, Int.toNat_natCast, decide_eq_true_eq, decide_eq_false_iff_not, Bool.not_eq_true, Bool.not_false, Bool.not_true, and_self, and_true, true_and, te3b, te4b, te3s, te4s, Nat.mul_one, Nat.zero_add, List.length_cons, List.length_nil, Bool.false_eq_true, Bool.true_eq_false] at *); (try omega))
      exact Sup.of rfl
def checkNormalP : PSp := fun xs K => match xs with
  | [.agg [.int .i64 r, .int .i64 c, .isl (.ints .i64 l) .none]] => VC (True) ∧ K (.int .i64 (normErr r c l))
  | _ => False
theorem checkNormal_ok : POK Try.prog 88 checkNormalP := by
  intro xs K h
  unfold checkNormalP at h
  split at h
  · exact ⟨_, h.2, checkNormal_spec _ _ _⟩
  · exact h.elim
/-! permutations -/
def permErr (l : List Int) : Int := if 256 < l.length then 5 else if isPerm l then 0 else 14
theorem aCheckPerm_spec (l : List Int) : PSpec Try.prog 143 [.isl (.ints .i64 l) .none] (.int .i64 (permErr l)) := by
  refine pspec_of (md := 1) (rf := []) mixed tabOK noC_ok Try.func143 (by rfl) (by rfl) (by rfl) ?_
  repeat' (first | ((conv => whnf); refine And.intro ?_ ?_) | ((conv => whnf); with_reducible exact VC.mk rfl) | ((conv => whnf); exact Ok.mk) | ((conv => whnf); exact True.intro) | ((conv => whnf); refine Nx.mk ?_) | ((conv => whnf); refine Fin.mk ?_) | ((conv => whnf); intro _))
  all_goals ((try refine VC.mk ?_); (try simp only [CL.ncell, CL.cnt, Int.toNat_natCast, decide_eq_true_eq, decide_eq_false_iff_not, Bool.not_eq_true, Bool.not_false, Bool.not_true, and_self, and_true, true_and, te3b, te4b, te3s, te4s, Nat.mul_one, Nat.zero_add, List.length_cons, List.length_nil, Bool.false_eq_true, Bool.true_eq_false] at *); (try omega))
  · all_goals (refine Sup.of ?_; simp_all [resOf, permErr] <;> omega)
  have he : permErr l = if isPerm l then 0 else 14 := by unfold permErr; rw [if_neg (by omega)]
  rw [he]
  repeat' (first | ((conv => whnf); refine And.intro ?_ ?_) | ((conv => whnf); with_reducible exact VC.mk rfl) | ((conv => whnf); exact Ok.mk) | ((conv => whnf); exact True.intro) | ((conv => whnf); refine Nx.mk ?_) | ((conv => whnf); refine Fin.mk ?_) | ((conv => whnf); intro _))
  all_goals ((try refine VC.mk ?_); (try simp only [CL.ncell, CL.cnt, Int.toNat_natCast, decide_eq_true_eq, decide_eq_false_iff_not, Bool.not_eq_true, Bool.not_false, Bool.not_true, and_self, and_true, true_and, te3b, te4b, te3s, te4s, Nat.mul_one, Nat.zero_add, List.length_cons, List.length_nil, Bool.false_eq_true, Bool.true_eq_false] at *); (try omega))
  conv => whnf
  refine loop_of (X := Nat) (fun i => i ≤ l.length ∧ ∀ j, j < i → okAt 0 l.length l j = true) (fun i => [(14, .int .i64 i)]) (fun i => [(0, .cells (.bools (seenAt l.length l i)) false)]) (fun i => l.length - i) 0 ⟨anyB_ok, mixed, tabOK, noC_ok, noY_ok⟩ (by rfl) ⟨by omega, fun j h => by omega⟩ ?_ ?_
  · repeat' (first | ((conv => whnf); refine And.intro ?_ ?_) | ((conv => whnf); with_reducible exact VC.mk rfl) | ((conv => whnf); exact Ok.mk) | ((conv => whnf); exact True.intro) | ((conv => whnf); refine Nx.mk ?_) | ((conv => whnf); refine Fin.mk ?_) | ((conv => whnf); intro _))
    all_goals ((try refine VC.mk ?_); (try simp only [CL.ncell, CL.cnt, Int.toNat_natCast, decide_eq_true_eq, decide_eq_false_iff_not, Bool.not_eq_true, Bool.not_false, Bool.not_true, and_self, and_true, true_and, te3b, te4b, te3s, te4s, Nat.mul_one, Nat.zero_add, List.length_cons, List.length_nil, Bool.false_eq_true, Bool.true_eq_false] at *); (try omega))
    all_goals simp [seenAt]
  · rintro i ⟨hi, hok⟩
    by_cases hlt : i < l.length
    · have e1 := seenAt_len l.length l i
      have e2 := seenAt_succ l.length l i hlt
      have hbad : okAt 0 l.length l i = false → Sup (resOf [.int .i64 14]) (.int .i64 (if isPerm l then 0 else 14)) := fun h => by rw [show isPerm l = false from all_false hlt h]; exact Sup.of rfl
      repeat' (first | ((conv => whnf); refine And.intro ?_ ?_) | ((conv => whnf); with_reducible exact VC.mk rfl) | ((conv => whnf); exact Ok.mk) | ((conv => whnf); exact True.intro) | ((conv => whnf); refine Nx.mk ?_) | ((conv => whnf); refine Fin.mk ?_) | ((conv => whnf); intro _))
      all_goals ((try refine VC.mk ?_); (try simp only [CL.ncell, CL.cnt, Int.toNat_natCast, decide_eq_true_eq, decide_eq_false_iff_not, Bool.not_eq_true, Bool.not_false, Bool.not_true, and_self, and_true, true_and, te3b, te4b, te3s, te4s, Nat.mul_one, Nat.zero_add, List.length_cons, List.length_nil, Bool.false_eq_true, Bool.true_eq_false] at *); (try omega))
      · refine hbad ?_; unfold okAt; simp_all
      · refine ⟨i + 1, [], ⟨⟨by omega, fun j hj => ?_⟩, by omega⟩, ?_⟩
        · by_cases e : j = i
          · subst e; unfold okAt; simp_all
          · exact hok j (by omega)
        · repeat' (first | ((conv => whnf); refine And.intro ?_ ?_) | ((conv => whnf); with_reducible exact VC.mk rfl) | ((conv => whnf); exact Ok.mk) | ((conv => whnf); exact True.intro) | ((conv => whnf); refine Nx.mk ?_) | ((conv => whnf); refine Fin.mk ?_) | ((conv => whnf); intro _))
          all_goals ((try refine VC.mk ?_); (try simp only [CL.ncell, CL.cnt, Int.toNat_natCast, decide_eq_true_eq, decide_eq_false_iff_not, Bool.not_eq_true, Bool.not_false, Bool.not_true, and_self, and_true, true_and, te3b, te4b, te3s, te4s, Nat.mul_one, Nat.zero_add, List.length_cons, List.length_nil, Bool.false_eq_true, Bool.true_eq_false] at *); (try omega))
          · exact e2.symm
      · refine hbad ?_; unfold okAt; simp_all; try omega
      · refine hbad ?_; unfold okAt; simp_all; try omega
    · have : i = l.length := by omega
      subst this
      have e : isPerm l = true := all_true hok
      rw [e]
      repeat' (first | ((conv => whnf); refine And.intro ?_ ?_) | ((conv => whnf); with_reducible exact VC.mk rfl) | ((conv => whnf); exact Ok.mk) | ((conv => whnf); exact True.intro) | ((conv => whnf); refine Nx.mk ?_) | ((conv => whnf); refine Fin.mk ?_) | ((conv => whnf); intro _))
      all_goals ((try refine VC.mk ?_); (try simp only [CL.ncell, CL.cnt, Int.toNat_natCast, decide_eq_true_eq, decide_eq_false_iff_not, Bool.not_eq_true, Bool.not_false, Bool.not_true, and_self, and_true, true_and, te3b, te4b, te3s, te4s, Nat.mul_one, Nat.zero_add, List.length_cons, List.length_nil, Bool.false_eq_true, Bool.true_eq_false] at *); (try omega))
      exact Sup.of rfl
def aCheckPermP : PSp := fun xs K => match xs with
  | [.isl (.ints .i64 l) .none] => VC (True) ∧ K (.int .i64 (permErr l))
  | _ => False
theorem aCheckPerm_ok : POK Try.prog 143 aCheckPermP := by
  intro xs K h
  unfold aCheckPermP at h
  split at h
  · exact ⟨_, h.2, aCheckPerm_spec _⟩
  · exact h.elim
theorem rCheckPerm_spec (l : List Int) : PSpec Try.prog 144 [.isl (.ints .i64 l) .none] (.int .i64 (permErr l)) := by
  refine pspec_of (md := 1) (rf := []) mixed tabOK noC_ok Try.func144 (by rfl) (by rfl) (by rfl) ?_
  repeat' (first | ((conv => whnf); refine And.intro ?_ ?_) | ((conv => whnf); with_reducible exact VC.mk rfl) | ((conv => whnf); exact Ok.mk) | ((conv => whnf); exact True.intro) | ((conv => whnf); refine Nx.mk ?_) | ((conv => whnf); refine Fin.mk ?_) | ((conv => whnf); intro _))
  all_goals ((try refine VC.mk ?_); (try simp only [CL.ncell, CL.cnt, Int.toNat_natCast, decide_eq_true_eq, decide_eq_false_iff_not, Bool.not_eq_true, Bool.not_false, Bool.not_true, and_self, and_true, true_and, te3b, te4b, te3s, te4s, Nat.mul_one, Nat.zero_add, List.length_cons, List.length_nil, Bool.false_eq_true, Bool.true_eq_false] at *); (try omega))
  · all_goals (refine Sup.of ?_; simp_all [resOf, permErr] <;> omega)
  have he : permErr l = if isPerm l then 0 else 14 := by unfold permErr; rw [if_neg (by omega)]
  rw [he]
  repeat' (first | ((conv => whnf); refine And.intro ?_ ?_) | ((conv => whnf); with_reducible exact VC.mk rfl) | ((conv => whnf); exact Ok.mk) | ((conv => whnf); exact True.intro) | ((conv => whnf); refine Nx.mk ?_) | ((conv => whnf); refine Fin.mk ?_) | ((conv => whnf); intro _))
  all_goals ((try refine VC.mk ?_); (try simp only [CL.ncell, CL.cnt, Int.toNat_natCast, decide_eq_true_eq, decide_eq_false_iff_not, Bool.not_eq_true, Bool.not_false, Bool.not_true, and_self, and_true, true_and, te3b, te4b, te3s, te4s, Nat.mul_one, Nat.zero_add, List.length_cons, List.length_nil, Bool.false_eq_true, Bool.true_eq_false] at *); (try omega))
  conv => whnf
  refine loop_of (X := Nat) (fun i => i ≤ l.length ∧ ∀ j, j < i → okAt 0 l.length l j = true) (fun i => [(4, .int .i64 i)]) (fun i => [(0, .cells (.bools (seenAt l.length l i)) false)]) (fun i => l.length - i) 0 ⟨anyB_ok, mixed, tabOK, noC_ok, noY_ok⟩ (by rfl) ⟨by omega, fun j h => by omega⟩ ?_ ?_
  · repeat' (first | ((conv => whnf); refine And.intro ?_ ?_) | ((conv => whnf); with_reducible exact VC.mk rfl) | ((conv => whnf); exact Ok.mk) | ((conv => whnf); exact True.intro) | ((conv => whnf); refine Nx.mk ?_) | ((conv => whnf); refine Fin.mk ?_) | ((conv => whnf); intro _))
    all_goals ((try refine VC.mk ?_); (try simp only [CL.ncell, CL.cnt, Int.toNat_natCast, decide_eq_true_eq, decide_eq_false_iff_not, Bool.not_eq_true, Bool.not_false, Bool.not_true, and_self, and_true, true_and, te3b, te4b, te3s, te4s, Nat.mul_one, Nat.zero_add, List.length_cons, List.length_nil, Bool.false_eq_true, Bool.true_eq_false] at *); (try omega))
    all_goals simp [seenAt]
  · rintro i ⟨hi, hok⟩
    by_cases hlt : i < l.length
    · have e1 := seenAt_len l.length l i
      have e2 := seenAt_succ l.length l i hlt
      have hbad : okAt 0 l.length l i = false → Sup (resOf [.int .i64 14]) (.int .i64 (if isPerm l then 0 else 14)) := fun h => by rw [show isPerm l = false from all_false hlt h]; exact Sup.of rfl
      repeat' (first | ((conv => whnf); refine And.intro ?_ ?_) | ((conv => whnf); with_reducible exact VC.mk rfl) | ((conv => whnf); exact Ok.mk) | ((conv => whnf); exact True.intro) | ((conv => whnf); refine Nx.mk ?_) | ((conv => whnf); refine Fin.mk ?_) | ((conv => whnf); intro _))
      all_goals ((try refine VC.mk ?_); (try simp only [CL.ncell, CL.cnt, Int.toNat_natCast, decide_eq_true_eq, decide_eq_false_iff_not, Bool.not_eq_true, Bool.not_false, Bool.not_true, and_self, and_true, true_and, te3b, te4b, te3s, te4s, Nat.mul_one, Nat.zero_add, List.length_cons, List.length_nil, Bool.false_eq_true, Bool.true_eq_false] at *); (try omega))
      · refine hbad ?_; unfold okAt; simp_all
      · refine ⟨i + 1, [], ⟨⟨by omega, fun j hj => ?_⟩, by omega⟩, ?_⟩
        · by_cases e : j = i
          · subst e; unfold okAt; simp_all
          · exact hok j (by omega)
        · repeat' (first | ((conv => whnf); refine And.intro ?_ ?_) | ((conv => whnf); with_reducible exact VC.mk rfl) | ((conv => whnf); exact Ok.mk) | ((conv => whnf); exact True.intro) | ((conv => whnf); refine Nx.mk ?_) | ((conv => whnf); refine Fin.mk ?_) | ((conv => whnf); intro _))
          all_goals ((try refine VC.mk ?_); (try simp only [CL.ncell, CL.cnt, Int.toNat_natCast, decide_eq_true_eq, decide_eq_false_iff_not, Bool.not_eq_true, Bool.not_false, Bool.not_true, and_self, and_true, true_and, te3b, te4b, te3s, te4s, Nat.mul_one, Nat.zero_add, List.length_cons, List.length_nil, Bool.false_eq_true, Bool.true_eq_false] at *); (try omega))
          · exact e2.symm
      · refine hbad ?_; unfold okAt; simp_all; try omega
      · refine hbad ?_; unfold okAt; simp_all; try omega
    · have : i = l.length := by omega
      subst this
      have e : isPerm l = true := all_true hok
      rw [e]
      repeat' (first | ((conv => whnf); refine And.intro ?_ ?_) | ((conv => whnf); with_reducible exact VC.mk rfl) | ((conv => whnf); exact Ok.mk) | ((conv => whnf); exact True.intro) | ((conv => whnf); refine Nx.mk ?_) | ((conv => whnf); refine Fin.mk ?_) | ((conv => whnf); intro _))
      all_goals ((try refine VC.mk ?_); (try simp only [CL.ncell, CL.cnt, Int.toNat_natCast, decide_eq_true_eq, decide_eq_false_iff_not, Bool.not_eq_true, Bool.not_false, Bool.not_true, and_self, and_true, true_and, te3b, te4b, te3s, te4s, Nat.mul_one, Nat.zero_add, List.length_cons, List.length_nil, Bool.false_eq_true, Bool.true_eq_false] at *); (try omega))
      exact Sup.of rfl
def rCheckPermP : PSp := fun xs K => match xs with
  | [.isl (.ints .i64 l) .none] => VC (True) ∧ K (.int .i64 (permErr l))
  | _ => False
theorem rCheckPerm_ok : POK Try.prog 144 rCheckPermP := by
  intro xs K h
  unfold rCheckPermP at h
  split at h
  · exact ⟨_, h.2, rCheckPerm_spec _⟩
  · exact h.elim
end Go.Eng.Ytppflbccfdbogaa
namespace Go.Eng.Ytppflbccfdbogaa
open Go.Proofs
set_option maxRecDepth 100000
set_option maxHeartbeats 0
set_option linter.unusedVariables false
set_option linter.unusedSimpArgs false
theorem isPerm_bd {l : List Int} (h : isPerm l = true) (i : Nat) (hi : i < l.length) : 0 ≤ l.getD i 0 ∧ l.getD i 0 < l.length := by
  unfold isPerm distinctIn at h
  rw [List.all_eq_true] at h
  have := h i (by simpa using hi)
  unfold okAt at this
  simp only [Bool.and_eq_true, decide_eq_true_eq] at this
  omega
theorem permErr_zero {l : List Int} (h : permErr l = 0) : l.length ≤ 256 ∧ isPerm l = true := by
  unfold permErr at h
  split at h
  · cases h
  · split at h
    · exact ⟨by omega, ‹_›⟩
    · cases h
def halfAt (l : List Int) (i : Nat) : Bool := decide (l.getD i 0 + l.getD (i + l.length / 2) 0 = l.length - 1)
def halvesErr (l : List Int) : Int := if permErr l = 0 then (if (List.range (l.length / 2)).all (halfAt l) then 0 else 18) else 14
noncomputable def cpH : CPT := cpAdd 143 (pureCC aCheckPermP) (cpAdd 144 (pureCC rCheckPermP) noC)
theorem cpH_ok : CPOK Try.prog cpH := cpAdd_ok (pureCC_ok aCheckPerm_ok) (cpAdd_ok (pureCC_ok rCheckPerm_ok) noC_ok)
theorem checkHalves_spec (l : List Int) : PSpec Try.prog 112 [.isl (.ints .i64 l) .none] (.int .i64 (halvesErr l)) := by
  refine pspec_of (md := 0) (rf := []) mixed tabOK cpH_ok Try.func112 (by rfl) (by rfl) (by rfl) ?_
  repeat' (first | ((conv => whnf); refine And.intro ?_ ?_) | ((conv => whnf); with_reducible exact VC.mk rfl) | ((conv => whnf); exact Ok.mk) | ((conv => whnf); exact True.intro) | ((conv => whnf); refine Nx.mk ?_) | ((conv => whnf); refine Fin.mk ?_) | ((conv => whnf); intro _))
  all_goals ((try refine VC.mk ?_); (try simp only [CL.ncell, CL.cnt, Int.toNat_natCast, decide_eq_true_eq, decide_eq_false_iff_not, Bool.not_eq_true, Bool.not_false, Bool.not_true, and_self, and_true, true_and, te3b, te4b, te3s, te4s, Nat.mul_one, Nat.zero_add, List.length_cons, List.length_nil, Bool.false_eq_true, Bool.true_eq_false] at *); (try omega))
  · all_goals (refine Sup.of ?_; simp_all [resOf, halvesErr] <;> omega)
  · have hz := @permErr_zero l (by omega); omega
  have hz := @permErr_zero l (by omega)
  have he : halvesErr l = if (List.range (l.length / 2)).all (halfAt l) then 0 else 18 := by unfold halvesErr; rw [if_pos (by omega)]
  rw [he]
  conv => whnf
  refine loop_of (X := Nat) (fun i => i ≤ l.length / 2 ∧ ∀ j, j < i → halfAt l j = true) (fun i => [(12, .int .i64 i)]) (fun i => []) (fun i => l.length / 2 - i) 0 ⟨anyB_ok, mixed, tabOK, cpH_ok, noY_ok⟩ (by rfl) ⟨by omega, fun j h => by omega⟩ ?_ ?_
  · repeat' (first | ((conv => whnf); refine And.intro ?_ ?_) | ((conv => whnf); with_reducible exact VC.mk rfl) | ((conv => whnf); exact Ok.mk) | ((conv => whnf); exact True.intro) | ((conv => whnf); refine Nx.mk ?_) | ((conv => whnf); refine Fin.mk ?_) | ((conv => whnf); intro _))
    all_goals ((try refine VC.mk ?_); (try simp only [CL.ncell, CL.cnt, Int.toNat_natCast, decide_eq_true_eq, decide_eq_false_iff_not, Bool.not_eq_true, Bool.not_false, Bool.not_true, and_self, and_true, true_and, te3b, te4b, te3s, te4s, Nat.mul_one, Nat.zero_add, List.length_cons, List.length_nil, Bool.false_eq_true, Bool.true_eq_false] at *); (try omega))
  · rintro i ⟨hi, hok⟩
    by_cases hlt : i < l.length / 2
    · have b1 := isPerm_bd hz.2 i (by omega)
      have b2 := isPerm_bd hz.2 (i + l.length / 2) (by omega)
      have e1 : ((i : Int) + (l.length : Int) / 2).toNat = i + l.length / 2 := by omega
      have hbad : halfAt l i = false → Sup (resOf [.int .i64 18]) (.int .i64 (if (List.range (l.length / 2)).all (halfAt l) then 0 else 18)) := fun h => by rw [all_false hlt h]; exact Sup.of rfl
      repeat' (first | ((conv => whnf); refine And.intro ?_ ?_) | ((conv => whnf); with_reducible exact VC.mk rfl) | ((conv => whnf); exact Ok.mk) | ((conv => whnf); exact True.intro) | ((conv => whnf); refine Nx.mk ?_) | ((conv => whnf); refine Fin.mk ?_) | ((conv => whnf); intro _))
      all_goals ((try refine VC.mk ?_); (try simp only [CL.ncell, CL.cnt, Int.toNat_natCast, decide_eq_true_eq, decide_eq_false_iff_not, Bool.not_eq_true, Bool.not_false, Bool.not_true, and_self, and_true, true_and, te3b, te4b, te3s, te4s, Nat.mul_one, Nat.zero_add, List.length_cons, List.length_nil, Bool.false_eq_true, Bool.true_eq_false] at *); (try omega))
      all_goals (try rw [e1] at *)
      · omega
      · omega
      · exact hbad (by simp only [halfAt, decide_eq_false_iff_not]; assumption)
      · refine ⟨i + 1, [], ⟨⟨by omega, fun j hj => ?_⟩, by omega⟩, ?_⟩
        · by_cases e : j = i
          · subst e; simp only [halfAt, decide_eq_true_eq]; omega
          · exact hok j (by omega)
        · repeat' (first | ((conv => whnf); refine And.intro ?_ ?_) | ((conv => whnf); with_reducible exact VC.mk rfl) | ((conv => whnf); exact Ok.mk) | ((conv => whnf); exact True.intro) | ((conv => whnf); refine Nx.mk ?_) | ((conv => whnf); refine Fin.mk ?_) | ((conv => whnf); intro _))
          all_goals ((try refine VC.mk ?_); (try simp only [CL.ncell, CL.cnt, Int.toNat_natCast, decide_eq_true_eq, decide_eq_false_iff_not, Bool.not_eq_true, Bool.not_false, Bool.not_true, and_self, and_true, true_and, te3b, te4b, te3s, te4s, Nat.mul_one, Nat.zero_add, List.length_cons, List.length_nil, Bool.false_eq_true, Bool.true_eq_false] at *); (try omega))
    · have : i = l.length / 2 := by omega
      subst this
      rw [all_true hok]
      repeat' (first | ((conv => whnf); refine And.intro ?_ ?_) | ((conv => whnf); with_reducible exact VC.mk rfl) | ((conv => whnf); exact Ok.mk) | ((conv => whnf); exact True.intro) | ((conv => whnf); refine Nx.mk ?_) | ((conv => whnf); refine Fin.mk ?_) | ((conv => whnf); intro _))
      all_goals ((try refine VC.mk ?_); (try simp only [CL.ncell, CL.cnt, Int.toNat_natCast, decide_eq_true_eq, decide_eq_false_iff_not, Bool.not_eq_true, Bool.not_false, Bool.not_true, and_self, and_true, true_and, te3b, te4b, te3s, te4s, Nat.mul_one, Nat.zero_add, List.length_cons, List.length_nil, Bool.false_eq_true, Bool.true_eq_false] at *); (try omega))
      exact Sup.of rfl
def checkHalvesP : PSp := fun xs K => match xs with
  | [.isl (.ints .i64 l) .none] => VC (True) ∧ K (.int .i64 (halvesErr l))
  | _ => False
theorem checkHalves_ok : POK Try.prog 112 checkHalvesP := by
  intro xs K h
  unfold checkHalvesP at h
  split at h
  · exact ⟨_, h.2, checkHalves_spec _⟩
  · exact h.elim
theorem CheckHalves_spec (l : List Int) : PSpec Try.prog 113 [.isl (.ints .i64 l) .none] (.int .i64 (halvesErr l)) := by
  refine pspec_of (md := 0) (rf := []) mixed tabOK cpH_ok Try.func113 (by rfl) (by rfl) (by rfl) ?_
  repeat' (first | ((conv => whnf); refine And.intro ?_ ?_) | ((conv => whnf); with_reducible exact VC.mk rfl) | ((conv => whnf); exact Ok.mk) | ((conv => whnf); exact True.intro) | ((conv => whnf); refine Nx.mk ?_) | ((conv => whnf); refine Fin.mk ?_) | ((conv => whnf); intro _))
  all_goals ((try refine VC.mk ?_); (try simp only [CL.ncell, CL.cnt, Int.toNat_natCast, decide_eq_true_eq, decide_eq_false_iff_not, Bool.not_eq_true, Bool.not_false, Bool.not_true, and_self, and_true, true_and, te3b, te4b, te3s, te4s, Nat.mul_one, Nat.zero_add, List.length_cons, List.length_nil, Bool.false_eq_true, Bool.true_eq_false] at *); (try omega))
  · all_goals (refine Sup.of ?_; simp_all [resOf, halvesErr] <;> omega)
  have hz := @permErr_zero l (by omega)
  have he : halvesErr l = if (List.range (l.length / 2)).all (halfAt l) then 0 else 18 := by unfold halvesErr; rw [if_pos (by omega)]
  rw [he]
  conv => whnf
  refine loop_of (X := Nat) (fun i => i ≤ l.length / 2 ∧ ∀ j, j < i → halfAt l j = true) (fun i => [(4, .int .i64 i)]) (fun i => []) (fun i => l.length / 2 - i) 0 ⟨anyB_ok, mixed, tabOK, cpH_ok, noY_ok⟩ (by rfl) ⟨by omega, fun j h => by omega⟩ ?_ ?_
  · repeat' (first | ((conv => whnf); refine And.intro ?_ ?_) | ((conv => whnf); with_reducible exact VC.mk rfl) | ((conv => whnf); exact Ok.mk) | ((conv => whnf); exact True.intro) | ((conv => whnf); refine Nx.mk ?_) | ((conv => whnf); refine Fin.mk ?_) | ((conv => whnf); intro _))
    all_goals ((try refine VC.mk ?_); (try simp only [CL.ncell, CL.cnt, Int.toNat_natCast, decide_eq_true_eq, decide_eq_false_iff_not, Bool.not_eq_true, Bool.not_false, Bool.not_true, and_self, and_true, true_and, te3b, te4b, te3s, te4s, Nat.mul_one, Nat.zero_add, List.length_cons, List.length_nil, Bool.false_eq_true, Bool.true_eq_false] at *); (try omega))
  · rintro i ⟨hi, hok⟩
    by_cases hlt : i < l.length / 2
    · have b1 := isPerm_bd hz.2 i (by omega)
      have b2 := isPerm_bd hz.2 (i + l.length / 2) (by omega)
      have e1 : ((i : Int) + (l.length : Int) / 2).toNat = i + l.length / 2 := by omega
      have hbad : halfAt l i = false → Sup (resOf [.int .i64 18]) (.int .i64 (if (List.range (l.length / 2)).all (halfAt l) then 0 else 18)) := fun h => by rw [all_false hlt h]; exact Sup.of rfl
      repeat' (first | ((conv => whnf); refine And.intro ?_ ?_) | ((conv => whnf); with_reducible exact VC.mk rfl) | ((conv => whnf); exact Ok.mk) | ((conv => whnf); exact True.intro) | ((conv => whnf); refine Nx.mk ?_) | ((conv => whnf); refine Fin.mk ?_) | ((conv => whnf); intro _))
      all_goals ((try refine VC.mk ?_); (try simp only [CL.ncell, CL.cnt, Int.toNat_natCast, decide_eq_true_eq, decide_eq_false_iff_not, Bool.not_eq_true, Bool.not_false, Bool.not_true, and_self, and_true, true_and, te3b, te4b, te3s, te4s, Nat.mul_one, Nat.zero_add, List.length_cons, List.length_nil, Bool.false_eq_true, Bool.true_eq_false] at *); (try omega))
      all_goals (try rw [e1] at *)
      · omega
      · omega
      · exact hbad (by simp only [halfAt, decide_eq_false_iff_not]; assumption)
      · refine ⟨i + 1, [], ⟨⟨by omega, fun j hj => ?_⟩, by omega⟩, ?_⟩
        · by_cases e : j = i
          · subst e; simp only [halfAt, decide_eq_true_eq]; omega
          · exact hok j (by omega)
        · repeat' (first | ((conv => whnf); refine And.intro ?_ ?_) | ((conv => whnf); with_reducible exact VC.mk rfl) | ((conv => whnf); exact Ok.mk) | ((conv => whnf); exact True.intro) | ((conv => whnf); refine Nx.mk ?_) | ((conv => whnf); refine Fin.mk ?_) | ((conv => whnf); intro _))
          all_goals ((try refine VC.mk ?_); (try simp only [CL.ncell, CL.cnt, Int.toNat_natCast, decide_eq_true_eq, decide_eq_false_iff_not, Bool.not_eq_true, Bool.not_false, Bool.not_true, and_self, and_true, true_and, te3b, te4b, te3s, te4s, Nat.mul_one, Nat.zero_add, List.length_cons, List.length_nil, Bool.false_eq_true, Bool.true_eq_false] at *); (try omega))
    · have : i = l.length / 2 := by omega
      subst this
      rw [all_true hok]
      repeat' (first | ((conv => whnf); refine And.intro ?_ ?_) | ((conv => whnf); with_reducible exact VC.mk rfl) | ((conv => whnf); exact Ok.mk) | ((conv => whnf); exact True.intro) | ((conv => whnf); refine Nx.mk ?_) | ((conv => whnf); refine Fin.mk ?_) | ((conv => whnf); intro _))
      all_goals ((try refine VC.mk ?_); (try simp only [CL.ncell, CL.cnt, Int.toNat_natCast, decide_eq_true_eq, decide_eq_false_iff_not, Bool.not_eq_true, Bool.not_false, Bool.not_true, and_self, and_true, true_and, te3b, te4b, te3s, te4s, Nat.mul_one, Nat.zero_add, List.length_cons, List.length_nil, Bool.false_eq_true, Bool.true_eq_false] at *); (try omega))
      exact Sup.of rfl
def CheckHalvesP : PSp := fun xs K => match xs with
  | [.isl (.ints .i64 l) .none] => VC (True) ∧ K (.int .i64 (halvesErr l))
  | _ => False
theorem CheckHalves_ok : POK Try.prog 113 CheckHalvesP := by
  intro xs K h
  unfold CheckHalvesP at h
  split at h
  · exact ⟨_, h.2, CheckHalves_spec _⟩
  · exact h.elim
end Go.Eng.Ytppflbccfdbogaa
namespace Go.Eng.Ytppflbccfdbogaa
set_option linter.unusedVariables false
set_option linter.unusedSimpArgs false
open Go.Proofs
def sumAt (cs l : List Int) (i : Nat) : Int := (l.take i).foldl (fun s c => s + cs.getD c.toNat 0) 0
theorem sumAt_succ (cs l : List Int) (i : Nat) (h : i < l.length) : sumAt cs l (i + 1) = sumAt cs l i + cs.getD (l.getD i 0).toNat 0 := by
  unfold sumAt
  rw [List.take_add_one, List.foldl_append]
  simp [h]
def sumP : PSp := fun xs K => match xs with
  | [.agg [.int .i64 n, .int .i64 m, .isl (.ints .i64 cs) .none], .isl (.ints .i64 l) .none] =>
    VC ((∀ c ∈ l, 0 ≤ c ∧ c < cs.length) ∧ l.length < 1000000 ∧ ∀ i, i ≤ l.length → -1000000 < sumAt cs l i ∧ sumAt cs l i < 1000000) ∧ K (.int .i64 (sumAt cs l l.length))
  | _ => False
theorem sum_spec (n m : Int) (cs l : List Int) (h : ∀ c ∈ l, 0 ≤ c ∧ c < cs.length) (hl : l.length < 1000000) (hb : ∀ i, i ≤ l.length → -1000000 < sumAt cs l i ∧ sumAt cs l i < 1000000) :
    PSpec Try.prog 78 [.agg [.int .i64 n, .int .i64 m, .isl (.ints .i64 cs) .none], .isl (.ints .i64 l) .none] (.int .i64 (sumAt cs l l.length)) := by
  refine pspec_of (md := 1) (rf := []) mixed tabOK noC_ok Try.func78 (by rfl) (by rfl) (by rfl) ?_
  repeat' (first | ((conv => whnf); refine And.intro ?_ ?_) | ((conv => whnf); with_reducible exact VC.mk rfl) | ((conv => whnf); exact Ok.mk) | ((conv => whnf); exact True.intro) | ((conv => whnf); refine Nx.mk ?_) | ((conv => whnf); refine Fin.mk ?_) | ((conv => whnf); intro _))
  conv => whnf
  refine loop_of (X := Nat) (fun i => i ≤ l.length) (fun i => [(5, .int .i64 (sumAt cs l i)), (10, .int .i64 i)]) (fun _ => []) (fun i => l.length - i) 0 ⟨anyB_ok, mixed, tabOK, noC_ok, noY_ok⟩ (by rfl) (by omega) ?_ ?_
  · repeat' (first | ((conv => whnf); refine And.intro ?_ ?_) | ((conv => whnf); with_reducible exact VC.mk rfl) | ((conv => whnf); exact Ok.mk) | ((conv => whnf); exact True.intro) | ((conv => whnf); refine Nx.mk ?_) | ((conv => whnf); refine Fin.mk ?_) | ((conv => whnf); intro _))
    all_goals ((try refine VC.mk ?_); (try simp only [CL.ncell, CL.cnt, Int.toNat_natCast, decide_eq_true_eq, decide_eq_false_iff_not, Bool.not_eq_true, Bool.not_false, Bool.not_true, and_self, and_true, true_and, te3b, te4b, te3s, te4s, Nat.mul_one, Nat.zero_add, List.length_cons, List.length_nil, Bool.false_eq_true, Bool.true_eq_false] at *); (try omega))
  · intro i hi
    by_cases hlt : i < l.length
    · have key := h (l.getD i 0) (by simp [hlt])
      have hs := hb (i + 1) hlt
      have hs0 := hb i hi
      have e := sumAt_succ cs l i hlt
      repeat' (first | ((conv => whnf); refine And.intro ?_ ?_) | ((conv => whnf); with_reducible exact VC.mk rfl) | ((conv => whnf); exact Ok.mk) | ((conv => whnf); exact True.intro) | ((conv => whnf); refine Nx.mk ?_) | ((conv => whnf); refine Fin.mk ?_) | ((conv => whnf); intro _))
      all_goals ((try refine VC.mk ?_); (try simp only [CL.ncell, CL.cnt, Int.toNat_natCast, decide_eq_true_eq, decide_eq_false_iff_not, Bool.not_eq_true, Bool.not_false, Bool.not_true, and_self, and_true, true_and, te3b, te4b, te3s, te4s, Nat.mul_one, Nat.zero_add, List.length_cons, List.length_nil, Bool.false_eq_true, Bool.true_eq_false] at *); (try omega))
      refine ⟨i + 1, [], ⟨by omega, by omega⟩, ?_⟩
      repeat' (first | ((conv => whnf); refine And.intro ?_ ?_) | ((conv => whnf); with_reducible exact VC.mk rfl) | ((conv => whnf); exact Ok.mk) | ((conv => whnf); exact True.intro) | ((conv => whnf); refine Nx.mk ?_) | ((conv => whnf); refine Fin.mk ?_) | ((conv => whnf); intro _))
      all_goals ((try refine VC.mk ?_); (try simp only [CL.ncell, CL.cnt, Int.toNat_natCast, decide_eq_true_eq, decide_eq_false_iff_not, Bool.not_eq_true, Bool.not_false, Bool.not_true, and_self, and_true, true_and, te3b, te4b, te3s, te4s, Nat.mul_one, Nat.zero_add, List.length_cons, List.length_nil, Bool.false_eq_true, Bool.true_eq_false] at *); (try omega))
      all_goals rw [e]; exact Sup.of rfl
    · have : i = l.length := by omega
      subst this
      repeat' (first | ((conv => whnf); refine And.intro ?_ ?_) | ((conv => whnf); with_reducible exact VC.mk rfl) | ((conv => whnf); exact Ok.mk) | ((conv => whnf); exact True.intro) | ((conv => whnf); refine Nx.mk ?_) | ((conv => whnf); refine Fin.mk ?_) | ((conv => whnf); intro _))
      all_goals ((try refine VC.mk ?_); (try simp only [CL.ncell, CL.cnt, Int.toNat_natCast, decide_eq_true_eq, decide_eq_false_iff_not, Bool.not_eq_true, Bool.not_false, Bool.not_true, and_self, and_true, true_and, te3b, te4b, te3s, te4s, Nat.mul_one, Nat.zero_add, List.length_cons, List.length_nil, Bool.false_eq_true, Bool.true_eq_false] at *); (try omega))
      all_goals (first | (refine Sup.of ?_; first | rfl | (simp [*, resOf]; done)) | (refine Sup.via ?_; repeat' (first | ((conv => whnf); refine And.intro ?_ ?_) | ((conv => whnf); with_reducible exact VC.mk rfl) | ((conv => whnf); exact Ok.mk) | ((conv => whnf); exact True.intro) | ((conv => whnf); refine Nx.mk ?_) | ((conv => whnf); refine Fin.mk ?_) | ((conv => whnf); intro _)); all_goals ((try refine VC.mk ?_); (try simp only [CL.ncell, CL.cnt, Int.toNat_natCast, decide_eq_true_eq, decide_eq_false_iff_not, Bool.not_eq_true, Bool.not_false, Bool.not_true, and_self, and_true, true_and, te3b, te4b, te3s, te4s, Nat.mul_one, Nat.zero_add, List.length_cons, List.length_nil, Bool.false_eq_true, Bool.true_eq_false] at *); (try omega)); all_goals (try (simp [CL.sub]; done))))
end Go.Eng.Ytppflbccfdbogaa
namespace Go.Eng.Ytppflbccfdbogaa
open Go.Proofs
set_option maxRecDepth 100000
set_option maxHeartbeats 0
set_option linter.unusedVariables false
set_option linter.unusedSimpArgs false
/-! small closures -/
theorem c119_spec (k i : Int) : PSpec Try.prog 119 [.int .i64 i, .ip (.pv [.int .i64 k]) 0] (.int .i64 k) := by
  refine pspec_of (md := 1) (rf := []) mixed tabOK noC_ok Try.func119 (by rfl) (by rfl) (by rfl) ?_
  repeat' (first | ((conv => whnf); refine And.intro ?_ ?_) | ((conv => whnf); with_reducible exact VC.mk rfl) | ((conv => whnf); exact Ok.mk) | ((conv => whnf); exact True.intro) | ((conv => whnf); refine Nx.mk ?_) | ((conv => whnf); refine Fin.mk ?_) | ((conv => whnf); intro _))
  all_goals (first | (refine Sup.of ?_; first | rfl | (simp [*, resOf]; done)) | (refine Sup.via ?_; repeat' (first | ((conv => whnf); refine And.intro ?_ ?_) | ((conv => whnf); with_reducible exact VC.mk rfl) | ((conv => whnf); exact Ok.mk) | ((conv => whnf); exact True.intro) | ((conv => whnf); refine Nx.mk ?_) | ((conv => whnf); refine Fin.mk ?_) | ((conv => whnf); intro _)); all_goals ((try refine VC.mk ?_); (try simp only [CL.ncell, CL.cnt, Int.toNat_natCast, decide_eq_true_eq, decide_eq_false_iff_not, Bool.not_eq_true, Bool.not_false, Bool.not_true, and_self, and_true, true_and, te3b, te4b, te3s, te4s, Nat.mul_one, Nat.zero_add, List.length_cons, List.length_nil, Bool.false_eq_true, Bool.true_eq_false] at *); (try omega)); all_goals (try (simp [CL.sub]; done))))
theorem c120_spec (i : Int) : PSpec Try.prog 120 [.int .i64 i] (.int .i64 i) := by
  refine pspec_of (md := 1) (rf := []) mixed tabOK noC_ok Try.func120 (by rfl) (by rfl) (by rfl) ?_
  repeat' (first | ((conv => whnf); refine And.intro ?_ ?_) | ((conv => whnf); with_reducible exact VC.mk rfl) | ((conv => whnf); exact Ok.mk) | ((conv => whnf); exact True.intro) | ((conv => whnf); refine Nx.mk ?_) | ((conv => whnf); refine Fin.mk ?_) | ((conv => whnf); intro _))
  all_goals (first | (refine Sup.of ?_; first | rfl | (simp [*, resOf]; done)) | (refine Sup.via ?_; repeat' (first | ((conv => whnf); refine And.intro ?_ ?_) | ((conv => whnf); with_reducible exact VC.mk rfl) | ((conv => whnf); exact Ok.mk) | ((conv => whnf); exact True.intro) | ((conv => whnf); refine Nx.mk ?_) | ((conv => whnf); refine Fin.mk ?_) | ((conv => whnf); intro _)); all_goals ((try refine VC.mk ?_); (try simp only [CL.ncell, CL.cnt, Int.toNat_natCast, decide_eq_true_eq, decide_eq_false_iff_not, Bool.not_eq_true, Bool.not_false, Bool.not_true, and_self, and_true, true_and, te3b, te4b, te3s, te4s, Nat.mul_one, Nat.zero_add, List.length_cons, List.length_nil, Bool.false_eq_true, Bool.true_eq_false] at *); (try omega)); all_goals (try (simp [CL.sub]; done))))
theorem c121_spec (n i : Int) (h : (0 ≤ n ∧ n ≤ 1000) ∧ 0 ≤ i ∧ i ≤ 1000) : PSpec Try.prog 121 [.int .i64 i, .ip (.pv [.int .i64 n]) 0] (.int .i64 (n - 1 - i)) := by
  refine pspec_of (md := 1) (rf := []) mixed tabOK noC_ok Try.func121 (by rfl) (by rfl) (by rfl) ?_
  repeat' (first | ((conv => whnf); refine And.intro ?_ ?_) | ((conv => whnf); with_reducible exact VC.mk rfl) | ((conv => whnf); exact Ok.mk) | ((conv => whnf); exact True.intro) | ((conv => whnf); refine Nx.mk ?_) | ((conv => whnf); refine Fin.mk ?_) | ((conv => whnf); intro _))
  all_goals ((try refine VC.mk ?_); (try simp only [CL.ncell, CL.cnt, Int.toNat_natCast, decide_eq_true_eq, decide_eq_false_iff_not, Bool.not_eq_true, Bool.not_false, Bool.not_true, and_self, and_true, true_and, te3b, te4b, te3s, te4s, Nat.mul_one, Nat.zero_add, List.length_cons, List.length_nil, Bool.false_eq_true, Bool.true_eq_false] at *); (try omega))
  all_goals (first | (refine Sup.of ?_; first | rfl | (simp [*, resOf]; done)) | (refine Sup.via ?_; repeat' (first | ((conv => whnf); refine And.intro ?_ ?_) | ((conv => whnf); with_reducible exact VC.mk rfl) | ((conv => whnf); exact Ok.mk) | ((conv => whnf); exact True.intro) | ((conv => whnf); refine Nx.mk ?_) | ((conv => whnf); refine Fin.mk ?_) | ((conv => whnf); intro _)); all_goals ((try refine VC.mk ?_); (try simp only [CL.ncell, CL.cnt, Int.toNat_natCast, decide_eq_true_eq, decide_eq_false_iff_not, Bool.not_eq_true, Bool.not_false, Bool.not_true, and_self, and_true, true_and, te3b, te4b, te3s, te4s, Nat.mul_one, Nat.zero_add, List.length_cons, List.length_nil, Bool.false_eq_true, Bool.true_eq_false] at *); (try omega)); all_goals (try (simp [CL.sub]; done))))
theorem c122_spec (k i : Int) (h : (0 ≤ k ∧ k ≤ 1000) ∧ 0 ≤ i ∧ i ≤ 1000) : PSpec Try.prog 122 [.int .i64 i, .ip (.pv [.int .i64 k]) 0] (.int .i64 (i + k)) := by
  refine pspec_of (md := 1) (rf := []) mixed tabOK noC_ok Try.func122 (by rfl) (by rfl) (by rfl) ?_
  repeat' (first | ((conv => whnf); refine And.intro ?_ ?_) | ((conv => whnf); with_reducible exact VC.mk rfl) | ((conv => whnf); exact Ok.mk) | ((conv => whnf); exact True.intro) | ((conv => whnf); refine Nx.mk ?_) | ((conv => whnf); refine Fin.mk ?_) | ((conv => whnf); intro _))
  all_goals ((try refine VC.mk ?_); (try simp only [CL.ncell, CL.cnt, Int.toNat_natCast, decide_eq_true_eq, decide_eq_false_iff_not, Bool.not_eq_true, Bool.not_false, Bool.not_true, and_self, and_true, true_and, te3b, te4b, te3s, te4s, Nat.mul_one, Nat.zero_add, List.length_cons, List.length_nil, Bool.false_eq_true, Bool.true_eq_false] at *); (try omega))
  all_goals (first | (refine Sup.of ?_; first | rfl | (simp [*, resOf]; done)) | (refine Sup.via ?_; repeat' (first | ((conv => whnf); refine And.intro ?_ ?_) | ((conv => whnf); with_reducible exact VC.mk rfl) | ((conv => whnf); exact Ok.mk) | ((conv => whnf); exact True.intro) | ((conv => whnf); refine Nx.mk ?_) | ((conv => whnf); refine Fin.mk ?_) | ((conv => whnf); intro _)); all_goals ((try refine VC.mk ?_); (try simp only [CL.ncell, CL.cnt, Int.toNat_natCast, decide_eq_true_eq, decide_eq_false_iff_not, Bool.not_eq_true, Bool.not_false, Bool.not_true, and_self, and_true, true_and, te3b, te4b, te3s, te4s, Nat.mul_one, Nat.zero_add, List.length_cons, List.length_nil, Bool.false_eq_true, Bool.true_eq_false] at *); (try omega)); all_goals (try (simp [CL.sub]; done))))
theorem c123_spec (k i : Int) (h : (0 ≤ k ∧ k ≤ 1000) ∧ 0 ≤ i ∧ i ≤ 1000) : PSpec Try.prog 123 [.int .i64 i, .ip (.pv [.int .i64 k]) 0] (.int .i64 (k - i)) := by
  refine pspec_of (md := 1) (rf := []) mixed tabOK noC_ok Try.func123 (by rfl) (by rfl) (by rfl) ?_
  repeat' (first | ((conv => whnf); refine And.intro ?_ ?_) | ((conv => whnf); with_reducible exact VC.mk rfl) | ((conv => whnf); exact Ok.mk) | ((conv => whnf); exact True.intro) | ((conv => whnf); refine Nx.mk ?_) | ((conv => whnf); refine Fin.mk ?_) | ((conv => whnf); intro _))
  all_goals ((try refine VC.mk ?_); (try simp only [CL.ncell, CL.cnt, Int.toNat_natCast, decide_eq_true_eq, decide_eq_false_iff_not, Bool.not_eq_true, Bool.not_false, Bool.not_true, and_self, and_true, true_and, te3b, te4b, te3s, te4s, Nat.mul_one, Nat.zero_add, List.length_cons, List.length_nil, Bool.false_eq_true, Bool.true_eq_false] at *); (try omega))
  all_goals (first | (refine Sup.of ?_; first | rfl | (simp [*, resOf]; done)) | (refine Sup.via ?_; repeat' (first | ((conv => whnf); refine And.intro ?_ ?_) | ((conv => whnf); with_reducible exact VC.mk rfl) | ((conv => whnf); exact Ok.mk) | ((conv => whnf); exact True.intro) | ((conv => whnf); refine Nx.mk ?_) | ((conv => whnf); refine Fin.mk ?_) | ((conv => whnf); intro _)); all_goals ((try refine VC.mk ?_); (try simp only [CL.ncell, CL.cnt, Int.toNat_natCast, decide_eq_true_eq, decide_eq_false_iff_not, Bool.not_eq_true, Bool.not_false, Bool.not_true, and_self, and_true, true_and, te3b, te4b, te3s, te4s, Nat.mul_one, Nat.zero_add, List.length_cons, List.length_nil, Bool.false_eq_true, Bool.true_eq_false] at *); (try omega)); all_goals (try (simp [CL.sub]; done))))
/-! one line -/
def colL (n : Nat) (h : Nat → Int) (m : Nat) : List Int := (List.range m).map fun i => (n : Int) * i + h i % n
theorem colL_succ (n : Nat) (h : Nat → Int) (m : Nat) : colL n h (m + 1) = colL n h m ++ [(n : Int) * m + h m % n] := by
  simp [colL, List.range_succ]
def lnY (P : Program) (b : Nat) (G : GT) (go : List PV → Bool) (L : List PV) : LSp := fun xs objs K => match xs, objs with
  | [.fn (.func f) [] cs, .ip (.pv [.int .i64 n]) 0, .ip (.pv [.fv y us vs]) 0], [.ext G' pre] =>
    VC (y = .yield b ∧ us = #[] ∧ vs = #[] ∧ G' = G ∧ inlE.inlF cs = true ∧ 1 ≤ n ∧ n ≤ 16) ∧ ∃ h : Nat → Int, (∀ i : Nat, (i : Int) < n → (-1000 ≤ h i ∧ h i ≤ 1000) ∧ PSpec P f ([.int .i64 i] ++ cs) (.int .i64 (h i))) ∧
      Nxt go L pre (.isl (.ints .i64 (colL n.toNat h n.toNat)) .none) ∧ K [.bp (go (pre ++ [.isl (.ints .i64 (colL n.toNat h n.toNat)) .none]))] [.ext G (pre ++ [.isl (.ints .i64 (colL n.toNat h n.toNat)) .none])]
  | _, _ => False
theorem c118_spec {b : Nat} {G : GT} {go : List PV → Bool} {L : List PV} (hY : Yields Try.prog b 1 G go L) (f : Nat) (cs : List PV) (hcs : inlE.inlF cs = true) (n : Nat) (hn : 1 ≤ n ∧ n ≤ 16) (h : Nat → Int)
    (hh : ∀ i : Nat, i < n → (-1000 ≤ h i ∧ h i ≤ 1000) ∧ PSpec Try.prog f ([.int .i64 i] ++ cs) (.int .i64 (h i))) (pre : List PV) (hx : Nxt go L pre (.isl (.ints .i64 (colL n h n)) .none)) :
    LSpec Try.prog 118 [.fn (.func f) [] cs, .ip (.pv [.int .i64 (n : Int)]) 0, .ip (.pv [.fv (.yield b) #[] #[]]) 0] [.ext G pre] [.bp (go (pre ++ [.isl (.ints .i64 (colL n h n)) .none]))] [.ext G (pre ++ [.isl (.ints .i64 (colL n h n)) .none])] := by
  refine ⟨enters' Try.func118 (by rfl) (by rfl), lspecB_open 0 rfl (by simp) rfl hcs fun S0 w0 us vs hu hv => ?_⟩
  have hY1 : YPOK Try.prog none (fun S w => anyB S w ∧ fromB S0 w0 S w) (fnY f us vs fun xs K => match xs with
      | [.int .i64 i] => VC (0 ≤ i ∧ i < n) ∧ K (.int .i64 (h i.toNat))
      | _ => False) := fnY_ok (fs := []) (cs := cs) (fun S w hb => ⟨hu.mono hb.2 (.refl _), hv.mono hb.2 (.refl _)⟩) fun xs K hk => by
    split at hk
    · rename_i i
      obtain ⟨⟨h1, h2⟩, hk⟩ := hk
      have := (hh i.toNat (by omega)).2
      rw [Int.toNat_of_nonneg h1] at this
      exact ⟨_, hk, this⟩
    · exact hk.elim
  refine lspecB_of (md := 1) (rf := []) (andB_ok anyB_ok fromB_ok) mixed tabOK (cp3_ok.up _) (funY_ok hY1 (hY none _)) 1 [] Try.func118 (by rfl) (by rfl) ?_
  repeat' (first | ((conv => whnf); refine And.intro ?_ ?_) | ((conv => whnf); with_reducible exact VC.mk rfl) | ((conv => whnf); exact Ok.mk) | ((conv => whnf); exact True.intro) | ((conv => whnf); refine Nx.mk ?_) | ((conv => whnf); refine Fin.mk ?_) | ((conv => whnf); intro _))
  conv => whnf
  refine loop_of (X := Nat) (fun i => i ≤ n) (fun i => [(8, .int .i64 i), (5, .isl (.ints .i64 (colL n h i)) (.own 1))]) (fun i => [(1, .tok 1 i)]) (fun i => n - i) 0 ⟨andB_ok anyB_ok fromB_ok, mixed, tabOK, cp3_ok.up _, funY_ok hY1 (hY none _)⟩ (by rfl) (by omega) ?_ ?_
  · repeat' (first | ((conv => whnf); refine And.intro ?_ ?_) | ((conv => whnf); with_reducible exact VC.mk rfl) | ((conv => whnf); exact Ok.mk) | ((conv => whnf); exact True.intro) | ((conv => whnf); refine Nx.mk ?_) | ((conv => whnf); refine Fin.mk ?_) | ((conv => whnf); intro _))
    all_goals ((try refine VC.mk ?_); (try simp only [CL.ncell, CL.cnt, Int.toNat_natCast, decide_eq_true_eq, decide_eq_false_iff_not, Bool.not_eq_true, Bool.not_false, Bool.not_true, and_self, and_true, true_and, te3b, te4b, te3s, te4s, Nat.mul_one, Nat.zero_add, List.length_cons, List.length_nil, Bool.false_eq_true, Bool.true_eq_false] at *); (try omega))
  · intro i hi
    by_cases hlt : i < n
    · have hb1 := (hh i hlt).1
      have hb2 : 0 ≤ (n : Int) * i ∧ (n : Int) * i ≤ 256 := ⟨Int.mul_nonneg (by omega) (by omega), by have := Int.mul_le_mul (show (n : Int) ≤ 16 by omega) (show (i : Int) ≤ 16 by omega) (by omega) (by omega); omega⟩
      have hb3 : 0 ≤ h i % n ∧ h i % n < n := ⟨Int.emod_nonneg _ (by omega), Int.emod_lt_of_pos _ (by omega)⟩
      have hl : (colL n h i).length = i := by simp [colL]
      repeat' (first | ((conv => whnf); refine And.intro ?_ ?_) | ((conv => whnf); with_reducible exact VC.mk rfl) | ((conv => whnf); exact Ok.mk) | ((conv => whnf); exact True.intro) | ((conv => whnf); refine Nx.mk ?_) | ((conv => whnf); refine Fin.mk ?_) | ((conv => whnf); intro _))
      all_goals ((try refine VC.mk ?_); (try simp only [CL.ncell, CL.cnt, Int.toNat_natCast, decide_eq_true_eq, decide_eq_false_iff_not, Bool.not_eq_true, Bool.not_false, Bool.not_true, and_self, and_true, true_and, te3b, te4b, te3s, te4s, Nat.mul_one, Nat.zero_add, List.length_cons, List.length_nil, Bool.false_eq_true, Bool.true_eq_false] at *); (try omega))
      · simp [hl]; omega
      · refine ⟨i + 1, [], ⟨by omega, by omega⟩, ?_⟩
        repeat' (first | ((conv => whnf); refine And.intro ?_ ?_) | ((conv => whnf); with_reducible exact VC.mk rfl) | ((conv => whnf); exact Ok.mk) | ((conv => whnf); exact True.intro) | ((conv => whnf); refine Nx.mk ?_) | ((conv => whnf); refine Fin.mk ?_) | ((conv => whnf); intro _))
        all_goals ((try refine VC.mk ?_); (try simp only [CL.ncell, CL.cnt, Int.toNat_natCast, decide_eq_true_eq, decide_eq_false_iff_not, Bool.not_eq_true, Bool.not_false, Bool.not_true, and_self, and_true, true_and, te3b, te4b, te3s, te4s, Nat.mul_one, Nat.zero_add, List.length_cons, List.length_nil, Bool.false_eq_true, Bool.true_eq_false] at *); (try omega))
        · rw [colL_succ]
    · have : i = n := by omega
      subst this
      repeat' (first | ((conv => whnf); refine And.intro ?_ ?_) | ((conv => whnf); with_reducible exact VC.mk rfl) | ((conv => whnf); exact Ok.mk) | ((conv => whnf); exact True.intro) | ((conv => whnf); refine Nx.mk ?_) | ((conv => whnf); refine Fin.mk ?_) | ((conv => whnf); intro _))
      all_goals ((try refine VC.mk ?_); (try simp only [CL.ncell, CL.cnt, Int.toNat_natCast, decide_eq_true_eq, decide_eq_false_iff_not, Bool.not_eq_true, Bool.not_false, Bool.not_true, and_self, and_true, true_and, te3b, te4b, te3s, te4s, Nat.mul_one, Nat.zero_add, List.length_cons, List.length_nil, Bool.false_eq_true, Bool.true_eq_false] at *); (try omega))
/-! all lines -/
def rowL (n i m : Nat) : List Int := (List.range m).map fun j : Nat => (n : Int) * (i : Int) + (j : Int)
theorem rowL_succ (n i m : Nat) : rowL n i (m + 1) = rowL n i m ++ [(n : Int) * i + m] := by simp [rowL, List.range_succ]
def lineAt (n i : Nat) : List Int :=
  if i < n then rowL n i n else if i < 2 * n then colL n (fun _ => (i : Int) - n) n else if i = 2 * n then colL n (fun j => j) n else if i = 2 * n + 1 then colL n (fun j => (n : Int) - 1 - j) n
  else if i < 3 * n + 1 then colL n (fun j => (j : Int) + ((i : Int) - 2 * n - 1)) n else colL n (fun j => (i : Int) - 3 * n - 1 - j) n
theorem lineAt_row {n k : Nat} (h : k < n) : lineAt n k = rowL n k n := by simp [lineAt, h]
theorem lineAt_col {n k : Nat} (h : k < n) : lineAt n (n + k) = colL n (fun _ => (k : Int)) n := by
  have h1 : ¬ n + k < n := by omega
  have h2 : n + k < 2 * n := by omega
  have h3 : ((n + k : Nat) : Int) - n = k := by omega
  unfold lineAt; rw [if_neg h1, if_pos h2, h3]
theorem lineAt_d1 {n : Nat} : lineAt n (2 * n) = colL n (fun j => (j : Int)) n := by
  have h1 : ¬ 2 * n < n := by omega
  have h2 : ¬ 2 * n < 2 * n := by omega
  unfold lineAt; rw [if_neg h1, if_neg h2, if_pos rfl]
theorem lineAt_d2 {n : Nat} : lineAt n (2 * n + 1) = colL n (fun j => (n : Int) - 1 - j) n := by
  have h1 : ¬ 2 * n + 1 < n := by omega
  have h2 : ¬ 2 * n + 1 < 2 * n := by omega
  have h3 : ¬ 2 * n + 1 = 2 * n := by omega
  unfold lineAt; rw [if_neg h1, if_neg h2, if_neg h3, if_pos rfl]
theorem lineAt_b1 {n k : Nat} (h : k + 1 < n) : lineAt n (2 * n + 2 + k) = colL n (fun j => (j : Int) + ((k : Int) + 1)) n := by
  have h1 : ¬ 2 * n + 2 + k < n := by omega
  have h2 : ¬ 2 * n + 2 + k < 2 * n := by omega
  have h3 : ¬ 2 * n + 2 + k = 2 * n := by omega
  have h4 : ¬ 2 * n + 2 + k = 2 * n + 1 := by omega
  have h5 : 2 * n + 2 + k < 3 * n + 1 := by omega
  have h6 : ((2 * n + 2 + k : Nat) : Int) - 2 * n - 1 = k + 1 := by omega
  unfold lineAt; rw [if_neg h1, if_neg h2, if_neg h3, if_neg h4, if_pos h5, h6]
theorem lineAt_b2 {n k : Nat} (h : 1 ≤ n) : lineAt n (3 * n + 1 + k) = colL n (fun j => (k : Int) - j) n := by
  have h1 : ¬ 3 * n + 1 + k < n := by omega
  have h2 : ¬ 3 * n + 1 + k < 2 * n := by omega
  have h3 : ¬ 3 * n + 1 + k = 2 * n := by omega
  have h4 : ¬ 3 * n + 1 + k = 2 * n + 1 := by omega
  have h5 : ¬ 3 * n + 1 + k < 3 * n + 1 := by omega
  have h6 : ((3 * n + 1 + k : Nat) : Int) - 3 * n - 1 = k := by omega
  unfold lineAt; rw [if_neg h1, if_neg h2, if_neg h3, if_neg h4, if_neg h5, h6]
def lineCnt (n : Nat) (g : Int) : Nat := if g < 1 then 0 else if g < 2 then 2 * n else if g < 3 then 2 * n + 2 else 4 * n
def linesV (n : Nat) (g : Int) : List PV := (List.range (lineCnt n g)).map fun i => .isl (.ints .i64 (lineAt n i)) .none
theorem nxt_of {go : List PV → Bool} {L : List PV} {i : Nat} {x : PV} (h : L[i]? = some x) (hg : GoTo go L i) : Nxt go L (L.take i) x := ⟨i, (List.getElem?_eq_some_iff.1 h).1, rfl, h, hg⟩
theorem lnY_ok {b : Nat} {G : GT} {go : List PV → Bool} {L : List PV} (hY : Yields Try.prog b 1 G go L) : LOK Try.prog 118 (lnY Try.prog b G go L) := by
  intro xs objs K h
  unfold lnY at h
  split at h
  · obtain ⟨⟨rfl, rfl, rfl, rfl, h1, h2, h3⟩, hh, h4, h5, hK⟩ := h
    rename_i f cs n _ pre
    obtain ⟨m, rfl⟩ : ∃ m : Nat, n = m := ⟨n.toNat, by omega⟩
    simp only [Int.toNat_natCast] at h5 hK
    exact ⟨_, _, hK, c118_spec hY f cs h1 m (by omega) hh (fun i hi => h4 i (by omega)) pre h5⟩
  · exact h.elim
theorem c117_spec (n : Nat) (hn : 1 ≤ n ∧ n ≤ 16) (g : Int) : ISpec Try.prog 117 [] [.ip (.pv [.int .i64 (n : Int)]) 0, .ip (.pv [.int .i64 g]) 0] 1 (linesV n g) := by
  refine ispec_of (md := 1) (rf := []) mixed tabOK Try.func117 (by rfl) (by rfl) (by rfl) fun G go b hY => ⟨_, cpAdd_ok (lendCC_ok [0] (lnY_ok hY)) noC_ok, ?_⟩
  obtain ⟨L, hL⟩ : ∃ L, L = linesV n g := ⟨_, rfl⟩
  have hlen : L.length = lineCnt n g := by simp [hL, linesV]
  have hget : ∀ i, i < lineCnt n g → L[i]? = some (.isl (.ints .i64 (lineAt n i)) .none) := fun i hi => by simp [hL, linesV, hi]
  rw [← hL] at hY ⊢
  have W : Walk Try.prog none anyB tab.get (cpAdd 118 (lendCC [0] (lnY Try.prog b G go L)) noC) (yldY b 1 G go L) := ⟨anyB_ok, mixed, tabOK, cpAdd_ok (lendCC_ok [0] (lnY_ok hY)) noC_ok, hY _ _⟩
  have hmul : ∀ i : Nat, i < n → 0 ≤ (n : Int) * i ∧ (n : Int) * i ≤ 256 := fun i h => ⟨Int.mul_nonneg (by omega) (by omega), by have := Int.mul_le_mul (show (n : Int) ≤ 16 by omega) (show (i : Int) ≤ 16 by omega) (by omega) (by omega); omega⟩
  -- what comes to the iterator's end
  have stop : ∀ i, i < lineCnt n g → GoTo go L i → go (L.take i ++ [.isl (.ints .i64 (lineAt n i)) .none]) = false → L.take i ++ [.isl (.ints .i64 (lineAt n i)) .none] = runG go [] L := fun i hi hg h => by
    rw [take_succ' (hget i hi)] at h ⊢
    rw [runG_stop (by omega) hg h]
  have cont : ∀ i, i < lineCnt n g → GoTo go L i → go (L.take i ++ [.isl (.ints .i64 (lineAt n i)) .none]) = true → GoTo go L (i + 1) := fun i hi hg h => hg.succ (by rw [← take_succ' (hget i hi)]; exact h)
  have done : GoTo go L (lineCnt n g) → L.take (lineCnt n g) = runG go [] L := fun hg => by rw [runG_all (by omega) hg, ← hlen]; simp
  have hc0 : g < 1 → lineCnt n g = 0 := fun h => by simp [lineCnt, h]
  have hc1 : 1 ≤ g → 2 * n ≤ lineCnt n g := fun h => by unfold lineCnt; split <;> (try split) <;> (try split) <;> omega
  have hc1' : 1 ≤ g → g < 2 → lineCnt n g = 2 * n := fun h h' => by unfold lineCnt; split <;> (try split) <;> (try split) <;> omega
  have hc2 : 2 ≤ g → 2 * n + 2 ≤ lineCnt n g := fun h => by unfold lineCnt; split <;> (try split) <;> (try split) <;> omega
  have hc2' : 2 ≤ g → g < 3 → lineCnt n g = 2 * n + 2 := fun h h' => by unfold lineCnt; split <;> (try split) <;> (try split) <;> omega
  have hc3 : 3 ≤ g → lineCnt n g = 4 * n := fun h => by unfold lineCnt; split <;> (try split) <;> (try split) <;> omega
  conv => whnf
  refine loop_of (X := Nat) (fun k => k ≤ n ∧ (0 < k → 1 ≤ g) ∧ GoTo go L k) (fun k => [(13, .int .i64 k)]) (fun k => [(0, .ext G (L.take k))]) (fun k => n - k) 0 W (by rfl) ⟨by omega, by omega, .zero⟩ ?_ ?_
  · repeat' (first | ((conv => whnf); refine And.intro ?_ ?_) | ((conv => whnf); with_reducible exact VC.mk rfl) | ((conv => whnf); exact Ok.mk) | ((conv => whnf); exact True.intro) | ((conv => whnf); refine Nx.mk ?_) | ((conv => whnf); refine Fin.mk ?_) | ((conv => whnf); intro _))
    all_goals ((try refine VC.mk ?_); (try simp only [CL.ncell, CL.cnt, Int.toNat_natCast, decide_eq_true_eq, decide_eq_false_iff_not, Bool.not_eq_true, Bool.not_false, Bool.not_true, and_self, and_true, true_and, te3b, te4b, te3s, te4s, Nat.mul_one, Nat.zero_add, List.length_cons, List.length_nil, Bool.false_eq_true, Bool.true_eq_false] at *); (try omega))
    all_goals simp
  · intro k hk
    obtain ⟨hk1, hk2, hk3⟩ := hk
    by_cases hlt : k < n
    · repeat' (first | ((conv => whnf); refine And.intro ?_ ?_) | ((conv => whnf); with_reducible exact VC.mk rfl) | ((conv => whnf); exact Ok.mk) | ((conv => whnf); exact True.intro) | ((conv => whnf); refine Nx.mk ?_) | ((conv => whnf); refine Fin.mk ?_) | ((conv => whnf); intro _))
      all_goals ((try refine VC.mk ?_); (try simp only [CL.ncell, CL.cnt, Int.toNat_natCast, decide_eq_true_eq, decide_eq_false_iff_not, Bool.not_eq_true, Bool.not_false, Bool.not_true, and_self, and_true, true_and, te3b, te4b, te3s, te4s, Nat.mul_one, Nat.zero_add, List.length_cons, List.length_nil, Bool.false_eq_true, Bool.true_eq_false] at *); (try omega))
      conv => whnf
      refine loop_of (X := Nat) (fun j => j ≤ n) (fun j => [(17, .int .i64 j), (6, .isl (.ints .i64 (rowL n k j)) (.own 2))]) (fun j => [(2, .tok 1 j)]) (fun j => n - j) 0 W (by rfl) (by omega) ?_ ?_
      · repeat' (first | ((conv => whnf); refine And.intro ?_ ?_) | ((conv => whnf); with_reducible exact VC.mk rfl) | ((conv => whnf); exact Ok.mk) | ((conv => whnf); exact True.intro) | ((conv => whnf); refine Nx.mk ?_) | ((conv => whnf); refine Fin.mk ?_) | ((conv => whnf); intro _))
        all_goals ((try refine VC.mk ?_); (try simp only [CL.ncell, CL.cnt, Int.toNat_natCast, decide_eq_true_eq, decide_eq_false_iff_not, Bool.not_eq_true, Bool.not_false, Bool.not_true, and_self, and_true, true_and, te3b, te4b, te3s, te4s, Nat.mul_one, Nat.zero_add, List.length_cons, List.length_nil, Bool.false_eq_true, Bool.true_eq_false] at *); (try omega))
      · intro j hj
        by_cases hlj : j < n
        · have hl : (rowL n k j).length = j := by simp [rowL]
          have := hmul k hlt
          repeat' (first | ((conv => whnf); refine And.intro ?_ ?_) | ((conv => whnf); with_reducible exact VC.mk rfl) | ((conv => whnf); exact Ok.mk) | ((conv => whnf); exact True.intro) | ((conv => whnf); refine Nx.mk ?_) | ((conv => whnf); refine Fin.mk ?_) | ((conv => whnf); intro _))
          all_goals ((try refine VC.mk ?_); (try simp only [CL.ncell, CL.cnt, Int.toNat_natCast, decide_eq_true_eq, decide_eq_false_iff_not, Bool.not_eq_true, Bool.not_false, Bool.not_true, and_self, and_true, true_and, te3b, te4b, te3s, te4s, Nat.mul_one, Nat.zero_add, List.length_cons, List.length_nil, Bool.false_eq_true, Bool.true_eq_false] at *); (try omega))
          · simp [hl]; omega
          · refine ⟨j + 1, [], ⟨by omega, by omega⟩, ?_⟩
            repeat' (first | ((conv => whnf); refine And.intro ?_ ?_) | ((conv => whnf); with_reducible exact VC.mk rfl) | ((conv => whnf); exact Ok.mk) | ((conv => whnf); exact True.intro) | ((conv => whnf); refine Nx.mk ?_) | ((conv => whnf); refine Fin.mk ?_) | ((conv => whnf); intro _))
            all_goals ((try refine VC.mk ?_); (try simp only [CL.ncell, CL.cnt, Int.toNat_natCast, decide_eq_true_eq, decide_eq_false_iff_not, Bool.not_eq_true, Bool.not_false, Bool.not_true, and_self, and_true, true_and, te3b, te4b, te3s, te4s, Nat.mul_one, Nat.zero_add, List.length_cons, List.length_nil, Bool.false_eq_true, Bool.true_eq_false] at *); (try omega))
            · rw [rowL_succ]
        · have : n = j := by omega
          subst this
          have hat : rowL n k n = lineAt n k := (lineAt_row hlt).symm
          rw [hat]
          repeat' (first | ((conv => whnf); refine And.intro ?_ ?_) | ((conv => whnf); with_reducible exact VC.mk rfl) | ((conv => whnf); exact Ok.mk) | ((conv => whnf); exact True.intro) | ((conv => whnf); refine Nx.mk ?_) | ((conv => whnf); refine Fin.mk ?_) | ((conv => whnf); intro _))
          all_goals ((try refine VC.mk ?_); (try simp only [CL.ncell, CL.cnt, Int.toNat_natCast, decide_eq_true_eq, decide_eq_false_iff_not, Bool.not_eq_true, Bool.not_false, Bool.not_true, and_self, and_true, true_and, te3b, te4b, te3s, te4s, Nat.mul_one, Nat.zero_add, List.length_cons, List.length_nil, Bool.false_eq_true, Bool.true_eq_false] at *); (try omega))
          · exact nxt_of (hget k (by have := hc1 (by omega); omega)) hk3
          · exact stop k (by have := hc1 (by omega); omega) hk3 (by simp_all)
          · rename_i hgo _ _
            refine ⟨k + 1, [], ⟨⟨by omega, by omega, cont k (by have := hc1 (by omega); omega) hk3 (by simpa using hgo)⟩, by omega⟩, ?_⟩
            repeat' (first | ((conv => whnf); refine And.intro ?_ ?_) | ((conv => whnf); with_reducible exact VC.mk rfl) | ((conv => whnf); exact Ok.mk) | ((conv => whnf); exact True.intro) | ((conv => whnf); refine Nx.mk ?_) | ((conv => whnf); refine Fin.mk ?_) | ((conv => whnf); intro _))
            all_goals ((try refine VC.mk ?_); (try simp only [CL.ncell, CL.cnt, Int.toNat_natCast, decide_eq_true_eq, decide_eq_false_iff_not, Bool.not_eq_true, Bool.not_false, Bool.not_true, and_self, and_true, true_and, te3b, te4b, te3s, te4s, Nat.mul_one, Nat.zero_add, List.length_cons, List.length_nil, Bool.false_eq_true, Bool.true_eq_false] at *); (try omega))
            exact take_succ' (hget k (by have := hc1 (by omega); omega))
          · have : g < 1 := by simp_all
            have : k = 0 := by omega
            subst this
            have := hc0 ‹_›
            have h0 : L = [] := List.eq_nil_of_length_eq_zero (by omega)
            rw [h0]; simp [runG]
    · have : n = k := by omega
      subst this
      have hg1 : 1 ≤ g := hk2 (by omega)
      repeat' (first | ((conv => whnf); refine And.intro ?_ ?_) | ((conv => whnf); with_reducible exact VC.mk rfl) | ((conv => whnf); exact Ok.mk) | ((conv => whnf); exact True.intro) | ((conv => whnf); refine Nx.mk ?_) | ((conv => whnf); refine Fin.mk ?_) | ((conv => whnf); intro _))
      all_goals ((try refine VC.mk ?_); (try simp only [CL.ncell, CL.cnt, Int.toNat_natCast, decide_eq_true_eq, decide_eq_false_iff_not, Bool.not_eq_true, Bool.not_false, Bool.not_true, and_self, and_true, true_and, te3b, te4b, te3s, te4s, Nat.mul_one, Nat.zero_add, List.length_cons, List.length_nil, Bool.false_eq_true, Bool.true_eq_false] at *); (try omega))
      conv => whnf
      refine loop_of (X := Nat) (fun k => k ≤ n ∧ GoTo go L (n + k)) (fun k => [(39, .int .i64 k)]) (fun k => [(0, .ext G (L.take (n + k)))]) (fun k => n - k) 0 W (by rfl) ⟨by omega, hk3⟩ ?_ ?_
      · repeat' (first | ((conv => whnf); refine And.intro ?_ ?_) | ((conv => whnf); with_reducible exact VC.mk rfl) | ((conv => whnf); exact Ok.mk) | ((conv => whnf); exact True.intro) | ((conv => whnf); refine Nx.mk ?_) | ((conv => whnf); refine Fin.mk ?_) | ((conv => whnf); intro _))
        all_goals ((try refine VC.mk ?_); (try simp only [CL.ncell, CL.cnt, Int.toNat_natCast, decide_eq_true_eq, decide_eq_false_iff_not, Bool.not_eq_true, Bool.not_false, Bool.not_true, and_self, and_true, true_and, te3b, te4b, te3s, te4s, Nat.mul_one, Nat.zero_add, List.length_cons, List.length_nil, Bool.false_eq_true, Bool.true_eq_false] at *); (try omega))
        all_goals simp
      · intro k hk
        obtain ⟨hk1, hk3⟩ := hk
        by_cases hlt : k < n
        · have hat : colL n (fun _ => (k : Int)) n = lineAt n (n + k) := (lineAt_col hlt).symm
          have hlt2 : n + k < lineCnt n g := by have := hc1 hg1; omega
          repeat' (first | ((conv => whnf); refine And.intro ?_ ?_) | ((conv => whnf); with_reducible exact VC.mk rfl) | ((conv => whnf); exact Ok.mk) | ((conv => whnf); exact True.intro) | ((conv => whnf); refine Nx.mk ?_) | ((conv => whnf); refine Fin.mk ?_) | ((conv => whnf); intro _))
          all_goals ((try refine VC.mk ?_); (try simp only [CL.ncell, CL.cnt, Int.toNat_natCast, decide_eq_true_eq, decide_eq_false_iff_not, Bool.not_eq_true, Bool.not_false, Bool.not_true, and_self, and_true, true_and, te3b, te4b, te3s, te4s, Nat.mul_one, Nat.zero_add, List.length_cons, List.length_nil, Bool.false_eq_true, Bool.true_eq_false] at *); (try omega))
          · exact ⟨rfl, by omega, by omega⟩
          · refine ⟨fun _ => k, fun i hi => ⟨by dsimp only; omega, c119_spec _ _⟩, ?_, ?_⟩
            · simp only [Int.toNat_natCast, hat]
              exact nxt_of (hget _ hlt2) hk3
            · simp only [Int.toNat_natCast, hat]
              repeat' (first | ((conv => whnf); refine And.intro ?_ ?_) | ((conv => whnf); with_reducible exact VC.mk rfl) | ((conv => whnf); exact Ok.mk) | ((conv => whnf); exact True.intro) | ((conv => whnf); refine Nx.mk ?_) | ((conv => whnf); refine Fin.mk ?_) | ((conv => whnf); intro _))
              all_goals ((try refine VC.mk ?_); (try simp only [CL.ncell, CL.cnt, Int.toNat_natCast, decide_eq_true_eq, decide_eq_false_iff_not, Bool.not_eq_true, Bool.not_false, Bool.not_true, and_self, and_true, true_and, te3b, te4b, te3s, te4s, Nat.mul_one, Nat.zero_add, List.length_cons, List.length_nil, Bool.false_eq_true, Bool.true_eq_false] at *); (try omega))
              · exact stop _ hlt2 hk3 (by simp_all)
              · refine ⟨k + 1, [], ⟨⟨by omega, cont _ hlt2 hk3 (by simpa using ‹(!go _) = false›)⟩, by omega⟩, ?_⟩
                repeat' (first | ((conv => whnf); refine And.intro ?_ ?_) | ((conv => whnf); with_reducible exact VC.mk rfl) | ((conv => whnf); exact Ok.mk) | ((conv => whnf); exact True.intro) | ((conv => whnf); refine Nx.mk ?_) | ((conv => whnf); refine Fin.mk ?_) | ((conv => whnf); intro _))
                all_goals ((try refine VC.mk ?_); (try simp only [CL.ncell, CL.cnt, Int.toNat_natCast, decide_eq_true_eq, decide_eq_false_iff_not, Bool.not_eq_true, Bool.not_false, Bool.not_true, and_self, and_true, true_and, te3b, te4b, te3s, te4s, Nat.mul_one, Nat.zero_add, List.length_cons, List.length_nil, Bool.false_eq_true, Bool.true_eq_false] at *); (try omega))
                exact take_succ' (hget _ hlt2)
        · have : n = k := by omega
          subst this
          have e2 : n + n = 2 * n := by omega
          rw [e2] at hk3 ⊢
          have hat : colL n (fun j => (j : Int)) n = lineAt n (2 * n) := lineAt_d1.symm
          have hat2 : colL n (fun j => (n : Int) - 1 - j) n = lineAt n (2 * n + 1) := lineAt_d2.symm
          have hl1 : 2 ≤ g → 2 * n < lineCnt n g := fun h => by have := hc2 h; omega
          have hl2 : 2 ≤ g → 2 * n + 1 < lineCnt n g := fun h => by have := hc2 h; omega
          repeat' (first | ((conv => whnf); refine And.intro ?_ ?_) | ((conv => whnf); with_reducible exact VC.mk rfl) | ((conv => whnf); exact Ok.mk) | ((conv => whnf); exact True.intro) | ((conv => whnf); refine Nx.mk ?_) | ((conv => whnf); refine Fin.mk ?_) | ((conv => whnf); intro _))
          all_goals ((try refine VC.mk ?_); (try simp only [CL.ncell, CL.cnt, Int.toNat_natCast, decide_eq_true_eq, decide_eq_false_iff_not, Bool.not_eq_true, Bool.not_false, Bool.not_true, and_self, and_true, true_and, te3b, te4b, te3s, te4s, Nat.mul_one, Nat.zero_add, List.length_cons, List.length_nil, Bool.false_eq_true, Bool.true_eq_false] at *); (try omega))
          · exact ⟨rfl, by omega, by omega⟩
          · have hg2 : 2 ≤ g := by simp_all
            refine ⟨fun j => j, fun i hi => ⟨by dsimp only; omega, c120_spec _⟩, ?_, ?_⟩
            · simp only [Int.toNat_natCast, hat]
              exact nxt_of (hget _ (hl1 hg2)) hk3
            · simp only [Int.toNat_natCast, hat]
              repeat' (first | ((conv => whnf); refine And.intro ?_ ?_) | ((conv => whnf); with_reducible exact VC.mk rfl) | ((conv => whnf); exact Ok.mk) | ((conv => whnf); exact True.intro) | ((conv => whnf); refine Nx.mk ?_) | ((conv => whnf); refine Fin.mk ?_) | ((conv => whnf); intro _))
              all_goals ((try refine VC.mk ?_); (try simp only [CL.ncell, CL.cnt, Int.toNat_natCast, decide_eq_true_eq, decide_eq_false_iff_not, Bool.not_eq_true, Bool.not_false, Bool.not_true, and_self, and_true, true_and, te3b, te4b, te3s, te4s, Nat.mul_one, Nat.zero_add, List.length_cons, List.length_nil, Bool.false_eq_true, Bool.true_eq_false] at *); (try omega))
              · exact ⟨rfl, by omega, by omega⟩
              · have hk4 : GoTo go L (2 * n + 1) := cont _ (hl1 hg2) hk3 (by simpa using ‹(!go _) = false›)
                refine ⟨fun j => (n : Int) - 1 - j, fun i hi => ⟨by dsimp only; omega, c121_spec _ _ (by omega)⟩, ?_, ?_⟩
                · simp only [Int.toNat_natCast, hat2]
                  rw [take_succ' (hget _ (hl1 hg2))]
                  exact nxt_of (hget _ (hl2 hg2)) hk4
                · simp only [Int.toNat_natCast, hat2]
                  rw [take_succ' (hget _ (hl1 hg2))]
                  repeat' (first | ((conv => whnf); refine And.intro ?_ ?_) | ((conv => whnf); with_reducible exact VC.mk rfl) | ((conv => whnf); exact Ok.mk) | ((conv => whnf); exact True.intro) | ((conv => whnf); refine Nx.mk ?_) | ((conv => whnf); refine Fin.mk ?_) | ((conv => whnf); intro _))
                  all_goals ((try refine VC.mk ?_); (try simp only [CL.ncell, CL.cnt, Int.toNat_natCast, decide_eq_true_eq, decide_eq_false_iff_not, Bool.not_eq_true, Bool.not_false, Bool.not_true, and_self, and_true, true_and, te3b, te4b, te3s, te4s, Nat.mul_one, Nat.zero_add, List.length_cons, List.length_nil, Bool.false_eq_true, Bool.true_eq_false] at *); (try omega))
                  · have hg3 : lineCnt n g = 2 * n + 2 := hc2' hg2 (by simp_all)
                    rw [take_succ' (hget _ (hl2 hg2)), ← done (by rw [hg3]; exact cont _ (hl2 hg2) hk4 (by simpa using ‹(!go (L.take (2 * n + 1) ++ _)) = false›)), hg3]
                  · have hg3 : lineCnt n g = 4 * n := hc3 (by omega)
                    have hk5 : GoTo go L (2 * n + 2) := cont _ (hl2 hg2) hk4 (by simpa using ‹(!go (L.take (2 * n + 1) ++ _)) = false›)
                    rw [take_succ' (hget _ (hl2 hg2))]
                    conv => whnf
                    refine loop_of (X := Nat) (fun k => k + 1 ≤ n ∧ GoTo go L (2 * n + 2 + k)) (fun k => [(9, .rp 21 0)]) (fun k => [(0, .ext G (L.take (2 * n + 2 + k))), (21, .cells (.pv [.int .i64 ((k : Int) + 1)]) false)]) (fun k => n - k) 0 W (by rfl) ⟨by omega, hk5⟩ ?_ ?_
                    · repeat' (first | ((conv => whnf); refine And.intro ?_ ?_) | ((conv => whnf); with_reducible exact VC.mk rfl) | ((conv => whnf); exact Ok.mk) | ((conv => whnf); exact True.intro) | ((conv => whnf); refine Nx.mk ?_) | ((conv => whnf); refine Fin.mk ?_) | ((conv => whnf); intro _))
                      all_goals ((try refine VC.mk ?_); (try simp only [CL.ncell, CL.cnt, Int.toNat_natCast, decide_eq_true_eq, decide_eq_false_iff_not, Bool.not_eq_true, Bool.not_false, Bool.not_true, and_self, and_true, true_and, te3b, te4b, te3s, te4s, Nat.mul_one, Nat.zero_add, List.length_cons, List.length_nil, Bool.false_eq_true, Bool.true_eq_false] at *); (try omega))
                    · intro k hk
                      obtain ⟨hk1, hk3⟩ := hk
                      by_cases hlt : k + 1 < n
                      · have hat : colL n (fun j => (j : Int) + ((k : Int) + 1)) n = lineAt n (2 * n + 2 + k) := (lineAt_b1 hlt).symm
                        have hlt2 : 2 * n + 2 + k < lineCnt n g := by omega
                        repeat' (first | ((conv => whnf); refine And.intro ?_ ?_) | ((conv => whnf); with_reducible exact VC.mk rfl) | ((conv => whnf); exact Ok.mk) | ((conv => whnf); exact True.intro) | ((conv => whnf); refine Nx.mk ?_) | ((conv => whnf); refine Fin.mk ?_) | ((conv => whnf); intro _))
                        all_goals ((try refine VC.mk ?_); (try simp only [CL.ncell, CL.cnt, Int.toNat_natCast, decide_eq_true_eq, decide_eq_false_iff_not, Bool.not_eq_true, Bool.not_false, Bool.not_true, and_self, and_true, true_and, te3b, te4b, te3s, te4s, Nat.mul_one, Nat.zero_add, List.length_cons, List.length_nil, Bool.false_eq_true, Bool.true_eq_false] at *); (try omega))
                        · exact ⟨rfl, by omega, by omega⟩
                        · refine ⟨fun j => (j : Int) + ((k : Int) + 1), fun i hi => ⟨by dsimp only; omega, c122_spec _ _ (by omega)⟩, ?_, ?_⟩
                          · simp only [Int.toNat_natCast, hat]
                            exact nxt_of (hget _ hlt2) hk3
                          · simp only [Int.toNat_natCast, hat]
                            repeat' (first | ((conv => whnf); refine And.intro ?_ ?_) | ((conv => whnf); with_reducible exact VC.mk rfl) | ((conv => whnf); exact Ok.mk) | ((conv => whnf); exact True.intro) | ((conv => whnf); refine Nx.mk ?_) | ((conv => whnf); refine Fin.mk ?_) | ((conv => whnf); intro _))
                            all_goals ((try refine VC.mk ?_); (try simp only [CL.ncell, CL.cnt, Int.toNat_natCast, decide_eq_true_eq, decide_eq_false_iff_not, Bool.not_eq_true, Bool.not_false, Bool.not_true, and_self, and_true, true_and, te3b, te4b, te3s, te4s, Nat.mul_one, Nat.zero_add, List.length_cons, List.length_nil, Bool.false_eq_true, Bool.true_eq_false] at *); (try omega))
                            · exact stop _ hlt2 hk3 (by simp_all)
                            · refine ⟨k + 1, [(26, 21)], ⟨⟨by omega, cont _ hlt2 hk3 (by simpa using ‹(!go _) = false›)⟩, by omega⟩, ?_⟩
                              repeat' (first | ((conv => whnf); refine And.intro ?_ ?_) | ((conv => whnf); with_reducible exact VC.mk rfl) | ((conv => whnf); exact Ok.mk) | ((conv => whnf); exact True.intro) | ((conv => whnf); refine Nx.mk ?_) | ((conv => whnf); refine Fin.mk ?_) | ((conv => whnf); intro _))
                              all_goals ((try refine VC.mk ?_); (try simp only [CL.ncell, CL.cnt, Int.toNat_natCast, decide_eq_true_eq, decide_eq_false_iff_not, Bool.not_eq_true, Bool.not_false, Bool.not_true, and_self, and_true, true_and, te3b, te4b, te3s, te4s, Nat.mul_one, Nat.zero_add, List.length_cons, List.length_nil, Bool.false_eq_true, Bool.true_eq_false] at *); (try omega))
                              exact take_succ' (hget _ hlt2)
                      · have hnk : 3 * n + 1 = 2 * n + 2 + k := by omega
                        have hk6 : GoTo go L (3 * n + 1) := by rw [hnk]; exact hk3
                        rw [← hnk]
                        repeat' (first | ((conv => whnf); refine And.intro ?_ ?_) | ((conv => whnf); with_reducible exact VC.mk rfl) | ((conv => whnf); exact Ok.mk) | ((conv => whnf); exact True.intro) | ((conv => whnf); refine Nx.mk ?_) | ((conv => whnf); refine Fin.mk ?_) | ((conv => whnf); intro _))
                        all_goals ((try refine VC.mk ?_); (try simp only [CL.ncell, CL.cnt, Int.toNat_natCast, decide_eq_true_eq, decide_eq_false_iff_not, Bool.not_eq_true, Bool.not_false, Bool.not_true, and_self, and_true, true_and, te3b, te4b, te3s, te4s, Nat.mul_one, Nat.zero_add, List.length_cons, List.length_nil, Bool.false_eq_true, Bool.true_eq_false] at *); (try omega))
                        conv => whnf
                        refine loop_of (X := Nat) (fun k => k + 1 ≤ n ∧ GoTo go L (3 * n + 1 + k)) (fun k => [(76, .int .i64 k)]) (fun k => [(0, .ext G (L.take (3 * n + 1 + k)))]) (fun k => n - k) 0 W (by rfl) ⟨by omega, hk6⟩ ?_ ?_
                        · repeat' (first | ((conv => whnf); refine And.intro ?_ ?_) | ((conv => whnf); with_reducible exact VC.mk rfl) | ((conv => whnf); exact Ok.mk) | ((conv => whnf); exact True.intro) | ((conv => whnf); refine Nx.mk ?_) | ((conv => whnf); refine Fin.mk ?_) | ((conv => whnf); intro _))
                          all_goals ((try refine VC.mk ?_); (try simp only [CL.ncell, CL.cnt, Int.toNat_natCast, decide_eq_true_eq, decide_eq_false_iff_not, Bool.not_eq_true, Bool.not_false, Bool.not_true, and_self, and_true, true_and, te3b, te4b, te3s, te4s, Nat.mul_one, Nat.zero_add, List.length_cons, List.length_nil, Bool.false_eq_true, Bool.true_eq_false] at *); (try omega))
                          all_goals simp
                        · intro k hk
                          obtain ⟨hk1, hk3⟩ := hk
                          by_cases hlt : k + 1 < n
                          · have hat : colL n (fun j => (k : Int) - j) n = lineAt n (3 * n + 1 + k) := (lineAt_b2 hn.1).symm
                            have hlt2 : 3 * n + 1 + k < lineCnt n g := by omega
                            repeat' (first | ((conv => whnf); refine And.intro ?_ ?_) | ((conv => whnf); with_reducible exact VC.mk rfl) | ((conv => whnf); exact Ok.mk) | ((conv => whnf); exact True.intro) | ((conv => whnf); refine Nx.mk ?_) | ((conv => whnf); refine Fin.mk ?_) | ((conv => whnf); intro _))
                            all_goals ((try refine VC.mk ?_); (try simp only [CL.ncell, CL.cnt, Int.toNat_natCast, decide_eq_true_eq, decide_eq_false_iff_not, Bool.not_eq_true, Bool.not_false, Bool.not_true, and_self, and_true, true_and, te3b, te4b, te3s, te4s, Nat.mul_one, Nat.zero_add, List.length_cons, List.length_nil, Bool.false_eq_true, Bool.true_eq_false] at *); (try omega))
                            · exact ⟨rfl, by omega, by omega⟩
                            · refine ⟨fun j => (k : Int) - j, fun i hi => ⟨by dsimp only; omega, c123_spec _ _ (by omega)⟩, ?_, ?_⟩
                              · simp only [Int.toNat_natCast, hat]
                                exact nxt_of (hget _ hlt2) hk3
                              · simp only [Int.toNat_natCast, hat]
                                repeat' (first | ((conv => whnf); refine And.intro ?_ ?_) | ((conv => whnf); with_reducible exact VC.mk rfl) | ((conv => whnf); exact Ok.mk) | ((conv => whnf); exact True.intro) | ((conv => whnf); refine Nx.mk ?_) | ((conv => whnf); refine Fin.mk ?_) | ((conv => whnf); intro _))
                                all_goals ((try refine VC.mk ?_); (try simp only [CL.ncell, CL.cnt, Int.toNat_natCast, decide_eq_true_eq, decide_eq_false_iff_not, Bool.not_eq_true, Bool.not_false, Bool.not_true, and_self, and_true, true_and, te3b, te4b, te3s, te4s, Nat.mul_one, Nat.zero_add, List.length_cons, List.length_nil, Bool.false_eq_true, Bool.true_eq_false] at *); (try omega))
                                · exact stop _ hlt2 hk3 (by simp_all)
                                · refine ⟨k + 1, [], ⟨⟨by omega, cont _ hlt2 hk3 (by simpa using ‹(!go _) = false›)⟩, by omega⟩, ?_⟩
                                  repeat' (first | ((conv => whnf); refine And.intro ?_ ?_) | ((conv => whnf); with_reducible exact VC.mk rfl) | ((conv => whnf); exact Ok.mk) | ((conv => whnf); exact True.intro) | ((conv => whnf); refine Nx.mk ?_) | ((conv => whnf); refine Fin.mk ?_) | ((conv => whnf); intro _))
                                  all_goals ((try refine VC.mk ?_); (try simp only [CL.ncell, CL.cnt, Int.toNat_natCast, decide_eq_true_eq, decide_eq_false_iff_not, Bool.not_eq_true, Bool.not_false, Bool.not_true, and_self, and_true, true_and, te3b, te4b, te3s, te4s, Nat.mul_one, Nat.zero_add, List.length_cons, List.length_nil, Bool.false_eq_true, Bool.true_eq_false] at *); (try omega))
                                  exact take_succ' (hget _ hlt2)
                          · have he : 3 * n + 1 + k = 4 * n := by omega
                            rw [he] at hk3 ⊢
                            repeat' (first | ((conv => whnf); refine And.intro ?_ ?_) | ((conv => whnf); with_reducible exact VC.mk rfl) | ((conv => whnf); exact Ok.mk) | ((conv => whnf); exact True.intro) | ((conv => whnf); refine Nx.mk ?_) | ((conv => whnf); refine Fin.mk ?_) | ((conv => whnf); intro _))
                            all_goals ((try refine VC.mk ?_); (try simp only [CL.ncell, CL.cnt, Int.toNat_natCast, decide_eq_true_eq, decide_eq_false_iff_not, Bool.not_eq_true, Bool.not_false, Bool.not_true, and_self, and_true, true_and, te3b, te4b, te3s, te4s, Nat.mul_one, Nat.zero_add, List.length_cons, List.length_nil, Bool.false_eq_true, Bool.true_eq_false] at *); (try omega))
                            rw [← done (by rw [hg3]; exact hk3), hg3]
                  · exact stop _ (hl2 hg2) hk4 (by simpa using ‹(!go (L.take (2 * n + 1) ++ _)) = !false›)
              · exact stop _ (hl1 hg2) hk3 (by simp_all)
          · have hg2 : g < 2 := by simp_all
            have := hc1' hg1 hg2
            rw [← done (by rw [this]; exact hk3), this]
/-- the iterator itself: a closure -/
theorem c77_spec (n g : Int) : PSpec Try.prog 77 [.int .i64 n, .int .i64 g] (.fn (.func 117) [] [.ip (.pv [.int .i64 n]) 0, .ip (.pv [.int .i64 g]) 0]) := by
  refine pspec_of (md := 1) (rf := []) mixed tabOK noC_ok Try.func77 (by rfl) (by rfl) (by rfl) ?_
  repeat' (first | ((conv => whnf); refine And.intro ?_ ?_) | ((conv => whnf); with_reducible exact VC.mk rfl) | ((conv => whnf); exact Ok.mk) | ((conv => whnf); exact True.intro) | ((conv => whnf); refine Nx.mk ?_) | ((conv => whnf); refine Fin.mk ?_) | ((conv => whnf); intro _))
  all_goals (first | (refine Sup.of ?_; first | rfl | (simp [*, resOf]; done)) | (refine Sup.via ?_; repeat' (first | ((conv => whnf); refine And.intro ?_ ?_) | ((conv => whnf); with_reducible exact VC.mk rfl) | ((conv => whnf); exact Ok.mk) | ((conv => whnf); exact True.intro) | ((conv => whnf); refine Nx.mk ?_) | ((conv => whnf); refine Fin.mk ?_) | ((conv => whnf); intro _)); all_goals ((try refine VC.mk ?_); (try simp only [CL.ncell, CL.cnt, Int.toNat_natCast, decide_eq_true_eq, decide_eq_false_iff_not, Bool.not_eq_true, Bool.not_false, Bool.not_true, and_self, and_true, true_and, te3b, te4b, te3s, te4s, Nat.mul_one, Nat.zero_add, List.length_cons, List.length_nil, Bool.false_eq_true, Bool.true_eq_false] at *); (try omega)); all_goals (try (simp [CL.sub]; done))))
def linesP : PSp := fun xs K => match xs with
  | [.int .i64 n, .int .i64 g] => K (.fn (.func 117) [] [.ip (.pv [.int .i64 n]) 0, .ip (.pv [.int .i64 g]) 0])
  | _ => False
theorem lines_ok : POK Try.prog 77 linesP := by
  intro xs K h
  unfold linesP at h
  split at h
  · exact ⟨_, h, c77_spec _ _⟩
  · exact h.elim
end Go.Eng.Ytppflbccfdbogaa
