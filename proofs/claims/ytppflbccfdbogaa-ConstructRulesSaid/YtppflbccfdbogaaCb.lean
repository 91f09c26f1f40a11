/-
  Contracts of functions of the program: what each returns. Their conditions stand in them.
-/
import Derived.Test.YtppflbccfdbogaaCa
namespace Go.Eng.Ytppflbccfdbogaa
open Go.Proofs
set_option maxRecDepth 100000
set_option maxHeartbeats 0
set_option linter.unusedVariables false
set_option linter.unusedSimpArgs false
/-- the first place at which a condition holds, or -1 -/
def firstAt (p : Nat → Bool) (n : Nat) : Int := match (List.range n).find? p with
  | some i => i
  | none => -1
theorem firstAt_none {p : Nat → Bool} {n : Nat} (h : ∀ i, i < n → p i = false) : firstAt p n = -1 := by unfold firstAt; rw [find_none h]
theorem firstAt_some {p : Nat → Bool} {n y : Nat} (hy : y < n) (hp : p y = true) (h : ∀ i, i < y → p i = false) : firstAt p n = y := by unfold firstAt; rw [find_some hy hp h]
theorem firstAt_nonneg {p : Nat → Bool} {n : Nat} : decide (0 ≤ firstAt p n) = (List.range n).any p := by
  unfold firstAt
  cases h : (List.range n).find? p with
  | some i =>
    have := List.find?_some h
    have hm := List.mem_of_find?_eq_some h
    rw [List.any_eq_true.2 ⟨i, hm, this⟩]; simp
  | none =>
    rw [List.find?_eq_none] at h
    rw [List.any_eq_false.2 (fun x hx => h x hx)]; simp
theorem any_range {α : Type} (p : α → Bool) (d : α) (l : List α) : (List.range l.length).any (fun i => p (l.getD i d)) = l.any p := by
  rw [Bool.eq_iff_iff, List.any_eq_true, List.any_eq_true]
  constructor
  · rintro ⟨i, hi, h⟩
    have hi := List.mem_range.1 hi
    rw [List.getD_eq_getElem?_getD, List.getElem?_eq_getElem hi] at h
    exact ⟨l[i], List.getElem_mem hi, h⟩
  · rintro ⟨x, hx, h⟩
    obtain ⟨i, hi, rfl⟩ := List.getElem_of_mem hx
    exact ⟨i, List.mem_range.2 hi, by rw [List.getD_eq_getElem?_getD, List.getElem?_eq_getElem hi]; exact h⟩
def idxFP : PSp := fun xs K => match xs with
  | [.isl (.ints .i64 l) .none, .fn (.func f) fs cs] => VC (l.length ≤ 2000000) ∧ ∃ p : Int → Bool, (∀ x ∈ l, PSpec Try.prog f (fs ++ [.int .i64 x] ++ cs) (.bp (p x))) ∧ K (.int .i64 (firstAt (fun i => p (l.getD i 0)) l.length))
  | _ => False
theorem idxF_spec (l : List Int) (hl : l.length ≤ 2000000) (f : Nat) (fs cs : List PV) (p : Int → Bool) (hp : ∀ x ∈ l, PSpec Try.prog f (fs ++ [.int .i64 x] ++ cs) (.bp (p x))) :
    PSpec Try.prog 154 [.isl (.ints .i64 l) .none, .fn (.func f) fs cs] (.int .i64 (firstAt (fun i => p (l.getD i 0)) l.length)) := by
  refine pspec_open 1 (enters' Try.func154 (by rfl) (by rfl)) rfl (by simp) fun S0 w0 us vs hu hv => ?_
  have hY : ∀ r, YPOK Try.prog r (fromB S0 w0) (fnY f us vs fun xs K => match xs with
      | [.int .i64 x] => VC (x ∈ l) ∧ K (.bp (p x))
      | _ => False) := fun r => fnY_ok (fs := fs) (cs := cs) (fun S w hb => ⟨hu.mono hb (.refl _), hv.mono hb (.refl _)⟩) fun xs K hk => by
    split at hk
    · exact ⟨_, hk.2, hp _ hk.1.get⟩
    · exact hk.elim
  have W : Walk Try.prog none (fromB S0 w0) tab.get noC _ := ⟨fromB_ok, mixed, tabOK, noC_ok.up _, hY none⟩
  refine pspecB_of fromB_ok mixed tabOK (md := 1) (rf := []) (noC_ok.up _) (hY none) Try.func154 (by rfl) (by rfl) ?_
  repeat' (first | ((conv => whnf); refine And.intro ?_ ?_) | ((conv => whnf); with_reducible exact VC.mk rfl) | ((conv => whnf); exact Ok.mk) | ((conv => whnf); exact True.intro) | ((conv => whnf); refine Nx.mk ?_) | ((conv => whnf); refine Fin.mk ?_) | ((conv => whnf); intro _))
  all_goals ((try refine VC.mk ?_); (try simp only [CL.ncell, CL.cnt, Int.toNat_natCast, decide_eq_true_eq, decide_eq_false_iff_not, Bool.not_eq_true, Bool.not_false, Bool.not_true, and_self, and_true, true_and, te3b, te4b, te3s, te4s, Nat.mul_one, Nat.zero_add, List.length_cons, List.length_nil, Bool.false_eq_true, Bool.true_eq_false] at *); (try omega))
  conv => whnf
  refine loop_of (X := Nat) (fun i => i ≤ l.length ∧ ∀ j, j < i → p (l.getD j 0) = false) (fun i => [(8, .int .i64 i)]) (fun i => []) (fun i => l.length - i) 0 W (by rfl) ⟨by omega, fun j hj => by omega⟩ ?_ ?_
  · repeat' (first | ((conv => whnf); refine And.intro ?_ ?_) | ((conv => whnf); with_reducible exact VC.mk rfl) | ((conv => whnf); exact Ok.mk) | ((conv => whnf); exact True.intro) | ((conv => whnf); refine Nx.mk ?_) | ((conv => whnf); refine Fin.mk ?_) | ((conv => whnf); intro _))
    all_goals ((try refine VC.mk ?_); (try simp only [CL.ncell, CL.cnt, Int.toNat_natCast, decide_eq_true_eq, decide_eq_false_iff_not, Bool.not_eq_true, Bool.not_false, Bool.not_true, and_self, and_true, true_and, te3b, te4b, te3s, te4s, Nat.mul_one, Nat.zero_add, List.length_cons, List.length_nil, Bool.false_eq_true, Bool.true_eq_false] at *); (try omega))
  · rintro i ⟨hi, hok⟩
    by_cases hlt : i < l.length
    · have hm : l.getD i 0 ∈ l := by rw [List.getD_eq_getElem?_getD, List.getElem?_eq_getElem hlt]; exact List.getElem_mem hlt
      repeat' (first | ((conv => whnf); refine And.intro ?_ ?_) | ((conv => whnf); with_reducible exact VC.mk rfl) | ((conv => whnf); exact Ok.mk) | ((conv => whnf); exact True.intro) | ((conv => whnf); refine Nx.mk ?_) | ((conv => whnf); refine Fin.mk ?_) | ((conv => whnf); intro _))
      all_goals ((try refine VC.mk ?_); (try simp only [CL.ncell, CL.cnt, Int.toNat_natCast, decide_eq_true_eq, decide_eq_false_iff_not, Bool.not_eq_true, Bool.not_false, Bool.not_true, and_self, and_true, true_and, te3b, te4b, te3s, te4s, Nat.mul_one, Nat.zero_add, List.length_cons, List.length_nil, Bool.false_eq_true, Bool.true_eq_false] at *); (try omega))
      · rw [firstAt_some hlt ‹p (l.getD i 0) = true› hok]; exact Sup.of rfl
      · refine ⟨i + 1, [], ⟨⟨by omega, fun j hj => ?_⟩, by omega⟩, ?_⟩
        · by_cases e : j = i
          · subst e; assumption
          · exact hok j (by omega)
        · repeat' (first | ((conv => whnf); refine And.intro ?_ ?_) | ((conv => whnf); with_reducible exact VC.mk rfl) | ((conv => whnf); exact Ok.mk) | ((conv => whnf); exact True.intro) | ((conv => whnf); refine Nx.mk ?_) | ((conv => whnf); refine Fin.mk ?_) | ((conv => whnf); intro _))
          all_goals ((try refine VC.mk ?_); (try simp only [CL.ncell, CL.cnt, Int.toNat_natCast, decide_eq_true_eq, decide_eq_false_iff_not, Bool.not_eq_true, Bool.not_false, Bool.not_true, and_self, and_true, true_and, te3b, te4b, te3s, te4s, Nat.mul_one, Nat.zero_add, List.length_cons, List.length_nil, Bool.false_eq_true, Bool.true_eq_false] at *); (try omega))
    · have : i = l.length := by omega
      subst this
      rw [firstAt_none hok]
      repeat' (first | ((conv => whnf); refine And.intro ?_ ?_) | ((conv => whnf); with_reducible exact VC.mk rfl) | ((conv => whnf); exact Ok.mk) | ((conv => whnf); exact True.intro) | ((conv => whnf); refine Nx.mk ?_) | ((conv => whnf); refine Fin.mk ?_) | ((conv => whnf); intro _))
      all_goals ((try refine VC.mk ?_); (try simp only [CL.ncell, CL.cnt, Int.toNat_natCast, decide_eq_true_eq, decide_eq_false_iff_not, Bool.not_eq_true, Bool.not_false, Bool.not_true, and_self, and_true, true_and, te3b, te4b, te3s, te4s, Nat.mul_one, Nat.zero_add, List.length_cons, List.length_nil, Bool.false_eq_true, Bool.true_eq_false] at *); (try omega))
      exact Sup.of rfl
theorem idxF_ok : POK Try.prog 154 idxFP := by
  intro xs K h
  unfold idxFP at h
  split at h
  · obtain ⟨⟨h1⟩, p, h2, hK⟩ := h
    exact ⟨_, hK, idxF_spec _ h1 _ _ _ p h2⟩
  · exact h.elim
def hasFP : PSp := fun xs K => match xs with
  | [.isl (.ints .i64 l) .none, .fn (.func f) fs cs] => VC (l.length ≤ 2000000 ∧ inlE.inlF fs = true ∧ inlE.inlF cs = true) ∧ ∃ p : Int → Bool, (∀ x ∈ l, PSpec Try.prog f (fs ++ [.int .i64 x] ++ cs) (.bp (p x))) ∧ K (.bp (l.any p))
  | _ => False
theorem hasF_spec (l : List Int) (hl : l.length ≤ 2000000) (f : Nat) (fs cs : List PV) (hfs : inlE.inlF fs = true) (hcs : inlE.inlF cs = true) (p : Int → Bool) (hp : ∀ x ∈ l, PSpec Try.prog f (fs ++ [.int .i64 x] ++ cs) (.bp (p x))) :
    PSpec Try.prog 141 [.isl (.ints .i64 l) .none, .fn (.func f) fs cs] (.bp (l.any p)) := by
  have hc : CPOK Try.prog (cpAdd 154 (pureCC idxFP) noC) := cpAdd_ok (pureCC_ok idxF_ok) noC_ok
  refine pspec_of (md := 1) (rf := []) mixed tabOK hc Try.func141 (by rfl) (by rfl) (by rfl) ?_
  repeat' (first | ((conv => whnf); refine And.intro ?_ ?_) | ((conv => whnf); with_reducible exact VC.mk rfl) | ((conv => whnf); exact Ok.mk) | ((conv => whnf); exact True.intro) | ((conv => whnf); refine Nx.mk ?_) | ((conv => whnf); refine Fin.mk ?_) | ((conv => whnf); intro _))
  conv => whnf
  simp only [pureCC, pureK, pureEs, pureE, inlE, hfs, hcs]
  repeat' (first | ((conv => whnf); refine And.intro ?_ ?_) | ((conv => whnf); with_reducible exact VC.mk rfl) | ((conv => whnf); exact Ok.mk) | ((conv => whnf); exact True.intro) | ((conv => whnf); refine Nx.mk ?_) | ((conv => whnf); refine Fin.mk ?_) | ((conv => whnf); intro _))
  all_goals ((try refine VC.mk ?_); (try simp only [CL.ncell, CL.cnt, Int.toNat_natCast, decide_eq_true_eq, decide_eq_false_iff_not, Bool.not_eq_true, Bool.not_false, Bool.not_true, and_self, and_true, true_and, te3b, te4b, te3s, te4s, Nat.mul_one, Nat.zero_add, List.length_cons, List.length_nil, Bool.false_eq_true, Bool.true_eq_false] at *); (try omega))
  refine ⟨p, hp, ?_⟩
  repeat' (first | ((conv => whnf); refine And.intro ?_ ?_) | ((conv => whnf); with_reducible exact VC.mk rfl) | ((conv => whnf); exact Ok.mk) | ((conv => whnf); exact True.intro) | ((conv => whnf); refine Nx.mk ?_) | ((conv => whnf); refine Fin.mk ?_) | ((conv => whnf); intro _))
  all_goals ((try refine VC.mk ?_); (try simp only [CL.ncell, CL.cnt, Int.toNat_natCast, decide_eq_true_eq, decide_eq_false_iff_not, Bool.not_eq_true, Bool.not_false, Bool.not_true, and_self, and_true, true_and, te3b, te4b, te3s, te4s, Nat.mul_one, Nat.zero_add, List.length_cons, List.length_nil, Bool.false_eq_true, Bool.true_eq_false] at *); (try omega))
  refine Sup.via ?_
  repeat' (first | ((conv => whnf); refine And.intro ?_ ?_) | ((conv => whnf); with_reducible exact VC.mk rfl) | ((conv => whnf); exact Ok.mk) | ((conv => whnf); exact True.intro) | ((conv => whnf); refine Nx.mk ?_) | ((conv => whnf); refine Fin.mk ?_) | ((conv => whnf); intro _))
  refine VC.mk ?_
  rw [firstAt_nonneg, any_range]
theorem hasF_ok : POK Try.prog 141 hasFP := by
  intro xs K h
  unfold hasFP at h
  split at h
  · obtain ⟨⟨h1, h3, h4⟩, p, h2, hK⟩ := h
    exact ⟨_, hK, hasF_spec _ h1 _ _ _ h3 h4 p h2⟩
  · exact h.elim
theorem idxB_spec (l : List Bool) (hl : l.length ≤ 2000000) (b : Bool) : PSpec Try.prog 159 [.isl (.bools l) .none, .bp b] (.int .i64 (firstAt (fun i => b == l.getD i false) l.length)) := by
  refine pspec_of (md := 1) (rf := []) mixed tabOK noC_ok Try.func159 (by rfl) (by rfl) (by rfl) ?_
  repeat' (first | ((conv => whnf); refine And.intro ?_ ?_) | ((conv => whnf); with_reducible exact VC.mk rfl) | ((conv => whnf); exact Ok.mk) | ((conv => whnf); exact True.intro) | ((conv => whnf); refine Nx.mk ?_) | ((conv => whnf); refine Fin.mk ?_) | ((conv => whnf); intro _))
  all_goals ((try refine VC.mk ?_); (try simp only [CL.ncell, CL.cnt, Int.toNat_natCast, decide_eq_true_eq, decide_eq_false_iff_not, Bool.not_eq_true, Bool.not_false, Bool.not_true, and_self, and_true, true_and, te3b, te4b, te3s, te4s, Nat.mul_one, Nat.zero_add, List.length_cons, List.length_nil, Bool.false_eq_true, Bool.true_eq_false] at *); (try omega))
  conv => whnf
  refine loop_of (X := Nat) (fun i => i ≤ l.length ∧ ∀ j, j < i → (b == l.getD j false) = false) (fun i => [(8, .int .i64 i)]) (fun i => []) (fun i => l.length - i) 0 ⟨anyB_ok, mixed, tabOK, noC_ok, noY_ok⟩ (by rfl) ⟨by omega, fun j hj => by omega⟩ ?_ ?_
  · repeat' (first | ((conv => whnf); refine And.intro ?_ ?_) | ((conv => whnf); with_reducible exact VC.mk rfl) | ((conv => whnf); exact Ok.mk) | ((conv => whnf); exact True.intro) | ((conv => whnf); refine Nx.mk ?_) | ((conv => whnf); refine Fin.mk ?_) | ((conv => whnf); intro _))
    all_goals ((try refine VC.mk ?_); (try simp only [CL.ncell, CL.cnt, Int.toNat_natCast, decide_eq_true_eq, decide_eq_false_iff_not, Bool.not_eq_true, Bool.not_false, Bool.not_true, and_self, and_true, true_and, te3b, te4b, te3s, te4s, Nat.mul_one, Nat.zero_add, List.length_cons, List.length_nil, Bool.false_eq_true, Bool.true_eq_false] at *); (try omega))
  · rintro i ⟨hi, hok⟩
    by_cases hlt : i < l.length
    · repeat' (first | ((conv => whnf); refine And.intro ?_ ?_) | ((conv => whnf); with_reducible exact VC.mk rfl) | ((conv => whnf); exact Ok.mk) | ((conv => whnf); exact True.intro) | ((conv => whnf); refine Nx.mk ?_) | ((conv => whnf); refine Fin.mk ?_) | ((conv => whnf); intro _))
      all_goals ((try refine VC.mk ?_); (try simp only [CL.ncell, CL.cnt, Int.toNat_natCast, decide_eq_true_eq, decide_eq_false_iff_not, Bool.not_eq_true, Bool.not_false, Bool.not_true, and_self, and_true, true_and, te3b, te4b, te3s, te4s, Nat.mul_one, Nat.zero_add, List.length_cons, List.length_nil, Bool.false_eq_true, Bool.true_eq_false] at *); (try omega))
      · rw [firstAt_some hlt ‹(b == l.getD i false) = true› hok]; exact Sup.of rfl
      · refine ⟨i + 1, [], ⟨⟨by omega, fun j hj => ?_⟩, by omega⟩, ?_⟩
        · by_cases e : j = i
          · subst e; assumption
          · exact hok j (by omega)
        · repeat' (first | ((conv => whnf); refine And.intro ?_ ?_) | ((conv => whnf); with_reducible exact VC.mk rfl) | ((conv => whnf); exact Ok.mk) | ((conv => whnf); exact True.intro) | ((conv => whnf); refine Nx.mk ?_) | ((conv => whnf); refine Fin.mk ?_) | ((conv => whnf); intro _))
          all_goals ((try refine VC.mk ?_); (try simp only [CL.ncell, CL.cnt, Int.toNat_natCast, decide_eq_true_eq, decide_eq_false_iff_not, Bool.not_eq_true, Bool.not_false, Bool.not_true, and_self, and_true, true_and, te3b, te4b, te3s, te4s, Nat.mul_one, Nat.zero_add, List.length_cons, List.length_nil, Bool.false_eq_true, Bool.true_eq_false] at *); (try omega))
    · have : i = l.length := by omega
      subst this
      rw [firstAt_none hok]
      repeat' (first | ((conv => whnf); refine And.intro ?_ ?_) | ((conv => whnf); with_reducible exact VC.mk rfl) | ((conv => whnf); exact Ok.mk) | ((conv => whnf); exact True.intro) | ((conv => whnf); refine Nx.mk ?_) | ((conv => whnf); refine Fin.mk ?_) | ((conv => whnf); intro _))
      all_goals ((try refine VC.mk ?_); (try simp only [CL.ncell, CL.cnt, Int.toNat_natCast, decide_eq_true_eq, decide_eq_false_iff_not, Bool.not_eq_true, Bool.not_false, Bool.not_true, and_self, and_true, true_and, te3b, te4b, te3s, te4s, Nat.mul_one, Nat.zero_add, List.length_cons, List.length_nil, Bool.false_eq_true, Bool.true_eq_false] at *); (try omega))
      exact Sup.of rfl
def idxBP : PSp := fun xs K => match xs with
  | [.isl (.bools l) .none, .bp b] => VC (l.length ≤ 2000000) ∧ K (.int .i64 (firstAt (fun i => b == l.getD i false) l.length))
  | _ => False
theorem idxB_ok : POK Try.prog 159 idxBP := by
  intro xs K h
  unfold idxBP at h
  split at h
  · exact ⟨_, h.2, idxB_spec _ h.1.get _⟩
  · exact h.elim
theorem hasB_spec (l : List Bool) (hl : l.length ≤ 2000000) (b : Bool) : PSpec Try.prog 155 [.isl (.bools l) .none, .bp b] (.bp (l.any fun x => b == x)) := by
  have hc : CPOK Try.prog (cpAdd 159 (pureCC idxBP) noC) := cpAdd_ok (pureCC_ok idxB_ok) noC_ok
  refine pspec_of (md := 1) (rf := []) mixed tabOK hc Try.func155 (by rfl) (by rfl) (by rfl) ?_
  repeat' (first | ((conv => whnf); refine And.intro ?_ ?_) | ((conv => whnf); with_reducible exact VC.mk rfl) | ((conv => whnf); exact Ok.mk) | ((conv => whnf); exact True.intro) | ((conv => whnf); refine Nx.mk ?_) | ((conv => whnf); refine Fin.mk ?_) | ((conv => whnf); intro _))
  all_goals ((try refine VC.mk ?_); (try simp only [CL.ncell, CL.cnt, Int.toNat_natCast, decide_eq_true_eq, decide_eq_false_iff_not, Bool.not_eq_true, Bool.not_false, Bool.not_true, and_self, and_true, true_and, te3b, te4b, te3s, te4s, Nat.mul_one, Nat.zero_add, List.length_cons, List.length_nil, Bool.false_eq_true, Bool.true_eq_false] at *); (try omega))
  refine Sup.via ?_
  repeat' (first | ((conv => whnf); refine And.intro ?_ ?_) | ((conv => whnf); with_reducible exact VC.mk rfl) | ((conv => whnf); exact Ok.mk) | ((conv => whnf); exact True.intro) | ((conv => whnf); refine Nx.mk ?_) | ((conv => whnf); refine Fin.mk ?_) | ((conv => whnf); intro _))
  refine VC.mk ?_
  rw [firstAt_nonneg, any_range (fun x => b == x)]
def hasBP : PSp := fun xs K => match xs with
  | [.isl (.bools l) .none, .bp b] => VC (l.length ≤ 2000000) ∧ K (.bp (l.any fun x => b == x))
  | _ => False
theorem hasB_ok : POK Try.prog 155 hasBP := by
  intro xs K h
  unfold hasBP at h
  split at h
  · exact ⟨_, h.2, hasB_spec _ h.1.get _⟩
  · exact h.elim
theorem allB_spec (l : List Bool) (hl : l.length ≤ 2000000) : PSpec Try.prog 145 [.isl (.bools l) .none] (.bp (l.all id)) := by
  have hc : CPOK Try.prog (cpAdd 155 (pureCC hasBP) noC) := cpAdd_ok (pureCC_ok hasB_ok) noC_ok
  refine pspec_of (md := 1) (rf := []) mixed tabOK hc Try.func145 (by rfl) (by rfl) (by rfl) ?_
  repeat' (first | ((conv => whnf); refine And.intro ?_ ?_) | ((conv => whnf); with_reducible exact VC.mk rfl) | ((conv => whnf); exact Ok.mk) | ((conv => whnf); exact True.intro) | ((conv => whnf); refine Nx.mk ?_) | ((conv => whnf); refine Fin.mk ?_) | ((conv => whnf); intro _))
  all_goals ((try refine VC.mk ?_); (try simp only [CL.ncell, CL.cnt, Int.toNat_natCast, decide_eq_true_eq, decide_eq_false_iff_not, Bool.not_eq_true, Bool.not_false, Bool.not_true, and_self, and_true, true_and, te3b, te4b, te3s, te4s, Nat.mul_one, Nat.zero_add, List.length_cons, List.length_nil, Bool.false_eq_true, Bool.true_eq_false] at *); (try omega))
  refine Sup.via ?_
  repeat' (first | ((conv => whnf); refine And.intro ?_ ?_) | ((conv => whnf); with_reducible exact VC.mk rfl) | ((conv => whnf); exact Ok.mk) | ((conv => whnf); exact True.intro) | ((conv => whnf); refine Nx.mk ?_) | ((conv => whnf); refine Fin.mk ?_) | ((conv => whnf); intro _))
  refine VC.mk ?_
  induction l with
  | nil => rfl
  | cons x r ih => simp only [List.any_cons, List.all_cons, Bool.not_or]; rw [ih (by simp at hl; omega)]; cases x <;> rfl
def allBP : PSp := fun xs K => match xs with
  | [.isl (.bools l) .none] => VC (l.length ≤ 2000000) ∧ K (.bp (l.all id))
  | _ => False
theorem allB_ok : POK Try.prog 145 allBP := by
  intro xs K h
  unfold allBP at h
  split at h
  · exact ⟨_, h.2, allB_spec _ h.1.get⟩
  · exact h.elim
end Go.Eng.Ytppflbccfdbogaa
namespace Go.Eng.Ytppflbccfdbogaa
open Go.Proofs
set_option maxRecDepth 100000
set_option maxHeartbeats 0
set_option linter.unusedVariables false
set_option linter.unusedSimpArgs false
abbrev ruleV (n s0 s1 x0 x1 b0 b1 : Int) : PV := .agg [.int .i64 n, .int .i64 s0, .int .i64 s1, .int .i64 x0, .int .i64 x1, .int .i64 b0, .int .i64 b1]
def coprime (n a : Int) : Bool := decide (Int.gcd (a % n) n = 1)
/-- 'prime''s closure -/
theorem c157_spec (n s0 s1 x0 x1 b0 b1 a : Int) (hn : 0 < n ∧ n ≤ 1000000) (ha : -4611686018427387904 ≤ a ∧ a ≤ 4611686018427387904) :
    PSpec Try.prog 157 [.int .i64 a, .ip (.pv [.int .i64 n, .int .i64 s0, .int .i64 s1, .int .i64 x0, .int .i64 x1, .int .i64 b0, .int .i64 b1]) 0] (.bp (!coprime n a)) := by
  have hc : CPOK Try.prog (cpAdd 158 (pureCC cgcdP) noC) := cpAdd_ok (pureCC_ok cgcd_ok) noC_ok
  refine pspec_of (md := 1) (rf := []) mixed tabOK hc Try.func157 (by rfl) (by rfl) (by rfl) ?_
  repeat' (first | ((conv => whnf); refine And.intro ?_ ?_) | ((conv => whnf); with_reducible exact VC.mk rfl) | ((conv => whnf); exact Ok.mk) | ((conv => whnf); exact True.intro) | ((conv => whnf); refine Nx.mk ?_) | ((conv => whnf); refine Fin.mk ?_) | ((conv => whnf); intro _))
  all_goals ((try refine VC.mk ?_); (try simp only [CL.ncell, CL.cnt, Int.toNat_natCast, decide_eq_true_eq, decide_eq_false_iff_not, Bool.not_eq_true, Bool.not_false, Bool.not_true, and_self, and_true, true_and, te3b, te4b, te3s, te4s, Nat.mul_one, Nat.zero_add, List.length_cons, List.length_nil, Bool.false_eq_true, Bool.true_eq_false] at *); (try omega))
  refine Sup.via ?_
  repeat' (first | ((conv => whnf); refine And.intro ?_ ?_) | ((conv => whnf); with_reducible exact VC.mk rfl) | ((conv => whnf); exact Ok.mk) | ((conv => whnf); exact True.intro) | ((conv => whnf); refine Nx.mk ?_) | ((conv => whnf); refine Fin.mk ?_) | ((conv => whnf); intro _))
  refine VC.mk ?_
  unfold coprime
  rw [← decide_not]
  congr 1
  simp; omega
theorem primeL_spec (n s0 s1 x0 x1 b0 b1 : Int) (l : List Int) (hn : 0 < n ∧ n ≤ 1000000) (hl : l.length ≤ 2000000) (h : ∀ a ∈ l, -4611686018427387904 ≤ a ∧ a ≤ 4611686018427387904) :
    PSpec Try.prog 150 [ruleV n s0 s1 x0 x1 b0 b1, .isl (.ints .i64 l) .none] (.bp (l.all (coprime n))) := by
  have hc : CPOK Try.prog (cpAdd 141 (pureCC hasFP) noC) := cpAdd_ok (pureCC_ok hasF_ok) noC_ok
  refine pspec_of (md := 1) (rf := []) mixed tabOK hc Try.func150 (by rfl) (by rfl) (by rfl) ?_
  repeat' (first | ((conv => whnf); refine And.intro ?_ ?_) | ((conv => whnf); with_reducible exact VC.mk rfl) | ((conv => whnf); exact Ok.mk) | ((conv => whnf); exact True.intro) | ((conv => whnf); refine Nx.mk ?_) | ((conv => whnf); refine Fin.mk ?_) | ((conv => whnf); intro _))
  all_goals ((try refine VC.mk ?_); (try simp only [CL.ncell, CL.cnt, Int.toNat_natCast, decide_eq_true_eq, decide_eq_false_iff_not, Bool.not_eq_true, Bool.not_false, Bool.not_true, and_self, and_true, true_and, te3b, te4b, te3s, te4s, Nat.mul_one, Nat.zero_add, List.length_cons, List.length_nil, Bool.false_eq_true, Bool.true_eq_false] at *); (try omega))
  · exact ⟨hl, rfl, rfl⟩
  refine ⟨fun a => !coprime n a, fun a ha => c157_spec n s0 s1 x0 x1 b0 b1 a hn (h a ha), ?_⟩
  repeat' (first | ((conv => whnf); refine And.intro ?_ ?_) | ((conv => whnf); with_reducible exact VC.mk rfl) | ((conv => whnf); exact Ok.mk) | ((conv => whnf); exact True.intro) | ((conv => whnf); refine Nx.mk ?_) | ((conv => whnf); refine Fin.mk ?_) | ((conv => whnf); intro _))
  all_goals ((try refine VC.mk ?_); (try simp only [CL.ncell, CL.cnt, Int.toNat_natCast, decide_eq_true_eq, decide_eq_false_iff_not, Bool.not_eq_true, Bool.not_false, Bool.not_true, and_self, and_true, true_and, te3b, te4b, te3s, te4s, Nat.mul_one, Nat.zero_add, List.length_cons, List.length_nil, Bool.false_eq_true, Bool.true_eq_false] at *); (try omega))
  refine Sup.via ?_
  repeat' (first | ((conv => whnf); refine And.intro ?_ ?_) | ((conv => whnf); with_reducible exact VC.mk rfl) | ((conv => whnf); exact Ok.mk) | ((conv => whnf); exact True.intro) | ((conv => whnf); refine Nx.mk ?_) | ((conv => whnf); refine Fin.mk ?_) | ((conv => whnf); intro _))
  refine VC.mk ?_
  rw [List.not_any_eq_all_not]; simp
def primeLP : PSp := fun xs K => match xs with
  | [.agg [.int .i64 n, .int .i64 s0, .int .i64 s1, .int .i64 x0, .int .i64 x1, .int .i64 b0, .int .i64 b1], .isl (.ints .i64 l) .none] => VC ((0 < n ∧ n ≤ 1000000) ∧ l.length ≤ 2000000 ∧ ∀ a ∈ l, -4611686018427387904 ≤ a ∧ a ≤ 4611686018427387904) ∧ K (.bp (l.all (coprime n)))
  | _ => False
theorem primeL_ok : POK Try.prog 150 primeLP := by
  intro xs K h
  unfold primeLP at h
  split at h
  · exact ⟨_, h.2, primeL_spec _ _ _ _ _ _ _ _ h.1.get.1 h.1.get.2.1 h.1.get.2.2⟩
  · exact h.elim
noncomputable def cpK1 : CPT := cpAdd 150 (pureCC primeLP) noC
theorem cpK1_ok : CPOK Try.prog cpK1 := cpAdd_ok (pureCC_ok primeL_ok) noC_ok
def isSq (n x0 x1 b0 b1 : Int) : Bool := coprime n (x0 * b1 - x1 * b0)
def isSemi (n x0 x1 b0 b1 : Int) : Bool := isSq n x0 x1 b0 b1 && [x0, x1, b0, b1].all (coprime n)
def isPan (n x0 x1 b0 b1 : Int) : Bool := isSemi n x0 x1 b0 b1 && [x0 - x1, x0 + x1, b0 - b1, b0 + b1].all (coprime n)
theorem square_spec (n s0 s1 x0 x1 b0 b1 : Int) (hn : 1 ≤ n ∧ n ≤ 16) (h : ∀ x ∈ [s0, s1, x0, x1, b0, b1], 0 ≤ x ∧ x < n) : PSpec Try.prog 137 [ruleV n s0 s1 x0 x1 b0 b1] (.bp (isSq n x0 x1 b0 b1)) := by
  simp only [List.mem_cons, List.not_mem_nil, or_false, forall_eq_or_imp, forall_eq] at h
  obtain ⟨h1, h2, h3, h4, h5, h6⟩ := h
  have m1 := mul_bd (A := 16) (B := 16) (show 0 ≤ x0 ∧ x0 ≤ 16 by omega) (show 0 ≤ b1 ∧ b1 ≤ 16 by omega)
  have m2 := mul_bd (A := 16) (B := 16) (show 0 ≤ x1 ∧ x1 ≤ 16 by omega) (show 0 ≤ b0 ∧ b0 ≤ 16 by omega)
  refine pspec_of (md := 1) (rf := []) mixed tabOK cpK1_ok Try.func137 (by rfl) (by rfl) (by rfl) ?_
  repeat' (first | ((conv => whnf); refine And.intro ?_ ?_) | ((conv => whnf); with_reducible exact VC.mk rfl) | ((conv => whnf); exact Ok.mk) | ((conv => whnf); exact True.intro) | ((conv => whnf); refine Nx.mk ?_) | ((conv => whnf); refine Fin.mk ?_) | ((conv => whnf); intro _))
  all_goals ((try refine VC.mk ?_); (try simp only [CL.ncell, CL.cnt, Int.toNat_natCast, decide_eq_true_eq, decide_eq_false_iff_not, Bool.not_eq_true, Bool.not_false, Bool.not_true, and_self, and_true, true_and, te3b, te4b, te3s, te4s, Nat.mul_one, Nat.zero_add, List.length_cons, List.length_nil, Bool.false_eq_true, Bool.true_eq_false] at *); (try omega))
  · refine ⟨by omega, by omega, fun a ha => ?_⟩
    simp only [List.mem_cons, List.not_mem_nil, or_false] at ha
    subst ha; omega
  refine Sup.via ?_
  repeat' (first | ((conv => whnf); refine And.intro ?_ ?_) | ((conv => whnf); with_reducible exact VC.mk rfl) | ((conv => whnf); exact Ok.mk) | ((conv => whnf); exact True.intro) | ((conv => whnf); refine Nx.mk ?_) | ((conv => whnf); refine Fin.mk ?_) | ((conv => whnf); intro _))
  refine VC.mk ?_
  simp [isSq]
def squareP : PSp := fun xs K => match xs with
  | [.agg [.int .i64 n, .int .i64 s0, .int .i64 s1, .int .i64 x0, .int .i64 x1, .int .i64 b0, .int .i64 b1]] => VC ((1 ≤ n ∧ n ≤ 16) ∧ ∀ x ∈ [s0, s1, x0, x1, b0, b1], 0 ≤ x ∧ x < n) ∧ K (.bp (isSq n x0 x1 b0 b1))
  | _ => False
theorem square_ok : POK Try.prog 137 squareP := by
  intro xs K h
  unfold squareP at h
  split at h
  · exact ⟨_, h.2, square_spec _ _ _ _ _ _ _ h.1.get.1 h.1.get.2⟩
  · exact h.elim
noncomputable def cpK2 : CPT := cpAdd 137 (pureCC squareP) cpK1
theorem cpK2_ok : CPOK Try.prog cpK2 := cpAdd_ok (pureCC_ok square_ok) cpK1_ok
theorem semi_spec (n s0 s1 x0 x1 b0 b1 : Int) (hn : 1 ≤ n ∧ n ≤ 16) (h : ∀ x ∈ [s0, s1, x0, x1, b0, b1], 0 ≤ x ∧ x < n) : PSpec Try.prog 138 [ruleV n s0 s1 x0 x1 b0 b1] (.bp (isSemi n x0 x1 b0 b1)) := by
  have h' : ∀ a ∈ [x0, x1, b0, b1], -4611686018427387904 ≤ a ∧ a ≤ 4611686018427387904 := fun a ha => by
    have := h a (by simp only [List.mem_cons] at ha ⊢; exact .inr (.inr ha)); omega
  refine pspec_of (md := 1) (rf := []) mixed tabOK cpK2_ok Try.func138 (by rfl) (by rfl) (by rfl) ?_
  repeat' (first | ((conv => whnf); refine And.intro ?_ ?_) | ((conv => whnf); with_reducible exact VC.mk rfl) | ((conv => whnf); exact Ok.mk) | ((conv => whnf); exact True.intro) | ((conv => whnf); refine Nx.mk ?_) | ((conv => whnf); refine Fin.mk ?_) | ((conv => whnf); intro _))
  all_goals ((try refine VC.mk ?_); (try simp only [CL.ncell, CL.cnt, Int.toNat_natCast, decide_eq_true_eq, decide_eq_false_iff_not, Bool.not_eq_true, Bool.not_false, Bool.not_true, and_self, and_true, true_and, te3b, te4b, te3s, te4s, Nat.mul_one, Nat.zero_add, List.length_cons, List.length_nil, Bool.false_eq_true, Bool.true_eq_false] at *); (try omega))
  · exact ⟨hn, h⟩
  · exact ⟨by omega, by omega, h'⟩
  all_goals refine Sup.via ?_
  all_goals repeat' (first | ((conv => whnf); refine And.intro ?_ ?_) | ((conv => whnf); with_reducible exact VC.mk rfl) | ((conv => whnf); exact Ok.mk) | ((conv => whnf); exact True.intro) | ((conv => whnf); refine Nx.mk ?_) | ((conv => whnf); refine Fin.mk ?_) | ((conv => whnf); intro _))
  all_goals refine VC.mk ?_
  all_goals simp_all [isSemi]
def semiP : PSp := fun xs K => match xs with
  | [.agg [.int .i64 n, .int .i64 s0, .int .i64 s1, .int .i64 x0, .int .i64 x1, .int .i64 b0, .int .i64 b1]] => VC ((1 ≤ n ∧ n ≤ 16) ∧ ∀ x ∈ [s0, s1, x0, x1, b0, b1], 0 ≤ x ∧ x < n) ∧ K (.bp (isSemi n x0 x1 b0 b1))
  | _ => False
theorem semi_ok : POK Try.prog 138 semiP := by
  intro xs K h
  unfold semiP at h
  split at h
  · exact ⟨_, h.2, semi_spec _ _ _ _ _ _ _ h.1.get.1 h.1.get.2⟩
  · exact h.elim
noncomputable def cpK3 : CPT := cpAdd 138 (pureCC semiP) cpK1
theorem cpK3_ok : CPOK Try.prog cpK3 := cpAdd_ok (pureCC_ok semi_ok) cpK1_ok
theorem pan_spec (n s0 s1 x0 x1 b0 b1 : Int) (hn : 1 ≤ n ∧ n ≤ 16) (h : ∀ x ∈ [s0, s1, x0, x1, b0, b1], 0 ≤ x ∧ x < n) : PSpec Try.prog 140 [ruleV n s0 s1 x0 x1 b0 b1] (.bp (isPan n x0 x1 b0 b1)) := by
  have hh := h
  simp only [List.mem_cons, List.not_mem_nil, or_false, forall_eq_or_imp, forall_eq] at h
  obtain ⟨h1, h2, h3, h4, h5, h6⟩ := h
  have h' : ∀ a ∈ [x0 - x1, x0 + x1, b0 - b1, b0 + b1], -4611686018427387904 ≤ a ∧ a ≤ 4611686018427387904 := fun a ha => by
    simp only [List.mem_cons, List.not_mem_nil, or_false] at ha
    rcases ha with rfl | rfl | rfl | rfl <;> omega
  refine pspec_of (md := 1) (rf := []) mixed tabOK cpK3_ok Try.func140 (by rfl) (by rfl) (by rfl) ?_
  repeat' (first | ((conv => whnf); refine And.intro ?_ ?_) | ((conv => whnf); with_reducible exact VC.mk rfl) | ((conv => whnf); exact Ok.mk) | ((conv => whnf); exact True.intro) | ((conv => whnf); refine Nx.mk ?_) | ((conv => whnf); refine Fin.mk ?_) | ((conv => whnf); intro _))
  all_goals ((try refine VC.mk ?_); (try simp only [CL.ncell, CL.cnt, Int.toNat_natCast, decide_eq_true_eq, decide_eq_false_iff_not, Bool.not_eq_true, Bool.not_false, Bool.not_true, and_self, and_true, true_and, te3b, te4b, te3s, te4s, Nat.mul_one, Nat.zero_add, List.length_cons, List.length_nil, Bool.false_eq_true, Bool.true_eq_false] at *); (try omega))
  · exact ⟨hn, hh⟩
  · exact ⟨by omega, by omega, h'⟩
  all_goals refine Sup.via ?_
  all_goals repeat' (first | ((conv => whnf); refine And.intro ?_ ?_) | ((conv => whnf); with_reducible exact VC.mk rfl) | ((conv => whnf); exact Ok.mk) | ((conv => whnf); exact True.intro) | ((conv => whnf); refine Nx.mk ?_) | ((conv => whnf); refine Fin.mk ?_) | ((conv => whnf); intro _))
  all_goals refine VC.mk ?_
  all_goals simp_all [isPan]
def panP : PSp := fun xs K => match xs with
  | [.agg [.int .i64 n, .int .i64 s0, .int .i64 s1, .int .i64 x0, .int .i64 x1, .int .i64 b0, .int .i64 b1]] => VC ((1 ≤ n ∧ n ≤ 16) ∧ ∀ x ∈ [s0, s1, x0, x1, b0, b1], 0 ≤ x ∧ x < n) ∧ K (.bp (isPan n x0 x1 b0 b1))
  | _ => False
theorem pan_ok : POK Try.prog 140 panP := by
  intro xs K h
  unfold panP at h
  split at h
  · exact ⟨_, h.2, pan_spec _ _ _ _ _ _ _ h.1.get.1 h.1.get.2⟩
  · exact h.elim
end Go.Eng.Ytppflbccfdbogaa
namespace Go.Eng.Ytppflbccfdbogaa
open Go.Proofs
set_option maxRecDepth 100000
set_option maxHeartbeats 0
set_option linter.unusedVariables false
set_option linter.unusedSimpArgs false
theorem c151_spec (n s0 s1 x0 x1 b0 b1 r q i : Int) (l : List Int) (hn : 1 ≤ n ∧ n ≤ 16) (hi : 0 ≤ i ∧ i < n) (hl : (l.length : Int) = n * n) :
    PSpec Try.prog 151 [.int .i64 i, .ip (.pv [.int .i64 r, .int .i64 q, .isl (.ints .i64 l) .none]) 0, .ip (.pv [.int .i64 n, .int .i64 s0, .int .i64 s1, .int .i64 x0, .int .i64 x1, .int .i64 b0, .int .i64 b1]) 0] (.int .i64 (l.getD (n * i + i).toNat 0)) := by
  have h1 := mul_bd (A := 16) (B := 16) (show 0 ≤ n ∧ n ≤ 16 by omega) (show 0 ≤ i ∧ i ≤ 16 by omega)
  have h2 : n * i + n ≤ n * n := by
    have := Int.mul_le_mul_of_nonneg_left (show i + 1 ≤ n by omega) (show 0 ≤ n by omega)
    rw [Int.mul_add] at this; omega
  refine pspec_of (md := 1) (rf := []) mixed tabOK noC_ok Try.func151 (by rfl) (by rfl) (by rfl) ?_
  repeat' (first | ((conv => whnf); refine And.intro ?_ ?_) | ((conv => whnf); with_reducible exact VC.mk rfl) | ((conv => whnf); exact Ok.mk) | ((conv => whnf); exact True.intro) | ((conv => whnf); refine Nx.mk ?_) | ((conv => whnf); refine Fin.mk ?_) | ((conv => whnf); intro _))
  all_goals ((try refine VC.mk ?_); (try simp only [CL.ncell, CL.cnt, Int.toNat_natCast, decide_eq_true_eq, decide_eq_false_iff_not, Bool.not_eq_true, Bool.not_false, Bool.not_true, and_self, and_true, true_and, te3b, te4b, te3s, te4s, Nat.mul_one, Nat.zero_add, List.length_cons, List.length_nil, Bool.false_eq_true, Bool.true_eq_false] at *); (try omega))
  all_goals (first | (refine Sup.of ?_; first | rfl | (simp [*, resOf]; done)) | (refine Sup.via ?_; repeat' (first | ((conv => whnf); refine And.intro ?_ ?_) | ((conv => whnf); with_reducible exact VC.mk rfl) | ((conv => whnf); exact Ok.mk) | ((conv => whnf); exact True.intro) | ((conv => whnf); refine Nx.mk ?_) | ((conv => whnf); refine Fin.mk ?_) | ((conv => whnf); intro _)); all_goals ((try refine VC.mk ?_); (try simp only [CL.ncell, CL.cnt, Int.toNat_natCast, decide_eq_true_eq, decide_eq_false_iff_not, Bool.not_eq_true, Bool.not_false, Bool.not_true, and_self, and_true, true_and, te3b, te4b, te3s, te4s, Nat.mul_one, Nat.zero_add, List.length_cons, List.length_nil, Bool.false_eq_true, Bool.true_eq_false] at *); (try omega)); all_goals (try (simp [CL.sub]; done))))
theorem c152_spec (n s0 s1 x0 x1 b0 b1 r q i : Int) (l : List Int) (hn : 1 ≤ n ∧ n ≤ 16) (hi : 0 ≤ i ∧ i < n) (hl : (l.length : Int) = n * n) :
    PSpec Try.prog 152 [.int .i64 i, .ip (.pv [.int .i64 r, .int .i64 q, .isl (.ints .i64 l) .none]) 0, .ip (.pv [.int .i64 n, .int .i64 s0, .int .i64 s1, .int .i64 x0, .int .i64 x1, .int .i64 b0, .int .i64 b1]) 0] (.int .i64 (l.getD (n * i + n - 1 - i).toNat 0)) := by
  have h1 := mul_bd (A := 16) (B := 16) (show 0 ≤ n ∧ n ≤ 16 by omega) (show 0 ≤ i ∧ i ≤ 16 by omega)
  have h2 : n * i + n ≤ n * n := by
    have := Int.mul_le_mul_of_nonneg_left (show i + 1 ≤ n by omega) (show 0 ≤ n by omega)
    rw [Int.mul_add] at this; omega
  refine pspec_of (md := 1) (rf := []) mixed tabOK noC_ok Try.func152 (by rfl) (by rfl) (by rfl) ?_
  repeat' (first | ((conv => whnf); refine And.intro ?_ ?_) | ((conv => whnf); with_reducible exact VC.mk rfl) | ((conv => whnf); exact Ok.mk) | ((conv => whnf); exact True.intro) | ((conv => whnf); refine Nx.mk ?_) | ((conv => whnf); refine Fin.mk ?_) | ((conv => whnf); intro _))
  all_goals ((try refine VC.mk ?_); (try simp only [CL.ncell, CL.cnt, Int.toNat_natCast, decide_eq_true_eq, decide_eq_false_iff_not, Bool.not_eq_true, Bool.not_false, Bool.not_true, and_self, and_true, true_and, te3b, te4b, te3s, te4s, Nat.mul_one, Nat.zero_add, List.length_cons, List.length_nil, Bool.false_eq_true, Bool.true_eq_false] at *); (try omega))
  all_goals (first | (refine Sup.of ?_; first | rfl | (simp [*, resOf]; done)) | (refine Sup.via ?_; repeat' (first | ((conv => whnf); refine And.intro ?_ ?_) | ((conv => whnf); with_reducible exact VC.mk rfl) | ((conv => whnf); exact Ok.mk) | ((conv => whnf); exact True.intro) | ((conv => whnf); refine Nx.mk ?_) | ((conv => whnf); refine Fin.mk ?_) | ((conv => whnf); intro _)); all_goals ((try refine VC.mk ?_); (try simp only [CL.ncell, CL.cnt, Int.toNat_natCast, decide_eq_true_eq, decide_eq_false_iff_not, Bool.not_eq_true, Bool.not_false, Bool.not_true, and_self, and_true, true_and, te3b, te4b, te3s, te4s, Nat.mul_one, Nat.zero_add, List.length_cons, List.length_nil, Bool.false_eq_true, Bool.true_eq_false] at *); (try omega)); all_goals (try (simp [CL.sub]; done))))
def gcdN (n a : Int) : Int := (Int.gcd (a % n) n : Int)
theorem gcdN_bd {n a : Int} (hn : 1 ≤ n ∧ n ≤ 16) : 1 ≤ gcdN n a ∧ gcdN n a ≤ 16 := by
  unfold gcdN
  have h1 : 0 < Int.gcd (a % n) n := Int.gcd_pos_of_ne_zero_right _ (by omega)
  have h2 : (Int.gcd (a % n) n : Int) ∣ n := Int.gcd_dvd_right ..
  have := Int.le_of_dvd (by omega) h2
  omega
def balAt (n : Int) (d e : Int) (h : Nat → Int) (i : Nat) : Bool := decide ((h i - 1) % n % d = (d - 1) / 2) && decide ((h i - 1) / n % e = (e - 1) / 2)
def balB (n : Int) (h : Nat → Int) (u v : Int) : Bool := !decide (gcdN n v % 2 = 0) && !decide (gcdN n u % 2 = 0) && (List.range n.toNat).all (balAt n (gcdN n v) (gcdN n u) h)
def balP : PSp := fun xs K => match xs with
  | [.agg [.int .i64 n, .int .i64 s0, .int .i64 s1, .int .i64 x0, .int .i64 x1, .int .i64 b0, .int .i64 b1], .fn (.func f) fs cs, .int .i64 u, .int .i64 v] =>
    VC ((1 ≤ n ∧ n ≤ 16) ∧ (-1000 ≤ u ∧ u ≤ 1000) ∧ -1000 ≤ v ∧ v ≤ 1000) ∧ ∃ h : Nat → Int, (∀ i : Nat, (i : Int) < n → (1 ≤ h i ∧ h i ≤ 1000) ∧ PSpec Try.prog f (fs ++ [.int .i64 i] ++ cs) (.int .i64 (h i))) ∧ K (.bp (balB n h u v))
  | _ => False
theorem bal_spec (n s0 s1 x0 x1 b0 b1 u v : Int) (hn : 1 ≤ n ∧ n ≤ 16) (hu' : -1000 ≤ u ∧ u ≤ 1000) (hv' : -1000 ≤ v ∧ v ≤ 1000) (f : Nat) (fs cs : List PV) (h : Nat → Int)
    (hh : ∀ i : Nat, (i : Int) < n → (1 ≤ h i ∧ h i ≤ 1000) ∧ PSpec Try.prog f (fs ++ [.int .i64 i] ++ cs) (.int .i64 (h i))) :
    PSpec Try.prog 153 [ruleV n s0 s1 x0 x1 b0 b1, .fn (.func f) fs cs, .int .i64 u, .int .i64 v] (.bp (balB n h u v)) := by
  refine pspec_open 1 (enters' Try.func153 (by rfl) (by rfl)) rfl (by simp) fun S0 w0 us vs hu hv => ?_
  have hY : ∀ r, YPOK Try.prog r (fromB S0 w0) (fnY f us vs fun xs K => match xs with
      | [.int .i64 i] => VC (0 ≤ i ∧ i < n) ∧ K (.int .i64 (h i.toNat))
      | _ => False) := fun r => fnY_ok (fs := fs) (cs := cs) (fun S w hb => ⟨hu.mono hb (.refl _), hv.mono hb (.refl _)⟩) fun xs K hk => by
    split at hk
    · rename_i i
      obtain ⟨⟨h1, h2⟩, hk⟩ := hk
      have := (hh i.toNat (by omega)).2
      rw [Int.toNat_of_nonneg h1] at this
      exact ⟨_, hk, this⟩
    · exact hk.elim
  have hC : CPOKB Try.prog (fromB S0 w0) (cpAdd 158 (pureCC cgcdP) noC) := CPOK.up (cpAdd_ok (pureCC_ok cgcd_ok) noC_ok) _
  have W : Walk Try.prog none (fromB S0 w0) tab.get _ _ := ⟨fromB_ok, mixed, tabOK, hC, hY none⟩
  obtain ⟨m, rfl⟩ : ∃ m : Nat, n = m := ⟨n.toNat, by omega⟩
  have d1 := gcdN_bd (n := (m : Int)) (a := v) hn
  have d2 := gcdN_bd (n := (m : Int)) (a := u) hn
  unfold balB gcdN
  unfold gcdN at d1 d2
  refine pspecB_of fromB_ok mixed tabOK (md := 0) (rf := []) hC (hY none) Try.func153 (by rfl) (by rfl) ?_
  repeat' (first | ((conv => whnf); refine And.intro ?_ ?_) | ((conv => whnf); with_reducible exact VC.mk rfl) | ((conv => whnf); exact Ok.mk) | ((conv => whnf); exact True.intro) | ((conv => whnf); refine Nx.mk ?_) | ((conv => whnf); refine Fin.mk ?_) | ((conv => whnf); intro _))
  all_goals ((try refine VC.mk ?_); (try simp only [CL.ncell, CL.cnt, Int.toNat_natCast, decide_eq_true_eq, decide_eq_false_iff_not, Bool.not_eq_true, Bool.not_false, Bool.not_true, and_self, and_true, true_and, te3b, te4b, te3s, te4s, Nat.mul_one, Nat.zero_add, List.length_cons, List.length_nil, Bool.false_eq_true, Bool.true_eq_false] at *); (try omega))
  · rw [show (decide ((Int.gcd (u % m) m : Int) % 2 = 0)) = true from by simpa using ‹(Int.gcd (u % m) m : Int) % 2 = 0›]; simp; exact Sup.via ⟨⟨rfl⟩, trivial⟩
  · generalize (Int.gcd (v % m) m : Int) = d at *
    generalize (Int.gcd (u % m) m : Int) = e at *
    rw [show decide (d % 2 = 0) = false from by simpa using ‹¬ d % 2 = 0›, show decide (e % 2 = 0) = false from by simpa using ‹¬ e % 2 = 0›]
    simp only [Bool.not_false, Bool.true_and, Int.toNat_natCast]
    conv => whnf
    refine loop_of (X := Nat) (fun i => i ≤ m ∧ ∀ j, j < i → balAt m d e h j = true) (fun i => [(32, .int .i64 i)]) (fun i => []) (fun i => m - i) 0 W (by rfl) ⟨by omega, fun j hj => by omega⟩ ?_ ?_
    · repeat' (first | ((conv => whnf); refine And.intro ?_ ?_) | ((conv => whnf); with_reducible exact VC.mk rfl) | ((conv => whnf); exact Ok.mk) | ((conv => whnf); exact True.intro) | ((conv => whnf); refine Nx.mk ?_) | ((conv => whnf); refine Fin.mk ?_) | ((conv => whnf); intro _))
      all_goals ((try refine VC.mk ?_); (try simp only [CL.ncell, CL.cnt, Int.toNat_natCast, decide_eq_true_eq, decide_eq_false_iff_not, Bool.not_eq_true, Bool.not_false, Bool.not_true, and_self, and_true, true_and, te3b, te4b, te3s, te4s, Nat.mul_one, Nat.zero_add, List.length_cons, List.length_nil, Bool.false_eq_true, Bool.true_eq_false] at *); (try omega))
    · rintro i ⟨hi, hok⟩
      by_cases hlt : i < m
      · have b1 := (hh i (by omega)).1
        have b2 : 0 ≤ (h i - 1) % m ∧ (h i - 1) % m < m := ⟨Int.emod_nonneg _ (by omega), Int.emod_lt_of_pos _ (by omega)⟩
        have b3 : 0 ≤ (h i - 1) / m ∧ (h i - 1) / m ≤ 1000 := ⟨Int.ediv_nonneg (by omega) (by omega), by have := Int.ediv_le_self (a := h i - 1) m (by omega); omega⟩
        have hbad : balAt m d e h i = false → Sup (resOf [.bool false]) (.bp ((List.range m).all (balAt m d e h))) := fun hf => by rw [all_false hlt hf]; all_goals (first | (refine Sup.of ?_; first | rfl | (simp [*, resOf]; done)) | (refine Sup.via ?_; repeat' (first | ((conv => whnf); refine And.intro ?_ ?_) | ((conv => whnf); with_reducible exact VC.mk rfl) | ((conv => whnf); exact Ok.mk) | ((conv => whnf); exact True.intro) | ((conv => whnf); refine Nx.mk ?_) | ((conv => whnf); refine Fin.mk ?_) | ((conv => whnf); intro _)); all_goals ((try refine VC.mk ?_); (try simp only [CL.ncell, CL.cnt, Int.toNat_natCast, decide_eq_true_eq, decide_eq_false_iff_not, Bool.not_eq_true, Bool.not_false, Bool.not_true, and_self, and_true, true_and, te3b, te4b, te3s, te4s, Nat.mul_one, Nat.zero_add, List.length_cons, List.length_nil, Bool.false_eq_true, Bool.true_eq_false] at *); (try omega)); all_goals (try (simp [CL.sub]; done))))
        repeat' (first | ((conv => whnf); refine And.intro ?_ ?_) | ((conv => whnf); with_reducible exact VC.mk rfl) | ((conv => whnf); exact Ok.mk) | ((conv => whnf); exact True.intro) | ((conv => whnf); refine Nx.mk ?_) | ((conv => whnf); refine Fin.mk ?_) | ((conv => whnf); intro _))
        all_goals ((try refine VC.mk ?_); (try simp only [CL.ncell, CL.cnt, Int.toNat_natCast, decide_eq_true_eq, decide_eq_false_iff_not, Bool.not_eq_true, Bool.not_false, Bool.not_true, and_self, and_true, true_and, te3b, te4b, te3s, te4s, Nat.mul_one, Nat.zero_add, List.length_cons, List.length_nil, Bool.false_eq_true, Bool.true_eq_false] at *); (try omega))
        · refine hbad ?_; unfold balAt; simp_all
        · refine ⟨i + 1, [], ⟨⟨by omega, fun j hj => ?_⟩, by omega⟩, ?_⟩
          · by_cases e : j = i
            · subst e; unfold balAt; simp_all
            · exact hok j (by omega)
          · repeat' (first | ((conv => whnf); refine And.intro ?_ ?_) | ((conv => whnf); with_reducible exact VC.mk rfl) | ((conv => whnf); exact Ok.mk) | ((conv => whnf); exact True.intro) | ((conv => whnf); refine Nx.mk ?_) | ((conv => whnf); refine Fin.mk ?_) | ((conv => whnf); intro _))
            all_goals ((try refine VC.mk ?_); (try simp only [CL.ncell, CL.cnt, Int.toNat_natCast, decide_eq_true_eq, decide_eq_false_iff_not, Bool.not_eq_true, Bool.not_false, Bool.not_true, and_self, and_true, true_and, te3b, te4b, te3s, te4s, Nat.mul_one, Nat.zero_add, List.length_cons, List.length_nil, Bool.false_eq_true, Bool.true_eq_false] at *); (try omega))
        · refine hbad ?_; unfold balAt; simp_all
      · have : m = i := by omega
        subst this
        rw [all_true hok]
        repeat' (first | ((conv => whnf); refine And.intro ?_ ?_) | ((conv => whnf); with_reducible exact VC.mk rfl) | ((conv => whnf); exact Ok.mk) | ((conv => whnf); exact True.intro) | ((conv => whnf); refine Nx.mk ?_) | ((conv => whnf); refine Fin.mk ?_) | ((conv => whnf); intro _))
        all_goals ((try refine VC.mk ?_); (try simp only [CL.ncell, CL.cnt, Int.toNat_natCast, decide_eq_true_eq, decide_eq_false_iff_not, Bool.not_eq_true, Bool.not_false, Bool.not_true, and_self, and_true, true_and, te3b, te4b, te3s, te4s, Nat.mul_one, Nat.zero_add, List.length_cons, List.length_nil, Bool.false_eq_true, Bool.true_eq_false] at *); (try omega))
        all_goals (first | (refine Sup.of ?_; first | rfl | (simp [*, resOf]; done)) | (refine Sup.via ?_; repeat' (first | ((conv => whnf); refine And.intro ?_ ?_) | ((conv => whnf); with_reducible exact VC.mk rfl) | ((conv => whnf); exact Ok.mk) | ((conv => whnf); exact True.intro) | ((conv => whnf); refine Nx.mk ?_) | ((conv => whnf); refine Fin.mk ?_) | ((conv => whnf); intro _)); all_goals ((try refine VC.mk ?_); (try simp only [CL.ncell, CL.cnt, Int.toNat_natCast, decide_eq_true_eq, decide_eq_false_iff_not, Bool.not_eq_true, Bool.not_false, Bool.not_true, and_self, and_true, true_and, te3b, te4b, te3s, te4s, Nat.mul_one, Nat.zero_add, List.length_cons, List.length_nil, Bool.false_eq_true, Bool.true_eq_false] at *); (try omega)); all_goals (try (simp [CL.sub]; done))))
  · rw [show (decide ((Int.gcd (v % m) m : Int) % 2 = 0)) = true from by simpa using ‹(Int.gcd (v % m) m : Int) % 2 = 0›]; simp; exact Sup.via ⟨⟨rfl⟩, trivial⟩
theorem bal_ok : POK Try.prog 153 balP := by
  intro xs K h
  unfold balP at h
  split at h
  · obtain ⟨⟨h1, h2, h3⟩, hh, h4, hK⟩ := h
    exact ⟨_, hK, bal_spec _ _ _ _ _ _ _ _ _ h1 h2 h3 _ _ _ hh h4⟩
  · exact h.elim
end Go.Eng.Ytppflbccfdbogaa
namespace Go.Eng.Ytppflbccfdbogaa
set_option linter.unusedSimpArgs false
open Go.Proofs
set_option linter.unusedVariables false
/-- what is free of earlier numbers -/
theorem gAt_free (c : Nat → Nat) (N : Nat) : ∀ (x i : Nat), (∀ j, j < x → c j ≠ i) → (gAt c N x).getD i 0 = 0 := by
  intro x
  induction x with
  | zero =>
    intro i _
    rw [gAt_zero, List.getD_eq_getElem?_getD, List.getElem?_replicate]
    split <;> rfl
  | succ x ih =>
    intro i h
    rw [gAt_succ, List.getD_eq_getElem?_getD, List.getElem?_set_ne (h x (by omega)), ← List.getD_eq_getElem?_getD]
    exact ih i fun j hj => h j (by omega)
theorem meetOf_none {c : Nat → Nat} {N : Nat} (h : ∀ i j, i < j → j < N → c i ≠ c j) : meetOf c N = none := by
  refine find_none fun y hy => ?_
  unfold meetAt
  rw [gAt_free c N y (c y) fun j hj => h j y hj hy]
  simp
theorem dvd_of_coprime {n a b : Int} (h : Int.gcd (b % n) n = 1) (hd : n ∣ a * b) : n ∣ a := by
  have h1 : n ∣ a * (b % n) := by
    obtain ⟨k, hk⟩ := hd
    have := Int.emod_add_mul_ediv b n
    exact ⟨k - a * (b / n), by grind⟩
  have h2 := Int.natAbs_dvd_natAbs.2 h1
  rw [Int.natAbs_mul] at h2
  exact Int.natAbs_dvd_natAbs.1 (Nat.Coprime.dvd_of_dvd_mul_right (Nat.Coprime.symm h) h2)
theorem emod_eq_dvd {n a b : Int} (h : a % n = b % n) : n ∣ a - b := by
  rw [Int.dvd_iff_emod_eq_zero]; exact Int.emod_eq_emod_iff_emod_sub_eq_zero.1 h
theorem small_dvd {n a : Int} (hn : 0 < n) (h : n ∣ a) (h1 : -n < a) (h2 : a < n) : a = 0 := by
  obtain ⟨k, rfl⟩ := h
  have : k = 0 := by
    rcases Int.lt_trichotomy k 0 with hk | hk | hk
    · have := Int.mul_le_mul_of_nonneg_left (show k ≤ -1 by omega) (show 0 ≤ n by omega); omega
    · exact hk
    · have := Int.mul_le_mul_of_nonneg_left (show 1 ≤ k by omega) (show 0 ≤ n by omega); omega
  rw [this]; simp
theorem cell_inj {n s0 s1 x0 x1 b0 b1 : Int} (hn : 1 ≤ n) (hs : isSq n x0 x1 b0 b1 = true) (i j : Nat) (hi : (i : Int) < n * n) (hj : (j : Int) < n * n)
    (h : cellN n s0 s1 x0 x1 b0 b1 i = cellN n s0 s1 x0 x1 b0 b1 j) : i = j := by
  have hd : Int.gcd ((x0 * b1 - x1 * b0) % n) n = 1 := by
    unfold isSq coprime at hs
    exact of_decide_eq_true hs
  have ci := cellOf_bd n s0 s1 x0 x1 b0 b1 ((i : Int) + 1) (by omega)
  have cj := cellOf_bd n s0 s1 x0 x1 b0 b1 ((j : Int) + 1) (by omega)
  have he : cellOf n s0 s1 x0 x1 b0 b1 ((i : Int) + 1) = cellOf n s0 s1 x0 x1 b0 b1 ((j : Int) + 1) := by unfold cellN at h; omega
  rw [cellOf_eq, cellOf_eq] at he
  have r1 := rowOf_bd n s0 x0 b0 ((i : Int) + 1) (by omega)
  have r2 := rowOf_bd n s0 x0 b0 ((j : Int) + 1) (by omega)
  have q1 := rowOf_bd n s1 x1 b1 ((i : Int) + 1) (by omega)
  have q2 := rowOf_bd n s1 x1 b1 ((j : Int) + 1) (by omega)
  have er : rowOf n s0 x0 b0 ((i : Int) + 1) = rowOf n s0 x0 b0 ((j : Int) + 1) := by
    have := small_dvd (n := n) (a := rowOf n s1 x1 b1 ((j : Int) + 1) - rowOf n s1 x1 b1 ((i : Int) + 1)) (by omega) ⟨rowOf n s0 x0 b0 ((i : Int) + 1) - rowOf n s0 x0 b0 ((j : Int) + 1), by rw [Int.mul_sub, Int.mul_comm n, Int.mul_comm n]; omega⟩ (by omega) (by omega)
    have h0 : (rowOf n s0 x0 b0 ((i : Int) + 1) - rowOf n s0 x0 b0 ((j : Int) + 1)) * n = 0 := by rw [Int.sub_mul]; omega
    rcases Int.mul_eq_zero.1 h0 with h0 | h0 <;> omega
  have eq : rowOf n s1 x1 b1 ((i : Int) + 1) = rowOf n s1 x1 b1 ((j : Int) + 1) := by rw [er] at he; omega
  unfold rowOf at er eq
  simp only [Int.add_sub_cancel] at er eq
  have d1 := emod_eq_dvd er
  have d2 := emod_eq_dvd eq
  obtain ⟨a, ha⟩ : ∃ a, a = (i : Int) % n := ⟨_, rfl⟩
  obtain ⟨b, hb⟩ : ∃ b, b = (i : Int) / n := ⟨_, rfl⟩
  obtain ⟨a', ha'⟩ : ∃ a, a = (j : Int) % n := ⟨_, rfl⟩
  obtain ⟨b', hb'⟩ : ∃ b, b = (j : Int) / n := ⟨_, rfl⟩
  rw [← ha, ← hb, ← ha', ← hb'] at d1 d2
  have e1 : n ∣ (a - a') * (x0 * b1 - x1 * b0) := by
    obtain ⟨k1, h1⟩ := d1
    obtain ⟨k2, h2⟩ := d2
    exact ⟨k1 * b1 - k2 * b0, by grind⟩
  have e2 : n ∣ (b - b') * (x0 * b1 - x1 * b0) := by
    obtain ⟨k1, h1⟩ := d1
    obtain ⟨k2, h2⟩ := d2
    exact ⟨k2 * x0 - k1 * x1, by grind⟩
  have f1 := small_dvd (by omega) (dvd_of_coprime hd e1) (by have := Int.emod_nonneg (i : Int) (show n ≠ 0 by omega); have := Int.emod_lt_of_pos (j : Int) (show 0 < n by omega); omega) (by have := Int.emod_nonneg (j : Int) (show n ≠ 0 by omega); have := Int.emod_lt_of_pos (i : Int) (show 0 < n by omega); omega)
  have hbi : 0 ≤ b ∧ b < n := ⟨by rw [hb]; exact Int.ediv_nonneg (by omega) (by omega), by rw [hb]; exact Int.ediv_lt_of_lt_mul (by omega) hi⟩
  have hbj : 0 ≤ b' ∧ b' < n := ⟨by rw [hb']; exact Int.ediv_nonneg (by omega) (by omega), by rw [hb']; exact Int.ediv_lt_of_lt_mul (by omega) hj⟩
  have f2 := small_dvd (by omega) (dvd_of_coprime hd e2) (by omega) (by omega)
  have g1 := Int.emod_add_mul_ediv (i : Int) n
  have g2 := Int.emod_add_mul_ediv (j : Int) n
  rw [← ha, ← hb] at g1
  rw [← ha', ← hb'] at g2
  have : b = b' := by omega
  rw [this] at g1
  omega
theorem pigeon : ∀ (N : Nat) (c : Nat → Nat), (∀ i, i < N + 1 → c i < N) → ∃ i j, i < j ∧ j < N + 1 ∧ c i = c j := by
  intro N
  induction N with
  | zero => intro c h; have := h 0 (by omega); omega
  | succ N ih =>
    intro c h
    by_cases hv : ∃ i, i < N + 1 ∧ c i = c (N + 1)
    · obtain ⟨i, h1, h2⟩ := hv; exact ⟨i, N + 1, by omega, by omega, h2⟩
    · have hne : ∀ i, i < N + 1 → c i ≠ c (N + 1) := fun i hi e => hv ⟨i, hi, e⟩
      have hl := h (N + 1) (by omega)
      obtain ⟨i, j, h1, h2, h3⟩ := ih (fun i => if c i = N then c (N + 1) else c i) (fun i hi => by
        have a := h i (by omega)
        have b := hne i hi
        by_cases e : c i = N
        · simp only [e, if_true]; omega
        · simp only [e, if_false]; omega)
      refine ⟨i, j, h1, by omega, ?_⟩
      have a := hne i (by omega)
      have b := hne j (by omega)
      by_cases e1 : c i = N
      · by_cases e2 : c j = N
        · omega
        · simp only [e1, e2, if_true, if_false] at h3; omega
      · by_cases e2 : c j = N
        · simp only [e1, e2, if_true, if_false] at h3; omega
        · simp only [e1, e2, if_false] at h3; exact h3
theorem inj_surj {c : Nat → Nat} {N : Nat} (hb : ∀ i, i < N → c i < N) (h : ∀ i j, i < j → j < N → c i ≠ c j) (y : Nat) (hy : y < N) : ∃ i, i < N ∧ c i = y := by
  rcases Classical.em (∃ i, i < N ∧ c i = y) with hh | hh
  · exact hh
  · exfalso
    have hne : ∀ i, i < N → c i ≠ y := fun i hi e => hh ⟨i, hi, e⟩
    obtain ⟨M, rfl⟩ : ∃ M, N = M + 1 := ⟨N - 1, by omega⟩
    obtain ⟨i, j, h1, h2, h3⟩ := pigeon M (fun i => if c i = M then y else c i) (fun i hi => by
      have a := hb i hi
      have b := hne i hi
      by_cases e : c i = M
      · simp only [e, if_true]; omega
      · simp only [e, if_false]; omega)
    have a := hne i (by omega)
    have b := hne j (by omega)
    have d := h i j h1 h2
    by_cases e1 : c i = M
    · by_cases e2 : c j = M
      · omega
      · simp only [e1, e2, if_true, if_false] at h3; omega
    · by_cases e2 : c j = M
      · simp only [e1, e2, if_true, if_false] at h3; omega
      · simp only [e1, e2, if_false] at h3; omega
theorem gAt_at {c : Nat → Nat} {N : Nat} (hb : ∀ i, i < N → c i < N) (h : ∀ i j, i < j → j < N → c i ≠ c j) : ∀ (x i : Nat), i < x → x ≤ N → (gAt c N x).getD (c i) 0 = (i : Int) + 1 := by
  intro x
  induction x with
  | zero => intro i hi; omega
  | succ x ih =>
    intro i hi hx
    rw [gAt_succ, List.getD_eq_getElem?_getD]
    by_cases e : i = x
    · subst e
      rw [List.getElem?_set_self (by rw [gAt_len]; exact hb i (by omega))]; rfl
    · rw [List.getElem?_set_ne (Ne.symm (h i x (by omega) (by omega))), ← List.getD_eq_getElem?_getD]
      exact ih i (by omega) (by omega)
/-- where no two numbers meet, each cell has one -/
theorem gAt_full {c : Nat → Nat} {N : Nat} (hb : ∀ i, i < N → c i < N) (h : ∀ i j, i < j → j < N → c i ≠ c j) (y : Nat) (hy : y < N) : ∃ i, i < N ∧ c i = y ∧ (gAt c N N).getD y 0 = (i : Int) + 1 := by
  obtain ⟨i, h1, h2⟩ := inj_surj hb h y hy
  exact ⟨i, h1, h2, by rw [← h2]; exact gAt_at hb h N i h1 (Nat.le_refl _)⟩
theorem meetOf_inj {c : Nat → Nat} {N : Nat} (hb : ∀ i, i < N → c i < N) (h : meetOf c N = none) : ∀ i j, i < j → j < N → c i ≠ c j := by
  have hm : ∀ y, y < N → (gAt c N y).getD (c y) 0 = 0 := fun y hy => by
    unfold meetOf at h
    rw [List.find?_eq_none] at h
    have := h y (List.mem_range.2 hy)
    unfold meetAt at this
    simpa using this
  -- of the numbers laid so far, each lies where it was laid
  have key : ∀ x, x ≤ N → ∀ i, i < x → (gAt c N x).getD (c i) 0 = (i : Int) + 1 := by
    intro x
    induction x with
    | zero => intro _ i hi; omega
    | succ x ih =>
      intro hx i hi
      rw [gAt_succ, List.getD_eq_getElem?_getD]
      by_cases e : c i = c x
      · by_cases e' : i = x
        · subst e'; rw [List.getElem?_set_self (by rw [gAt_len]; exact hb i (by omega))]; rfl
        · have h1 := ih (by omega) i (by omega)
          have h2 := hm x (by omega)
          rw [← e, h1] at h2; omega
      · have e' : i ≠ x := fun h => e (by rw [h])
        rw [List.getElem?_set_ne (Ne.symm e), ← List.getD_eq_getElem?_getD]
        exact ih (by omega) i (by omega)
  intro i j hij hj e
  have h1 := key j (by omega) i hij
  have h2 := hm j hj
  rw [← e, h1] at h2; omega
theorem cellN_lt {n s0 s1 x0 x1 b0 b1 : Int} (hn : 1 ≤ n) (y : Nat) : cellN n s0 s1 x0 x1 b0 b1 y < (n * n).toNat := by
  have := cellOf_bd n s0 s1 x0 x1 b0 b1 ((y : Int) + 1) (by omega)
  unfold cellN; omega
theorem meet_none {n s0 s1 x0 x1 b0 b1 : Int} (hn : 1 ≤ n) (hs : isSq n x0 x1 b0 b1 = true) : meetOf (cellN n s0 s1 x0 x1 b0 b1) (n * n).toNat = none :=
  meetOf_none fun i j hij hj h => by
    have := cell_inj hn hs i j (by omega) (by omega) h
    omega
end Go.Eng.Ytppflbccfdbogaa
namespace Go.Eng.Ytppflbccfdbogaa
open Go.Proofs
set_option maxRecDepth 100000
set_option maxHeartbeats 0
set_option linter.unusedVariables false
set_option linter.unusedSimpArgs false
abbrev diagI (n : Int) (i : Nat) : Int := n * i + i
def mainAt (n : Int) (l : List Int) (i : Nat) : Int := l.getD (n * i + i).toNat 0
def antiAt (n : Int) (l : List Int) (i : Nat) : Int := l.getD (n * i + n - 1 - i).toNat 0
def sqL (n s0 s1 x0 x1 b0 b1 : Int) : List Int := gAt (cellN n s0 s1 x0 x1 b0 b1) (n * n).toNat (n * n).toNat
def isMag (n s0 s1 x0 x1 b0 b1 : Int) : Bool := isSemi n x0 x1 b0 b1 && (balB n (mainAt n (sqL n s0 s1 x0 x1 b0 b1)) (x0 - x1) (b0 - b1) && balB n (antiAt n (sqL n s0 s1 x0 x1 b0 b1)) (x0 + x1) (b0 + b1))
noncomputable def cpG : CPT := cpAdd 138 (pureCC semiP) (cpAdd 76 (pureCC layP) (cpAdd 153 (pureCC balP) (cpAdd 145 (pureCC allBP) noC)))
theorem cpG_ok : CPOK Try.prog cpG := cpAdd_ok (pureCC_ok semi_ok) (cpAdd_ok (pureCC_ok lay_ok) (cpAdd_ok (pureCC_ok bal_ok) (cpAdd_ok (pureCC_ok allB_ok) noC_ok)))
theorem mag_spec (n s0 s1 x0 x1 b0 b1 : Int) (hn : 1 ≤ n ∧ n ≤ 16) (h : ∀ x ∈ [s0, s1, x0, x1, b0, b1], 0 ≤ x ∧ x < n) : PSpec Try.prog 139 [ruleV n s0 s1 x0 x1 b0 b1] (.bp (isMag n s0 s1 x0 x1 b0 b1)) := by
  have hh := h
  simp only [List.mem_cons, List.not_mem_nil, or_false, forall_eq_or_imp, forall_eq] at h
  obtain ⟨h1, h2, h3, h4, h5, h6⟩ := h
  cases hs : isSemi n x0 x1 b0 b1 with
  | false =>
    unfold isMag
    rw [hs]
    refine pspec_of (md := 1) (rf := []) mixed tabOK cpG_ok Try.func139 (by rfl) (by rfl) (by rfl) ?_
    repeat' (first | ((conv => whnf); refine And.intro ?_ ?_) | ((conv => whnf); with_reducible exact VC.mk rfl) | ((conv => whnf); exact Ok.mk) | ((conv => whnf); exact True.intro) | ((conv => whnf); refine Nx.mk ?_) | ((conv => whnf); refine Fin.mk ?_) | ((conv => whnf); intro _))
    all_goals ((try refine VC.mk ?_); (try simp only [CL.ncell, CL.cnt, Int.toNat_natCast, decide_eq_true_eq, decide_eq_false_iff_not, Bool.not_eq_true, Bool.not_false, Bool.not_true, and_self, and_true, true_and, te3b, te4b, te3s, te4s, Nat.mul_one, Nat.zero_add, List.length_cons, List.length_nil, Bool.false_eq_true, Bool.true_eq_false] at *); (try omega))
    · exact ⟨hn, hh⟩
    · simp only [Bool.false_and]; all_goals (first | (refine Sup.of ?_; first | rfl | (simp [*, resOf]; done)) | (refine Sup.via ?_; repeat' (first | ((conv => whnf); refine And.intro ?_ ?_) | ((conv => whnf); with_reducible exact VC.mk rfl) | ((conv => whnf); exact Ok.mk) | ((conv => whnf); exact True.intro) | ((conv => whnf); refine Nx.mk ?_) | ((conv => whnf); refine Fin.mk ?_) | ((conv => whnf); intro _)); all_goals ((try refine VC.mk ?_); (try simp only [CL.ncell, CL.cnt, Int.toNat_natCast, decide_eq_true_eq, decide_eq_false_iff_not, Bool.not_eq_true, Bool.not_false, Bool.not_true, and_self, and_true, true_and, te3b, te4b, te3s, te4s, Nat.mul_one, Nat.zero_add, List.length_cons, List.length_nil, Bool.false_eq_true, Bool.true_eq_false] at *); (try omega)); all_goals (try (simp [CL.sub]; done))))
    · exact ⟨hn, hh⟩
    · exfalso; simp_all
  | true =>
    have hsq : isSq n x0 x1 b0 b1 = true := by unfold isSemi at hs; simp at hs; exact hs.1
    have hm := meet_none (s0 := s0) (s1 := s1) hn.1 hsq
    obtain ⟨l, hl⟩ : ∃ l, l = sqL n s0 s1 x0 x1 b0 b1 := ⟨_, rfl⟩
    have hnn := mul_bd (show 0 ≤ n ∧ n ≤ 16 by omega) (show 0 ≤ n ∧ n ≤ 16 by omega)
    have hlen : (l.length : Int) = n * n := by rw [hl]; unfold sqL; rw [gAt_len]; omega
    have hval : ∀ k : Int, 0 ≤ k → k < n * n → 1 ≤ l.getD k.toNat 0 ∧ l.getD k.toNat 0 ≤ 1000 := fun k h1 h2 => by
      obtain ⟨i, q1, q2, q3⟩ := gAt_full (fun i _ => cellN_lt (s0 := s0) (s1 := s1) (x0 := x0) (x1 := x1) (b0 := b0) (b1 := b1) hn.1 i) (meetOf_inj (fun i _ => cellN_lt hn.1 i) hm) k.toNat (by omega)
      rw [hl]; unfold sqL; rw [q3]; omega
    have hidx : ∀ i : Nat, (i : Int) < n → (0 ≤ n * i ∧ n * i + n ≤ n * n) := fun i hi => by
      have := Int.mul_le_mul_of_nonneg_left (show (i : Int) + 1 ≤ n by omega) (show 0 ≤ n by omega)
      rw [Int.mul_add] at this
      exact ⟨Int.mul_nonneg (by omega) (by omega), by omega⟩
    unfold isMag
    rw [hs, ← hl]
    refine pspec_of (md := 1) (rf := []) mixed tabOK cpG_ok Try.func139 (by rfl) (by rfl) (by rfl) ?_
    repeat' (first | ((conv => whnf); refine And.intro ?_ ?_) | ((conv => whnf); with_reducible exact VC.mk rfl) | ((conv => whnf); exact Ok.mk) | ((conv => whnf); exact True.intro) | ((conv => whnf); refine Nx.mk ?_) | ((conv => whnf); refine Fin.mk ?_) | ((conv => whnf); intro _))
    all_goals ((try refine VC.mk ?_); (try simp only [CL.ncell, CL.cnt, Int.toNat_natCast, decide_eq_true_eq, decide_eq_false_iff_not, Bool.not_eq_true, Bool.not_false, Bool.not_true, and_self, and_true, true_and, te3b, te4b, te3s, te4s, Nat.mul_one, Nat.zero_add, List.length_cons, List.length_nil, Bool.false_eq_true, Bool.true_eq_false] at *); (try omega))
    · exact ⟨hn, hh⟩
    · exfalso; simp_all
    · exact ⟨hn, hh⟩
    · simp only [layV, hm]
      rw [show gAt (cellN n s0 s1 x0 x1 b0 b1) (n * n).toNat (n * n).toNat = l from hl.symm]
      repeat' (first | ((conv => whnf); refine And.intro ?_ ?_) | ((conv => whnf); with_reducible exact VC.mk rfl) | ((conv => whnf); exact Ok.mk) | ((conv => whnf); exact True.intro) | ((conv => whnf); refine Nx.mk ?_) | ((conv => whnf); refine Fin.mk ?_) | ((conv => whnf); intro _))
      all_goals ((try refine VC.mk ?_); (try simp only [CL.ncell, CL.cnt, Int.toNat_natCast, decide_eq_true_eq, decide_eq_false_iff_not, Bool.not_eq_true, Bool.not_false, Bool.not_true, and_self, and_true, true_and, te3b, te4b, te3s, te4s, Nat.mul_one, Nat.zero_add, List.length_cons, List.length_nil, Bool.false_eq_true, Bool.true_eq_false] at *); (try omega))
      refine ⟨mainAt n l, fun i hi => ⟨hval _ (by have := hidx i hi; omega) (by have := hidx i hi; omega), c151_spec n s0 s1 x0 x1 b0 b1 n n i l hn (by omega) hlen⟩, ?_⟩
      repeat' (first | ((conv => whnf); refine And.intro ?_ ?_) | ((conv => whnf); with_reducible exact VC.mk rfl) | ((conv => whnf); exact Ok.mk) | ((conv => whnf); exact True.intro) | ((conv => whnf); refine Nx.mk ?_) | ((conv => whnf); refine Fin.mk ?_) | ((conv => whnf); intro _))
      all_goals ((try refine VC.mk ?_); (try simp only [CL.ncell, CL.cnt, Int.toNat_natCast, decide_eq_true_eq, decide_eq_false_iff_not, Bool.not_eq_true, Bool.not_false, Bool.not_true, and_self, and_true, true_and, te3b, te4b, te3s, te4s, Nat.mul_one, Nat.zero_add, List.length_cons, List.length_nil, Bool.false_eq_true, Bool.true_eq_false] at *); (try omega))
      refine ⟨antiAt n l, fun i hi => ⟨hval _ (by have := hidx i hi; omega) (by have := hidx i hi; omega), c152_spec n s0 s1 x0 x1 b0 b1 n n i l hn (by omega) hlen⟩, ?_⟩
      repeat' (first | ((conv => whnf); refine And.intro ?_ ?_) | ((conv => whnf); with_reducible exact VC.mk rfl) | ((conv => whnf); exact Ok.mk) | ((conv => whnf); exact True.intro) | ((conv => whnf); refine Nx.mk ?_) | ((conv => whnf); refine Fin.mk ?_) | ((conv => whnf); intro _))
      all_goals ((try refine VC.mk ?_); (try simp only [CL.ncell, CL.cnt, Int.toNat_natCast, decide_eq_true_eq, decide_eq_false_iff_not, Bool.not_eq_true, Bool.not_false, Bool.not_true, and_self, and_true, true_and, te3b, te4b, te3s, te4s, Nat.mul_one, Nat.zero_add, List.length_cons, List.length_nil, Bool.false_eq_true, Bool.true_eq_false] at *); (try omega))
      refine Sup.via ?_
      repeat' (first | ((conv => whnf); refine And.intro ?_ ?_) | ((conv => whnf); with_reducible exact VC.mk rfl) | ((conv => whnf); exact Ok.mk) | ((conv => whnf); exact True.intro) | ((conv => whnf); refine Nx.mk ?_) | ((conv => whnf); refine Fin.mk ?_) | ((conv => whnf); intro _))
      refine VC.mk ?_
      simp
def magP : PSp := fun xs K => match xs with
  | [.agg [.int .i64 n, .int .i64 s0, .int .i64 s1, .int .i64 x0, .int .i64 x1, .int .i64 b0, .int .i64 b1]] => VC ((1 ≤ n ∧ n ≤ 16) ∧ ∀ x ∈ [s0, s1, x0, x1, b0, b1], 0 ≤ x ∧ x < n) ∧ K (.bp (isMag n s0 s1 x0 x1 b0 b1))
  | _ => False
theorem mag_ok : POK Try.prog 139 magP := by
  intro xs K h
  unfold magP at h
  split at h
  · exact ⟨_, h.2, mag_spec _ _ _ _ _ _ _ h.1.get.1 h.1.get.2⟩
  · exact h.elim
/-! the table of kinds -/
abbrev kSq : ByteArray := ⟨#[115, 113, 117, 97, 114, 101]⟩
abbrev kSemi : ByteArray := ⟨#[115, 101, 109, 105, 109, 97, 103, 105, 99]⟩
abbrev kMag : ByteArray := ⟨#[109, 97, 103, 105, 99]⟩
abbrev kPan : ByteArray := ⟨#[112, 97, 110, 100, 105, 97, 103, 111, 110, 97, 108]⟩
def kindsL : LSp := fun xs objs K => match xs, objs with
  | [], [] => K [.rm 0] [.map [(.str kSq, .agg [.fn (.func 137) [] [], .int .i64 0]), (.str kSemi, .agg [.fn (.func 138) [] [], .int .i64 1]), (.str kMag, .agg [.fn (.func 139) [] [], .int .i64 2]), (.str kPan, .agg [.fn (.func 140) [] [], .int .i64 3])]]
  | _, _ => False
theorem kinds_spec : LSpec Try.prog 107 [] [] [.rm 0] [.map [(.str kSq, .agg [.fn (.func 137) [] [], .int .i64 0]), (.str kSemi, .agg [.fn (.func 138) [] [], .int .i64 1]), (.str kMag, .agg [.fn (.func 139) [] [], .int .i64 2]), (.str kPan, .agg [.fn (.func 140) [] [], .int .i64 3])]] := by
  refine lspec_of (md := 1) (rf := []) mixed tabOK noC_ok 0 [] Try.func107 (by rfl) (by rfl) (by rfl) ?_
  repeat' (first | ((conv => whnf); refine And.intro ?_ ?_) | ((conv => whnf); with_reducible exact VC.mk rfl) | ((conv => whnf); exact Ok.mk) | ((conv => whnf); exact True.intro) | ((conv => whnf); refine Nx.mk ?_) | ((conv => whnf); refine Fin.mk ?_) | ((conv => whnf); intro _))
  all_goals exact absurd ‹_› (by decide)
theorem kinds_ok : LOK Try.prog 107 kindsL := by
  intro xs objs K h
  unfold kindsL at h
  split at h
  · exact ⟨_, _, h, kinds_spec⟩
  · exact h.elim
/-! known -/
abbrev stepV (n s0 s1 x0 x1 b0 b1 : Int) : PV := .agg [.int .i64 n, .int .i64 s0, .int .i64 s1, .int .i64 x0, .int .i64 x1, .int .i64 b0, .int .i64 b1]
abbrev knownE (e : Int) : PV := .tup [ruleV 0 0 0 0 0 0 0, .agg [.nilf, .int .i64 0], .int .i64 e]
abbrev knownK (n s0 s1 x0 x1 b0 b1 : Int) (f : Nat) (g : Int) : PV := .tup [ruleV n (s0 % n) (s1 % n) (x0 % n) (x1 % n) (b0 % n) (b1 % n), .agg [.fn (.func f) [] [], .int .i64 g], .int .i64 0]
def noKind (s : ByteArray) : Prop := s ≠ kSq ∧ s ≠ kSemi ∧ s ≠ kMag ∧ s ≠ kPan
noncomputable def cpN : CPT := cpAdd 107 (lendCC [] kindsL) (cpAdd 47 (pureCC checkStepP) (cpAdd 98 (pureCC reducedP) cp2))
theorem cpN_ok : CPOK Try.prog cpN := cpAdd_ok (lendCC_ok [] kinds_ok) (cpAdd_ok (pureCC_ok checkStep_ok) (cpAdd_ok (pureCC_ok reduced_ok) cp2_ok))
theorem known_err (n s0 s1 x0 x1 b0 b1 : Int) (s : ByteArray) (h : stepErr n s0 s1 x0 x1 b0 b1 ≠ 0) : PSpec Try.prog 75 [stepV n s0 s1 x0 x1 b0 b1, .str s] (knownE (stepErr n s0 s1 x0 x1 b0 b1)) := by
  refine pspec_of (md := 1) (rf := []) mixed tabOK cpN_ok Try.func75 (by rfl) (by rfl) (by rfl) ?_
  repeat' (first | ((conv => whnf); refine And.intro ?_ ?_) | ((conv => whnf); with_reducible exact VC.mk rfl) | ((conv => whnf); exact Ok.mk) | ((conv => whnf); exact True.intro) | ((conv => whnf); refine Nx.mk ?_) | ((conv => whnf); refine Fin.mk ?_) | ((conv => whnf); intro _))
  all_goals ((try refine VC.mk ?_); (try simp only [CL.ncell, CL.cnt, Int.toNat_natCast, decide_eq_true_eq, decide_eq_false_iff_not, Bool.not_eq_true, Bool.not_false, Bool.not_true, and_self, and_true, true_and, te3b, te4b, te3s, te4s, Nat.mul_one, Nat.zero_add, List.length_cons, List.length_nil, Bool.false_eq_true, Bool.true_eq_false] at *); (try omega))
  all_goals first | (exfalso; simp_all [firstOf]; done) | (refine Sup.of ?_; simp_all [resOf, firstOf, knownE, ruleV]; done)
theorem known_none (n s0 s1 x0 x1 b0 b1 : Int) (s : ByteArray) (h : stepErr n s0 s1 x0 x1 b0 b1 = 0) (hs : noKind s) : PSpec Try.prog 75 [stepV n s0 s1 x0 x1 b0 b1, .str s] (knownE 13) := by
  obtain ⟨k1, k2, k3, k4⟩ := hs
  refine pspec_of (md := 1) (rf := []) mixed tabOK cpN_ok Try.func75 (by rfl) (by rfl) (by rfl) ?_
  repeat' (first | ((conv => whnf); refine And.intro ?_ ?_) | ((conv => whnf); with_reducible exact VC.mk rfl) | ((conv => whnf); exact Ok.mk) | ((conv => whnf); exact True.intro) | ((conv => whnf); refine Nx.mk ?_) | ((conv => whnf); refine Fin.mk ?_) | ((conv => whnf); intro _))
  all_goals ((try refine VC.mk ?_); (try simp only [CL.ncell, CL.cnt, Int.toNat_natCast, decide_eq_true_eq, decide_eq_false_iff_not, Bool.not_eq_true, Bool.not_false, Bool.not_true, and_self, and_true, true_and, te3b, te4b, te3s, te4s, Nat.mul_one, Nat.zero_add, List.length_cons, List.length_nil, Bool.false_eq_true, Bool.true_eq_false] at *); (try omega))
  all_goals first | (exfalso; contradiction) | (exfalso; simp_all [firstOf]; done) | (refine Sup.of ?_; simp_all [resOf, firstOf, knownE, ruleV]; done)
theorem known_sq (n s0 s1 x0 x1 b0 b1 : Int) (h : stepErr n s0 s1 x0 x1 b0 b1 = 0) : PSpec Try.prog 75 [stepV n s0 s1 x0 x1 b0 b1, .str kSq] (knownK n s0 s1 x0 x1 b0 b1 137 0) := by
  obtain ⟨h1, h2⟩ := stepErr_zero h
  have h10 : (0 < n ∧ n ≤ 1000000) ∧ ∀ x ∈ [s0, s1, x0, x1, b0, b1], -4611686018427387904 ≤ x ∧ x ≤ 4611686018427387904 := ⟨by omega, fun x hx => by have := h2 x hx; omega⟩
  refine pspec_of (md := 1) (rf := []) mixed tabOK cpN_ok Try.func75 (by rfl) (by rfl) (by rfl) ?_
  repeat' (first | ((conv => whnf); refine And.intro ?_ ?_) | ((conv => whnf); with_reducible exact VC.mk rfl) | ((conv => whnf); exact Ok.mk) | ((conv => whnf); exact True.intro) | ((conv => whnf); refine Nx.mk ?_) | ((conv => whnf); refine Fin.mk ?_) | ((conv => whnf); intro _))
  all_goals ((try refine VC.mk ?_); (try simp only [CL.ncell, CL.cnt, Int.toNat_natCast, decide_eq_true_eq, decide_eq_false_iff_not, Bool.not_eq_true, Bool.not_false, Bool.not_true, and_self, and_true, true_and, te3b, te4b, te3s, te4s, Nat.mul_one, Nat.zero_add, List.length_cons, List.length_nil, Bool.false_eq_true, Bool.true_eq_false] at *); (try omega))
  all_goals first | (exfalso; exact absurd ‹_ = (_ : ByteArray)› (by decide)) | (with_reducible exact h10) | (exfalso; simp_all [firstOf]; done) | (refine Sup.of ?_; simp_all [resOf, firstOf, knownK, ruleV]; done)
theorem known_semi (n s0 s1 x0 x1 b0 b1 : Int) (h : stepErr n s0 s1 x0 x1 b0 b1 = 0) : PSpec Try.prog 75 [stepV n s0 s1 x0 x1 b0 b1, .str kSemi] (knownK n s0 s1 x0 x1 b0 b1 138 1) := by
  obtain ⟨h1, h2⟩ := stepErr_zero h
  have h10 : (0 < n ∧ n ≤ 1000000) ∧ ∀ x ∈ [s0, s1, x0, x1, b0, b1], -4611686018427387904 ≤ x ∧ x ≤ 4611686018427387904 := ⟨by omega, fun x hx => by have := h2 x hx; omega⟩
  refine pspec_of (md := 1) (rf := []) mixed tabOK cpN_ok Try.func75 (by rfl) (by rfl) (by rfl) ?_
  repeat' (first | ((conv => whnf); refine And.intro ?_ ?_) | ((conv => whnf); with_reducible exact VC.mk rfl) | ((conv => whnf); exact Ok.mk) | ((conv => whnf); exact True.intro) | ((conv => whnf); refine Nx.mk ?_) | ((conv => whnf); refine Fin.mk ?_) | ((conv => whnf); intro _))
  all_goals ((try refine VC.mk ?_); (try simp only [CL.ncell, CL.cnt, Int.toNat_natCast, decide_eq_true_eq, decide_eq_false_iff_not, Bool.not_eq_true, Bool.not_false, Bool.not_true, and_self, and_true, true_and, te3b, te4b, te3s, te4s, Nat.mul_one, Nat.zero_add, List.length_cons, List.length_nil, Bool.false_eq_true, Bool.true_eq_false] at *); (try omega))
  all_goals first | (exfalso; exact absurd ‹_ = (_ : ByteArray)› (by decide)) | (with_reducible exact h10) | (exfalso; simp_all [firstOf]; done) | (refine Sup.of ?_; simp_all [resOf, firstOf, knownK, ruleV]; done)
theorem known_mag (n s0 s1 x0 x1 b0 b1 : Int) (h : stepErr n s0 s1 x0 x1 b0 b1 = 0) : PSpec Try.prog 75 [stepV n s0 s1 x0 x1 b0 b1, .str kMag] (knownK n s0 s1 x0 x1 b0 b1 139 2) := by
  obtain ⟨h1, h2⟩ := stepErr_zero h
  have h10 : (0 < n ∧ n ≤ 1000000) ∧ ∀ x ∈ [s0, s1, x0, x1, b0, b1], -4611686018427387904 ≤ x ∧ x ≤ 4611686018427387904 := ⟨by omega, fun x hx => by have := h2 x hx; omega⟩
  refine pspec_of (md := 1) (rf := []) mixed tabOK cpN_ok Try.func75 (by rfl) (by rfl) (by rfl) ?_
  repeat' (first | ((conv => whnf); refine And.intro ?_ ?_) | ((conv => whnf); with_reducible exact VC.mk rfl) | ((conv => whnf); exact Ok.mk) | ((conv => whnf); exact True.intro) | ((conv => whnf); refine Nx.mk ?_) | ((conv => whnf); refine Fin.mk ?_) | ((conv => whnf); intro _))
  all_goals ((try refine VC.mk ?_); (try simp only [CL.ncell, CL.cnt, Int.toNat_natCast, decide_eq_true_eq, decide_eq_false_iff_not, Bool.not_eq_true, Bool.not_false, Bool.not_true, and_self, and_true, true_and, te3b, te4b, te3s, te4s, Nat.mul_one, Nat.zero_add, List.length_cons, List.length_nil, Bool.false_eq_true, Bool.true_eq_false] at *); (try omega))
  all_goals first | (exfalso; exact absurd ‹_ = (_ : ByteArray)› (by decide)) | (with_reducible exact h10) | (exfalso; simp_all [firstOf]; done) | (refine Sup.of ?_; simp_all [resOf, firstOf, knownK, ruleV]; done)
theorem known_pan (n s0 s1 x0 x1 b0 b1 : Int) (h : stepErr n s0 s1 x0 x1 b0 b1 = 0) : PSpec Try.prog 75 [stepV n s0 s1 x0 x1 b0 b1, .str kPan] (knownK n s0 s1 x0 x1 b0 b1 140 3) := by
  obtain ⟨h1, h2⟩ := stepErr_zero h
  have h10 : (0 < n ∧ n ≤ 1000000) ∧ ∀ x ∈ [s0, s1, x0, x1, b0, b1], -4611686018427387904 ≤ x ∧ x ≤ 4611686018427387904 := ⟨by omega, fun x hx => by have := h2 x hx; omega⟩
  refine pspec_of (md := 1) (rf := []) mixed tabOK cpN_ok Try.func75 (by rfl) (by rfl) (by rfl) ?_
  repeat' (first | ((conv => whnf); refine And.intro ?_ ?_) | ((conv => whnf); with_reducible exact VC.mk rfl) | ((conv => whnf); exact Ok.mk) | ((conv => whnf); exact True.intro) | ((conv => whnf); refine Nx.mk ?_) | ((conv => whnf); refine Fin.mk ?_) | ((conv => whnf); intro _))
  all_goals ((try refine VC.mk ?_); (try simp only [CL.ncell, CL.cnt, Int.toNat_natCast, decide_eq_true_eq, decide_eq_false_iff_not, Bool.not_eq_true, Bool.not_false, Bool.not_true, and_self, and_true, true_and, te3b, te4b, te3s, te4s, Nat.mul_one, Nat.zero_add, List.length_cons, List.length_nil, Bool.false_eq_true, Bool.true_eq_false] at *); (try omega))
  all_goals first | (exfalso; exact absurd ‹_ = (_ : ByteArray)› (by decide)) | (with_reducible exact h10) | (exfalso; simp_all [firstOf]; done) | (refine Sup.of ?_; simp_all [resOf, firstOf, knownK, ruleV]; done)
def knownP : PSp := fun xs K => match xs with
  | [.agg [.int .i64 n, .int .i64 s0, .int .i64 s1, .int .i64 x0, .int .i64 x1, .int .i64 b0, .int .i64 b1], .str s] =>
    (stepErr n s0 s1 x0 x1 b0 b1 ≠ 0 → K (knownE (stepErr n s0 s1 x0 x1 b0 b1))) ∧ (stepErr n s0 s1 x0 x1 b0 b1 = 0 → (noKind s → K (knownE 13)) ∧ (s = kSq → K (knownK n s0 s1 x0 x1 b0 b1 137 0)) ∧ (s = kSemi → K (knownK n s0 s1 x0 x1 b0 b1 138 1)) ∧
      (s = kMag → K (knownK n s0 s1 x0 x1 b0 b1 139 2)) ∧ (s = kPan → K (knownK n s0 s1 x0 x1 b0 b1 140 3)))
  | _ => False
theorem known_ok : POK Try.prog 75 knownP := by
  intro xs K h
  unfold knownP at h
  split at h
  · rename_i n s0 s1 x0 x1 b0 b1 s
    by_cases h0 : stepErr n s0 s1 x0 x1 b0 b1 = 0
    · obtain ⟨g0, g1, g2, g3, g4⟩ := h.2 h0
      by_cases e1 : s = kSq
      · subst e1; exact ⟨_, g1 rfl, known_sq _ _ _ _ _ _ _ h0⟩
      by_cases e2 : s = kSemi
      · subst e2; exact ⟨_, g2 rfl, known_semi _ _ _ _ _ _ _ h0⟩
      by_cases e3 : s = kMag
      · subst e3; exact ⟨_, g3 rfl, known_mag _ _ _ _ _ _ _ h0⟩
      by_cases e4 : s = kPan
      · subst e4; exact ⟨_, g4 rfl, known_pan _ _ _ _ _ _ _ h0⟩
      exact ⟨_, g0 ⟨e1, e2, e3, e4⟩, known_none _ _ _ _ _ _ _ _ h0 ⟨e1, e2, e3, e4⟩⟩
    · exact ⟨_, h.1 h0, known_err _ _ _ _ _ _ _ _ h0⟩
  · exact h.elim
end Go.Eng.Ytppflbccfdbogaa
namespace Go.Eng.Ytppflbccfdbogaa
open Go.Proofs
set_option maxRecDepth 100000
set_option maxHeartbeats 0
set_option linter.unusedVariables false
set_option linter.unusedSimpArgs false
/-! Admits -/
def admB (n s0 s1 x0 x1 b0 b1 : Int) (s : ByteArray) : Bool :=
  if s = kSq then isSq n (x0 % n) (x1 % n) (b0 % n) (b1 % n) else if s = kSemi then isSemi n (x0 % n) (x1 % n) (b0 % n) (b1 % n) else if s = kMag then isMag n (s0 % n) (s1 % n) (x0 % n) (x1 % n) (b0 % n) (b1 % n)
  else isPan n (x0 % n) (x1 % n) (b0 % n) (b1 % n)
def kindErr (s : ByteArray) : Int := if s = kSq ∨ s = kSemi ∨ s = kMag ∨ s = kPan then 0 else 13
def askErr (n s0 s1 x0 x1 b0 b1 : Int) (s : ByteArray) : Int := if stepErr n s0 s1 x0 x1 b0 b1 = 0 then kindErr s else stepErr n s0 s1 x0 x1 b0 b1
def admitsV (n s0 s1 x0 x1 b0 b1 : Int) (s : ByteArray) : PV := .tup [.bp (decide (askErr n s0 s1 x0 x1 b0 b1 s = 0) && admB n s0 s1 x0 x1 b0 b1 s), .int .i64 (askErr n s0 s1 x0 x1 b0 b1 s)]
noncomputable def cpA : CPT := cpAdd 75 (pureCC knownP) (cpAdd 137 (pureCC squareP) (cpAdd 138 (pureCC semiP) (cpAdd 139 (pureCC magP) (cpAdd 140 (pureCC panP) noC))))
theorem cpA_ok : CPOK Try.prog cpA := cpAdd_ok (pureCC_ok known_ok) (cpAdd_ok (pureCC_ok square_ok) (cpAdd_ok (pureCC_ok semi_ok) (cpAdd_ok (pureCC_ok mag_ok) (cpAdd_ok (pureCC_ok pan_ok) noC_ok))))
theorem admits_spec (n s0 s1 x0 x1 b0 b1 : Int) (s : ByteArray) : PSpec Try.prog 17 [stepV n s0 s1 x0 x1 b0 b1, .str s] (admitsV n s0 s1 x0 x1 b0 b1 s) := by
  have hz := @stepErr_zero n s0 s1 x0 x1 b0 b1
  have he := fun h => @emod_all n h s0 s1 x0 x1 b0 b1
  refine pspec_of (md := 1) (rf := []) mixed tabOK cpA_ok Try.func17 (by rfl) (by rfl) (by rfl) ?_
  repeat' (first | ((conv => whnf); refine And.intro ?_ ?_) | ((conv => whnf); with_reducible exact VC.mk rfl) | ((conv => whnf); exact Ok.mk) | ((conv => whnf); exact True.intro) | ((conv => whnf); refine Nx.mk ?_) | ((conv => whnf); refine Fin.mk ?_) | ((conv => whnf); intro _))
  all_goals ((try refine VC.mk ?_); (try simp only [CL.ncell, CL.cnt, Int.toNat_natCast, decide_eq_true_eq, decide_eq_false_iff_not, Bool.not_eq_true, Bool.not_false, Bool.not_true, and_self, and_true, true_and, te3b, te4b, te3s, te4s, Nat.mul_one, Nat.zero_add, List.length_cons, List.length_nil, Bool.false_eq_true, Bool.true_eq_false] at *); (try omega))
  all_goals first | (with_reducible exact ⟨(hz ‹_›).1, he (hz ‹_›).1.1⟩) | skip
  all_goals (refine Sup.via ?_; unfold admitsV; repeat' (first | ((conv => whnf); refine And.intro ?_ ?_) | ((conv => whnf); with_reducible exact VC.mk rfl) | ((conv => whnf); exact Ok.mk) | ((conv => whnf); exact True.intro) | ((conv => whnf); refine Nx.mk ?_) | ((conv => whnf); refine Fin.mk ?_) | ((conv => whnf); intro _)))
  all_goals refine VC.mk ?_
  all_goals simp_all [askErr, kindErr, admB, noKind]
def admitsP : PSp := fun xs K => match xs with
  | [.agg [.int .i64 n, .int .i64 s0, .int .i64 s1, .int .i64 x0, .int .i64 x1, .int .i64 b0, .int .i64 b1], .str s] => VC (True) ∧ K (admitsV n s0 s1 x0 x1 b0 b1 s)
  | _ => False
theorem admits_ok : POK Try.prog 17 admitsP := by
  intro xs K h
  unfold admitsP at h
  split at h
  · exact ⟨_, h.2, admits_spec _ _ _ _ _ _ _ _⟩
  · exact h.elim
end Go.Eng.Ytppflbccfdbogaa
namespace Go.Eng.Ytppflbccfdbogaa
open Go.Proofs
set_option maxRecDepth 100000
set_option maxHeartbeats 0
set_option linter.unusedVariables false
set_option linter.unusedSimpArgs false
theorem sum_ok : POK Try.prog 78 sumP := by
  intro xs K h
  unfold sumP at h
  split at h
  · exact ⟨_, h.2, sum_spec _ _ _ _ h.1.get.1 h.1.get.2.1 h.1.get.2.2⟩
  · exact h.elim
theorem sumAt_bd (cs l : List Int) (hc : ∀ c ∈ l, 0 ≤ cs.getD c.toNat 0 ∧ cs.getD c.toNat 0 ≤ 1000) : ∀ i, i ≤ l.length → 0 ≤ sumAt cs l i ∧ sumAt cs l i ≤ 1000 * i := by
  intro i
  induction i with
  | zero => intro _; simp [sumAt]
  | succ i ih =>
    intro hi
    have := ih (by omega)
    have h2 := hc (l.getD i 0) (by rw [List.getD_eq_getElem?_getD, List.getElem?_eq_getElem (by omega)]; exact List.getElem_mem _)
    rw [sumAt_succ cs l i (by omega)]
    omega
theorem rowL_len (n i m : Nat) : (rowL n i m).length = m := by simp [rowL]
theorem colL_len (n : Nat) (h : Nat → Int) (m : Nat) : (colL n h m).length = m := by simp [colL]
theorem lineAt_len (n i : Nat) : (lineAt n i).length = n := by
  unfold lineAt
  repeat' split
  all_goals simp [rowL, colL]
theorem mul_lt_sq {n i : Nat} {j : Int} (hi : i < n) (hj : 0 ≤ j ∧ j < n) : 0 ≤ (n : Int) * i + j ∧ (n : Int) * i + j < (n : Int) * n := by
  have h1 := Int.mul_le_mul_of_nonneg_left (show (i : Int) + 1 ≤ n by omega) (show 0 ≤ (n : Int) by omega)
  have h2 := Int.mul_nonneg (show 0 ≤ (n : Int) by omega) (show 0 ≤ (i : Int) by omega)
  rw [Int.mul_add] at h1
  omega
theorem colL_mem {n : Nat} {h : Nat → Int} (c : Int) (hc : c ∈ colL n h n) : 0 ≤ c ∧ c < (n : Int) * n := by
  unfold colL at hc
  obtain ⟨i, hi, rfl⟩ := List.mem_map.1 hc
  have hi := List.mem_range.1 hi
  exact mul_lt_sq hi ⟨Int.emod_nonneg _ (by omega), Int.emod_lt_of_pos _ (by omega)⟩
theorem lineAt_mem {n i : Nat} (c : Int) (hc : c ∈ lineAt n i) : 0 ≤ c ∧ c < (n : Int) * n := by
  unfold lineAt at hc
  split at hc
  · rename_i hlt
    unfold rowL at hc
    obtain ⟨j, hj, rfl⟩ := List.mem_map.1 hc
    have hj := List.mem_range.1 hj
    exact mul_lt_sq hlt ⟨by omega, by omega⟩
  · repeat' (split at hc)
    all_goals exact colL_mem c hc
theorem linesV_get {n : Nat} {g : Int} {i : Nat} {x : PV} (h : (linesV n g)[i]? = some x) : i < lineCnt n g ∧ x = .isl (.ints .i64 (lineAt n i)) .none := by
  unfold linesV at h
  rw [List.getElem?_map] at h
  cases hr : (List.range (lineCnt n g))[i]? with
  | none => rw [hr] at h; simp at h
  | some j =>
    rw [hr] at h
    obtain ⟨h1, h2⟩ := List.getElem?_eq_some_iff.1 hr
    simp at h1 h2
    subst h2
    simp at h
    exact ⟨h1, h.symm⟩
theorem linesV_len (n : Nat) (g : Int) : (linesV n g).length = lineCnt n g := by simp [linesV]
/-- the sum of a line -/
def lineSum (n : Nat) (l : List Int) (i : Nat) : Int := sumAt l (lineAt n i) n
def lineOk (n : Nat) (l : List Int) (i : Nat) : Bool := decide (lineSum n l i = constOf n)
def linesOk (n : Nat) (g : Int) (l : List Int) : Bool := (List.range (lineCnt n g)).all (lineOk n l)
noncomputable def cpQ : CPT := cpAdd 77 (pureCC linesP) (cpAdd 78 (pureCC sumP) (cpAdd 79 (pureCC constantP) noC))
theorem cpQ_ok : CPOK Try.prog cpQ := cpAdd_ok (pureCC_ok lines_ok) (cpAdd_ok (pureCC_ok sum_ok) (cpAdd_ok (pureCC_ok constant_ok) noC_ok))
theorem isMagic_spec (n : Nat) (c : Int) (l : List Int) (hn : 1 ≤ n ∧ n ≤ 16) (hl : (l.length : Int) = (n : Int) * n) (hv : ∀ x ∈ l, 0 ≤ x ∧ x ≤ 1000) : PSpec Try.prog 89 [gridV n c l] (.bp (linesOk n 2 l)) := by
  have hg : ∀ k : Int, 0 ≤ k → k < (n : Int) * n → 0 ≤ l.getD k.toNat 0 ∧ l.getD k.toNat 0 ≤ 1000 := fun k h1 h2 => by
    rw [List.getD_eq_getElem?_getD, List.getElem?_eq_getElem (by omega)]; exact hv _ (List.getElem_mem _)
  refine pspec_of (md := 1) (rf := []) mixed tabOK cpQ_ok Try.func89 (by rfl) (by rfl) (by rfl) ?_
  repeat' (first | ((conv => whnf); refine And.intro ?_ ?_) | ((conv => whnf); with_reducible exact VC.mk rfl) | ((conv => whnf); exact Ok.mk) | ((conv => whnf); exact True.intro) | ((conv => whnf); refine Nx.mk ?_) | ((conv => whnf); refine Fin.mk ?_) | ((conv => whnf); intro _))
  all_goals ((try refine VC.mk ?_); (try simp only [CL.ncell, CL.cnt, Int.toNat_natCast, decide_eq_true_eq, decide_eq_false_iff_not, Bool.not_eq_true, Bool.not_false, Bool.not_true, and_self, and_true, true_and, te3b, te4b, te3s, te4s, Nat.mul_one, Nat.zero_add, List.length_cons, List.length_nil, Bool.false_eq_true, Bool.true_eq_false] at *); (try omega))
  conv => whnf
  refine range_of anyB_ok mixed tabOK cpQ_ok (fun r => noY_ok) (fs := []) (cs := [.ip (.pv [.int .i64 (n : Int)]) 0, .ip (.pv [.int .i64 2]) 0]) (linesV n 2) (lineOk n l) (fun _ => []) (by rfl) (by rfl) (by rfl) (c117_spec n hn 2) (by rfl) (by rfl) (by rfl) (by rfl) ?_ ?_ ?_
  · repeat' (first | ((conv => whnf); refine And.intro ?_ ?_) | ((conv => whnf); with_reducible exact VC.mk rfl) | ((conv => whnf); exact Ok.mk) | ((conv => whnf); exact True.intro) | ((conv => whnf); refine Nx.mk ?_) | ((conv => whnf); refine Fin.mk ?_) | ((conv => whnf); intro _))
    all_goals ((try refine VC.mk ?_); (try simp only [CL.ncell, CL.cnt, Int.toNat_natCast, decide_eq_true_eq, decide_eq_false_iff_not, Bool.not_eq_true, Bool.not_false, Bool.not_true, and_self, and_true, true_and, te3b, te4b, te3s, te4s, Nat.mul_one, Nat.zero_add, List.length_cons, List.length_nil, Bool.false_eq_true, Bool.true_eq_false] at *); (try omega))
  · intro hall
    repeat' (first | ((conv => whnf); refine And.intro ?_ ?_) | ((conv => whnf); with_reducible exact VC.mk rfl) | ((conv => whnf); exact Ok.mk) | ((conv => whnf); exact True.intro) | ((conv => whnf); refine Nx.mk ?_) | ((conv => whnf); refine Fin.mk ?_) | ((conv => whnf); intro _))
    all_goals ((try refine VC.mk ?_); (try simp only [CL.ncell, CL.cnt, Int.toNat_natCast, decide_eq_true_eq, decide_eq_false_iff_not, Bool.not_eq_true, Bool.not_false, Bool.not_true, and_self, and_true, true_and, te3b, te4b, te3s, te4s, Nat.mul_one, Nat.zero_add, List.length_cons, List.length_nil, Bool.false_eq_true, Bool.true_eq_false] at *); (try omega))
    rw [show linesOk n 2 l = true from all_true (fun j hj => hall j (by rw [linesV_len]; exact hj))]
    all_goals (first | (refine Sup.of ?_; first | rfl | (simp [*, resOf]; done)) | (refine Sup.via ?_; repeat' (first | ((conv => whnf); refine And.intro ?_ ?_) | ((conv => whnf); with_reducible exact VC.mk rfl) | ((conv => whnf); exact Ok.mk) | ((conv => whnf); exact True.intro) | ((conv => whnf); refine Nx.mk ?_) | ((conv => whnf); refine Fin.mk ?_) | ((conv => whnf); intro _)); all_goals ((try refine VC.mk ?_); (try simp only [CL.ncell, CL.cnt, Int.toNat_natCast, decide_eq_true_eq, decide_eq_false_iff_not, Bool.not_eq_true, Bool.not_false, Bool.not_true, and_self, and_true, true_and, te3b, te4b, te3s, te4s, Nat.mul_one, Nat.zero_add, List.length_cons, List.length_nil, Bool.false_eq_true, Bool.true_eq_false] at *); (try omega)); all_goals (try (simp [CL.sub]; done))))
  · intro i x hx hall lp
    obtain ⟨h1, rfl⟩ := linesV_get hx
    have hm := fun c hc => lineAt_mem (n := n) (i := i) c hc
    have hb := sumAt_bd l (lineAt n i) (fun c hc => hg c (hm c hc).1 (hm c hc).2)
    have hbad : sumAt l (lineAt n i) (lineAt n i).length ≠ constOf n → lineOk n l i = false := fun h => by
      rw [lineAt_len] at h; unfold lineOk lineSum; simpa using h
    have hgood : ¬ sumAt l (lineAt n i) (lineAt n i).length ≠ constOf n → lineOk n l i = true := fun h => by
      rw [lineAt_len] at h; unfold lineOk lineSum; simpa using h
    repeat' (first | ((conv => whnf); refine And.intro ?_ ?_) | ((conv => whnf); with_reducible exact VC.mk rfl) | ((conv => whnf); exact Ok.mk) | ((conv => whnf); exact True.intro) | ((conv => whnf); refine Nx.mk ?_) | ((conv => whnf); refine Fin.mk ?_) | ((conv => whnf); intro _))
    all_goals ((try refine VC.mk ?_); (try simp only [CL.ncell, CL.cnt, Int.toNat_natCast, decide_eq_true_eq, decide_eq_false_iff_not, Bool.not_eq_true, Bool.not_false, Bool.not_true, and_self, and_true, true_and, te3b, te4b, te3s, te4s, Nat.mul_one, Nat.zero_add, List.length_cons, List.length_nil, Bool.false_eq_true, Bool.true_eq_false] at *); (try omega))
    · refine ⟨fun c hc => by have := hm c hc; omega, by rw [lineAt_len]; omega, fun j hj => ?_⟩
      have := hb j hj
      rw [lineAt_len] at hj
      omega
    · exact hbad ‹_›
    · rw [show linesOk n 2 l = false from all_false h1 (hbad ‹_›)]
      all_goals (first | (refine Sup.of ?_; first | rfl | (simp [*, resOf]; done)) | (refine Sup.via ?_; repeat' (first | ((conv => whnf); refine And.intro ?_ ?_) | ((conv => whnf); with_reducible exact VC.mk rfl) | ((conv => whnf); exact Ok.mk) | ((conv => whnf); exact True.intro) | ((conv => whnf); refine Nx.mk ?_) | ((conv => whnf); refine Fin.mk ?_) | ((conv => whnf); intro _)); all_goals ((try refine VC.mk ?_); (try simp only [CL.ncell, CL.cnt, Int.toNat_natCast, decide_eq_true_eq, decide_eq_false_iff_not, Bool.not_eq_true, Bool.not_false, Bool.not_true, and_self, and_true, true_and, te3b, te4b, te3s, te4s, Nat.mul_one, Nat.zero_add, List.length_cons, List.length_nil, Bool.false_eq_true, Bool.true_eq_false] at *); (try omega)); all_goals (try (simp [CL.sub]; done))))
    · refine ⟨[], hgood ‹_›, ?_⟩
      repeat' (first | ((conv => whnf); refine And.intro ?_ ?_) | ((conv => whnf); with_reducible exact VC.mk rfl) | ((conv => whnf); exact Ok.mk) | ((conv => whnf); exact True.intro) | ((conv => whnf); refine Nx.mk ?_) | ((conv => whnf); refine Fin.mk ?_) | ((conv => whnf); intro _))
      all_goals ((try refine VC.mk ?_); (try simp only [CL.ncell, CL.cnt, Int.toNat_natCast, decide_eq_true_eq, decide_eq_false_iff_not, Bool.not_eq_true, Bool.not_false, Bool.not_true, and_self, and_true, true_and, te3b, te4b, te3s, te4s, Nat.mul_one, Nat.zero_add, List.length_cons, List.length_nil, Bool.false_eq_true, Bool.true_eq_false] at *); (try omega))
def isMagicP : PSp := fun xs K => match xs with
  | [.agg [.int .i64 n, .int .i64 c, .isl (.ints .i64 l) .none]] => VC ((1 ≤ n ∧ n ≤ 16) ∧ (l.length : Int) = n * n ∧ ∀ x ∈ l, 0 ≤ x ∧ x ≤ 1000) ∧ K (.bp (linesOk n.toNat 2 l))
  | _ => False
theorem isMagic_ok : POK Try.prog 89 isMagicP := by
  intro xs K h
  unfold isMagicP at h
  split at h
  · rename_i n c l
    obtain ⟨⟨h1, h2, h3⟩, hK⟩ := h
    obtain ⟨m, rfl⟩ : ∃ m : Nat, n = m := ⟨n.toNat, by omega⟩
    simp only [Int.toNat_natCast] at hK
    exact ⟨_, hK, isMagic_spec m c l (by omega) h2 h3⟩
  · exact h.elim
end Go.Eng.Ytppflbccfdbogaa
namespace Go.Eng.Ytppflbccfdbogaa
open Go.Proofs
set_option maxRecDepth 100000
set_option maxHeartbeats 0
set_option linter.unusedVariables false
set_option linter.unusedSimpArgs false
abbrev refV (k : ByteArray) (a b : Int) (l : List Int) (s : Int) : PV := .agg [.str k, .int .i64 a, .int .i64 b, .isl (.ints .i64 l) .none, .int .i64 s]
abbrev kMeet : ByteArray := ⟨#[109, 101, 101, 116]⟩
abbrev kSum : ByteArray := ⟨#[115, 117, 109]⟩
abbrev kNo : ByteArray := ⟨#[]⟩
/-- the first line of the first groups whose sum is wrong -/
def badLine (n : Nat) (g : Int) (l : List Int) : Option Nat := (List.range (lineCnt n g)).find? (fun i => !lineOk n l i)
/-- the first refusal -/
def refuseV (n : Nat) (c : Nat → Nat) (g : Int) : PV := match meetOf c (n * n) with
  | some y => .tup [refV kMeet ((gAt c (n * n) y).getD (c y) 0) ((y : Int) + 1) [] 0, .int .i64 0]
  | none => match badLine n g (gAt c (n * n) (n * n)) with
    | some i => .tup [refV kSum 0 0 (lineAt n i) (lineSum n (gAt c (n * n) (n * n)) i), .int .i64 0]
    | none => .tup [refV kNo 0 0 [] 0, .int .i64 7]
theorem gAt_le (c : Nat → Nat) (N : Nat) : ∀ x, ∀ v ∈ gAt c N x, v ≤ x := by
  intro x
  induction x with
  | zero => intro v hv; rw [gAt_zero] at hv; have := List.eq_of_mem_replicate hv; omega
  | succ x ih =>
    intro v hv
    rw [gAt_succ] at hv
    rcases List.mem_or_eq_of_mem_set hv with h | h
    · have := ih v h; omega
    · omega
noncomputable def cpR : CPT := cpAdd 75 (pureCC knownP) (cpAdd 76 (pureCC layP) cpQ)
theorem cpR_ok : CPOK Try.prog cpR := cpAdd_ok (pureCC_ok known_ok) (cpAdd_ok (pureCC_ok lay_ok) cpQ_ok)
/-- one kind -/
theorem refuse_kind (n : Nat) (s0 s1 x0 x1 b0 b1 : Int) (s : ByteArray) (f : Nat) (g : Int) (hz : stepErr n s0 s1 x0 x1 b0 b1 = 0)
    (hk : PSpec Try.prog 75 [stepV n s0 s1 x0 x1 b0 b1, .str s] (knownK n s0 s1 x0 x1 b0 b1 f g)) :
    PSpec Try.prog 18 [stepV n s0 s1 x0 x1 b0 b1, .str s] (refuseV n (cellS n s0 s1 x0 x1 b0 b1) g) := by
  obtain ⟨h1, h2⟩ := stepErr_zero hz
  have h3 := emod_all h1.1 s0 s1 x0 x1 b0 b1
  have hC : CPOK Try.prog (cpAdd 75 (pureCC fun xs K => match xs with
      | [.agg [.int .i64 a0, .int .i64 a1, .int .i64 a2, .int .i64 a3, .int .i64 a4, .int .i64 a5, .int .i64 a6], .str t] => VC (a0 = n ∧ a1 = s0 ∧ a2 = s1 ∧ a3 = x0 ∧ a4 = x1 ∧ a5 = b0 ∧ a6 = b1 ∧ t = s) ∧ K (knownK n s0 s1 x0 x1 b0 b1 f g)
      | _ => False) (cpAdd 76 (pureCC layP) cpQ)) := cpAdd_ok (pureCC_ok fun xs K h => by
    split at h
    · obtain ⟨⟨rfl, rfl, rfl, rfl, rfl, rfl, rfl, rfl⟩, hK⟩ := h
      exact ⟨_, hK, hk⟩
    · exact h.elim) (cpAdd_ok (pureCC_ok lay_ok) cpQ_ok)
  have eN : ((n : Int) * n).toNat = n * n := by rw [← Int.natCast_mul, Int.toNat_natCast]
  obtain ⟨c, hc⟩ : ∃ c, c = cellS n s0 s1 x0 x1 b0 b1 := ⟨_, rfl⟩
  have hc' : cellN n (s0 % n) (s1 % n) (x0 % n) (x1 % n) (b0 % n) (b1 % n) = c := hc.symm
  cases hm : meetOf c (n * n) with
  | some y =>
    rw [← hc]
    unfold refuseV
    rw [hm]
    refine pspec_of (md := 1) (rf := []) mixed tabOK hC Try.func18 (by rfl) (by rfl) (by rfl) ?_
    repeat' (first | ((conv => whnf); refine And.intro ?_ ?_) | ((conv => whnf); with_reducible exact VC.mk rfl) | ((conv => whnf); exact Ok.mk) | ((conv => whnf); exact True.intro) | ((conv => whnf); refine Nx.mk ?_) | ((conv => whnf); refine Fin.mk ?_) | ((conv => whnf); intro _))
    all_goals ((try refine VC.mk ?_); (try simp only [CL.ncell, CL.cnt, Int.toNat_natCast, decide_eq_true_eq, decide_eq_false_iff_not, Bool.not_eq_true, Bool.not_false, Bool.not_true, and_self, and_true, true_and, te3b, te4b, te3s, te4s, Nat.mul_one, Nat.zero_add, List.length_cons, List.length_nil, Bool.false_eq_true, Bool.true_eq_false] at *); (try omega))
    · exact ⟨by omega, h3⟩
    · simp only [layV, hc', eN, hm]
      repeat' (first | ((conv => whnf); refine And.intro ?_ ?_) | ((conv => whnf); with_reducible exact VC.mk rfl) | ((conv => whnf); exact Ok.mk) | ((conv => whnf); exact True.intro) | ((conv => whnf); refine Nx.mk ?_) | ((conv => whnf); refine Fin.mk ?_) | ((conv => whnf); intro _))
      all_goals ((try refine VC.mk ?_); (try simp only [CL.ncell, CL.cnt, Int.toNat_natCast, decide_eq_true_eq, decide_eq_false_iff_not, Bool.not_eq_true, Bool.not_false, Bool.not_true, and_self, and_true, true_and, te3b, te4b, te3s, te4s, Nat.mul_one, Nat.zero_add, List.length_cons, List.length_nil, Bool.false_eq_true, Bool.true_eq_false] at *); (try omega))
      all_goals (refine Sup.via ?_; repeat' (first | ((conv => whnf); refine And.intro ?_ ?_) | ((conv => whnf); with_reducible exact VC.mk rfl) | ((conv => whnf); exact Ok.mk) | ((conv => whnf); exact True.intro) | ((conv => whnf); refine Nx.mk ?_) | ((conv => whnf); refine Fin.mk ?_) | ((conv => whnf); intro _)); all_goals ((try refine VC.mk ?_); (try simp only [CL.ncell, CL.cnt, Int.toNat_natCast, decide_eq_true_eq, decide_eq_false_iff_not, Bool.not_eq_true, Bool.not_false, Bool.not_true, and_self, and_true, true_and, te3b, te4b, te3s, te4s, Nat.mul_one, Nat.zero_add, List.length_cons, List.length_nil, Bool.false_eq_true, Bool.true_eq_false] at *); (try omega)); all_goals (try (simp [CL.sub]; done)))
  | none =>
    obtain ⟨l, hl⟩ : ∃ l, l = gAt c (n * n) (n * n) := ⟨_, rfl⟩
    have hnn := mul_bd (show 0 ≤ (n : Int) ∧ (n : Int) ≤ 16 by omega) (show 0 ≤ (n : Int) ∧ (n : Int) ≤ 16 by omega)
    have hlen : (l.length : Int) = (n : Int) * n := by rw [hl, gAt_len, Int.natCast_mul]
    have hg : ∀ k : Int, 0 ≤ k → k < (n : Int) * n → 0 ≤ l.getD k.toNat 0 ∧ l.getD k.toNat 0 ≤ 1000 := fun k q1 q2 => by
      rw [List.getD_eq_getElem?_getD, List.getElem?_eq_getElem (by omega)]
      have hm := List.getElem_mem (l := l) (n := k.toNat) (by omega)
      have a := gAt_nonneg c (n * n) (n * n) _ (by rw [← hl]; exact hm)
      have b := gAt_le c (n * n) (n * n) _ (by rw [← hl]; exact hm)
      rw [Int.natCast_mul] at b
      simp only [Option.getD_some]; omega
    rw [← hc]
    unfold refuseV
    rw [hm, ← hl]
    refine pspec_of (md := 1) (rf := []) mixed tabOK hC Try.func18 (by rfl) (by rfl) (by rfl) ?_
    repeat' (first | ((conv => whnf); refine And.intro ?_ ?_) | ((conv => whnf); with_reducible exact VC.mk rfl) | ((conv => whnf); exact Ok.mk) | ((conv => whnf); exact True.intro) | ((conv => whnf); refine Nx.mk ?_) | ((conv => whnf); refine Fin.mk ?_) | ((conv => whnf); intro _))
    all_goals ((try refine VC.mk ?_); (try simp only [CL.ncell, CL.cnt, Int.toNat_natCast, decide_eq_true_eq, decide_eq_false_iff_not, Bool.not_eq_true, Bool.not_false, Bool.not_true, and_self, and_true, true_and, te3b, te4b, te3s, te4s, Nat.mul_one, Nat.zero_add, List.length_cons, List.length_nil, Bool.false_eq_true, Bool.true_eq_false] at *); (try omega))
    · exact ⟨by omega, h3⟩
    simp only [layV, hc', eN, hm, ← hl]
    repeat' (first | ((conv => whnf); refine And.intro ?_ ?_) | ((conv => whnf); with_reducible exact VC.mk rfl) | ((conv => whnf); exact Ok.mk) | ((conv => whnf); exact True.intro) | ((conv => whnf); refine Nx.mk ?_) | ((conv => whnf); refine Fin.mk ?_) | ((conv => whnf); intro _))
    all_goals ((try refine VC.mk ?_); (try simp only [CL.ncell, CL.cnt, Int.toNat_natCast, decide_eq_true_eq, decide_eq_false_iff_not, Bool.not_eq_true, Bool.not_false, Bool.not_true, and_self, and_true, true_and, te3b, te4b, te3s, te4s, Nat.mul_one, Nat.zero_add, List.length_cons, List.length_nil, Bool.false_eq_true, Bool.true_eq_false] at *); (try omega))
    conv => whnf
    refine range_of anyB_ok mixed tabOK hC (fun r => noY_ok) (fs := []) (cs := [.ip (.pv [.int .i64 (n : Int)]) 0, .ip (.pv [.int .i64 g]) 0]) (linesV n g) (lineOk n l) (fun _ => []) (by rfl) (by rfl) (by rfl) (c117_spec n (by omega) g) (by rfl) (by rfl) (by rfl) (by rfl) ?_ ?_ ?_
    · repeat' (first | ((conv => whnf); refine And.intro ?_ ?_) | ((conv => whnf); with_reducible exact VC.mk rfl) | ((conv => whnf); exact Ok.mk) | ((conv => whnf); exact True.intro) | ((conv => whnf); refine Nx.mk ?_) | ((conv => whnf); refine Fin.mk ?_) | ((conv => whnf); intro _))
      all_goals ((try refine VC.mk ?_); (try simp only [CL.ncell, CL.cnt, Int.toNat_natCast, decide_eq_true_eq, decide_eq_false_iff_not, Bool.not_eq_true, Bool.not_false, Bool.not_true, and_self, and_true, true_and, te3b, te4b, te3s, te4s, Nat.mul_one, Nat.zero_add, List.length_cons, List.length_nil, Bool.false_eq_true, Bool.true_eq_false] at *); (try omega))
    · intro hall
      rw [show badLine n g l = none from find_none (fun j hj => by rw [hall j (by rw [linesV_len]; exact hj)]; rfl)]
      repeat' (first | ((conv => whnf); refine And.intro ?_ ?_) | ((conv => whnf); with_reducible exact VC.mk rfl) | ((conv => whnf); exact Ok.mk) | ((conv => whnf); exact True.intro) | ((conv => whnf); refine Nx.mk ?_) | ((conv => whnf); refine Fin.mk ?_) | ((conv => whnf); intro _))
      all_goals ((try refine VC.mk ?_); (try simp only [CL.ncell, CL.cnt, Int.toNat_natCast, decide_eq_true_eq, decide_eq_false_iff_not, Bool.not_eq_true, Bool.not_false, Bool.not_true, and_self, and_true, true_and, te3b, te4b, te3s, te4s, Nat.mul_one, Nat.zero_add, List.length_cons, List.length_nil, Bool.false_eq_true, Bool.true_eq_false] at *); (try omega))
      all_goals (first | (refine Sup.of ?_; first | rfl | (simp [*, resOf]; done)) | (refine Sup.via ?_; repeat' (first | ((conv => whnf); refine And.intro ?_ ?_) | ((conv => whnf); with_reducible exact VC.mk rfl) | ((conv => whnf); exact Ok.mk) | ((conv => whnf); exact True.intro) | ((conv => whnf); refine Nx.mk ?_) | ((conv => whnf); refine Fin.mk ?_) | ((conv => whnf); intro _)); all_goals ((try refine VC.mk ?_); (try simp only [CL.ncell, CL.cnt, Int.toNat_natCast, decide_eq_true_eq, decide_eq_false_iff_not, Bool.not_eq_true, Bool.not_false, Bool.not_true, and_self, and_true, true_and, te3b, te4b, te3s, te4s, Nat.mul_one, Nat.zero_add, List.length_cons, List.length_nil, Bool.false_eq_true, Bool.true_eq_false] at *); (try omega)); all_goals (try (simp [CL.sub]; done))))
    · intro i x hx hall lp
      obtain ⟨q1, rfl⟩ := linesV_get hx
      have hmm := fun c hc => lineAt_mem (n := n) (i := i) c hc
      have hb := sumAt_bd l (lineAt n i) (fun c hc => hg c (hmm c hc).1 (hmm c hc).2)
      have hbad : sumAt l (lineAt n i) (lineAt n i).length ≠ constOf n → lineOk n l i = false := fun h => by
        rw [lineAt_len] at h; unfold lineOk lineSum; simpa using h
      have hgood : ¬ sumAt l (lineAt n i) (lineAt n i).length ≠ constOf n → lineOk n l i = true := fun h => by
        rw [lineAt_len] at h; unfold lineOk lineSum; simpa using h
      repeat' (first | ((conv => whnf); refine And.intro ?_ ?_) | ((conv => whnf); with_reducible exact VC.mk rfl) | ((conv => whnf); exact Ok.mk) | ((conv => whnf); exact True.intro) | ((conv => whnf); refine Nx.mk ?_) | ((conv => whnf); refine Fin.mk ?_) | ((conv => whnf); intro _))
      all_goals ((try refine VC.mk ?_); (try simp only [CL.ncell, CL.cnt, Int.toNat_natCast, decide_eq_true_eq, decide_eq_false_iff_not, Bool.not_eq_true, Bool.not_false, Bool.not_true, and_self, and_true, true_and, te3b, te4b, te3s, te4s, Nat.mul_one, Nat.zero_add, List.length_cons, List.length_nil, Bool.false_eq_true, Bool.true_eq_false] at *); (try omega))
      · refine ⟨fun c hc => by have := hmm c hc; omega, by rw [lineAt_len]; omega, fun j hj => ?_⟩
        have := hb j hj
        rw [lineAt_len] at hj
        omega
      · exact hbad ‹_›
      · rw [show badLine n g l = some i from find_some q1 (by rw [hbad ‹_›]; rfl) (fun j hj => by rw [hall j hj]; rfl)]
        refine Sup.via ?_
        repeat' (first | ((conv => whnf); refine And.intro ?_ ?_) | ((conv => whnf); with_reducible exact VC.mk rfl) | ((conv => whnf); exact Ok.mk) | ((conv => whnf); exact True.intro) | ((conv => whnf); refine Nx.mk ?_) | ((conv => whnf); refine Fin.mk ?_) | ((conv => whnf); intro _))
        all_goals ((try refine VC.mk ?_); (try simp only [CL.ncell, CL.cnt, Int.toNat_natCast, decide_eq_true_eq, decide_eq_false_iff_not, Bool.not_eq_true, Bool.not_false, Bool.not_true, and_self, and_true, true_and, te3b, te4b, te3s, te4s, Nat.mul_one, Nat.zero_add, List.length_cons, List.length_nil, Bool.false_eq_true, Bool.true_eq_false] at *); (try omega))
        all_goals (try (unfold lineSum; rw [lineAt_len]))
      · refine ⟨[], hgood ‹_›, ?_⟩
        repeat' (first | ((conv => whnf); refine And.intro ?_ ?_) | ((conv => whnf); with_reducible exact VC.mk rfl) | ((conv => whnf); exact Ok.mk) | ((conv => whnf); exact True.intro) | ((conv => whnf); refine Nx.mk ?_) | ((conv => whnf); refine Fin.mk ?_) | ((conv => whnf); intro _))
        all_goals ((try refine VC.mk ?_); (try simp only [CL.ncell, CL.cnt, Int.toNat_natCast, decide_eq_true_eq, decide_eq_false_iff_not, Bool.not_eq_true, Bool.not_false, Bool.not_true, and_self, and_true, true_and, te3b, te4b, te3s, te4s, Nat.mul_one, Nat.zero_add, List.length_cons, List.length_nil, Bool.false_eq_true, Bool.true_eq_false] at *); (try omega))
theorem refuse_err (n s0 s1 x0 x1 b0 b1 : Int) (s : ByteArray) (e : Int) (he : e ≠ 0) (hk : PSpec Try.prog 75 [stepV n s0 s1 x0 x1 b0 b1, .str s] (knownE e)) : PSpec Try.prog 18 [stepV n s0 s1 x0 x1 b0 b1, .str s] (.tup [refV kNo 0 0 [] 0, .int .i64 e]) := by
  have hC : CPOK Try.prog (cpAdd 75 (pureCC fun xs K => match xs with
      | [.agg [.int .i64 a0, .int .i64 a1, .int .i64 a2, .int .i64 a3, .int .i64 a4, .int .i64 a5, .int .i64 a6], .str t] => VC (a0 = n ∧ a1 = s0 ∧ a2 = s1 ∧ a3 = x0 ∧ a4 = x1 ∧ a5 = b0 ∧ a6 = b1 ∧ t = s) ∧ K (knownE e)
      | _ => False) noC) := cpAdd_ok (pureCC_ok fun xs K h => by
    split at h
    · obtain ⟨⟨rfl, rfl, rfl, rfl, rfl, rfl, rfl, rfl⟩, hK⟩ := h
      exact ⟨_, hK, hk⟩
    · exact h.elim) noC_ok
  refine pspec_of (md := 1) (rf := []) mixed tabOK hC Try.func18 (by rfl) (by rfl) (by rfl) ?_
  repeat' (first | ((conv => whnf); refine And.intro ?_ ?_) | ((conv => whnf); with_reducible exact VC.mk rfl) | ((conv => whnf); exact Ok.mk) | ((conv => whnf); exact True.intro) | ((conv => whnf); refine Nx.mk ?_) | ((conv => whnf); refine Fin.mk ?_) | ((conv => whnf); intro _))
  all_goals ((try refine VC.mk ?_); (try simp only [CL.ncell, CL.cnt, Int.toNat_natCast, decide_eq_true_eq, decide_eq_false_iff_not, Bool.not_eq_true, Bool.not_false, Bool.not_true, and_self, and_true, true_and, te3b, te4b, te3s, te4s, Nat.mul_one, Nat.zero_add, List.length_cons, List.length_nil, Bool.false_eq_true, Bool.true_eq_false] at *); (try omega))
  · all_goals (refine Sup.via ?_; repeat' (first | ((conv => whnf); refine And.intro ?_ ?_) | ((conv => whnf); with_reducible exact VC.mk rfl) | ((conv => whnf); exact Ok.mk) | ((conv => whnf); exact True.intro) | ((conv => whnf); refine Nx.mk ?_) | ((conv => whnf); refine Fin.mk ?_) | ((conv => whnf); intro _)); all_goals ((try refine VC.mk ?_); (try simp only [CL.ncell, CL.cnt, Int.toNat_natCast, decide_eq_true_eq, decide_eq_false_iff_not, Bool.not_eq_true, Bool.not_false, Bool.not_true, and_self, and_true, true_and, te3b, te4b, te3s, te4s, Nat.mul_one, Nat.zero_add, List.length_cons, List.length_nil, Bool.false_eq_true, Bool.true_eq_false] at *); (try omega)); all_goals (try (simp [CL.sub]; done)))
  all_goals (exfalso; simp_all)
/-- what Refuse returns -/
def refuseAll (n s0 s1 x0 x1 b0 b1 : Int) (s : ByteArray) : PV :=
  if askErr n s0 s1 x0 x1 b0 b1 s = 0 then refuseV n.toNat (cellS n s0 s1 x0 x1 b0 b1) (if s = kSq then 0 else if s = kSemi then 1 else if s = kMag then 2 else 3)
  else .tup [refV kNo 0 0 [] 0, .int .i64 (askErr n s0 s1 x0 x1 b0 b1 s)]
theorem refuse_spec (n s0 s1 x0 x1 b0 b1 : Int) (s : ByteArray) : PSpec Try.prog 18 [stepV n s0 s1 x0 x1 b0 b1, .str s] (refuseAll n s0 s1 x0 x1 b0 b1 s) := by
  unfold refuseAll
  by_cases hz : stepErr n s0 s1 x0 x1 b0 b1 = 0
  · have h1 := (stepErr_zero hz).1
    obtain ⟨m, rfl⟩ : ∃ m : Nat, n = m := ⟨n.toNat, by omega⟩
    have key : ∀ f g, PSpec Try.prog 75 [stepV m s0 s1 x0 x1 b0 b1, .str s] (knownK m s0 s1 x0 x1 b0 b1 f g) → PSpec Try.prog 18 [stepV m s0 s1 x0 x1 b0 b1, .str s] (refuseV m (cellS m s0 s1 x0 x1 b0 b1) g) := fun f g hk => refuse_kind m s0 s1 x0 x1 b0 b1 s f g hz hk
    by_cases hk : noKind s
    · have e : askErr m s0 s1 x0 x1 b0 b1 s = 13 := by unfold askErr kindErr; rw [if_pos hz, if_neg (by rintro (h | h | h | h) <;> simp_all [noKind])]
      rw [e, if_neg (by omega)]
      exact refuse_err m s0 s1 x0 x1 b0 b1 s 13 (by omega) (known_none _ _ _ _ _ _ _ _ hz hk)
    · have e : askErr m s0 s1 x0 x1 b0 b1 s = 0 := by
        unfold askErr kindErr; rw [if_pos hz, if_pos]
        unfold noKind at hk
        by_cases e1 : s = kSq
        · exact .inl e1
        by_cases e2 : s = kSemi
        · exact .inr (.inl e2)
        by_cases e3 : s = kMag
        · exact .inr (.inr (.inl e3))
        by_cases e4 : s = kPan
        · exact .inr (.inr (.inr e4))
        exact absurd ⟨e1, e2, e3, e4⟩ hk
      rw [if_pos e, Int.toNat_natCast]
      by_cases e1 : s = kSq
      · rw [if_pos e1]; exact key 137 0 (by subst e1; exact known_sq _ _ _ _ _ _ _ hz)
      rw [if_neg e1]
      by_cases e2 : s = kSemi
      · rw [if_pos e2]; exact key 138 1 (by subst e2; exact known_semi _ _ _ _ _ _ _ hz)
      rw [if_neg e2]
      by_cases e3 : s = kMag
      · rw [if_pos e3]; exact key 139 2 (by subst e3; exact known_mag _ _ _ _ _ _ _ hz)
      rw [if_neg e3]
      by_cases e4 : s = kPan
      · exact key 140 3 (by subst e4; exact known_pan _ _ _ _ _ _ _ hz)
      exact absurd ⟨e1, e2, e3, e4⟩ hk
  · have e : askErr n s0 s1 x0 x1 b0 b1 s = stepErr n s0 s1 x0 x1 b0 b1 := by unfold askErr; rw [if_neg hz]
    rw [e, if_neg hz]
    exact refuse_err n s0 s1 x0 x1 b0 b1 s _ hz (known_err _ _ _ _ _ _ _ _ hz)
def refuseP : PSp := fun xs K => match xs with
  | [.agg [.int .i64 n, .int .i64 s0, .int .i64 s1, .int .i64 x0, .int .i64 x1, .int .i64 b0, .int .i64 b1], .str s] => VC (True) ∧ K (refuseAll n s0 s1 x0 x1 b0 b1 s)
  | _ => False
theorem refuse_ok : POK Try.prog 18 refuseP := by
  intro xs K h
  unfold refuseP at h
  split at h
  · exact ⟨_, h.2, refuse_spec _ _ _ _ _ _ _ _⟩
  · exact h.elim
end Go.Eng.Ytppflbccfdbogaa
namespace Go.Eng.Ytppflbccfdbogaa
open Go.Proofs
set_option maxRecDepth 100000
set_option maxHeartbeats 0
set_option linter.unusedVariables false
set_option linter.unusedSimpArgs false
abbrev noGrid (e : Int) : PV := .tup [gridV 0 0 [], .int .i64 e]
abbrev okGrid (r c : Int) (l : List Int) : PV := .tup [gridV r c l, .int .i64 0]
theorem orderly_err (n : Int) (h : Bool) (f : Fn) (fs cs : List PV) (e : Int) (he : e ≠ 0) (hf : firstOf [if n < 1 ∨ 16 < n then 3 else 0, if (!h) = true then 7 else 0] = e) :
    PSpec Try.prog 92 [.int .i64 n, .bp h, .fn f fs cs] (noGrid e) := by
  refine pspec_of (md := 1) (rf := []) mixed tabOK cp2_ok Try.func92 (by rfl) (by rfl) (by rfl) ?_
  repeat' (first | ((conv => whnf); refine And.intro ?_ ?_) | ((conv => whnf); with_reducible exact VC.mk rfl) | ((conv => whnf); exact Ok.mk) | ((conv => whnf); exact True.intro) | ((conv => whnf); refine Nx.mk ?_) | ((conv => whnf); refine Fin.mk ?_) | ((conv => whnf); intro _))
  all_goals ((try refine VC.mk ?_); (try simp only [CL.ncell, CL.cnt, Int.toNat_natCast, decide_eq_true_eq, decide_eq_false_iff_not, Bool.not_eq_true, Bool.not_false, Bool.not_true, and_self, and_true, true_and, te3b, te4b, te3s, te4s, Nat.mul_one, Nat.zero_add, List.length_cons, List.length_nil, Bool.false_eq_true, Bool.true_eq_false] at *); (try omega))
  · rw [hf]; all_goals (refine Sup.via ?_; repeat' (first | ((conv => whnf); refine And.intro ?_ ?_) | ((conv => whnf); with_reducible exact VC.mk rfl) | ((conv => whnf); exact Ok.mk) | ((conv => whnf); exact True.intro) | ((conv => whnf); refine Nx.mk ?_) | ((conv => whnf); refine Fin.mk ?_) | ((conv => whnf); intro _)); all_goals ((try refine VC.mk ?_); (try simp only [CL.ncell, CL.cnt, Int.toNat_natCast, decide_eq_true_eq, decide_eq_false_iff_not, Bool.not_eq_true, Bool.not_false, Bool.not_true, and_self, and_true, true_and, te3b, te4b, te3s, te4s, Nat.mul_one, Nat.zero_add, List.length_cons, List.length_nil, Bool.false_eq_true, Bool.true_eq_false] at *); (try omega)); all_goals (try (simp [CL.sub]; done)))
  all_goals (exfalso; simp_all)
theorem orderly_ok (n : Int) (hn : 1 ≤ n ∧ n ≤ 16) (f : Nat) (fs cs : List PV) (r c : Int) (l : List Int) (hf : PSpec Try.prog f (fs ++ [] ++ cs) (gridV r c l)) :
    PSpec Try.prog 92 [.int .i64 n, .bp true, .fn (.func f) fs cs] (okGrid r c l) := by
  refine pspec_open 2 (enters' Try.func92 (by rfl) (by rfl)) rfl (by simp) fun S0 w0 us vs hu hv => ?_
  have hY : ∀ r', YPOK Try.prog r' (fromB S0 w0) (fnY f us vs fun xs K => match xs with
      | [] => K (gridV r c l)
      | _ => False) := fun r => fnY_ok (fs := fs) (cs := cs) (fun S w hb => ⟨hu.mono hb (.refl _), hv.mono hb (.refl _)⟩) fun xs K hk => by
    split at hk
    · exact ⟨_, hk, hf⟩
    · exact hk.elim
  have he : firstOf [if n < 1 ∨ 16 < n then 3 else 0, if (!true) = true then 7 else 0] = 0 := by rw [if_neg (by omega)]; rfl
  refine pspecB_of fromB_ok mixed tabOK (md := 1) (rf := []) (cp2_ok.up _) (hY none) Try.func92 (by rfl) (by rfl) ?_
  repeat' (first | ((conv => whnf); refine And.intro ?_ ?_) | ((conv => whnf); with_reducible exact VC.mk rfl) | ((conv => whnf); exact Ok.mk) | ((conv => whnf); exact True.intro) | ((conv => whnf); refine Nx.mk ?_) | ((conv => whnf); refine Fin.mk ?_) | ((conv => whnf); intro _))
  all_goals ((try refine VC.mk ?_); (try simp only [CL.ncell, CL.cnt, Int.toNat_natCast, decide_eq_true_eq, decide_eq_false_iff_not, Bool.not_eq_true, Bool.not_false, Bool.not_true, and_self, and_true, true_and, te3b, te4b, te3s, te4s, Nat.mul_one, Nat.zero_add, List.length_cons, List.length_nil, Bool.false_eq_true, Bool.true_eq_false] at *); (try omega))
  all_goals (try (exfalso; simp_all; done))
  all_goals (refine Sup.via ?_; repeat' (first | ((conv => whnf); refine And.intro ?_ ?_) | ((conv => whnf); with_reducible exact VC.mk rfl) | ((conv => whnf); exact Ok.mk) | ((conv => whnf); exact True.intro) | ((conv => whnf); refine Nx.mk ?_) | ((conv => whnf); refine Fin.mk ?_) | ((conv => whnf); intro _)); all_goals ((try refine VC.mk ?_); (try simp only [CL.ncell, CL.cnt, Int.toNat_natCast, decide_eq_true_eq, decide_eq_false_iff_not, Bool.not_eq_true, Bool.not_false, Bool.not_true, and_self, and_true, true_and, te3b, te4b, te3s, te4s, Nat.mul_one, Nat.zero_add, List.length_cons, List.length_nil, Bool.false_eq_true, Bool.true_eq_false] at *); (try omega)); all_goals (try (simp [CL.sub]; done)))
def orderlyP : PSp := fun xs K => match xs with
  | [.int .i64 n, .bp h, .fn (.func f) fs cs] => ((n < 1 ∨ 16 < n) → K (noGrid 3)) ∧ (¬ (n < 1 ∨ 16 < n) → (h = false → K (noGrid 7)) ∧ (h = true → ∃ r c l, PSpec Try.prog f (fs ++ [] ++ cs) (gridV r c l) ∧ K (okGrid r c l)))
  | _ => False
theorem orderly_pok : POK Try.prog 92 orderlyP := by
  intro xs K hk
  unfold orderlyP at hk
  split at hk
  · rename_i n h f fs cs
    by_cases hn : n < 1 ∨ 16 < n
    · exact ⟨_, hk.1 hn, orderly_err n h _ fs cs 3 (by omega) (by rw [if_pos hn]; rfl)⟩
    · cases h with
      | false => exact ⟨_, (hk.2 hn).1 rfl, orderly_err n false _ fs cs 7 (by omega) (by rw [if_neg hn]; rfl)⟩
      | true =>
        obtain ⟨r, c, l, h1, h2⟩ := (hk.2 hn).2 rfl
        exact ⟨_, h2, orderly_ok n (by omega) f fs cs r c l h1⟩
  · exact hk.elim
/-! odd orders -/
theorem coprime_of {n a u : Int} (h : n ∣ a * u - 1) : coprime n a = true := by
  unfold coprime
  have h1 : (Int.gcd (a % n) n : Int) ∣ 1 := by
    have d1 : (Int.gcd (a % n) n : Int) ∣ n := Int.gcd_dvd_right ..
    have d2 : (Int.gcd (a % n) n : Int) ∣ a % n := Int.gcd_dvd_left ..
    obtain ⟨k, hk⟩ := h
    obtain ⟨p, hp⟩ := d1
    obtain ⟨q, hq⟩ := d2
    have := Int.emod_add_mul_ediv a n
    generalize (Int.gcd (a % n) n : Int) = g at *
    exact ⟨q * u + p * (a / n) * u - p * k, by grind⟩
  have h2 := Int.le_of_dvd (by omega) h1
  have h3 : Int.gcd (a % n) n ∣ 1 := by exact_mod_cast h1
  simp [Nat.dvd_one.1 h3]
theorem isSq_of {n x0 x1 b0 b1 u : Int} (h : n ∣ (x0 * b1 - x1 * b0) * u - 1) : isSq n (x0 % n) (x1 % n) (b0 % n) (b1 % n) = true := by
  unfold isSq
  refine coprime_of (u := u) ?_
  have e0 := Int.emod_add_mul_ediv x0 n
  have e1 := Int.emod_add_mul_ediv x1 n
  have e2 := Int.emod_add_mul_ediv b0 n
  have e3 := Int.emod_add_mul_ediv b1 n
  obtain ⟨k, hk⟩ := h
  generalize x0 % n = y0 at *
  generalize x1 % n = y1 at *
  generalize b0 % n = c0 at *
  generalize b1 % n = c1 at *
  generalize x0 / n = p0 at *
  generalize x1 / n = p1 at *
  generalize b0 / n = q0 at *
  generalize b1 / n = q1 at *
  subst e0 e1 e2 e3
  exact ⟨k - (y0 * q1 + p0 * c1 + n * p0 * q1 - y1 * q0 - p1 * c0 - n * p1 * q0) * u, by grind⟩
def uniL (n s0 s1 x0 x1 b0 b1 : Int) : List Int := gAt (cellS n s0 s1 x0 x1 b0 b1) (n * n).toNat (n * n).toNat
def siaL (n : Int) : List Int := uniL n 0 ((n - 1) / 2) (-1) 1 2 (-1)
noncomputable def cpO1 : CPT := cpAdd 98 (pureCC reducedP) (cpAdd 76 (pureCC layP) noC)
theorem cpO1_ok : CPOK Try.prog cpO1 := cpAdd_ok (pureCC_ok reduced_ok) (cpAdd_ok (pureCC_ok lay_ok) noC_ok)
theorem cSia_spec (n : Int) (hn : 1 ≤ n ∧ n ≤ 16) : PSpec Try.prog 93 [.int .i64 n] (gridV n n (siaL n)) := by
  have hs : isSq n (-1 % n) (1 % n) (2 % n) (-1 % n) = true := isSq_of (u := -1) ⟨0, by omega⟩
  have hm := meet_none (s0 := 0 % n) (s1 := (n - 1) / 2 % n) hn.1 hs
  have h3 := emod_all hn.1 0 ((n - 1) / 2) (-1) 1 2 (-1)
  refine pspec_of (md := 0) (rf := []) mixed tabOK cpO1_ok Try.func93 (by rfl) (by rfl) (by rfl) ?_
  repeat' (first | ((conv => whnf); refine And.intro ?_ ?_) | ((conv => whnf); with_reducible exact VC.mk rfl) | ((conv => whnf); exact Ok.mk) | ((conv => whnf); exact True.intro) | ((conv => whnf); refine Nx.mk ?_) | ((conv => whnf); refine Fin.mk ?_) | ((conv => whnf); intro _))
  all_goals ((try refine VC.mk ?_); (try simp only [CL.ncell, CL.cnt, Int.toNat_natCast, decide_eq_true_eq, decide_eq_false_iff_not, Bool.not_eq_true, Bool.not_false, Bool.not_true, and_self, and_true, true_and, te3b, te4b, te3s, te4s, Nat.mul_one, Nat.zero_add, List.length_cons, List.length_nil, Bool.false_eq_true, Bool.true_eq_false] at *); (try omega))
  · refine ⟨by omega, fun x hx => ?_⟩
    simp only [List.mem_cons, List.not_mem_nil, or_false] at hx
    rcases hx with rfl | rfl | rfl | rfl | rfl | rfl <;> omega
  · exact ⟨hn, h3⟩
  simp only [layV, hm]
  unfold siaL uniL
  repeat' (first | ((conv => whnf); refine And.intro ?_ ?_) | ((conv => whnf); with_reducible exact VC.mk rfl) | ((conv => whnf); exact Ok.mk) | ((conv => whnf); exact True.intro) | ((conv => whnf); refine Nx.mk ?_) | ((conv => whnf); refine Fin.mk ?_) | ((conv => whnf); intro _))
  all_goals ((try refine VC.mk ?_); (try simp only [CL.ncell, CL.cnt, Int.toNat_natCast, decide_eq_true_eq, decide_eq_false_iff_not, Bool.not_eq_true, Bool.not_false, Bool.not_true, and_self, and_true, true_and, te3b, te4b, te3s, te4s, Nat.mul_one, Nat.zero_add, List.length_cons, List.length_nil, Bool.false_eq_true, Bool.true_eq_false] at *); (try omega))
  all_goals (refine Sup.via ?_; repeat' (first | ((conv => whnf); refine And.intro ?_ ?_) | ((conv => whnf); with_reducible exact VC.mk rfl) | ((conv => whnf); exact Ok.mk) | ((conv => whnf); exact True.intro) | ((conv => whnf); refine Nx.mk ?_) | ((conv => whnf); refine Fin.mk ?_) | ((conv => whnf); intro _)); all_goals ((try refine VC.mk ?_); (try simp only [CL.ncell, CL.cnt, Int.toNat_natCast, decide_eq_true_eq, decide_eq_false_iff_not, Bool.not_eq_true, Bool.not_false, Bool.not_true, and_self, and_true, true_and, te3b, te4b, te3s, te4s, Nat.mul_one, Nat.zero_add, List.length_cons, List.length_nil, Bool.false_eq_true, Bool.true_eq_false] at *); (try omega)); all_goals (try (simp [CL.sub]; done)))
def cSiaP : PSp := fun xs K => match xs with
  | [.int .i64 n] => VC (1 ≤ n ∧ n ≤ 16) ∧ K (gridV n n (siaL n))
  | _ => False
theorem cSia_ok : POK Try.prog 93 cSiaP := by
  intro xs K h
  unfold cSiaP at h
  split at h
  · exact ⟨_, h.2, cSia_spec _ h.1.get⟩
  · exact h.elim
def gridOr (n : Int) (h : Prop) [Decidable h] (l : List Int) : PV := if n < 1 ∨ 16 < n then noGrid 3 else if h then okGrid n n l else noGrid 7
noncomputable def cpO2 : CPT := cpAdd 92 (pureCC orderlyP) noC
theorem cpO2_ok : CPOK Try.prog cpO2 := cpAdd_ok (pureCC_ok orderly_pok) noC_ok
theorem siamese_spec (n : Int) : PSpec Try.prog 29 [.int .i64 n] (gridOr n (n % 2 = 1) (siaL n)) := by
  have ht : ¬ (n < 1 ∨ 16 < n) → n.tmod 2 = n % 2 := fun h => Int.tmod_eq_emod_of_nonneg (by omega)
  unfold gridOr
  refine pspec_of (md := 1) (rf := []) mixed tabOK cpO2_ok Try.func29 (by rfl) (by rfl) (by rfl) ?_
  repeat' (first | ((conv => whnf); refine And.intro ?_ ?_) | ((conv => whnf); with_reducible exact VC.mk rfl) | ((conv => whnf); exact Ok.mk) | ((conv => whnf); exact True.intro) | ((conv => whnf); refine Nx.mk ?_) | ((conv => whnf); refine Fin.mk ?_) | ((conv => whnf); intro _))
  all_goals ((try refine VC.mk ?_); (try simp only [CL.ncell, CL.cnt, Int.toNat_natCast, decide_eq_true_eq, decide_eq_false_iff_not, Bool.not_eq_true, Bool.not_false, Bool.not_true, and_self, and_true, true_and, te3b, te4b, te3s, te4s, Nat.mul_one, Nat.zero_add, List.length_cons, List.length_nil, Bool.false_eq_true, Bool.true_eq_false] at *); (try omega))
  · rw [if_pos ‹_›]; all_goals (refine Sup.via ?_; repeat' (first | ((conv => whnf); refine And.intro ?_ ?_) | ((conv => whnf); with_reducible exact VC.mk rfl) | ((conv => whnf); exact Ok.mk) | ((conv => whnf); exact True.intro) | ((conv => whnf); refine Nx.mk ?_) | ((conv => whnf); refine Fin.mk ?_) | ((conv => whnf); intro _)); all_goals ((try refine VC.mk ?_); (try simp only [CL.ncell, CL.cnt, Int.toNat_natCast, decide_eq_true_eq, decide_eq_false_iff_not, Bool.not_eq_true, Bool.not_false, Bool.not_true, and_self, and_true, true_and, te3b, te4b, te3s, te4s, Nat.mul_one, Nat.zero_add, List.length_cons, List.length_nil, Bool.false_eq_true, Bool.true_eq_false] at *); (try omega)); all_goals (try (simp [CL.sub]; done)))
  · rw [if_neg ‹_›, if_neg (by have := ht ‹_›; omega)]; all_goals (refine Sup.via ?_; repeat' (first | ((conv => whnf); refine And.intro ?_ ?_) | ((conv => whnf); with_reducible exact VC.mk rfl) | ((conv => whnf); exact Ok.mk) | ((conv => whnf); exact True.intro) | ((conv => whnf); refine Nx.mk ?_) | ((conv => whnf); refine Fin.mk ?_) | ((conv => whnf); intro _)); all_goals ((try refine VC.mk ?_); (try simp only [CL.ncell, CL.cnt, Int.toNat_natCast, decide_eq_true_eq, decide_eq_false_iff_not, Bool.not_eq_true, Bool.not_false, Bool.not_true, and_self, and_true, true_and, te3b, te4b, te3s, te4s, Nat.mul_one, Nat.zero_add, List.length_cons, List.length_nil, Bool.false_eq_true, Bool.true_eq_false] at *); (try omega)); all_goals (try (simp [CL.sub]; done)))
  · have := ht ‹_›
    rw [if_neg ‹_›, if_pos (by omega)]
    refine ⟨n, n, siaL n, cSia_spec n (by omega), ?_⟩
    repeat' (first | ((conv => whnf); refine And.intro ?_ ?_) | ((conv => whnf); with_reducible exact VC.mk rfl) | ((conv => whnf); exact Ok.mk) | ((conv => whnf); exact True.intro) | ((conv => whnf); refine Nx.mk ?_) | ((conv => whnf); refine Fin.mk ?_) | ((conv => whnf); intro _))
    all_goals ((try refine VC.mk ?_); (try simp only [CL.ncell, CL.cnt, Int.toNat_natCast, decide_eq_true_eq, decide_eq_false_iff_not, Bool.not_eq_true, Bool.not_false, Bool.not_true, and_self, and_true, true_and, te3b, te4b, te3s, te4s, Nat.mul_one, Nat.zero_add, List.length_cons, List.length_nil, Bool.false_eq_true, Bool.true_eq_false] at *); (try omega))
    all_goals (refine Sup.via ?_; repeat' (first | ((conv => whnf); refine And.intro ?_ ?_) | ((conv => whnf); with_reducible exact VC.mk rfl) | ((conv => whnf); exact Ok.mk) | ((conv => whnf); exact True.intro) | ((conv => whnf); refine Nx.mk ?_) | ((conv => whnf); refine Fin.mk ?_) | ((conv => whnf); intro _)); all_goals ((try refine VC.mk ?_); (try simp only [CL.ncell, CL.cnt, Int.toNat_natCast, decide_eq_true_eq, decide_eq_false_iff_not, Bool.not_eq_true, Bool.not_false, Bool.not_true, and_self, and_true, true_and, te3b, te4b, te3s, te4s, Nat.mul_one, Nat.zero_add, List.length_cons, List.length_nil, Bool.false_eq_true, Bool.true_eq_false] at *); (try omega)); all_goals (try (simp [CL.sub]; done)))
def siameseP : PSp := fun xs K => match xs with
  | [.int .i64 n] => VC (True) ∧ K (gridOr n (n % 2 = 1) (siaL n))
  | _ => False
theorem siamese_ok : POK Try.prog 29 siameseP := by
  intro xs K h
  unfold siameseP at h
  split at h
  · exact ⟨_, h.2, siamese_spec _⟩
  · exact h.elim
/-! orders that 4 divides -/
def dblF (n : Nat) (i j : Nat) : Int := if (i : Int) % 4 = (j : Int) % 4 ∨ ((i : Int) + j) % 4 = 3 then (n : Int) * n + 1 - (n * i + j + 1) else (n : Int) * i + j + 1
theorem c132_spec (n i j : Nat) (hn : n ≤ 16) (hi : i < n) (hj : j < n) : PSpec Try.prog 132 ([] ++ [.int .i64 i, .int .i64 j] ++ [.ip (.pv [.int .i64 (n : Int)]) 0]) (.int .i64 (dblF n i j)) := by
  have h1 := mul_bd (show 0 ≤ (n : Int) ∧ (n : Int) ≤ 16 by omega) (show 0 ≤ (i : Int) ∧ (i : Int) ≤ 16 by omega)
  have h2 := mul_bd (show 0 ≤ (n : Int) ∧ (n : Int) ≤ 16 by omega) (show 0 ≤ (n : Int) ∧ (n : Int) ≤ 16 by omega)
  refine pspec_of (md := 0) (rf := []) mixed tabOK noC_ok Try.func132 (by rfl) (by rfl) (by rfl) ?_
  repeat' (first | ((conv => whnf); refine And.intro ?_ ?_) | ((conv => whnf); with_reducible exact VC.mk rfl) | ((conv => whnf); exact Ok.mk) | ((conv => whnf); exact True.intro) | ((conv => whnf); refine Nx.mk ?_) | ((conv => whnf); refine Fin.mk ?_) | ((conv => whnf); intro _))
  all_goals ((try refine VC.mk ?_); (try simp only [CL.ncell, CL.cnt, Int.toNat_natCast, decide_eq_true_eq, decide_eq_false_iff_not, Bool.not_eq_true, Bool.not_false, Bool.not_true, and_self, and_true, true_and, te3b, te4b, te3s, te4s, Nat.mul_one, Nat.zero_add, List.length_cons, List.length_nil, Bool.false_eq_true, Bool.true_eq_false] at *); (try omega))
  all_goals (refine Sup.of ?_; unfold dblF)
  all_goals simp_all [resOf]
noncomputable def cpO3 : CPT := cpAdd 103 (pureCC madeP) noC
theorem cpO3_ok : CPOK Try.prog cpO3 := cpAdd_ok (pureCC_ok made_ok) noC_ok
def dblL (n : Int) : List Int := madeL n.toNat (dblF n.toNat)
theorem cDbl_spec (n : Int) (hn : 1 ≤ n ∧ n ≤ 16) : PSpec Try.prog 94 [.int .i64 n] (gridV n n (dblL n)) := by
  obtain ⟨m, rfl⟩ : ∃ m : Nat, n = m := ⟨n.toNat, by omega⟩
  unfold dblL
  simp only [Int.toNat_natCast]
  refine pspec_of (md := 0) (rf := []) mixed tabOK cpO3_ok Try.func94 (by rfl) (by rfl) (by rfl) ?_
  repeat' (first | ((conv => whnf); refine And.intro ?_ ?_) | ((conv => whnf); with_reducible exact VC.mk rfl) | ((conv => whnf); exact Ok.mk) | ((conv => whnf); exact True.intro) | ((conv => whnf); refine Nx.mk ?_) | ((conv => whnf); refine Fin.mk ?_) | ((conv => whnf); intro _))
  all_goals ((try refine VC.mk ?_); (try simp only [CL.ncell, CL.cnt, Int.toNat_natCast, decide_eq_true_eq, decide_eq_false_iff_not, Bool.not_eq_true, Bool.not_false, Bool.not_true, and_self, and_true, true_and, te3b, te4b, te3s, te4s, Nat.mul_one, Nat.zero_add, List.length_cons, List.length_nil, Bool.false_eq_true, Bool.true_eq_false] at *); (try omega))
  refine ⟨dblF m, fun i j hi hj => c132_spec m i j (by omega) (by omega) (by omega), ?_⟩
  repeat' (first | ((conv => whnf); refine And.intro ?_ ?_) | ((conv => whnf); with_reducible exact VC.mk rfl) | ((conv => whnf); exact Ok.mk) | ((conv => whnf); exact True.intro) | ((conv => whnf); refine Nx.mk ?_) | ((conv => whnf); refine Fin.mk ?_) | ((conv => whnf); intro _))
  all_goals ((try refine VC.mk ?_); (try simp only [CL.ncell, CL.cnt, Int.toNat_natCast, decide_eq_true_eq, decide_eq_false_iff_not, Bool.not_eq_true, Bool.not_false, Bool.not_true, and_self, and_true, true_and, te3b, te4b, te3s, te4s, Nat.mul_one, Nat.zero_add, List.length_cons, List.length_nil, Bool.false_eq_true, Bool.true_eq_false] at *); (try omega))
  all_goals (refine Sup.via ?_; repeat' (first | ((conv => whnf); refine And.intro ?_ ?_) | ((conv => whnf); with_reducible exact VC.mk rfl) | ((conv => whnf); exact Ok.mk) | ((conv => whnf); exact True.intro) | ((conv => whnf); refine Nx.mk ?_) | ((conv => whnf); refine Fin.mk ?_) | ((conv => whnf); intro _)); all_goals ((try refine VC.mk ?_); (try simp only [CL.ncell, CL.cnt, Int.toNat_natCast, decide_eq_true_eq, decide_eq_false_iff_not, Bool.not_eq_true, Bool.not_false, Bool.not_true, and_self, and_true, true_and, te3b, te4b, te3s, te4s, Nat.mul_one, Nat.zero_add, List.length_cons, List.length_nil, Bool.false_eq_true, Bool.true_eq_false] at *); (try omega)); all_goals (try (simp [CL.sub]; done)))
theorem doublyEven_spec (n : Int) : PSpec Try.prog 30 [.int .i64 n] (gridOr n (n % 4 = 0) (dblL n)) := by
  have ht : ¬ (n < 1 ∨ 16 < n) → n.tmod 4 = n % 4 := fun h => Int.tmod_eq_emod_of_nonneg (by omega)
  unfold gridOr
  refine pspec_of (md := 1) (rf := []) mixed tabOK cpO2_ok Try.func30 (by rfl) (by rfl) (by rfl) ?_
  repeat' (first | ((conv => whnf); refine And.intro ?_ ?_) | ((conv => whnf); with_reducible exact VC.mk rfl) | ((conv => whnf); exact Ok.mk) | ((conv => whnf); exact True.intro) | ((conv => whnf); refine Nx.mk ?_) | ((conv => whnf); refine Fin.mk ?_) | ((conv => whnf); intro _))
  all_goals ((try refine VC.mk ?_); (try simp only [CL.ncell, CL.cnt, Int.toNat_natCast, decide_eq_true_eq, decide_eq_false_iff_not, Bool.not_eq_true, Bool.not_false, Bool.not_true, and_self, and_true, true_and, te3b, te4b, te3s, te4s, Nat.mul_one, Nat.zero_add, List.length_cons, List.length_nil, Bool.false_eq_true, Bool.true_eq_false] at *); (try omega))
  · rw [if_pos ‹_›]; all_goals (refine Sup.via ?_; repeat' (first | ((conv => whnf); refine And.intro ?_ ?_) | ((conv => whnf); with_reducible exact VC.mk rfl) | ((conv => whnf); exact Ok.mk) | ((conv => whnf); exact True.intro) | ((conv => whnf); refine Nx.mk ?_) | ((conv => whnf); refine Fin.mk ?_) | ((conv => whnf); intro _)); all_goals ((try refine VC.mk ?_); (try simp only [CL.ncell, CL.cnt, Int.toNat_natCast, decide_eq_true_eq, decide_eq_false_iff_not, Bool.not_eq_true, Bool.not_false, Bool.not_true, and_self, and_true, true_and, te3b, te4b, te3s, te4s, Nat.mul_one, Nat.zero_add, List.length_cons, List.length_nil, Bool.false_eq_true, Bool.true_eq_false] at *); (try omega)); all_goals (try (simp [CL.sub]; done)))
  · rw [if_neg ‹_›, if_neg (by have := ht ‹_›; omega)]; all_goals (refine Sup.via ?_; repeat' (first | ((conv => whnf); refine And.intro ?_ ?_) | ((conv => whnf); with_reducible exact VC.mk rfl) | ((conv => whnf); exact Ok.mk) | ((conv => whnf); exact True.intro) | ((conv => whnf); refine Nx.mk ?_) | ((conv => whnf); refine Fin.mk ?_) | ((conv => whnf); intro _)); all_goals ((try refine VC.mk ?_); (try simp only [CL.ncell, CL.cnt, Int.toNat_natCast, decide_eq_true_eq, decide_eq_false_iff_not, Bool.not_eq_true, Bool.not_false, Bool.not_true, and_self, and_true, true_and, te3b, te4b, te3s, te4s, Nat.mul_one, Nat.zero_add, List.length_cons, List.length_nil, Bool.false_eq_true, Bool.true_eq_false] at *); (try omega)); all_goals (try (simp [CL.sub]; done)))
  · have := ht ‹_›
    rw [if_neg ‹_›, if_pos (by omega)]
    refine ⟨n, n, dblL n, cDbl_spec n (by omega), ?_⟩
    repeat' (first | ((conv => whnf); refine And.intro ?_ ?_) | ((conv => whnf); with_reducible exact VC.mk rfl) | ((conv => whnf); exact Ok.mk) | ((conv => whnf); exact True.intro) | ((conv => whnf); refine Nx.mk ?_) | ((conv => whnf); refine Fin.mk ?_) | ((conv => whnf); intro _))
    all_goals ((try refine VC.mk ?_); (try simp only [CL.ncell, CL.cnt, Int.toNat_natCast, decide_eq_true_eq, decide_eq_false_iff_not, Bool.not_eq_true, Bool.not_false, Bool.not_true, and_self, and_true, true_and, te3b, te4b, te3s, te4s, Nat.mul_one, Nat.zero_add, List.length_cons, List.length_nil, Bool.false_eq_true, Bool.true_eq_false] at *); (try omega))
    all_goals (refine Sup.via ?_; repeat' (first | ((conv => whnf); refine And.intro ?_ ?_) | ((conv => whnf); with_reducible exact VC.mk rfl) | ((conv => whnf); exact Ok.mk) | ((conv => whnf); exact True.intro) | ((conv => whnf); refine Nx.mk ?_) | ((conv => whnf); refine Fin.mk ?_) | ((conv => whnf); intro _)); all_goals ((try refine VC.mk ?_); (try simp only [CL.ncell, CL.cnt, Int.toNat_natCast, decide_eq_true_eq, decide_eq_false_iff_not, Bool.not_eq_true, Bool.not_false, Bool.not_true, and_self, and_true, true_and, te3b, te4b, te3s, te4s, Nat.mul_one, Nat.zero_add, List.length_cons, List.length_nil, Bool.false_eq_true, Bool.true_eq_false] at *); (try omega)); all_goals (try (simp [CL.sub]; done)))
def doublyEvenP : PSp := fun xs K => match xs with
  | [.int .i64 n] => VC (True) ∧ K (gridOr n (n % 4 = 0) (dblL n))
  | _ => False
theorem doublyEven_ok : POK Try.prog 30 doublyEvenP := by
  intro xs K h
  unfold doublyEvenP at h
  split at h
  · exact ⟨_, h.2, doublyEven_spec _⟩
  · exact h.elim
end Go.Eng.Ytppflbccfdbogaa
namespace Go.Eng.Ytppflbccfdbogaa
open Go.Proofs
set_option maxRecDepth 100000
set_option maxHeartbeats 0
set_option linter.unusedVariables false
set_option linter.unusedSimpArgs false
/-! Halved -/
def halvedAt (n : Int) (i : Nat) : Int := if (i : Int) < n / 2 then i else n - 1 - (i - n / 2)
def halvedL (n : Int) (m : Nat) : List Int := (List.range m).map (halvedAt n)
theorem halvedL_succ (n : Int) (m : Nat) : halvedL n (m + 1) = halvedL n m ++ [halvedAt n m] := by simp [halvedL, List.range_succ]
theorem halvedL_len (n : Int) (m : Nat) : (halvedL n m).length = m := by simp [halvedL]
def halvedV (n : Int) : PV := if n < 1 ∨ 16 < n then .tup [.isl (.ints .i64 []) .none, .int .i64 3] else if n % 4 = 0 then .tup [.isl (.ints .i64 (halvedL n n.toNat)) .none, .int .i64 0] else .tup [.isl (.ints .i64 []) .none, .int .i64 7]
theorem halved_err (n e : Int) (he : e ≠ 0) (hf : firstOf [if n < 1 ∨ 16 < n then 3 else 0, if n.tmod 4 ≠ 0 then 7 else 0] = e) : PSpec Try.prog 34 [.int .i64 n] (.tup [.isl (.ints .i64 []) .none, .int .i64 e]) := by
  refine pspec_of (md := 1) (rf := []) mixed tabOK cp2_ok Try.func34 (by rfl) (by rfl) (by rfl) ?_
  repeat' (first | ((conv => whnf); refine And.intro ?_ ?_) | ((conv => whnf); with_reducible exact VC.mk rfl) | ((conv => whnf); exact Ok.mk) | ((conv => whnf); exact True.intro) | ((conv => whnf); refine Nx.mk ?_) | ((conv => whnf); refine Fin.mk ?_) | ((conv => whnf); intro _))
  all_goals ((try refine VC.mk ?_); (try simp only [CL.ncell, CL.cnt, Int.toNat_natCast, decide_eq_true_eq, decide_eq_false_iff_not, Bool.not_eq_true, Bool.not_false, Bool.not_true, and_self, and_true, true_and, te3b, te4b, te3s, te4s, Nat.mul_one, Nat.zero_add, List.length_cons, List.length_nil, Bool.false_eq_true, Bool.true_eq_false] at *); (try omega))
  all_goals (try (exfalso; simp_all; done))
  · rw [hf]; all_goals (refine Sup.via ?_; repeat' (first | ((conv => whnf); refine And.intro ?_ ?_) | ((conv => whnf); with_reducible exact VC.mk rfl) | ((conv => whnf); exact Ok.mk) | ((conv => whnf); exact True.intro) | ((conv => whnf); refine Nx.mk ?_) | ((conv => whnf); refine Fin.mk ?_) | ((conv => whnf); intro _)); all_goals ((try refine VC.mk ?_); (try simp only [CL.ncell, CL.cnt, Int.toNat_natCast, decide_eq_true_eq, decide_eq_false_iff_not, Bool.not_eq_true, Bool.not_false, Bool.not_true, and_self, and_true, true_and, te3b, te4b, te3s, te4s, Nat.mul_one, Nat.zero_add, List.length_cons, List.length_nil, Bool.false_eq_true, Bool.true_eq_false] at *); (try omega)); all_goals (try (simp [CL.sub]; done)))
theorem halved_ok (m : Nat) (hn : 1 ≤ m ∧ m ≤ 16) (h4 : (m : Int) % 4 = 0) : PSpec Try.prog 34 [.int .i64 (m : Int)] (.tup [.isl (.ints .i64 (halvedL m m)) .none, .int .i64 0]) := by
  refine pspec_of (md := 0) (rf := []) mixed tabOK cp2_ok Try.func34 (by rfl) (by rfl) (by rfl) ?_
  repeat' (first | ((conv => whnf); refine And.intro ?_ ?_) | ((conv => whnf); with_reducible exact VC.mk rfl) | ((conv => whnf); exact Ok.mk) | ((conv => whnf); exact True.intro) | ((conv => whnf); refine Nx.mk ?_) | ((conv => whnf); refine Fin.mk ?_) | ((conv => whnf); intro _))
  all_goals ((try refine VC.mk ?_); (try simp only [CL.ncell, CL.cnt, Int.toNat_natCast, decide_eq_true_eq, decide_eq_false_iff_not, Bool.not_eq_true, Bool.not_false, Bool.not_true, and_self, and_true, true_and, te3b, te4b, te3s, te4s, Nat.mul_one, Nat.zero_add, List.length_cons, List.length_nil, Bool.false_eq_true, Bool.true_eq_false] at *); (try omega))
  all_goals (try (exfalso; simp_all [firstOf]; omega))
  conv => whnf
  refine loop_of (X := Nat) (fun i => i ≤ m) (fun i => [(19, .int .i64 i), (5, .isl (.ints .i64 (halvedL m i)) (.own 13))]) (fun i => [(13, .tok 1 i)]) (fun i => m - i) 0 ⟨anyB_ok, mixed, tabOK, cp2_ok, noY_ok⟩ (by rfl) (by omega) ?_ ?_
  · repeat' (first | ((conv => whnf); refine And.intro ?_ ?_) | ((conv => whnf); with_reducible exact VC.mk rfl) | ((conv => whnf); exact Ok.mk) | ((conv => whnf); exact True.intro) | ((conv => whnf); refine Nx.mk ?_) | ((conv => whnf); refine Fin.mk ?_) | ((conv => whnf); intro _))
    all_goals ((try refine VC.mk ?_); (try simp only [CL.ncell, CL.cnt, Int.toNat_natCast, decide_eq_true_eq, decide_eq_false_iff_not, Bool.not_eq_true, Bool.not_false, Bool.not_true, and_self, and_true, true_and, te3b, te4b, te3s, te4s, Nat.mul_one, Nat.zero_add, List.length_cons, List.length_nil, Bool.false_eq_true, Bool.true_eq_false] at *); (try omega))
  · intro i hi
    by_cases hlt : i < m
    · have hl := halvedL_len m i
      have e1 := halvedL_succ m i
      repeat' (first | ((conv => whnf); refine And.intro ?_ ?_) | ((conv => whnf); with_reducible exact VC.mk rfl) | ((conv => whnf); exact Ok.mk) | ((conv => whnf); exact True.intro) | ((conv => whnf); refine Nx.mk ?_) | ((conv => whnf); refine Fin.mk ?_) | ((conv => whnf); intro _))
      all_goals ((try refine VC.mk ?_); (try simp only [CL.ncell, CL.cnt, Int.toNat_natCast, decide_eq_true_eq, decide_eq_false_iff_not, Bool.not_eq_true, Bool.not_false, Bool.not_true, and_self, and_true, true_and, te3b, te4b, te3s, te4s, Nat.mul_one, Nat.zero_add, List.length_cons, List.length_nil, Bool.false_eq_true, Bool.true_eq_false] at *); (try omega))
      · simp [hl]; omega
      · refine ⟨i + 1, [], ⟨by omega, by omega⟩, ?_⟩
        repeat' (first | ((conv => whnf); refine And.intro ?_ ?_) | ((conv => whnf); with_reducible exact VC.mk rfl) | ((conv => whnf); exact Ok.mk) | ((conv => whnf); exact True.intro) | ((conv => whnf); refine Nx.mk ?_) | ((conv => whnf); refine Fin.mk ?_) | ((conv => whnf); intro _))
        all_goals ((try refine VC.mk ?_); (try simp only [CL.ncell, CL.cnt, Int.toNat_natCast, decide_eq_true_eq, decide_eq_false_iff_not, Bool.not_eq_true, Bool.not_false, Bool.not_true, and_self, and_true, true_and, te3b, te4b, te3s, te4s, Nat.mul_one, Nat.zero_add, List.length_cons, List.length_nil, Bool.false_eq_true, Bool.true_eq_false] at *); (try omega))
        · rw [e1]; unfold halvedAt; rw [if_neg (by omega)]
      · simp [hl]; omega
      · refine ⟨i + 1, [], ⟨by omega, by omega⟩, ?_⟩
        repeat' (first | ((conv => whnf); refine And.intro ?_ ?_) | ((conv => whnf); with_reducible exact VC.mk rfl) | ((conv => whnf); exact Ok.mk) | ((conv => whnf); exact True.intro) | ((conv => whnf); refine Nx.mk ?_) | ((conv => whnf); refine Fin.mk ?_) | ((conv => whnf); intro _))
        all_goals ((try refine VC.mk ?_); (try simp only [CL.ncell, CL.cnt, Int.toNat_natCast, decide_eq_true_eq, decide_eq_false_iff_not, Bool.not_eq_true, Bool.not_false, Bool.not_true, and_self, and_true, true_and, te3b, te4b, te3s, te4s, Nat.mul_one, Nat.zero_add, List.length_cons, List.length_nil, Bool.false_eq_true, Bool.true_eq_false] at *); (try omega))
        · rw [e1]; unfold halvedAt; rw [if_pos (by omega)]
    · have : m = i := by omega
      subst this
      repeat' (first | ((conv => whnf); refine And.intro ?_ ?_) | ((conv => whnf); with_reducible exact VC.mk rfl) | ((conv => whnf); exact Ok.mk) | ((conv => whnf); exact True.intro) | ((conv => whnf); refine Nx.mk ?_) | ((conv => whnf); refine Fin.mk ?_) | ((conv => whnf); intro _))
      all_goals ((try refine VC.mk ?_); (try simp only [CL.ncell, CL.cnt, Int.toNat_natCast, decide_eq_true_eq, decide_eq_false_iff_not, Bool.not_eq_true, Bool.not_false, Bool.not_true, and_self, and_true, true_and, te3b, te4b, te3s, te4s, Nat.mul_one, Nat.zero_add, List.length_cons, List.length_nil, Bool.false_eq_true, Bool.true_eq_false] at *); (try omega))
      all_goals (refine Sup.via ?_; repeat' (first | ((conv => whnf); refine And.intro ?_ ?_) | ((conv => whnf); with_reducible exact VC.mk rfl) | ((conv => whnf); exact Ok.mk) | ((conv => whnf); exact True.intro) | ((conv => whnf); refine Nx.mk ?_) | ((conv => whnf); refine Fin.mk ?_) | ((conv => whnf); intro _)); all_goals ((try refine VC.mk ?_); (try simp only [CL.ncell, CL.cnt, Int.toNat_natCast, decide_eq_true_eq, decide_eq_false_iff_not, Bool.not_eq_true, Bool.not_false, Bool.not_true, and_self, and_true, true_and, te3b, te4b, te3s, te4s, Nat.mul_one, Nat.zero_add, List.length_cons, List.length_nil, Bool.false_eq_true, Bool.true_eq_false] at *); (try omega)); all_goals (try (simp [CL.sub]; done)))
theorem halved_spec (n : Int) : PSpec Try.prog 34 [.int .i64 n] (halvedV n) := by
  unfold halvedV
  by_cases h : n < 1 ∨ 16 < n
  · rw [if_pos h]
    refine halved_err n 3 (by omega) ?_
    rw [if_pos h]; rfl
  · rw [if_neg h]
    have ht : n.tmod 4 = n % 4 := Int.tmod_eq_emod_of_nonneg (by omega)
    by_cases h4 : n % 4 = 0
    · rw [if_pos h4]
      obtain ⟨m, rfl⟩ : ∃ m : Nat, n = m := ⟨n.toNat, by omega⟩
      rw [Int.toNat_natCast]
      exact halved_ok m (by omega) h4
    · rw [if_neg h4]
      refine halved_err n 7 (by omega) ?_
      rw [if_neg h, if_pos (by omega)]; rfl
def halvedCP : PSp := fun xs K => match xs with
  | [.int .i64 n] => VC (True) ∧ K (halvedV n)
  | _ => False
theorem halvedC_ok : POK Try.prog 34 halvedCP := by
  intro xs K h
  unfold halvedCP at h
  split at h
  · exact ⟨_, h.2, halved_spec _⟩
  · exact h.elim
/-! most-perfect squares -/
def turned (n x p : Int) : Int := if p % 2 = 1 then n - 1 - x else x
theorem c134_spec (n x p : Int) (hn : 0 ≤ n ∧ n ≤ 1000) (hx : 0 ≤ x ∧ x ≤ 1000) (hp : 0 ≤ p ∧ p ≤ 1000) : PSpec Try.prog 134 [.int .i64 x, .int .i64 p, .ip (.pv [.int .i64 n]) 0] (.int .i64 (turned n x p)) := by
  refine pspec_of (md := 0) (rf := []) mixed tabOK noC_ok Try.func134 (by rfl) (by rfl) (by rfl) ?_
  repeat' (first | ((conv => whnf); refine And.intro ?_ ?_) | ((conv => whnf); with_reducible exact VC.mk rfl) | ((conv => whnf); exact Ok.mk) | ((conv => whnf); exact True.intro) | ((conv => whnf); refine Nx.mk ?_) | ((conv => whnf); refine Fin.mk ?_) | ((conv => whnf); intro _))
  all_goals ((try refine VC.mk ?_); (try simp only [CL.ncell, CL.cnt, Int.toNat_natCast, decide_eq_true_eq, decide_eq_false_iff_not, Bool.not_eq_true, Bool.not_false, Bool.not_true, and_self, and_true, true_and, te3b, te4b, te3s, te4s, Nat.mul_one, Nat.zero_add, List.length_cons, List.length_nil, Bool.false_eq_true, Bool.true_eq_false] at *); (try omega))
  all_goals (refine Sup.of ?_; unfold turned; simp_all [resOf])
def c134P : PSp := fun xs K => match xs with
  | [.int .i64 x, .int .i64 p, .ip (.pv [.int .i64 n]) 0] => VC ((0 ≤ n ∧ n ≤ 1000) ∧ (0 ≤ x ∧ x ≤ 1000) ∧ 0 ≤ p ∧ p ≤ 1000) ∧ K (.int .i64 (turned n x p))
  | _ => False
theorem c134_ok : POK Try.prog 134 c134P := by
  intro xs K h
  unfold c134P at h
  split at h
  · exact ⟨_, h.2, c134_spec _ _ _ h.1.get.1 h.1.get.2.1 h.1.get.2.2⟩
  · exact h.elim
def mpF (n : Int) (rows cols : List Int) (i j : Nat) : Int := turned n (rows.getD i 0) j + n * turned n (cols.getD j 0) i + 1
theorem turned_bd {n x p : Int} (hx : 0 ≤ x ∧ x < n) : 0 ≤ turned n x p ∧ turned n x p < n := by unfold turned; split <;> omega
theorem c135_spec (n : Nat) (rows cols : List Int) (i j : Nat) (hn : n ≤ 16) (hr : rows.length = n) (hc : cols.length = n) (hi : i < n) (hj : j < n) (h1 : ∀ k, k < n → 0 ≤ rows.getD k 0 ∧ rows.getD k 0 < n) (h2 : ∀ k, k < n → 0 ≤ cols.getD k 0 ∧ cols.getD k 0 < n) :
    PSpec Try.prog 135 ([] ++ [.int .i64 i, .int .i64 j] ++ [.ip (.pv [.fn (.func 134) [] [.ip (.pv [.int .i64 (n : Int)]) 0]]) 0, .ip (.pv [.isl (.ints .i64 rows) .none]) 0, .ip (.pv [.int .i64 (n : Int)]) 0, .ip (.pv [.isl (.ints .i64 cols) .none]) 0]) (.int .i64 (mpF n rows cols i j)) := by
  have hC : CPOK Try.prog (cpAdd 134 (pureCC c134P) noC) := cpAdd_ok (pureCC_ok c134_ok) noC_ok
  have a1 := h1 i hi
  have a2 := h2 j hj
  have b1 := turned_bd (p := (j : Int)) a1
  have b2 := turned_bd (p := (i : Int)) a2
  have b3 := mul_bd (A := 16) (B := 16) (show 0 ≤ (n : Int) ∧ (n : Int) ≤ 16 by omega) (show 0 ≤ turned n (cols.getD j 0) i ∧ turned n (cols.getD j 0) i ≤ 16 by omega)
  refine pspec_of (md := 0) (rf := []) mixed tabOK hC Try.func135 (by rfl) (by rfl) (by rfl) ?_
  repeat' (first | ((conv => whnf); refine And.intro ?_ ?_) | ((conv => whnf); with_reducible exact VC.mk rfl) | ((conv => whnf); exact Ok.mk) | ((conv => whnf); exact True.intro) | ((conv => whnf); refine Nx.mk ?_) | ((conv => whnf); refine Fin.mk ?_) | ((conv => whnf); intro _))
  all_goals ((try refine VC.mk ?_); (try simp only [CL.ncell, CL.cnt, Int.toNat_natCast, decide_eq_true_eq, decide_eq_false_iff_not, Bool.not_eq_true, Bool.not_false, Bool.not_true, and_self, and_true, true_and, te3b, te4b, te3s, te4s, Nat.mul_one, Nat.zero_add, List.length_cons, List.length_nil, Bool.false_eq_true, Bool.true_eq_false] at *); (try omega))
  unfold mpF
  all_goals (refine Sup.via ?_; repeat' (first | ((conv => whnf); refine And.intro ?_ ?_) | ((conv => whnf); with_reducible exact VC.mk rfl) | ((conv => whnf); exact Ok.mk) | ((conv => whnf); exact True.intro) | ((conv => whnf); refine Nx.mk ?_) | ((conv => whnf); refine Fin.mk ?_) | ((conv => whnf); intro _)); all_goals ((try refine VC.mk ?_); (try simp only [CL.ncell, CL.cnt, Int.toNat_natCast, decide_eq_true_eq, decide_eq_false_iff_not, Bool.not_eq_true, Bool.not_false, Bool.not_true, and_self, and_true, true_and, te3b, te4b, te3s, te4s, Nat.mul_one, Nat.zero_add, List.length_cons, List.length_nil, Bool.false_eq_true, Bool.true_eq_false] at *); (try omega)); all_goals (try (simp [CL.sub]; done)))
def mpL (rows cols : List Int) : List Int := madeL rows.length (mpF rows.length rows cols)
theorem mostPerfect_spec (rows cols : List Int) (hn : rows.length ≤ 16) (hc : cols.length = rows.length) (h1 : ∀ k, k < rows.length → 0 ≤ rows.getD k 0 ∧ rows.getD k 0 < rows.length) (h2 : ∀ k, k < rows.length → 0 ≤ cols.getD k 0 ∧ cols.getD k 0 < rows.length) :
    PSpec Try.prog 99 [.isl (.ints .i64 rows) .none, .isl (.ints .i64 cols) .none] (gridV rows.length rows.length (mpL rows cols)) := by
  unfold mpL
  refine pspec_of (md := 0) (rf := []) mixed tabOK cpO3_ok Try.func99 (by rfl) (by rfl) (by rfl) ?_
  repeat' (first | ((conv => whnf); refine And.intro ?_ ?_) | ((conv => whnf); with_reducible exact VC.mk rfl) | ((conv => whnf); exact Ok.mk) | ((conv => whnf); exact True.intro) | ((conv => whnf); refine Nx.mk ?_) | ((conv => whnf); refine Fin.mk ?_) | ((conv => whnf); intro _))
  all_goals ((try refine VC.mk ?_); (try simp only [CL.ncell, CL.cnt, Int.toNat_natCast, decide_eq_true_eq, decide_eq_false_iff_not, Bool.not_eq_true, Bool.not_false, Bool.not_true, and_self, and_true, true_and, te3b, te4b, te3s, te4s, Nat.mul_one, Nat.zero_add, List.length_cons, List.length_nil, Bool.false_eq_true, Bool.true_eq_false] at *); (try omega))
  refine ⟨mpF rows.length rows cols, fun i j hi hj => c135_spec rows.length rows cols i j hn rfl hc (by omega) (by omega) h1 h2, ?_⟩
  repeat' (first | ((conv => whnf); refine And.intro ?_ ?_) | ((conv => whnf); with_reducible exact VC.mk rfl) | ((conv => whnf); exact Ok.mk) | ((conv => whnf); exact True.intro) | ((conv => whnf); refine Nx.mk ?_) | ((conv => whnf); refine Fin.mk ?_) | ((conv => whnf); intro _))
  all_goals ((try refine VC.mk ?_); (try simp only [CL.ncell, CL.cnt, Int.toNat_natCast, decide_eq_true_eq, decide_eq_false_iff_not, Bool.not_eq_true, Bool.not_false, Bool.not_true, and_self, and_true, true_and, te3b, te4b, te3s, te4s, Nat.mul_one, Nat.zero_add, List.length_cons, List.length_nil, Bool.false_eq_true, Bool.true_eq_false] at *); (try omega))
  all_goals (refine Sup.via ?_; repeat' (first | ((conv => whnf); refine And.intro ?_ ?_) | ((conv => whnf); with_reducible exact VC.mk rfl) | ((conv => whnf); exact Ok.mk) | ((conv => whnf); exact True.intro) | ((conv => whnf); refine Nx.mk ?_) | ((conv => whnf); refine Fin.mk ?_) | ((conv => whnf); intro _)); all_goals ((try refine VC.mk ?_); (try simp only [CL.ncell, CL.cnt, Int.toNat_natCast, decide_eq_true_eq, decide_eq_false_iff_not, Bool.not_eq_true, Bool.not_false, Bool.not_true, and_self, and_true, true_and, te3b, te4b, te3s, te4s, Nat.mul_one, Nat.zero_add, List.length_cons, List.length_nil, Bool.false_eq_true, Bool.true_eq_false] at *); (try omega)); all_goals (try (simp [CL.sub]; done)))
def mostPerfectP : PSp := fun xs K => match xs with
  | [.isl (.ints .i64 rows) .none, .isl (.ints .i64 cols) .none] => VC (rows.length ≤ 16 ∧ cols.length = rows.length ∧ (∀ k, k < rows.length → 0 ≤ rows.getD k 0 ∧ rows.getD k 0 < rows.length) ∧ ∀ k, k < rows.length → 0 ≤ cols.getD k 0 ∧ cols.getD k 0 < rows.length) ∧ K (gridV rows.length rows.length (mpL rows cols))
  | _ => False
theorem mostPerfect_ok : POK Try.prog 99 mostPerfectP := by
  intro xs K h
  unfold mostPerfectP at h
  split at h
  · exact ⟨_, h.2, mostPerfect_spec _ _ h.1.get.1 h.1.get.2.1 h.1.get.2.2.1 h.1.get.2.2.2⟩
  · exact h.elim
end Go.Eng.Ytppflbccfdbogaa
namespace Go.Eng.Ytppflbccfdbogaa
open Go.Proofs
set_option maxRecDepth 100000
set_option maxHeartbeats 0
set_option linter.unusedVariables false
set_option linter.unusedSimpArgs false
def panL (n : Int) : List Int := uniL n 0 0 1 2 2 1
theorem pan_sq {n : Int} (hn : 1 ≤ n) (h : n % 3 ≠ 0) : isSq n (1 % n) (2 % n) (2 % n) (1 % n) = true := by
  by_cases h1 : n % 3 = 1
  · exact isSq_of (u := n / 3) ⟨-1, by have := Int.emod_add_mul_ediv n 3; omega⟩
  · exact isSq_of (u := -(n / 3) - 1) ⟨1, by have := Int.emod_add_mul_ediv n 3; omega⟩
noncomputable def cpP1 : CPT := cpAdd 98 (pureCC reducedP) (cpAdd 76 (pureCC layP) (cpAdd 34 (pureCC halvedCP) (cpAdd 99 (pureCC mostPerfectP) noC)))
theorem cpP1_ok : CPOK Try.prog cpP1 := cpAdd_ok (pureCC_ok reduced_ok) (cpAdd_ok (pureCC_ok lay_ok) (cpAdd_ok (pureCC_ok halvedC_ok) (cpAdd_ok (pureCC_ok mostPerfect_ok) noC_ok)))
theorem c97_odd (n : Int) (hn : 1 ≤ n ∧ n ≤ 16) (h : n % 3 ≠ 0) : PSpec Try.prog 97 ([] ++ [] ++ [.ip (.pv [.bp true]) 0, .ip (.pv [.int .i64 n]) 0]) (gridV n n (panL n)) := by
  have hm := meet_none (s0 := 0 % n) (s1 := 0 % n) hn.1 (pan_sq hn.1 h)
  have h3 := emod_all hn.1 0 0 1 2 2 1
  unfold panL uniL
  refine pspec_of (md := 0) (rf := []) mixed tabOK cpP1_ok Try.func97 (by rfl) (by rfl) (by rfl) ?_
  repeat' (first | ((conv => whnf); refine And.intro ?_ ?_) | ((conv => whnf); with_reducible exact VC.mk rfl) | ((conv => whnf); exact Ok.mk) | ((conv => whnf); exact True.intro) | ((conv => whnf); refine Nx.mk ?_) | ((conv => whnf); refine Fin.mk ?_) | ((conv => whnf); intro _))
  all_goals ((try refine VC.mk ?_); (try simp only [CL.ncell, CL.cnt, Int.toNat_natCast, decide_eq_true_eq, decide_eq_false_iff_not, Bool.not_eq_true, Bool.not_false, Bool.not_true, and_self, and_true, true_and, te3b, te4b, te3s, te4s, Nat.mul_one, Nat.zero_add, List.length_cons, List.length_nil, Bool.false_eq_true, Bool.true_eq_false] at *); (try omega))
  · refine ⟨by omega, fun x hx => ?_⟩
    simp only [List.mem_cons, List.not_mem_nil, or_false] at hx
    rcases hx with rfl | rfl | rfl | rfl | rfl | rfl <;> omega
  · exact ⟨hn, h3⟩
  simp only [layV, hm]
  repeat' (first | ((conv => whnf); refine And.intro ?_ ?_) | ((conv => whnf); with_reducible exact VC.mk rfl) | ((conv => whnf); exact Ok.mk) | ((conv => whnf); exact True.intro) | ((conv => whnf); refine Nx.mk ?_) | ((conv => whnf); refine Fin.mk ?_) | ((conv => whnf); intro _))
  all_goals ((try refine VC.mk ?_); (try simp only [CL.ncell, CL.cnt, Int.toNat_natCast, decide_eq_true_eq, decide_eq_false_iff_not, Bool.not_eq_true, Bool.not_false, Bool.not_true, and_self, and_true, true_and, te3b, te4b, te3s, te4s, Nat.mul_one, Nat.zero_add, List.length_cons, List.length_nil, Bool.false_eq_true, Bool.true_eq_false] at *); (try omega))
  all_goals (refine Sup.via ?_; repeat' (first | ((conv => whnf); refine And.intro ?_ ?_) | ((conv => whnf); with_reducible exact VC.mk rfl) | ((conv => whnf); exact Ok.mk) | ((conv => whnf); exact True.intro) | ((conv => whnf); refine Nx.mk ?_) | ((conv => whnf); refine Fin.mk ?_) | ((conv => whnf); intro _)); all_goals ((try refine VC.mk ?_); (try simp only [CL.ncell, CL.cnt, Int.toNat_natCast, decide_eq_true_eq, decide_eq_false_iff_not, Bool.not_eq_true, Bool.not_false, Bool.not_true, and_self, and_true, true_and, te3b, te4b, te3s, te4s, Nat.mul_one, Nat.zero_add, List.length_cons, List.length_nil, Bool.false_eq_true, Bool.true_eq_false] at *); (try omega)); all_goals (try (simp [CL.sub]; done)))
theorem halved_bd (n : Int) (hn : 1 ≤ n ∧ n ≤ 16) (k : Nat) (hk : k < n.toNat) : 0 ≤ (halvedL n n.toNat).getD k 0 ∧ (halvedL n n.toNat).getD k 0 < n := by
  unfold halvedL
  rw [List.getD_eq_getElem?_getD, List.getElem?_map, List.getElem?_range hk]
  simp only [Option.map_some, Option.getD_some]
  unfold halvedAt
  split <;> omega
def panM (n : Int) : List Int := mpL (halvedL n n.toNat) (halvedL n n.toNat)
theorem c97_four (n : Int) (hn : 1 ≤ n ∧ n ≤ 16) (h : n % 4 = 0) : PSpec Try.prog 97 ([] ++ [] ++ [.ip (.pv [.bp false]) 0, .ip (.pv [.int .i64 n]) 0]) (gridV n n (panM n)) := by
  have hv : halvedV n = .tup [.isl (.ints .i64 (halvedL n n.toNat)) .none, .int .i64 0] := by unfold halvedV; rw [if_neg (by omega), if_pos h]
  have hl : ((halvedL n n.toNat).length : Int) = n := by rw [halvedL_len]; omega
  have hb := halved_bd n hn
  refine pspec_of (md := 0) (rf := []) mixed tabOK cpP1_ok Try.func97 (by rfl) (by rfl) (by rfl) ?_
  repeat' (first | ((conv => whnf); refine And.intro ?_ ?_) | ((conv => whnf); with_reducible exact VC.mk rfl) | ((conv => whnf); exact Ok.mk) | ((conv => whnf); exact True.intro) | ((conv => whnf); refine Nx.mk ?_) | ((conv => whnf); refine Fin.mk ?_) | ((conv => whnf); intro _))
  all_goals ((try refine VC.mk ?_); (try simp only [CL.ncell, CL.cnt, Int.toNat_natCast, decide_eq_true_eq, decide_eq_false_iff_not, Bool.not_eq_true, Bool.not_false, Bool.not_true, and_self, and_true, true_and, te3b, te4b, te3s, te4s, Nat.mul_one, Nat.zero_add, List.length_cons, List.length_nil, Bool.false_eq_true, Bool.true_eq_false] at *); (try omega))
  simp only [hv]
  repeat' (first | ((conv => whnf); refine And.intro ?_ ?_) | ((conv => whnf); with_reducible exact VC.mk rfl) | ((conv => whnf); exact Ok.mk) | ((conv => whnf); exact True.intro) | ((conv => whnf); refine Nx.mk ?_) | ((conv => whnf); refine Fin.mk ?_) | ((conv => whnf); intro _))
  all_goals ((try refine VC.mk ?_); (try simp only [CL.ncell, CL.cnt, Int.toNat_natCast, decide_eq_true_eq, decide_eq_false_iff_not, Bool.not_eq_true, Bool.not_false, Bool.not_true, and_self, and_true, true_and, te3b, te4b, te3s, te4s, Nat.mul_one, Nat.zero_add, List.length_cons, List.length_nil, Bool.false_eq_true, Bool.true_eq_false] at *); (try omega))
  · exact ⟨by rw [halvedL_len]; omega, fun k hk => by rw [hl]; exact hb k (by rw [halvedL_len] at hk; exact hk)⟩
  rw [hl]
  unfold panM
  all_goals (refine Sup.via ?_; repeat' (first | ((conv => whnf); refine And.intro ?_ ?_) | ((conv => whnf); with_reducible exact VC.mk rfl) | ((conv => whnf); exact Ok.mk) | ((conv => whnf); exact True.intro) | ((conv => whnf); refine Nx.mk ?_) | ((conv => whnf); refine Fin.mk ?_) | ((conv => whnf); intro _)); all_goals ((try refine VC.mk ?_); (try simp only [CL.ncell, CL.cnt, Int.toNat_natCast, decide_eq_true_eq, decide_eq_false_iff_not, Bool.not_eq_true, Bool.not_false, Bool.not_true, and_self, and_true, true_and, te3b, te4b, te3s, te4s, Nat.mul_one, Nat.zero_add, List.length_cons, List.length_nil, Bool.false_eq_true, Bool.true_eq_false] at *); (try omega)); all_goals (try (simp [CL.sub]; done)))
theorem pandiagonal_spec (n : Int) : PSpec Try.prog 33 [.int .i64 n] (gridOr n (n % 2 = 1 ∧ n % 3 ≠ 0 ∨ n % 4 = 0) (if n % 2 = 1 then panL n else panM n)) := by
  unfold gridOr
  by_cases hn : n < 1 ∨ 16 < n
  · rw [if_pos hn]
    refine pspec_of (md := 1) (rf := []) mixed tabOK cpO2_ok Try.func33 (by rfl) (by rfl) (by rfl) ?_
    repeat' (first | ((conv => whnf); refine And.intro ?_ ?_) | ((conv => whnf); with_reducible exact VC.mk rfl) | ((conv => whnf); exact Ok.mk) | ((conv => whnf); exact True.intro) | ((conv => whnf); refine Nx.mk ?_) | ((conv => whnf); refine Fin.mk ?_) | ((conv => whnf); intro _))
    all_goals ((try refine VC.mk ?_); (try simp only [CL.ncell, CL.cnt, Int.toNat_natCast, decide_eq_true_eq, decide_eq_false_iff_not, Bool.not_eq_true, Bool.not_false, Bool.not_true, and_self, and_true, true_and, te3b, te4b, te3s, te4s, Nat.mul_one, Nat.zero_add, List.length_cons, List.length_nil, Bool.false_eq_true, Bool.true_eq_false] at *); (try omega))
    all_goals (try (exfalso; omega))
    all_goals (refine Sup.via ?_; repeat' (first | ((conv => whnf); refine And.intro ?_ ?_) | ((conv => whnf); with_reducible exact VC.mk rfl) | ((conv => whnf); exact Ok.mk) | ((conv => whnf); exact True.intro) | ((conv => whnf); refine Nx.mk ?_) | ((conv => whnf); refine Fin.mk ?_) | ((conv => whnf); intro _)); all_goals ((try refine VC.mk ?_); (try simp only [CL.ncell, CL.cnt, Int.toNat_natCast, decide_eq_true_eq, decide_eq_false_iff_not, Bool.not_eq_true, Bool.not_false, Bool.not_true, and_self, and_true, true_and, te3b, te4b, te3s, te4s, Nat.mul_one, Nat.zero_add, List.length_cons, List.length_nil, Bool.false_eq_true, Bool.true_eq_false] at *); (try omega)); all_goals (try (simp [CL.sub]; done)))
  · rw [if_neg hn]
    have h2 : n.tmod 2 = n % 2 := Int.tmod_eq_emod_of_nonneg (by omega)
    have h3 : n.tmod 3 = n % 3 := Int.tmod_eq_emod_of_nonneg (by omega)
    have h4 : n.tmod 4 = n % 4 := Int.tmod_eq_emod_of_nonneg (by omega)
    by_cases c1 : n % 2 = 1 ∧ n % 3 ≠ 0
    · rw [if_pos (.inl c1), if_pos c1.1]
      refine pspec_of (md := 1) (rf := []) mixed tabOK cpO2_ok Try.func33 (by rfl) (by rfl) (by rfl) ?_
      repeat' (first | ((conv => whnf); refine And.intro ?_ ?_) | ((conv => whnf); with_reducible exact VC.mk rfl) | ((conv => whnf); exact Ok.mk) | ((conv => whnf); exact True.intro) | ((conv => whnf); refine Nx.mk ?_) | ((conv => whnf); refine Fin.mk ?_) | ((conv => whnf); intro _))
      all_goals ((try refine VC.mk ?_); (try simp only [CL.ncell, CL.cnt, Int.toNat_natCast, decide_eq_true_eq, decide_eq_false_iff_not, Bool.not_eq_true, Bool.not_false, Bool.not_true, and_self, and_true, true_and, te3b, te4b, te3s, te4s, Nat.mul_one, Nat.zero_add, List.length_cons, List.length_nil, Bool.false_eq_true, Bool.true_eq_false] at *); (try omega))
      all_goals (try (exfalso; omega))
      all_goals (refine ⟨n, n, panL n, (by rw [show decide (n.tmod 2 ≠ 0) = true from by simp; omega]; exact c97_odd n (by omega) c1.2), ?_⟩)
      all_goals repeat' (first | ((conv => whnf); refine And.intro ?_ ?_) | ((conv => whnf); with_reducible exact VC.mk rfl) | ((conv => whnf); exact Ok.mk) | ((conv => whnf); exact True.intro) | ((conv => whnf); refine Nx.mk ?_) | ((conv => whnf); refine Fin.mk ?_) | ((conv => whnf); intro _))
      all_goals all_goals ((try refine VC.mk ?_); (try simp only [CL.ncell, CL.cnt, Int.toNat_natCast, decide_eq_true_eq, decide_eq_false_iff_not, Bool.not_eq_true, Bool.not_false, Bool.not_true, and_self, and_true, true_and, te3b, te4b, te3s, te4s, Nat.mul_one, Nat.zero_add, List.length_cons, List.length_nil, Bool.false_eq_true, Bool.true_eq_false] at *); (try omega))
      all_goals (refine Sup.via ?_; repeat' (first | ((conv => whnf); refine And.intro ?_ ?_) | ((conv => whnf); with_reducible exact VC.mk rfl) | ((conv => whnf); exact Ok.mk) | ((conv => whnf); exact True.intro) | ((conv => whnf); refine Nx.mk ?_) | ((conv => whnf); refine Fin.mk ?_) | ((conv => whnf); intro _)); all_goals ((try refine VC.mk ?_); (try simp only [CL.ncell, CL.cnt, Int.toNat_natCast, decide_eq_true_eq, decide_eq_false_iff_not, Bool.not_eq_true, Bool.not_false, Bool.not_true, and_self, and_true, true_and, te3b, te4b, te3s, te4s, Nat.mul_one, Nat.zero_add, List.length_cons, List.length_nil, Bool.false_eq_true, Bool.true_eq_false] at *); (try omega)); all_goals (try (simp [CL.sub]; done)))
    · by_cases c2 : n % 4 = 0
      · rw [if_pos (.inr c2), if_neg (by omega)]
        refine pspec_of (md := 1) (rf := []) mixed tabOK cpO2_ok Try.func33 (by rfl) (by rfl) (by rfl) ?_
        repeat' (first | ((conv => whnf); refine And.intro ?_ ?_) | ((conv => whnf); with_reducible exact VC.mk rfl) | ((conv => whnf); exact Ok.mk) | ((conv => whnf); exact True.intro) | ((conv => whnf); refine Nx.mk ?_) | ((conv => whnf); refine Fin.mk ?_) | ((conv => whnf); intro _))
        all_goals ((try refine VC.mk ?_); (try simp only [CL.ncell, CL.cnt, Int.toNat_natCast, decide_eq_true_eq, decide_eq_false_iff_not, Bool.not_eq_true, Bool.not_false, Bool.not_true, and_self, and_true, true_and, te3b, te4b, te3s, te4s, Nat.mul_one, Nat.zero_add, List.length_cons, List.length_nil, Bool.false_eq_true, Bool.true_eq_false] at *); (try omega))
        all_goals (try (exfalso; omega))
        all_goals (refine ⟨n, n, panM n, (by rw [show decide (n.tmod 2 ≠ 0) = false from by simp; omega]; exact c97_four n (by omega) c2), ?_⟩)
        all_goals repeat' (first | ((conv => whnf); refine And.intro ?_ ?_) | ((conv => whnf); with_reducible exact VC.mk rfl) | ((conv => whnf); exact Ok.mk) | ((conv => whnf); exact True.intro) | ((conv => whnf); refine Nx.mk ?_) | ((conv => whnf); refine Fin.mk ?_) | ((conv => whnf); intro _))
        all_goals all_goals ((try refine VC.mk ?_); (try simp only [CL.ncell, CL.cnt, Int.toNat_natCast, decide_eq_true_eq, decide_eq_false_iff_not, Bool.not_eq_true, Bool.not_false, Bool.not_true, and_self, and_true, true_and, te3b, te4b, te3s, te4s, Nat.mul_one, Nat.zero_add, List.length_cons, List.length_nil, Bool.false_eq_true, Bool.true_eq_false] at *); (try omega))
        all_goals (refine Sup.via ?_; repeat' (first | ((conv => whnf); refine And.intro ?_ ?_) | ((conv => whnf); with_reducible exact VC.mk rfl) | ((conv => whnf); exact Ok.mk) | ((conv => whnf); exact True.intro) | ((conv => whnf); refine Nx.mk ?_) | ((conv => whnf); refine Fin.mk ?_) | ((conv => whnf); intro _)); all_goals ((try refine VC.mk ?_); (try simp only [CL.ncell, CL.cnt, Int.toNat_natCast, decide_eq_true_eq, decide_eq_false_iff_not, Bool.not_eq_true, Bool.not_false, Bool.not_true, and_self, and_true, true_and, te3b, te4b, te3s, te4s, Nat.mul_one, Nat.zero_add, List.length_cons, List.length_nil, Bool.false_eq_true, Bool.true_eq_false] at *); (try omega)); all_goals (try (simp [CL.sub]; done)))
      · rw [if_neg (by omega)]
        refine pspec_of (md := 1) (rf := []) mixed tabOK cpO2_ok Try.func33 (by rfl) (by rfl) (by rfl) ?_
        repeat' (first | ((conv => whnf); refine And.intro ?_ ?_) | ((conv => whnf); with_reducible exact VC.mk rfl) | ((conv => whnf); exact Ok.mk) | ((conv => whnf); exact True.intro) | ((conv => whnf); refine Nx.mk ?_) | ((conv => whnf); refine Fin.mk ?_) | ((conv => whnf); intro _))
        all_goals ((try refine VC.mk ?_); (try simp only [CL.ncell, CL.cnt, Int.toNat_natCast, decide_eq_true_eq, decide_eq_false_iff_not, Bool.not_eq_true, Bool.not_false, Bool.not_true, and_self, and_true, true_and, te3b, te4b, te3s, te4s, Nat.mul_one, Nat.zero_add, List.length_cons, List.length_nil, Bool.false_eq_true, Bool.true_eq_false] at *); (try omega))
        all_goals (try (exfalso; omega))
        all_goals (refine Sup.via ?_; repeat' (first | ((conv => whnf); refine And.intro ?_ ?_) | ((conv => whnf); with_reducible exact VC.mk rfl) | ((conv => whnf); exact Ok.mk) | ((conv => whnf); exact True.intro) | ((conv => whnf); refine Nx.mk ?_) | ((conv => whnf); refine Fin.mk ?_) | ((conv => whnf); intro _)); all_goals ((try refine VC.mk ?_); (try simp only [CL.ncell, CL.cnt, Int.toNat_natCast, decide_eq_true_eq, decide_eq_false_iff_not, Bool.not_eq_true, Bool.not_false, Bool.not_true, and_self, and_true, true_and, te3b, te4b, te3s, te4s, Nat.mul_one, Nat.zero_add, List.length_cons, List.length_nil, Bool.false_eq_true, Bool.true_eq_false] at *); (try omega)); all_goals (try (simp [CL.sub]; done)))
def pandiagonalP : PSp := fun xs K => match xs with
  | [.int .i64 n] => VC (True) ∧ K (gridOr n (n % 2 = 1 ∧ n % 3 ≠ 0 ∨ n % 4 = 0) (if n % 2 = 1 then panL n else panM n))
  | _ => False
theorem pandiagonal_ok : POK Try.prog 33 pandiagonalP := by
  intro xs K h
  unfold pandiagonalP at h
  split at h
  · exact ⟨_, h.2, pandiagonal_spec _⟩
  · exact h.elim
end Go.Eng.Ytppflbccfdbogaa
namespace Go.Eng.Ytppflbccfdbogaa
open Go.Proofs
set_option maxRecDepth 100000
set_option maxHeartbeats 0
set_option linter.unusedVariables false
set_option linter.unusedSimpArgs false
def rectF (r c : Int) (i j : Nat) : Int :=
  if (decide ((j : Int) % 4 = 0 ∨ (j : Int) % 4 = 3)) = decide ((i : Int) % 2 = 1) then r * c + 1 - ((i : Int) / 2 * c + j + 1) else (i : Int) / 2 * c + j + 1
def rectL (r c : Nat) (m : Nat) : List Int := (List.range m).map fun k => rectF r c (k / c) (k % c)
theorem rectL_succ (r c m : Nat) : rectL r c (m + 1) = rectL r c m ++ [rectF r c (m / c) (m % c)] := by simp [rectL, List.range_succ]
theorem rectL_len (r c m : Nat) : (rectL r c m).length = m := by simp [rectL]
def rectErr (r c : Int) : Int := if (r < 1 ∨ 16 < r) ∨ (c < 1 ∨ 16 < c) then 3 else if r % 2 = 0 ∧ c % 4 = 0 then 0 else 7
theorem rect_ok (r c : Nat) (hr : 1 ≤ r ∧ r ≤ 16) (hc : 1 ≤ c ∧ c ≤ 16) (h2 : (r : Int) % 2 = 0) (h4 : (c : Int) % 4 = 0) : PSpec Try.prog 24 [.int .i64 (r : Int), .int .i64 (c : Int)] (okGrid r c (rectL r c (r * c))) := by
  have hrc := mul_bd (show 0 ≤ (r : Int) ∧ (r : Int) ≤ 16 by omega) (show 0 ≤ (c : Int) ∧ (c : Int) ≤ 16 by omega)
  have hrc' : ((r * c : Nat) : Int) = (r : Int) * c := by push_cast; rfl
  have hmul : ∀ i j : Nat, i < r → j < c → c * i + j < r * c ∧ (0 ≤ (i : Int) / 2 * c ∧ (i : Int) / 2 * c ≤ 256) := fun i j hi hj => by
    have := Nat.mul_le_mul_left c (show i + 1 ≤ r by omega)
    rw [Nat.mul_add, Nat.mul_comm c r] at this
    exact ⟨by omega, mul_bd (A := 16) (B := 16) (by omega) (by omega)⟩
  have hd : ∀ i j : Nat, j < c → (c * i + j) / c = i ∧ (c * i + j) % c = j := fun i j hj => by
    rw [Nat.mul_add_div (by omega), Nat.div_eq_of_lt hj, Nat.mul_add_mod, Nat.mod_eq_of_lt hj]; exact ⟨by omega, rfl⟩
  refine pspec_of (md := 0) (rf := []) mixed tabOK cp2_ok Try.func24 (by rfl) (by rfl) (by rfl) ?_
  repeat' (first | ((conv => whnf); refine And.intro ?_ ?_) | ((conv => whnf); with_reducible exact VC.mk rfl) | ((conv => whnf); exact Ok.mk) | ((conv => whnf); exact True.intro) | ((conv => whnf); refine Nx.mk ?_) | ((conv => whnf); refine Fin.mk ?_) | ((conv => whnf); intro _))
  all_goals ((try refine VC.mk ?_); (try simp only [CL.ncell, CL.cnt, Int.toNat_natCast, decide_eq_true_eq, decide_eq_false_iff_not, Bool.not_eq_true, Bool.not_false, Bool.not_true, and_self, and_true, true_and, te3b, te4b, te3s, te4s, Nat.mul_one, Nat.zero_add, List.length_cons, List.length_nil, Bool.false_eq_true, Bool.true_eq_false] at *); (try omega))
  all_goals (try (exfalso; simp_all [firstOf]; omega))
  generalize firstOf _ = ee
  conv => whnf
  refine loop_of (X := Nat) (fun i => i ≤ r) (fun i => [(35, .int .i64 i)]) (fun i => [(18, .cells (.pv [.int .i64 (r : Int), .int .i64 (c : Int), .isl (.ints .i64 (rectL r c (c * i))) (.own 19)]) false), (19, .tok 1 (c * i))]) (fun i => r - i) 0 ⟨anyB_ok, mixed, tabOK, cp2_ok, noY_ok⟩ (by rfl) (by omega) ?_ ?_
  · repeat' (first | ((conv => whnf); refine And.intro ?_ ?_) | ((conv => whnf); with_reducible exact VC.mk rfl) | ((conv => whnf); exact Ok.mk) | ((conv => whnf); exact True.intro) | ((conv => whnf); refine Nx.mk ?_) | ((conv => whnf); refine Fin.mk ?_) | ((conv => whnf); intro _))
    all_goals ((try refine VC.mk ?_); (try simp only [CL.ncell, CL.cnt, Int.toNat_natCast, decide_eq_true_eq, decide_eq_false_iff_not, Bool.not_eq_true, Bool.not_false, Bool.not_true, and_self, and_true, true_and, te3b, te4b, te3s, te4s, Nat.mul_one, Nat.zero_add, List.length_cons, List.length_nil, Bool.false_eq_true, Bool.true_eq_false] at *); (try omega))
    all_goals (try (simp [rectL]; done))
  · intro i hi
    by_cases hlt : i < r
    · repeat' (first | ((conv => whnf); refine And.intro ?_ ?_) | ((conv => whnf); with_reducible exact VC.mk rfl) | ((conv => whnf); exact Ok.mk) | ((conv => whnf); exact True.intro) | ((conv => whnf); refine Nx.mk ?_) | ((conv => whnf); refine Fin.mk ?_) | ((conv => whnf); intro _))
      all_goals ((try refine VC.mk ?_); (try simp only [CL.ncell, CL.cnt, Int.toNat_natCast, decide_eq_true_eq, decide_eq_false_iff_not, Bool.not_eq_true, Bool.not_false, Bool.not_true, and_self, and_true, true_and, te3b, te4b, te3s, te4s, Nat.mul_one, Nat.zero_add, List.length_cons, List.length_nil, Bool.false_eq_true, Bool.true_eq_false] at *); (try omega))
      conv => whnf
      refine loop_of (X := Nat) (fun j => j ≤ c) (fun j => [(39, .int .i64 j)]) (fun j => [(18, .cells (.pv [.int .i64 (r : Int), .int .i64 (c : Int), .isl (.ints .i64 (rectL r c (c * i + j))) (.own 19)]) false), (19, .tok 1 (c * i + j))]) (fun j => c - j) 0 ⟨anyB_ok, mixed, tabOK, cp2_ok, noY_ok⟩ (by rfl) (by omega) ?_ ?_
      · repeat' (first | ((conv => whnf); refine And.intro ?_ ?_) | ((conv => whnf); with_reducible exact VC.mk rfl) | ((conv => whnf); exact Ok.mk) | ((conv => whnf); exact True.intro) | ((conv => whnf); refine Nx.mk ?_) | ((conv => whnf); refine Fin.mk ?_) | ((conv => whnf); intro _))
        all_goals ((try refine VC.mk ?_); (try simp only [CL.ncell, CL.cnt, Int.toNat_natCast, decide_eq_true_eq, decide_eq_false_iff_not, Bool.not_eq_true, Bool.not_false, Bool.not_true, and_self, and_true, true_and, te3b, te4b, te3s, te4s, Nat.mul_one, Nat.zero_add, List.length_cons, List.length_nil, Bool.false_eq_true, Bool.true_eq_false] at *); (try omega))
      · intro j hj
        by_cases hlj : j < c
        · have hl := rectL_len r c (c * i + j)
          have e1 := rectL_succ r c (c * i + j)
          have hm := hmul i j hlt hlj
          rw [(hd i j hlj).1, (hd i j hlj).2] at e1
          repeat' (first | ((conv => whnf); refine And.intro ?_ ?_) | ((conv => whnf); with_reducible exact VC.mk rfl) | ((conv => whnf); exact Ok.mk) | ((conv => whnf); exact True.intro) | ((conv => whnf); refine Nx.mk ?_) | ((conv => whnf); refine Fin.mk ?_) | ((conv => whnf); intro _))
          all_goals ((try refine VC.mk ?_); (try simp only [CL.ncell, CL.cnt, Int.toNat_natCast, decide_eq_true_eq, decide_eq_false_iff_not, Bool.not_eq_true, Bool.not_false, Bool.not_true, and_self, and_true, true_and, te3b, te4b, te3s, te4s, Nat.mul_one, Nat.zero_add, List.length_cons, List.length_nil, Bool.false_eq_true, Bool.true_eq_false] at *); (try omega))
          all_goals first | (simp [hl]; omega) | skip
          all_goals (refine ⟨j + 1, [], ⟨by omega, by omega⟩, ?_⟩)
          all_goals repeat' (first | ((conv => whnf); refine And.intro ?_ ?_) | ((conv => whnf); with_reducible exact VC.mk rfl) | ((conv => whnf); exact Ok.mk) | ((conv => whnf); exact True.intro) | ((conv => whnf); refine Nx.mk ?_) | ((conv => whnf); refine Fin.mk ?_) | ((conv => whnf); intro _))
          all_goals all_goals ((try refine VC.mk ?_); (try simp only [CL.ncell, CL.cnt, Int.toNat_natCast, decide_eq_true_eq, decide_eq_false_iff_not, Bool.not_eq_true, Bool.not_false, Bool.not_true, and_self, and_true, true_and, te3b, te4b, te3s, te4s, Nat.mul_one, Nat.zero_add, List.length_cons, List.length_nil, Bool.false_eq_true, Bool.true_eq_false] at *); (try omega))
          all_goals (rw [show c * i + (j + 1) = c * i + j + 1 by omega, e1]; unfold rectF)
          all_goals (split <;> first | rfl | (exfalso; simp_all; done) | (exfalso; simp_all; omega))
        · have : c = j := by omega
          subst this
          repeat' (first | ((conv => whnf); refine And.intro ?_ ?_) | ((conv => whnf); with_reducible exact VC.mk rfl) | ((conv => whnf); exact Ok.mk) | ((conv => whnf); exact True.intro) | ((conv => whnf); refine Nx.mk ?_) | ((conv => whnf); refine Fin.mk ?_) | ((conv => whnf); intro _))
          all_goals ((try refine VC.mk ?_); (try simp only [CL.ncell, CL.cnt, Int.toNat_natCast, decide_eq_true_eq, decide_eq_false_iff_not, Bool.not_eq_true, Bool.not_false, Bool.not_true, and_self, and_true, true_and, te3b, te4b, te3s, te4s, Nat.mul_one, Nat.zero_add, List.length_cons, List.length_nil, Bool.false_eq_true, Bool.true_eq_false] at *); (try omega))
          refine ⟨i + 1, [], ⟨by omega, by omega⟩, ?_⟩
          repeat' (first | ((conv => whnf); refine And.intro ?_ ?_) | ((conv => whnf); with_reducible exact VC.mk rfl) | ((conv => whnf); exact Ok.mk) | ((conv => whnf); exact True.intro) | ((conv => whnf); refine Nx.mk ?_) | ((conv => whnf); refine Fin.mk ?_) | ((conv => whnf); intro _))
          all_goals ((try refine VC.mk ?_); (try simp only [CL.ncell, CL.cnt, Int.toNat_natCast, decide_eq_true_eq, decide_eq_false_iff_not, Bool.not_eq_true, Bool.not_false, Bool.not_true, and_self, and_true, true_and, te3b, te4b, te3s, te4s, Nat.mul_one, Nat.zero_add, List.length_cons, List.length_nil, Bool.false_eq_true, Bool.true_eq_false] at *); (try omega))
          all_goals (try (rw [Nat.mul_add, Nat.mul_one]))
    · have : r = i := by omega
      subst this
      repeat' (first | ((conv => whnf); refine And.intro ?_ ?_) | ((conv => whnf); with_reducible exact VC.mk rfl) | ((conv => whnf); exact Ok.mk) | ((conv => whnf); exact True.intro) | ((conv => whnf); refine Nx.mk ?_) | ((conv => whnf); refine Fin.mk ?_) | ((conv => whnf); intro _))
      all_goals ((try refine VC.mk ?_); (try simp only [CL.ncell, CL.cnt, Int.toNat_natCast, decide_eq_true_eq, decide_eq_false_iff_not, Bool.not_eq_true, Bool.not_false, Bool.not_true, and_self, and_true, true_and, te3b, te4b, te3s, te4s, Nat.mul_one, Nat.zero_add, List.length_cons, List.length_nil, Bool.false_eq_true, Bool.true_eq_false] at *); (try omega))
      rw [Nat.mul_comm c r]
      all_goals (refine Sup.via ?_; repeat' (first | ((conv => whnf); refine And.intro ?_ ?_) | ((conv => whnf); with_reducible exact VC.mk rfl) | ((conv => whnf); exact Ok.mk) | ((conv => whnf); exact True.intro) | ((conv => whnf); refine Nx.mk ?_) | ((conv => whnf); refine Fin.mk ?_) | ((conv => whnf); intro _)); all_goals ((try refine VC.mk ?_); (try simp only [CL.ncell, CL.cnt, Int.toNat_natCast, decide_eq_true_eq, decide_eq_false_iff_not, Bool.not_eq_true, Bool.not_false, Bool.not_true, and_self, and_true, true_and, te3b, te4b, te3s, te4s, Nat.mul_one, Nat.zero_add, List.length_cons, List.length_nil, Bool.false_eq_true, Bool.true_eq_false] at *); (try omega)); all_goals (try (simp [CL.sub]; done)))
theorem rect_err (r c e : Int) (he : e ≠ 0) (hf : firstOf [if r < 1 ∨ 16 < r then 3 else 0, if c < 1 ∨ 16 < c then 3 else 0, if r.tmod 2 ≠ 0 ∨ c.tmod 4 ≠ 0 then 7 else 0] = e) : PSpec Try.prog 24 [.int .i64 r, .int .i64 c] (noGrid e) := by
  refine pspec_of (md := 1) (rf := []) mixed tabOK cp2_ok Try.func24 (by rfl) (by rfl) (by rfl) ?_
  repeat' (first | ((conv => whnf); refine And.intro ?_ ?_) | ((conv => whnf); with_reducible exact VC.mk rfl) | ((conv => whnf); exact Ok.mk) | ((conv => whnf); exact True.intro) | ((conv => whnf); refine Nx.mk ?_) | ((conv => whnf); refine Fin.mk ?_) | ((conv => whnf); intro _))
  all_goals ((try refine VC.mk ?_); (try simp only [CL.ncell, CL.cnt, Int.toNat_natCast, decide_eq_true_eq, decide_eq_false_iff_not, Bool.not_eq_true, Bool.not_false, Bool.not_true, and_self, and_true, true_and, te3b, te4b, te3s, te4s, Nat.mul_one, Nat.zero_add, List.length_cons, List.length_nil, Bool.false_eq_true, Bool.true_eq_false] at *); (try omega))
  all_goals first | (exfalso; simp_all; done) | (refine Sup.of ?_; simp_all [resOf, noGrid]; done) | (refine Sup.via ?_; refine ⟨⟨⟨rfl⟩, ⟨rfl⟩, ⟨rfl⟩, trivial⟩, ⟨⟨by simp_all⟩, trivial⟩, trivial⟩)
def rectV (r c : Int) : PV := if rectErr r c = 0 then okGrid r c (rectL r.toNat c.toNat (r.toNat * c.toNat)) else noGrid (rectErr r c)
theorem rectangle_spec (r c : Int) : PSpec Try.prog 24 [.int .i64 r, .int .i64 c] (rectV r c) := by
  unfold rectV rectErr
  by_cases h1 : (r < 1 ∨ 16 < r) ∨ (c < 1 ∨ 16 < c)
  · rw [if_pos h1]
    refine rect_err r c 3 (by omega) ?_
    by_cases h : r < 1 ∨ 16 < r
    · rw [if_pos h]; rfl
    · rw [if_neg h, if_pos (h1.resolve_left h)]; rfl
  · rw [if_neg h1]
    have e1 : r.tmod 2 = r % 2 := Int.tmod_eq_emod_of_nonneg (by omega)
    have e2 : c.tmod 4 = c % 4 := Int.tmod_eq_emod_of_nonneg (by omega)
    by_cases h2 : r % 2 = 0 ∧ c % 4 = 0
    · rw [if_pos h2]
      obtain ⟨m, rfl⟩ : ∃ m : Nat, r = m := ⟨r.toNat, by omega⟩
      obtain ⟨k, rfl⟩ : ∃ k : Nat, c = k := ⟨c.toNat, by omega⟩
      simp only [Int.toNat_natCast, if_true]
      exact rect_ok m k (by omega) (by omega) h2.1 h2.2
    · rw [if_neg h2]
      refine rect_err r c 7 (by omega) ?_
      rw [if_neg (by omega), if_neg (by omega), if_pos (by omega)]; rfl
def rectangleP : PSp := fun xs K => match xs with
  | [.int .i64 r, .int .i64 c] => VC (True) ∧ K (rectV r c)
  | _ => False
theorem rectangle_ok : POK Try.prog 24 rectangleP := by
  intro xs K h
  unfold rectangleP at h
  split at h
  · exact ⟨_, h.2, rectangle_spec _ _⟩
  · exact h.elim
end Go.Eng.Ytppflbccfdbogaa
namespace Go.Eng.Ytppflbccfdbogaa
open Go.Proofs
set_option maxRecDepth 100000
set_option maxHeartbeats 0
set_option linter.unusedVariables false
set_option linter.unusedSimpArgs false
def notTern (x : Int) : Bool := decide (x < 0 ∨ 2 < x)
theorem c156_spec (x : Int) : PSpec Try.prog 156 ([] ++ [.int .i64 x] ++ []) (.bp (notTern x)) := by
  refine pspec_of (md := 0) (rf := []) mixed tabOK noC_ok Try.func156 (by rfl) (by rfl) (by rfl) ?_
  repeat' (first | ((conv => whnf); refine And.intro ?_ ?_) | ((conv => whnf); with_reducible exact VC.mk rfl) | ((conv => whnf); exact Ok.mk) | ((conv => whnf); exact True.intro) | ((conv => whnf); refine Nx.mk ?_) | ((conv => whnf); refine Fin.mk ?_) | ((conv => whnf); intro _))
  all_goals ((try refine VC.mk ?_); (try simp only [CL.ncell, CL.cnt, Int.toNat_natCast, decide_eq_true_eq, decide_eq_false_iff_not, Bool.not_eq_true, Bool.not_false, Bool.not_true, and_self, and_true, true_and, te3b, te4b, te3s, te4s, Nat.mul_one, Nat.zero_add, List.length_cons, List.length_nil, Bool.false_eq_true, Bool.true_eq_false] at *); (try omega))
  all_goals refine Sup.via ?_
  repeat' (first | ((conv => whnf); refine And.intro ?_ ?_) | ((conv => whnf); with_reducible exact VC.mk rfl) | ((conv => whnf); exact Ok.mk) | ((conv => whnf); exact True.intro) | ((conv => whnf); refine Nx.mk ?_) | ((conv => whnf); refine Fin.mk ?_) | ((conv => whnf); intro _))
  all_goals refine VC.mk ?_
  all_goals simp_all [notTern]
  all_goals (try omega)
abbrev bimForms : PV := .agg [.int .i64 0, .int .i64 1, .int .i64 1, .int .i64 0, .int .i64 2, .int .i64 0, .int .i64 0, .int .i64 1, .int .i64 1, .int .i64 2, .int .i64 1, .int .i64 1, .int .i64 2, .int .i64 2, .int .i64 1, .int .i64 2]
noncomputable def cpT1 : CPT := cpAdd 141 (viewCC hasFP) noC
theorem cpT1_ok : CPOK Try.prog cpT1 := cpAdd_ok (viewCC_ok hasF_ok) noC_ok
theorem cForms_spec : PSpec Try.prog 147 [bimForms] (.int .i64 0) := by
  refine pspec_of (md := 0) (rf := []) mixed tabOK cpT1_ok Try.func147 (by rfl) (by rfl) (by rfl) ?_
  repeat' (first | ((conv => whnf); refine And.intro ?_ ?_) | ((conv => whnf); with_reducible exact VC.mk rfl) | ((conv => whnf); exact Ok.mk) | ((conv => whnf); exact True.intro) | ((conv => whnf); refine Nx.mk ?_) | ((conv => whnf); refine Fin.mk ?_) | ((conv => whnf); intro _))
  conv => whnf
  refine loop_rounds 5 (rounds_succ ⟨anyB_ok, mixed, tabOK, cpT1_ok, noY_ok⟩ (by rfl) ?_)
  repeat' (first | ((conv => whnf); refine And.intro ?_ ?_) | ((conv => whnf); with_reducible exact VC.mk rfl) | ((conv => whnf); exact Ok.mk) | ((conv => whnf); exact True.intro) | ((conv => whnf); refine Nx.mk ?_) | ((conv => whnf); refine Fin.mk ?_) | ((conv => whnf); intro _))
  all_goals ((try refine VC.mk ?_); (try simp only [CL.ncell, CL.cnt, Int.toNat_natCast, decide_eq_true_eq, decide_eq_false_iff_not, Bool.not_eq_true, Bool.not_false, Bool.not_true, and_self, and_true, true_and, te3b, te4b, te3s, te4s, Nat.mul_one, Nat.zero_add, List.length_cons, List.length_nil, Bool.false_eq_true, Bool.true_eq_false] at *); (try omega))
  · simp [show te145.size = 4 from rfl]
  · exact ⟨by simp, rfl⟩
  refine ⟨notTern, fun x _ => c156_spec x, ?_⟩
  repeat' (first | ((conv => whnf); refine And.intro ?_ ?_) | ((conv => whnf); with_reducible exact VC.mk rfl) | ((conv => whnf); exact Ok.mk) | ((conv => whnf); exact True.intro) | ((conv => whnf); refine Nx.mk ?_) | ((conv => whnf); refine Fin.mk ?_) | ((conv => whnf); intro _))
  · exact absurd ‹_ = true› (by decide)
  all_goals ((try refine VC.mk ?_); (try simp only [CL.ncell, CL.cnt, Int.toNat_natCast, decide_eq_true_eq, decide_eq_false_iff_not, Bool.not_eq_true, Bool.not_false, Bool.not_true, and_self, and_true, true_and, te3b, te4b, te3s, te4s, Nat.mul_one, Nat.zero_add, List.length_cons, List.length_nil, Bool.false_eq_true, Bool.true_eq_false] at *); (try omega))
  conv => whnf
  refine rounds_succ ⟨anyB_ok, mixed, tabOK, cpT1_ok, noY_ok⟩ (by rfl) ?_
  repeat' (first | ((conv => whnf); refine And.intro ?_ ?_) | ((conv => whnf); with_reducible exact VC.mk rfl) | ((conv => whnf); exact Ok.mk) | ((conv => whnf); exact True.intro) | ((conv => whnf); refine Nx.mk ?_) | ((conv => whnf); refine Fin.mk ?_) | ((conv => whnf); intro _))
  all_goals ((try refine VC.mk ?_); (try simp only [CL.ncell, CL.cnt, Int.toNat_natCast, decide_eq_true_eq, decide_eq_false_iff_not, Bool.not_eq_true, Bool.not_false, Bool.not_true, and_self, and_true, true_and, te3b, te4b, te3s, te4s, Nat.mul_one, Nat.zero_add, List.length_cons, List.length_nil, Bool.false_eq_true, Bool.true_eq_false] at *); (try omega))
  · simp [show te145.size = 4 from rfl]
  · exact ⟨by simp, rfl⟩
  refine ⟨notTern, fun x _ => c156_spec x, ?_⟩
  repeat' (first | ((conv => whnf); refine And.intro ?_ ?_) | ((conv => whnf); with_reducible exact VC.mk rfl) | ((conv => whnf); exact Ok.mk) | ((conv => whnf); exact True.intro) | ((conv => whnf); refine Nx.mk ?_) | ((conv => whnf); refine Fin.mk ?_) | ((conv => whnf); intro _))
  · exact absurd ‹_ = true› (by decide)
  all_goals ((try refine VC.mk ?_); (try simp only [CL.ncell, CL.cnt, Int.toNat_natCast, decide_eq_true_eq, decide_eq_false_iff_not, Bool.not_eq_true, Bool.not_false, Bool.not_true, and_self, and_true, true_and, te3b, te4b, te3s, te4s, Nat.mul_one, Nat.zero_add, List.length_cons, List.length_nil, Bool.false_eq_true, Bool.true_eq_false] at *); (try omega))
  conv => whnf
  refine rounds_succ ⟨anyB_ok, mixed, tabOK, cpT1_ok, noY_ok⟩ (by rfl) ?_
  repeat' (first | ((conv => whnf); refine And.intro ?_ ?_) | ((conv => whnf); with_reducible exact VC.mk rfl) | ((conv => whnf); exact Ok.mk) | ((conv => whnf); exact True.intro) | ((conv => whnf); refine Nx.mk ?_) | ((conv => whnf); refine Fin.mk ?_) | ((conv => whnf); intro _))
  all_goals ((try refine VC.mk ?_); (try simp only [CL.ncell, CL.cnt, Int.toNat_natCast, decide_eq_true_eq, decide_eq_false_iff_not, Bool.not_eq_true, Bool.not_false, Bool.not_true, and_self, and_true, true_and, te3b, te4b, te3s, te4s, Nat.mul_one, Nat.zero_add, List.length_cons, List.length_nil, Bool.false_eq_true, Bool.true_eq_false] at *); (try omega))
  · simp [show te145.size = 4 from rfl]
  · exact ⟨by simp, rfl⟩
  refine ⟨notTern, fun x _ => c156_spec x, ?_⟩
  repeat' (first | ((conv => whnf); refine And.intro ?_ ?_) | ((conv => whnf); with_reducible exact VC.mk rfl) | ((conv => whnf); exact Ok.mk) | ((conv => whnf); exact True.intro) | ((conv => whnf); refine Nx.mk ?_) | ((conv => whnf); refine Fin.mk ?_) | ((conv => whnf); intro _))
  · exact absurd ‹_ = true› (by decide)
  all_goals ((try refine VC.mk ?_); (try simp only [CL.ncell, CL.cnt, Int.toNat_natCast, decide_eq_true_eq, decide_eq_false_iff_not, Bool.not_eq_true, Bool.not_false, Bool.not_true, and_self, and_true, true_and, te3b, te4b, te3s, te4s, Nat.mul_one, Nat.zero_add, List.length_cons, List.length_nil, Bool.false_eq_true, Bool.true_eq_false] at *); (try omega))
  conv => whnf
  refine rounds_succ ⟨anyB_ok, mixed, tabOK, cpT1_ok, noY_ok⟩ (by rfl) ?_
  repeat' (first | ((conv => whnf); refine And.intro ?_ ?_) | ((conv => whnf); with_reducible exact VC.mk rfl) | ((conv => whnf); exact Ok.mk) | ((conv => whnf); exact True.intro) | ((conv => whnf); refine Nx.mk ?_) | ((conv => whnf); refine Fin.mk ?_) | ((conv => whnf); intro _))
  all_goals ((try refine VC.mk ?_); (try simp only [CL.ncell, CL.cnt, Int.toNat_natCast, decide_eq_true_eq, decide_eq_false_iff_not, Bool.not_eq_true, Bool.not_false, Bool.not_true, and_self, and_true, true_and, te3b, te4b, te3s, te4s, Nat.mul_one, Nat.zero_add, List.length_cons, List.length_nil, Bool.false_eq_true, Bool.true_eq_false] at *); (try omega))
  · simp [show te145.size = 4 from rfl]
  · exact ⟨by simp, rfl⟩
  refine ⟨notTern, fun x _ => c156_spec x, ?_⟩
  repeat' (first | ((conv => whnf); refine And.intro ?_ ?_) | ((conv => whnf); with_reducible exact VC.mk rfl) | ((conv => whnf); exact Ok.mk) | ((conv => whnf); exact True.intro) | ((conv => whnf); refine Nx.mk ?_) | ((conv => whnf); refine Fin.mk ?_) | ((conv => whnf); intro _))
  · exact absurd ‹_ = true› (by decide)
  all_goals ((try refine VC.mk ?_); (try simp only [CL.ncell, CL.cnt, Int.toNat_natCast, decide_eq_true_eq, decide_eq_false_iff_not, Bool.not_eq_true, Bool.not_false, Bool.not_true, and_self, and_true, true_and, te3b, te4b, te3s, te4s, Nat.mul_one, Nat.zero_add, List.length_cons, List.length_nil, Bool.false_eq_true, Bool.true_eq_false] at *); (try omega))
  conv => whnf
  refine rounds_succ ⟨anyB_ok, mixed, tabOK, cpT1_ok, noY_ok⟩ (by rfl) ?_
  repeat' (first | ((conv => whnf); refine And.intro ?_ ?_) | ((conv => whnf); with_reducible exact VC.mk rfl) | ((conv => whnf); exact Ok.mk) | ((conv => whnf); exact True.intro) | ((conv => whnf); refine Nx.mk ?_) | ((conv => whnf); refine Fin.mk ?_) | ((conv => whnf); intro _))
  all_goals ((try refine VC.mk ?_); (try simp only [CL.ncell, CL.cnt, Int.toNat_natCast, decide_eq_true_eq, decide_eq_false_iff_not, Bool.not_eq_true, Bool.not_false, Bool.not_true, and_self, and_true, true_and, te3b, te4b, te3s, te4s, Nat.mul_one, Nat.zero_add, List.length_cons, List.length_nil, Bool.false_eq_true, Bool.true_eq_false] at *); (try omega))
  all_goals (exact Sup.of rfl)
def cFormsP : PSp := fun xs K => match xs with
  | [.agg [.int .i64 0, .int .i64 1, .int .i64 1, .int .i64 0, .int .i64 2, .int .i64 0, .int .i64 0, .int .i64 1, .int .i64 1, .int .i64 2, .int .i64 1, .int .i64 1, .int .i64 2, .int .i64 2, .int .i64 1, .int .i64 2]] => VC (True) ∧ K (.int .i64 0)
  | _ => False
theorem cForms_ok : POK Try.prog 147 cFormsP := by
  intro xs K h
  unfold cFormsP at h
  split at h
  · exact ⟨_, h.2, cForms_spec⟩
  · exact h.elim
/-! the digits of the square -/
def dig (f0 f1 f2 f3 i j : Int) : Int := (f0 * (i / 3) + f1 * (i % 3) + f2 * (j / 3) + f3 * (j % 3)) % 3
def bimF (i j : Nat) : Int := 3 * (3 * (3 * (3 * 0 + dig 0 1 1 0 i j) + dig 2 0 0 1 i j) + dig 1 2 1 1 i j) + dig 2 2 1 2 i j + 1
theorem c148_spec (i j : Nat) (hi : i < 9) (hj : j < 9) : PSpec Try.prog 148 ([] ++ [.int .i64 i, .int .i64 j] ++ [.ip (.pv [.int .i64 0, .int .i64 1, .int .i64 1, .int .i64 0, .int .i64 2, .int .i64 0, .int .i64 0, .int .i64 1, .int .i64 1, .int .i64 2, .int .i64 1, .int .i64 1, .int .i64 2, .int .i64 2, .int .i64 1, .int .i64 2]) 0]) (.int .i64 (bimF i j)) := by
  refine pspec_of (md := 0) (rf := []) mixed tabOK noC_ok Try.func148 (by rfl) (by rfl) (by rfl) ?_
  repeat' (first | ((conv => whnf); refine And.intro ?_ ?_) | ((conv => whnf); with_reducible exact VC.mk rfl) | ((conv => whnf); exact Ok.mk) | ((conv => whnf); exact True.intro) | ((conv => whnf); refine Nx.mk ?_) | ((conv => whnf); refine Fin.mk ?_) | ((conv => whnf); intro _))
  conv => whnf
  refine loop_rounds 5 (rounds_succ ⟨anyB_ok, mixed, tabOK, noC_ok, noY_ok⟩ (by rfl) ?_)
  repeat' (first | ((conv => whnf); refine And.intro ?_ ?_) | ((conv => whnf); with_reducible exact VC.mk rfl) | ((conv => whnf); exact Ok.mk) | ((conv => whnf); exact True.intro) | ((conv => whnf); refine Nx.mk ?_) | ((conv => whnf); refine Fin.mk ?_) | ((conv => whnf); intro _))
  all_goals ((try refine VC.mk ?_); (try simp only [CL.ncell, CL.cnt, Int.toNat_natCast, decide_eq_true_eq, decide_eq_false_iff_not, Bool.not_eq_true, Bool.not_false, Bool.not_true, and_self, and_true, true_and, te3b, te4b, te3s, te4s, Nat.mul_one, Nat.zero_add, List.length_cons, List.length_nil, Bool.false_eq_true, Bool.true_eq_false] at *); (try omega))
  · simp [show te145.size = 4 from rfl]
  conv => whnf
  refine rounds_succ ⟨anyB_ok, mixed, tabOK, noC_ok, noY_ok⟩ (by rfl) ?_
  repeat' (first | ((conv => whnf); refine And.intro ?_ ?_) | ((conv => whnf); with_reducible exact VC.mk rfl) | ((conv => whnf); exact Ok.mk) | ((conv => whnf); exact True.intro) | ((conv => whnf); refine Nx.mk ?_) | ((conv => whnf); refine Fin.mk ?_) | ((conv => whnf); intro _))
  all_goals ((try refine VC.mk ?_); (try simp only [CL.ncell, CL.cnt, Int.toNat_natCast, decide_eq_true_eq, decide_eq_false_iff_not, Bool.not_eq_true, Bool.not_false, Bool.not_true, and_self, and_true, true_and, te3b, te4b, te3s, te4s, Nat.mul_one, Nat.zero_add, List.length_cons, List.length_nil, Bool.false_eq_true, Bool.true_eq_false] at *); (try omega))
  · simp [show te145.size = 4 from rfl]
  conv => whnf
  refine rounds_succ ⟨anyB_ok, mixed, tabOK, noC_ok, noY_ok⟩ (by rfl) ?_
  repeat' (first | ((conv => whnf); refine And.intro ?_ ?_) | ((conv => whnf); with_reducible exact VC.mk rfl) | ((conv => whnf); exact Ok.mk) | ((conv => whnf); exact True.intro) | ((conv => whnf); refine Nx.mk ?_) | ((conv => whnf); refine Fin.mk ?_) | ((conv => whnf); intro _))
  all_goals ((try refine VC.mk ?_); (try simp only [CL.ncell, CL.cnt, Int.toNat_natCast, decide_eq_true_eq, decide_eq_false_iff_not, Bool.not_eq_true, Bool.not_false, Bool.not_true, and_self, and_true, true_and, te3b, te4b, te3s, te4s, Nat.mul_one, Nat.zero_add, List.length_cons, List.length_nil, Bool.false_eq_true, Bool.true_eq_false] at *); (try omega))
  · simp [show te145.size = 4 from rfl]
  conv => whnf
  refine rounds_succ ⟨anyB_ok, mixed, tabOK, noC_ok, noY_ok⟩ (by rfl) ?_
  repeat' (first | ((conv => whnf); refine And.intro ?_ ?_) | ((conv => whnf); with_reducible exact VC.mk rfl) | ((conv => whnf); exact Ok.mk) | ((conv => whnf); exact True.intro) | ((conv => whnf); refine Nx.mk ?_) | ((conv => whnf); refine Fin.mk ?_) | ((conv => whnf); intro _))
  all_goals ((try refine VC.mk ?_); (try simp only [CL.ncell, CL.cnt, Int.toNat_natCast, decide_eq_true_eq, decide_eq_false_iff_not, Bool.not_eq_true, Bool.not_false, Bool.not_true, and_self, and_true, true_and, te3b, te4b, te3s, te4s, Nat.mul_one, Nat.zero_add, List.length_cons, List.length_nil, Bool.false_eq_true, Bool.true_eq_false] at *); (try omega))
  · simp [show te145.size = 4 from rfl]
  conv => whnf
  refine rounds_succ ⟨anyB_ok, mixed, tabOK, noC_ok, noY_ok⟩ (by rfl) ?_
  repeat' (first | ((conv => whnf); refine And.intro ?_ ?_) | ((conv => whnf); with_reducible exact VC.mk rfl) | ((conv => whnf); exact Ok.mk) | ((conv => whnf); exact True.intro) | ((conv => whnf); refine Nx.mk ?_) | ((conv => whnf); refine Fin.mk ?_) | ((conv => whnf); intro _))
  all_goals ((try refine VC.mk ?_); (try simp only [CL.ncell, CL.cnt, Int.toNat_natCast, decide_eq_true_eq, decide_eq_false_iff_not, Bool.not_eq_true, Bool.not_false, Bool.not_true, and_self, and_true, true_and, te3b, te4b, te3s, te4s, Nat.mul_one, Nat.zero_add, List.length_cons, List.length_nil, Bool.false_eq_true, Bool.true_eq_false] at *); (try omega))
  unfold bimF dig
  all_goals (refine Sup.via ?_; repeat' (first | ((conv => whnf); refine And.intro ?_ ?_) | ((conv => whnf); with_reducible exact VC.mk rfl) | ((conv => whnf); exact Ok.mk) | ((conv => whnf); exact True.intro) | ((conv => whnf); refine Nx.mk ?_) | ((conv => whnf); refine Fin.mk ?_) | ((conv => whnf); intro _)); all_goals ((try refine VC.mk ?_); (try simp only [CL.ncell, CL.cnt, Int.toNat_natCast, decide_eq_true_eq, decide_eq_false_iff_not, Bool.not_eq_true, Bool.not_false, Bool.not_true, and_self, and_true, true_and, te3b, te4b, te3s, te4s, Nat.mul_one, Nat.zero_add, List.length_cons, List.length_nil, Bool.false_eq_true, Bool.true_eq_false] at *); (try omega)); all_goals (try (simp [CL.sub]; done)))
theorem normal9 : normErr 9 9 (madeL 9 bimF) = 0 := by decide +kernel
noncomputable def cpT2 : CPT := cpAdd 147 (pureCC cFormsP) (cpAdd 103 (pureCC madeP) (cpAdd 88 (pureCC checkNormalP) noC))
theorem cpT2_ok : CPOK Try.prog cpT2 := cpAdd_ok (pureCC_ok cForms_ok) (cpAdd_ok (pureCC_ok made_ok) (cpAdd_ok (pureCC_ok checkNormal_ok) noC_ok))
theorem bimT_spec : PSpec Try.prog 115 [bimForms] (.tup [gridV 9 9 (madeL 9 bimF), .int .i64 0]) := by
  refine pspec_of (md := 0) (rf := []) mixed tabOK cpT2_ok Try.func115 (by rfl) (by rfl) (by rfl) ?_
  repeat' (first | ((conv => whnf); refine And.intro ?_ ?_) | ((conv => whnf); with_reducible exact VC.mk rfl) | ((conv => whnf); exact Ok.mk) | ((conv => whnf); exact True.intro) | ((conv => whnf); refine Nx.mk ?_) | ((conv => whnf); refine Fin.mk ?_) | ((conv => whnf); intro _))
  all_goals ((try refine VC.mk ?_); (try simp only [CL.ncell, CL.cnt, Int.toNat_natCast, decide_eq_true_eq, decide_eq_false_iff_not, Bool.not_eq_true, Bool.not_false, Bool.not_true, and_self, and_true, true_and, te3b, te4b, te3s, te4s, Nat.mul_one, Nat.zero_add, List.length_cons, List.length_nil, Bool.false_eq_true, Bool.true_eq_false] at *); (try omega))
  all_goals (try (refine ⟨bimF, fun i j hi hj => c148_spec i j (by omega) (by omega), ?_⟩))
  simp only [show Int.toNat 9 = 9 from rfl]
  repeat' (first | ((conv => whnf); refine And.intro ?_ ?_) | ((conv => whnf); with_reducible exact VC.mk rfl) | ((conv => whnf); exact Ok.mk) | ((conv => whnf); exact True.intro) | ((conv => whnf); refine Nx.mk ?_) | ((conv => whnf); refine Fin.mk ?_) | ((conv => whnf); intro _))
  all_goals ((try refine VC.mk ?_); (try simp only [CL.ncell, CL.cnt, Int.toNat_natCast, decide_eq_true_eq, decide_eq_false_iff_not, Bool.not_eq_true, Bool.not_false, Bool.not_true, and_self, and_true, true_and, te3b, te4b, te3s, te4s, Nat.mul_one, Nat.zero_add, List.length_cons, List.length_nil, Bool.false_eq_true, Bool.true_eq_false] at *); (try omega))
  · exact absurd normal9 ‹_›
  all_goals (refine Sup.via ?_; repeat' (first | ((conv => whnf); refine And.intro ?_ ?_) | ((conv => whnf); with_reducible exact VC.mk rfl) | ((conv => whnf); exact Ok.mk) | ((conv => whnf); exact True.intro) | ((conv => whnf); refine Nx.mk ?_) | ((conv => whnf); refine Fin.mk ?_) | ((conv => whnf); intro _)); all_goals ((try refine VC.mk ?_); (try simp only [CL.ncell, CL.cnt, Int.toNat_natCast, decide_eq_true_eq, decide_eq_false_iff_not, Bool.not_eq_true, Bool.not_false, Bool.not_true, and_self, and_true, true_and, te3b, te4b, te3s, te4s, Nat.mul_one, Nat.zero_add, List.length_cons, List.length_nil, Bool.false_eq_true, Bool.true_eq_false] at *); (try omega)); all_goals (try (simp [CL.sub]; done)))
def bimTP : PSp := fun xs K => match xs with
  | [.agg [.int .i64 0, .int .i64 1, .int .i64 1, .int .i64 0, .int .i64 2, .int .i64 0, .int .i64 0, .int .i64 1, .int .i64 1, .int .i64 2, .int .i64 1, .int .i64 1, .int .i64 2, .int .i64 2, .int .i64 1, .int .i64 2]] => VC (True) ∧ K (.tup [gridV 9 9 (madeL 9 bimF), .int .i64 0])
  | _ => False
theorem bimT_ok : POK Try.prog 115 bimTP := by
  intro xs K h
  unfold bimTP at h
  split at h
  · exact ⟨_, h.2, bimT_spec⟩
  · exact h.elim
theorem bimagic_spec : PSpec Try.prog 74 [] (gridV 9 9 (madeL 9 bimF)) := by
  have hC : CPOK Try.prog (cpAdd 115 (pureCC bimTP) noC) := cpAdd_ok (pureCC_ok bimT_ok) noC_ok
  refine pspec_of (md := 0) (rf := []) mixed tabOK hC Try.func74 (by rfl) (by rfl) (by rfl) ?_
  repeat' (first | ((conv => whnf); refine And.intro ?_ ?_) | ((conv => whnf); with_reducible exact VC.mk rfl) | ((conv => whnf); exact Ok.mk) | ((conv => whnf); exact True.intro) | ((conv => whnf); refine Nx.mk ?_) | ((conv => whnf); refine Fin.mk ?_) | ((conv => whnf); intro _))
  all_goals ((try refine VC.mk ?_); (try simp only [CL.ncell, CL.cnt, Int.toNat_natCast, decide_eq_true_eq, decide_eq_false_iff_not, Bool.not_eq_true, Bool.not_false, Bool.not_true, and_self, and_true, true_and, te3b, te4b, te3s, te4s, Nat.mul_one, Nat.zero_add, List.length_cons, List.length_nil, Bool.false_eq_true, Bool.true_eq_false] at *); (try omega))
  all_goals (refine Sup.via ?_; repeat' (first | ((conv => whnf); refine And.intro ?_ ?_) | ((conv => whnf); with_reducible exact VC.mk rfl) | ((conv => whnf); exact Ok.mk) | ((conv => whnf); exact True.intro) | ((conv => whnf); refine Nx.mk ?_) | ((conv => whnf); refine Fin.mk ?_) | ((conv => whnf); intro _)); all_goals ((try refine VC.mk ?_); (try simp only [CL.ncell, CL.cnt, Int.toNat_natCast, decide_eq_true_eq, decide_eq_false_iff_not, Bool.not_eq_true, Bool.not_false, Bool.not_true, and_self, and_true, true_and, te3b, te4b, te3s, te4s, Nat.mul_one, Nat.zero_add, List.length_cons, List.length_nil, Bool.false_eq_true, Bool.true_eq_false] at *); (try omega)); all_goals (try (simp [CL.sub]; done)))
def bimagicP : PSp := fun xs K => match xs with
  | [] => VC (True) ∧ K (gridV 9 9 (madeL 9 bimF))
  | _ => False
theorem bimagic_ok : POK Try.prog 74 bimagicP := by
  intro xs K h
  unfold bimagicP at h
  split at h
  · exact ⟨_, h.2, bimagic_spec⟩
  · exact h.elim
end Go.Eng.Ytppflbccfdbogaa
namespace Go.Eng.Ytppflbccfdbogaa
open Go.Proofs
set_option maxRecDepth 100000
set_option maxHeartbeats 0
set_option linter.unusedVariables false
set_option linter.unusedSimpArgs false
theorem eq_of_getD {a b : List Int} (hl : a.length = b.length) (h : ∀ j, j < a.length → a.getD j 0 = b.getD j 0) : a = b := by
  refine List.ext_getElem hl fun j h1 h2 => ?_
  have := h j h1
  rw [List.getD_eq_getElem?_getD, List.getD_eq_getElem?_getD, List.getElem?_eq_getElem h1, List.getElem?_eq_getElem h2] at this
  exact this
theorem sameInts_spec (a b : List Int) (ha : a.length ≤ 2000000) : PSpec Try.prog 43 [.isl (.ints .i64 a) .none, .isl (.ints .i64 b) .none] (.bp (decide (a = b))) := by
  refine pspec_of (md := 1) (rf := []) mixed tabOK noC_ok Try.func43 (by rfl) (by rfl) (by rfl) ?_
  repeat' (first | ((conv => whnf); refine And.intro ?_ ?_) | ((conv => whnf); with_reducible exact VC.mk rfl) | ((conv => whnf); exact Ok.mk) | ((conv => whnf); exact True.intro) | ((conv => whnf); refine Nx.mk ?_) | ((conv => whnf); refine Fin.mk ?_) | ((conv => whnf); intro _))
  all_goals ((try refine VC.mk ?_); (try simp only [CL.ncell, CL.cnt, Int.toNat_natCast, decide_eq_true_eq, decide_eq_false_iff_not, Bool.not_eq_true, Bool.not_false, Bool.not_true, and_self, and_true, true_and, te3b, te4b, te3s, te4s, Nat.mul_one, Nat.zero_add, List.length_cons, List.length_nil, Bool.false_eq_true, Bool.true_eq_false] at *); (try omega))
  · rw [show decide (a = b) = false from by simp; rintro rfl; simp at *]; all_goals (refine Sup.via ?_; repeat' (first | ((conv => whnf); refine And.intro ?_ ?_) | ((conv => whnf); with_reducible exact VC.mk rfl) | ((conv => whnf); exact Ok.mk) | ((conv => whnf); exact True.intro) | ((conv => whnf); refine Nx.mk ?_) | ((conv => whnf); refine Fin.mk ?_) | ((conv => whnf); intro _)); all_goals ((try refine VC.mk ?_); (try simp only [CL.ncell, CL.cnt, Int.toNat_natCast, decide_eq_true_eq, decide_eq_false_iff_not, Bool.not_eq_true, Bool.not_false, Bool.not_true, and_self, and_true, true_and, te3b, te4b, te3s, te4s, Nat.mul_one, Nat.zero_add, List.length_cons, List.length_nil, Bool.false_eq_true, Bool.true_eq_false] at *); (try omega)); all_goals (try (simp [CL.sub]; done)))
  have hl : a.length = b.length := by omega
  conv => whnf
  refine loop_of (X := Nat) (fun i => i ≤ a.length ∧ ∀ j, j < i → a.getD j 0 = b.getD j 0) (fun i => [(5, .int .i64 i)]) (fun i => []) (fun i => a.length - i) 0 ⟨anyB_ok, mixed, tabOK, noC_ok, noY_ok⟩ (by rfl) ⟨by omega, fun j h => by omega⟩ ?_ ?_
  · repeat' (first | ((conv => whnf); refine And.intro ?_ ?_) | ((conv => whnf); with_reducible exact VC.mk rfl) | ((conv => whnf); exact Ok.mk) | ((conv => whnf); exact True.intro) | ((conv => whnf); refine Nx.mk ?_) | ((conv => whnf); refine Fin.mk ?_) | ((conv => whnf); intro _))
    all_goals ((try refine VC.mk ?_); (try simp only [CL.ncell, CL.cnt, Int.toNat_natCast, decide_eq_true_eq, decide_eq_false_iff_not, Bool.not_eq_true, Bool.not_false, Bool.not_true, and_self, and_true, true_and, te3b, te4b, te3s, te4s, Nat.mul_one, Nat.zero_add, List.length_cons, List.length_nil, Bool.false_eq_true, Bool.true_eq_false] at *); (try omega))
  · rintro i ⟨hi, hok⟩
    by_cases hlt : i < a.length
    · repeat' (first | ((conv => whnf); refine And.intro ?_ ?_) | ((conv => whnf); with_reducible exact VC.mk rfl) | ((conv => whnf); exact Ok.mk) | ((conv => whnf); exact True.intro) | ((conv => whnf); refine Nx.mk ?_) | ((conv => whnf); refine Fin.mk ?_) | ((conv => whnf); intro _))
      all_goals ((try refine VC.mk ?_); (try simp only [CL.ncell, CL.cnt, Int.toNat_natCast, decide_eq_true_eq, decide_eq_false_iff_not, Bool.not_eq_true, Bool.not_false, Bool.not_true, and_self, and_true, true_and, te3b, te4b, te3s, te4s, Nat.mul_one, Nat.zero_add, List.length_cons, List.length_nil, Bool.false_eq_true, Bool.true_eq_false] at *); (try omega))
      · rw [show decide (a = b) = false from by simp; rintro rfl; simp_all]; all_goals (refine Sup.via ?_; repeat' (first | ((conv => whnf); refine And.intro ?_ ?_) | ((conv => whnf); with_reducible exact VC.mk rfl) | ((conv => whnf); exact Ok.mk) | ((conv => whnf); exact True.intro) | ((conv => whnf); refine Nx.mk ?_) | ((conv => whnf); refine Fin.mk ?_) | ((conv => whnf); intro _)); all_goals ((try refine VC.mk ?_); (try simp only [CL.ncell, CL.cnt, Int.toNat_natCast, decide_eq_true_eq, decide_eq_false_iff_not, Bool.not_eq_true, Bool.not_false, Bool.not_true, and_self, and_true, true_and, te3b, te4b, te3s, te4s, Nat.mul_one, Nat.zero_add, List.length_cons, List.length_nil, Bool.false_eq_true, Bool.true_eq_false] at *); (try omega)); all_goals (try (simp [CL.sub]; done)))
      · refine ⟨i + 1, [], ⟨⟨by omega, fun j hj => ?_⟩, by omega⟩, ?_⟩
        · by_cases e : j = i
          · subst e; omega
          · exact hok j (by omega)
        · repeat' (first | ((conv => whnf); refine And.intro ?_ ?_) | ((conv => whnf); with_reducible exact VC.mk rfl) | ((conv => whnf); exact Ok.mk) | ((conv => whnf); exact True.intro) | ((conv => whnf); refine Nx.mk ?_) | ((conv => whnf); refine Fin.mk ?_) | ((conv => whnf); intro _))
          all_goals ((try refine VC.mk ?_); (try simp only [CL.ncell, CL.cnt, Int.toNat_natCast, decide_eq_true_eq, decide_eq_false_iff_not, Bool.not_eq_true, Bool.not_false, Bool.not_true, and_self, and_true, true_and, te3b, te4b, te3s, te4s, Nat.mul_one, Nat.zero_add, List.length_cons, List.length_nil, Bool.false_eq_true, Bool.true_eq_false] at *); (try omega))
    · have : i = a.length := by omega
      subst this
      rw [show decide (a = b) = true from by simp; exact eq_of_getD hl hok]
      repeat' (first | ((conv => whnf); refine And.intro ?_ ?_) | ((conv => whnf); with_reducible exact VC.mk rfl) | ((conv => whnf); exact Ok.mk) | ((conv => whnf); exact True.intro) | ((conv => whnf); refine Nx.mk ?_) | ((conv => whnf); refine Fin.mk ?_) | ((conv => whnf); intro _))
      all_goals ((try refine VC.mk ?_); (try simp only [CL.ncell, CL.cnt, Int.toNat_natCast, decide_eq_true_eq, decide_eq_false_iff_not, Bool.not_eq_true, Bool.not_false, Bool.not_true, and_self, and_true, true_and, te3b, te4b, te3s, te4s, Nat.mul_one, Nat.zero_add, List.length_cons, List.length_nil, Bool.false_eq_true, Bool.true_eq_false] at *); (try omega))
      all_goals (refine Sup.via ?_; repeat' (first | ((conv => whnf); refine And.intro ?_ ?_) | ((conv => whnf); with_reducible exact VC.mk rfl) | ((conv => whnf); exact Ok.mk) | ((conv => whnf); exact True.intro) | ((conv => whnf); refine Nx.mk ?_) | ((conv => whnf); refine Fin.mk ?_) | ((conv => whnf); intro _)); all_goals ((try refine VC.mk ?_); (try simp only [CL.ncell, CL.cnt, Int.toNat_natCast, decide_eq_true_eq, decide_eq_false_iff_not, Bool.not_eq_true, Bool.not_false, Bool.not_true, and_self, and_true, true_and, te3b, te4b, te3s, te4s, Nat.mul_one, Nat.zero_add, List.length_cons, List.length_nil, Bool.false_eq_true, Bool.true_eq_false] at *); (try omega)); all_goals (try (simp [CL.sub]; done)))
def sameIntsP : PSp := fun xs K => match xs with
  | [.isl (.ints .i64 a) .none, .isl (.ints .i64 b) .none] => VC (a.length ≤ 2000000) ∧ K (.bp (decide (a = b)))
  | _ => False
theorem sameInts_ok : POK Try.prog 43 sameIntsP := by
  intro xs K h
  unfold sameIntsP at h
  split at h
  · exact ⟨_, h.2, sameInts_spec _ _ h.1.get⟩
  · exact h.elim
theorem same_spec (r c r' c' : Int) (a b : List Int) (ha : a.length ≤ 2000000) : PSpec Try.prog 68 [gridV r c a, gridV r' c' b] (.bp (decide (r = r' ∧ c = c' ∧ a = b))) := by
  have hC : CPOK Try.prog (cpAdd 43 (pureCC sameIntsP) noC) := cpAdd_ok (pureCC_ok sameInts_ok) noC_ok
  refine pspec_of (md := 1) (rf := []) mixed tabOK hC Try.func68 (by rfl) (by rfl) (by rfl) ?_
  repeat' (first | ((conv => whnf); refine And.intro ?_ ?_) | ((conv => whnf); with_reducible exact VC.mk rfl) | ((conv => whnf); exact Ok.mk) | ((conv => whnf); exact True.intro) | ((conv => whnf); refine Nx.mk ?_) | ((conv => whnf); refine Fin.mk ?_) | ((conv => whnf); intro _))
  all_goals ((try refine VC.mk ?_); (try simp only [CL.ncell, CL.cnt, Int.toNat_natCast, decide_eq_true_eq, decide_eq_false_iff_not, Bool.not_eq_true, Bool.not_false, Bool.not_true, and_self, and_true, true_and, te3b, te4b, te3s, te4s, Nat.mul_one, Nat.zero_add, List.length_cons, List.length_nil, Bool.false_eq_true, Bool.true_eq_false] at *); (try omega))
  all_goals refine Sup.via ?_
  repeat' (first | ((conv => whnf); refine And.intro ?_ ?_) | ((conv => whnf); with_reducible exact VC.mk rfl) | ((conv => whnf); exact Ok.mk) | ((conv => whnf); exact True.intro) | ((conv => whnf); refine Nx.mk ?_) | ((conv => whnf); refine Fin.mk ?_) | ((conv => whnf); intro _))
  all_goals refine VC.mk ?_
  all_goals simp_all
def sameP : PSp := fun xs K => match xs with
  | [.agg [.int .i64 r, .int .i64 c, .isl (.ints .i64 a) .none], .agg [.int .i64 r', .int .i64 c', .isl (.ints .i64 b) .none]] => VC (a.length ≤ 2000000) ∧ K (.bp (decide (r = r' ∧ c = c' ∧ a = b)))
  | _ => False
theorem same_ok : POK Try.prog 68 sameP := by
  intro xs K h
  unfold sameP at h
  split at h
  · exact ⟨_, h.2, same_spec _ _ _ _ _ _ h.1.get⟩
  · exact h.elim
end Go.Eng.Ytppflbccfdbogaa
namespace Go.Eng.Ytppflbccfdbogaa
open Go.Proofs
set_option maxRecDepth 100000
set_option maxHeartbeats 0
set_option linter.unusedVariables false
set_option linter.unusedSimpArgs false
theorem madeO_spec (n : Nat) (hn : n ≤ 1000) (f : Nat) (fs cs : List PV) (hfs : inlE.inlF fs = true) (hcs : inlE.inlF cs = true) (h : Nat → Nat → Int) (hh : ∀ i j : Nat, i < n → j < n → PSpec Try.prog f (fs ++ [.int .i64 i, .int .i64 j] ++ cs) (.int .i64 (h i j))) :
    LSpec Try.prog 103 [.int .i64 (n : Int), .fn (.func f) fs cs] [] [.agg [.int .i64 (n : Int), .int .i64 (n : Int), .rsl 0 0 (n * n)]] [.cells (.ints .i64 (madeL n h)) false] := by
  refine ⟨enters' Try.func103 (by rfl) (by rfl), lspecB_open 1 rfl (by simp) hfs hcs fun S0 w0 us vs hu hv => ?_⟩
  have hY : ∀ r, YPOK Try.prog r (fun S w => anyB S w ∧ fromB S0 w0 S w) (fnY f us vs fun xs K => match xs with
      | [.int .i64 i, .int .i64 j] => VC ((0 ≤ i ∧ i < n) ∧ 0 ≤ j ∧ j < n) ∧ K (.int .i64 (h i.toNat j.toNat))
      | _ => False) := fun r => fnY_ok (fs := fs) (cs := cs) (fun S w hb => ⟨hu.mono hb.2 (.refl _), hv.mono hb.2 (.refl _)⟩) fun xs K hk => by
    split at hk
    · rename_i i j
      obtain ⟨⟨h1, h2⟩, hk⟩ := hk
      have := hh i.toNat j.toNat (by omega) (by omega)
      rw [Int.toNat_of_nonneg h1.1, Int.toNat_of_nonneg h2.1] at this
      exact ⟨_, hk, this⟩
    · exact hk.elim
  have hC : CPOKB Try.prog (fun S w => anyB S w ∧ fromB S0 w0 S w) (cpAdd 116 (lendCC [] emptyL) noC) := CPOK.up (cpAdd_ok (lendCC_ok [] emptyL_ok) noC_ok) _
  have W : Walk Try.prog none (fun S w => anyB S w ∧ fromB S0 w0 S w) tab.get _ _ := ⟨andB_ok anyB_ok fromB_ok, mixed, tabOK, hC, hY none⟩
  refine lspecB_of (md := 1) (rf := []) (andB_ok anyB_ok fromB_ok) mixed tabOK hC (hY none) 0 [(1, 0)] Try.func103 (by rfl) (by rfl) ?_
  repeat' (first | ((conv => whnf); refine And.intro ?_ ?_) | ((conv => whnf); with_reducible exact VC.mk rfl) | ((conv => whnf); exact Ok.mk) | ((conv => whnf); exact True.intro) | ((conv => whnf); refine Nx.mk ?_) | ((conv => whnf); refine Fin.mk ?_) | ((conv => whnf); intro _))
  all_goals ((try refine VC.mk ?_); (try simp only [CL.ncell, CL.cnt, Int.toNat_natCast, decide_eq_true_eq, decide_eq_false_iff_not, Bool.not_eq_true, Bool.not_false, Bool.not_true, and_self, and_true, true_and, te3b, te4b, te3s, te4s, Nat.mul_one, Nat.zero_add, List.length_cons, List.length_nil, Bool.false_eq_true, Bool.true_eq_false] at *); (try omega))
  have eN : ((n : Int) * n).toNat = n * n := by rw [← Int.natCast_mul, Int.toNat_natCast]
  simp only [eN]
  let g : Nat → Int := fun k => h (k / n) (k % n)
  have hbd : ∀ i j : Nat, i < n → j < n → n * i + j < n * n := fun i j hi hj => by
    have := Nat.mul_le_mul_left n (show i + 1 ≤ n by omega)
    rw [Nat.mul_add] at this; omega
  have hix : ∀ i j : Nat, ((n : Int) * i + j) = ((n * i + j : Nat) : Int) := fun i j => by push_cast; rfl
  have hg : ∀ i j : Nat, j < n → h i j = g (n * i + j) := fun i j hj => by
    have h1 : (n * i + j) / n = i := by rw [Nat.mul_add_div (by omega), Nat.div_eq_of_lt hj]; simp
    have h2 : (n * i + j) % n = j := by rw [Nat.mul_add_mod, Nat.mod_eq_of_lt hj]
    simp only [g, h1, h2]
  have hNN : (n : Int) * n ≤ 1000000 := (mul_bd (show 0 ≤ (n : Int) ∧ (n : Int) ≤ 1000 by omega) (show 0 ≤ (n : Int) ∧ (n : Int) ≤ 1000 by omega)).2
  have hNN' : ((n * n : Nat) : Int) ≤ 1000000 := by rw [Int.natCast_mul]; exact hNN
  conv => whnf
  refine loop_of (X := Nat) (fun i => i ≤ n) (fun i => [(11, .int .i64 i)]) (fun i => [(1, .cells (.ints .i64 (fillG g (n * n) (n * i))) false)]) (fun i => n - i) 0 W (by rfl) (by omega) ?_ ?_
  · repeat' (first | ((conv => whnf); refine And.intro ?_ ?_) | ((conv => whnf); with_reducible exact VC.mk rfl) | ((conv => whnf); exact Ok.mk) | ((conv => whnf); exact True.intro) | ((conv => whnf); refine Nx.mk ?_) | ((conv => whnf); refine Fin.mk ?_) | ((conv => whnf); intro _))
    all_goals ((try refine VC.mk ?_); (try simp only [CL.ncell, CL.cnt, Int.toNat_natCast, decide_eq_true_eq, decide_eq_false_iff_not, Bool.not_eq_true, Bool.not_false, Bool.not_true, and_self, and_true, true_and, te3b, te4b, te3s, te4s, Nat.mul_one, Nat.zero_add, List.length_cons, List.length_nil, Bool.false_eq_true, Bool.true_eq_false] at *); (try omega))
    all_goals simp [fillG_zero]
  · intro i hi
    by_cases hlt : i < n
    · repeat' (first | ((conv => whnf); refine And.intro ?_ ?_) | ((conv => whnf); with_reducible exact VC.mk rfl) | ((conv => whnf); exact Ok.mk) | ((conv => whnf); exact True.intro) | ((conv => whnf); refine Nx.mk ?_) | ((conv => whnf); refine Fin.mk ?_) | ((conv => whnf); intro _))
      all_goals ((try refine VC.mk ?_); (try simp only [CL.ncell, CL.cnt, Int.toNat_natCast, decide_eq_true_eq, decide_eq_false_iff_not, Bool.not_eq_true, Bool.not_false, Bool.not_true, and_self, and_true, true_and, te3b, te4b, te3s, te4s, Nat.mul_one, Nat.zero_add, List.length_cons, List.length_nil, Bool.false_eq_true, Bool.true_eq_false] at *); (try omega))
      conv => whnf
      refine loop_of (X := Nat) (fun j => j ≤ n) (fun j => [(15, .int .i64 j)]) (fun j => [(1, .cells (.ints .i64 (fillG g (n * n) (n * i + j))) false)]) (fun j => n - j) 0 W (by rfl) (by omega) ?_ ?_
      · repeat' (first | ((conv => whnf); refine And.intro ?_ ?_) | ((conv => whnf); with_reducible exact VC.mk rfl) | ((conv => whnf); exact Ok.mk) | ((conv => whnf); exact True.intro) | ((conv => whnf); refine Nx.mk ?_) | ((conv => whnf); refine Fin.mk ?_) | ((conv => whnf); intro _))
        all_goals ((try refine VC.mk ?_); (try simp only [CL.ncell, CL.cnt, Int.toNat_natCast, decide_eq_true_eq, decide_eq_false_iff_not, Bool.not_eq_true, Bool.not_false, Bool.not_true, and_self, and_true, true_and, te3b, te4b, te3s, te4s, Nat.mul_one, Nat.zero_add, List.length_cons, List.length_nil, Bool.false_eq_true, Bool.true_eq_false] at *); (try omega))
        all_goals simp
      · intro j hj
        by_cases hlj : j < n
        · have := hbd i j hlt hlj
          have e1 := hix i j
          have e2 := fillG_len g (n * n) (n * i + j) (by omega)
          repeat' (first | ((conv => whnf); refine And.intro ?_ ?_) | ((conv => whnf); with_reducible exact VC.mk rfl) | ((conv => whnf); exact Ok.mk) | ((conv => whnf); exact True.intro) | ((conv => whnf); refine Nx.mk ?_) | ((conv => whnf); refine Fin.mk ?_) | ((conv => whnf); intro _))
          all_goals ((try refine VC.mk ?_); (try simp only [CL.ncell, CL.cnt, Int.toNat_natCast, decide_eq_true_eq, decide_eq_false_iff_not, Bool.not_eq_true, Bool.not_false, Bool.not_true, and_self, and_true, true_and, te3b, te4b, te3s, te4s, Nat.mul_one, Nat.zero_add, List.length_cons, List.length_nil, Bool.false_eq_true, Bool.true_eq_false] at *); (try omega))
          refine ⟨j + 1, [], ⟨by omega, by omega⟩, ?_⟩
          repeat' (first | ((conv => whnf); refine And.intro ?_ ?_) | ((conv => whnf); with_reducible exact VC.mk rfl) | ((conv => whnf); exact Ok.mk) | ((conv => whnf); exact True.intro) | ((conv => whnf); refine Nx.mk ?_) | ((conv => whnf); refine Fin.mk ?_) | ((conv => whnf); intro _))
          all_goals ((try refine VC.mk ?_); (try simp only [CL.ncell, CL.cnt, Int.toNat_natCast, decide_eq_true_eq, decide_eq_false_iff_not, Bool.not_eq_true, Bool.not_false, Bool.not_true, and_self, and_true, true_and, te3b, te4b, te3s, te4s, Nat.mul_one, Nat.zero_add, List.length_cons, List.length_nil, Bool.false_eq_true, Bool.true_eq_false] at *); (try omega))
          rw [e1, Int.toNat_natCast, hg i j hlj, fillG_set _ _ _ this]; rfl
        · have : n = j := by omega
          subst this
          repeat' (first | ((conv => whnf); refine And.intro ?_ ?_) | ((conv => whnf); with_reducible exact VC.mk rfl) | ((conv => whnf); exact Ok.mk) | ((conv => whnf); exact True.intro) | ((conv => whnf); refine Nx.mk ?_) | ((conv => whnf); refine Fin.mk ?_) | ((conv => whnf); intro _))
          all_goals ((try refine VC.mk ?_); (try simp only [CL.ncell, CL.cnt, Int.toNat_natCast, decide_eq_true_eq, decide_eq_false_iff_not, Bool.not_eq_true, Bool.not_false, Bool.not_true, and_self, and_true, true_and, te3b, te4b, te3s, te4s, Nat.mul_one, Nat.zero_add, List.length_cons, List.length_nil, Bool.false_eq_true, Bool.true_eq_false] at *); (try omega))
          refine ⟨i + 1, [], ⟨by omega, by omega⟩, ?_⟩
          repeat' (first | ((conv => whnf); refine And.intro ?_ ?_) | ((conv => whnf); with_reducible exact VC.mk rfl) | ((conv => whnf); exact Ok.mk) | ((conv => whnf); exact True.intro) | ((conv => whnf); refine Nx.mk ?_) | ((conv => whnf); refine Fin.mk ?_) | ((conv => whnf); intro _))
          all_goals ((try refine VC.mk ?_); (try simp only [CL.ncell, CL.cnt, Int.toNat_natCast, decide_eq_true_eq, decide_eq_false_iff_not, Bool.not_eq_true, Bool.not_false, Bool.not_true, and_self, and_true, true_and, te3b, te4b, te3s, te4s, Nat.mul_one, Nat.zero_add, List.length_cons, List.length_nil, Bool.false_eq_true, Bool.true_eq_false] at *); (try omega))
    · have : n = i := by omega
      subst this
      repeat' (first | ((conv => whnf); refine And.intro ?_ ?_) | ((conv => whnf); with_reducible exact VC.mk rfl) | ((conv => whnf); exact Ok.mk) | ((conv => whnf); exact True.intro) | ((conv => whnf); refine Nx.mk ?_) | ((conv => whnf); refine Fin.mk ?_) | ((conv => whnf); intro _))
      all_goals ((try refine VC.mk ?_); (try simp only [CL.ncell, CL.cnt, Int.toNat_natCast, decide_eq_true_eq, decide_eq_false_iff_not, Bool.not_eq_true, Bool.not_false, Bool.not_true, and_self, and_true, true_and, te3b, te4b, te3s, te4s, Nat.mul_one, Nat.zero_add, List.length_cons, List.length_nil, Bool.false_eq_true, Bool.true_eq_false] at *); (try omega))
      all_goals (rw [fillG_all]; rfl)
def madeO : LSp := fun xs objs K => match xs, objs with
  | [.int .i64 n, .fn (.func f) fs cs], [] => VC ((0 ≤ n ∧ n ≤ 1000) ∧ inlE.inlF fs = true ∧ inlE.inlF cs = true) ∧ ∃ h : Nat → Nat → Int, (∀ i j : Nat, (i : Int) < n → (j : Int) < n → PSpec Try.prog f (fs ++ [.int .i64 i, .int .i64 j] ++ cs) (.int .i64 (h i j))) ∧
      K [.agg [.int .i64 n, .int .i64 n, .rsl 0 0 (n.toNat * n.toNat)]] [.cells (.ints .i64 (madeL n.toNat h)) false]
  | _, _ => False
theorem madeO_ok : LOK Try.prog 103 madeO := by
  intro xs objs K h
  unfold madeO at h
  split at h
  · rename_i n f fs cs
    obtain ⟨⟨h1, h3, h4⟩, hh, h2, hK⟩ := h
    obtain ⟨m, rfl⟩ : ∃ m : Nat, n = m := ⟨n.toNat, by omega⟩
    simp only [Int.toNat_natCast] at hK
    exact ⟨_, _, hK, madeO_spec m (by omega) f fs cs h3 h4 hh (fun i j hi hj => h2 i j (by omega) (by omega))⟩
  · exact h.elim
end Go.Eng.Ytppflbccfdbogaa
