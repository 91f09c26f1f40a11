/-
  Contracts of functions of the program: what each returns. Their conditions stand in them.
-/
import Derived.Test.YtobnbkoeocdhbaaGreatDoorHFormsb
namespace Go.Eng.YtobnbkoeocdhbaaGreatDoor
open Go.Proofs
set_option maxRecDepth 100000
set_option maxHeartbeats 0
set_option linter.unusedVariables false
set_option linter.unusedSimpArgs false
/-- the sum of the powers of a line's numbers, its first ones -/
def psumT (f : List Int) (p : Int) (l : List Int) (j : Nat) : Int := (l.take j).foldl (fun s c => s + powI (f.getD c.toNat 0) p) 0
theorem psumT_succ (f : List Int) (p : Int) (l : List Int) (j : Nat) (h : j < l.length) : psumT f p l (j + 1) = psumT f p l j + powI (f.getD (l.getD j 0).toNat 0) p := by
  unfold psumT
  rw [List.take_add_one, List.foldl_append]
  simp [h]
def psum (f : List Int) (p : Int) (l : List Int) : Int := psumT f p l l.length
theorem psumT_bd (f : List Int) (p : Int) (l : List Int) (h : ∀ i, PowOK (f.getD i 0) p) : ∀ j, j ≤ l.length → -(1000000000 * (j : Int)) ≤ psumT f p l j ∧ psumT f p l j ≤ 1000000000 * (j : Int) := by
  intro j
  induction j with
  | zero => intro _; simp [psumT]
  | succ j ih =>
    intro hj
    rw [psumT_succ f p l j (by omega)]
    have h1 := ih (by omega)
    have h2 := powI_bd (h (l.getD j 0).toNat)
    omega
theorem getD_mem'' {l : List Int} {i : Nat} (h : i < l.length) : l.getD i 0 ∈ l := by
  rw [List.getD_eq_getElem?_getD, List.getElem?_eq_getElem h]; exact List.getElem_mem _
theorem allP_true {L : List (List Int)} {q : List Int → Int} {a : Int} (h : ∀ j, j < L.length → q (L.getD j []) = a) : (L.all fun l => decide (q l = a)) = true := by
  refine List.all_eq_true.2 fun l hl => ?_
  obtain ⟨i, hi, rfl⟩ := List.getElem_of_mem hl
  have := h i hi
  rw [List.getD_eq_getElem?_getD, List.getElem?_eq_getElem hi] at this
  exact decide_eq_true this
theorem allP_false {L : List (List Int)} {q : List Int → Int} {a : Int} {i : Nat} (hi : i < L.length) (h : q (L.getD i []) ≠ a) : (L.all fun l => decide (q l = a)) = false := by
  refine Bool.eq_false_iff.2 fun e => h ?_
  simpa using List.all_eq_true.1 e _ (getD_mem' hi)
theorem cmp_zero {x y : Int} (h : ¬(if x < y then (-1 : Int) else if y < x then 1 else 0) ≠ 0) : x = y := by
  have h := Classical.not_not.1 h
  split at h
  · omega
  split at h
  · omega
  · omega
/-- is the square of the powers magic -/
def pwrB (n : Int) (p : Int) (f : List Int) : Bool := (lnsK n.toNat kMag1).all fun l => decide (psum f p l = psum f p ((lnsK n.toNat kMag1).getD 0 []))
noncomputable def cpPo : CPT := cpAdd 48 (pureCC lsquareP) (cpAdd 109 (pureCC nofP) (cpAdd 111 (rawCC powP) (cpAdd 110 (rawCC addP) (cpAdd 112 (rawCC cmpP) noC))))
theorem cpPo_ok : CPOK Tryz.prog cpPo := cpAdd_ok (pureCC_ok lsquare_ok) (cpAdd_ok (pureCC_ok nof_ok) (cpAdd_ok (rawCC_ok pow_ok) (cpAdd_ok (rawCC_ok add_ok) (cpAdd_ok (rawCC_ok cmp_ok) noC_ok))))
theorem power_spec (n : Int) (p : Int) (f : List Int) (h : FigOK n f) (hp : ∀ i, PowOK (f.getD i 0) p) : PSpec Tryz.prog 66 [figV n f, .int .i64 p] (.bp (pwrB n p f)) := by
  have h1 := h.ord
  obtain ⟨L, hL⟩ : ∃ L, L = lnsK n.toNat kMag1 := ⟨_, rfl⟩
  have hlen := lnsK_len (n := n.toNat) (by omega) kMag1
  have hline : ∀ l ∈ L, LineOf n.toNat l := fun l hl => lnsK_line (by omega) (by rw [← hL]; exact hl)
  unfold pwrB
  have hE : ∀ j, j < (lnsK n.toNat kMag1).length → LineOf n.toNat ((lnsK n.toNat kMag1).getD j []) := fun j hj => lnsK_line (by omega) (getD_mem' hj)
  refine pspec_of (md := 1) (rf := []) mixed tabOK cpPo_ok Tryz.func66 (by rfl) (by rfl) (by rfl) ?_
  repeat' ((conv => whnf); first | refine And.intro ?_ ?_ | with_reducible exact VC.mk rfl | exact Ok.mk | exact True.intro | refine Nx.mk ?_ | refine Fin.mk ?_ | intro _)
  all_goals ((try refine VC.mk ?_); (try simp only [CL.ncell, CL.cnt, vq] at *); (try omega))
  conv => whnf
  obtain ⟨L, hL⟩ : ∃ L, lnsK n.toNat kMag1 = L := ⟨_, rfl⟩
  have hL' : lnsK n.toNat ⟨#[109, 97, 103, 105, 99]⟩ = L := hL
  simp only [hL, hL'] at *
  refine loop_of (X := Nat) (fun i => i ≤ L.length ∧ ∀ j, j < i → psum f p (L.getD j []) = psum f p (L.getD 0 [])) (fun i => [(16, .int .i64 i)]) (fun i => [(1, .cells (.pv [.int .i64 (if i = 0 then 0 else psum f p (L.getD 0 [])), .nils]) false)]) (fun i => L.length - i) 0 ⟨anyB_ok, mixed, tabOK, cpPo_ok, noY_ok⟩ (by rfl) ⟨by omega, fun j hj => by omega⟩ ?_ ?_
  · repeat' ((conv => whnf); first | refine And.intro ?_ ?_ | with_reducible exact VC.mk rfl | exact Ok.mk | exact True.intro | refine Nx.mk ?_ | refine Fin.mk ?_ | intro _)
    all_goals ((try refine VC.mk ?_); (try simp only [CL.ncell, CL.cnt, vq] at *); (try omega))
  intro i hi
  obtain ⟨hi, hall⟩ := hi
  by_cases hlt : i < L.length
  · have hl := hE i hlt
    have hf := h.len
    have hb := psumT_bd f p (L.getD i []) hp
    have hle := hl.len
    repeat' ((conv => whnf); first | refine And.intro ?_ ?_ | with_reducible exact VC.mk rfl | exact Ok.mk | exact True.intro | refine Nx.mk ?_ | refine Fin.mk ?_ | intro _)
    all_goals ((try refine VC.mk ?_); (try simp only [CL.ncell, CL.cnt, vq] at *); (try omega))
    conv => whnf
    refine loop_of (X := Nat) (fun j => j ≤ (L.getD i []).length) (fun j => [(24, .int .i64 j)]) (fun j => [(10, .cells (.pv [.int .i64 (psumT f p (L.getD i []) j), .nils]) false), (1, .cells (.pv [.int .i64 (if i = 0 then 0 else psum f p (L.getD 0 [])), .nils]) false)]) (fun j => (L.getD i []).length - j) 0 ⟨anyB_ok, mixed, tabOK, cpPo_ok, noY_ok⟩ (by rfl) (by omega) ?_ ?_
    · repeat' ((conv => whnf); first | refine And.intro ?_ ?_ | with_reducible exact VC.mk rfl | exact Ok.mk | exact True.intro | refine Nx.mk ?_ | refine Fin.mk ?_ | intro _)
      all_goals ((try refine VC.mk ?_); (try simp only [CL.ncell, CL.cnt, vq] at *); (try omega))
    intro j hj
    by_cases hjl : j < (L.getD i []).length
    · have hc := hl.mem _ (getD_mem'' hjl)
      rw [show ((n.toNat : Nat) : Int) = n from Int.toNat_of_nonneg (by omega)] at hc
      have e1 := psumT_succ f p (L.getD i []) j hjl
      have hb1 := hb j (by omega)
      have hb2 := powI_bd (hp ((L.getD i []).getD j 0).toNat)
      repeat' ((conv => whnf); first | refine And.intro ?_ ?_ | with_reducible exact VC.mk rfl | exact Ok.mk | exact True.intro | refine Nx.mk ?_ | refine Fin.mk ?_ | intro _)
      all_goals ((try refine VC.mk ?_); (try simp only [CL.ncell, CL.cnt, vq] at *); (try omega))
      · exact hp _
      refine ⟨j + 1, [], ⟨by omega, by omega⟩, ?_⟩
      repeat' ((conv => whnf); first | refine And.intro ?_ ?_ | with_reducible exact VC.mk rfl | exact Ok.mk | exact True.intro | refine Nx.mk ?_ | refine Fin.mk ?_ | intro _)
      all_goals ((try refine VC.mk ?_); (try simp only [CL.ncell, CL.cnt, vq] at *); (try omega))
    · have ej : (L.getD i []).length = j := by omega
      have ep : psumT f p (L.getD i []) j = psum f p (L.getD i []) := by subst ej; rfl
      repeat' ((conv => whnf); first | refine And.intro ?_ ?_ | with_reducible exact VC.mk rfl | exact Ok.mk | exact True.intro | refine Nx.mk ?_ | refine Fin.mk ?_ | intro _)
      all_goals ((try refine VC.mk ?_); (try simp only [CL.ncell, CL.cnt, vq] at *); (try omega))
      · rename_i h0 hq
        have h0 : i = 0 := by omega
        subst h0
        rw [ep]
        refine ⟨0 + 1, [], ⟨⟨by omega, fun j hj => ?_⟩, by omega⟩, ?_⟩
        · have : j = 0 := by omega
          subst this; rfl
        rw [if_neg (by omega)]
        repeat' ((conv => whnf); first | refine And.intro ?_ ?_ | with_reducible exact VC.mk rfl | exact Ok.mk | exact True.intro | refine Nx.mk ?_ | refine Fin.mk ?_ | intro _)
        all_goals ((try refine VC.mk ?_); (try simp only [CL.ncell, CL.cnt, vq] at *); (try omega))
      · rename_i h0 hq
        have h0' : ¬ i = 0 := by omega
        simp only [if_neg h0', ep] at hq
        have hne : psum f p (L.getD i []) ≠ psum f p (L.getD 0 []) := fun e => hq (by rw [e, if_neg (Int.lt_irrefl _), if_neg (Int.lt_irrefl _)])
        rw [show (L.all fun l => decide (psum f p l = psum f p (L.getD 0 []))) = false from allP_false hlt hne]
        all_goals (refine Sup.via ?_; repeat' ((conv => whnf); first | refine And.intro ?_ ?_ | with_reducible exact VC.mk rfl | exact Ok.mk | exact True.intro | refine Nx.mk ?_ | refine Fin.mk ?_ | intro _); all_goals ((try refine VC.mk ?_); (try simp only [CL.ncell, CL.cnt, vq] at *); (try omega)); all_goals (try (simp [CL.sub]; done)))
      · rename_i h0 hq
        have h0' : ¬ i = 0 := by omega
        simp only [if_neg h0', ep] at hq
        have he : psum f p (L.getD i []) = psum f p (L.getD 0 []) := cmp_zero hq
        refine ⟨i + 1, [], ⟨⟨by omega, fun j hj => ?_⟩, by omega⟩, ?_⟩
        · by_cases e : j = i
          · subst e; exact he
          · exact hall j (by omega)
        rw [if_neg (by omega), if_neg h0']
        repeat' ((conv => whnf); first | refine And.intro ?_ ?_ | with_reducible exact VC.mk rfl | exact Ok.mk | exact True.intro | refine Nx.mk ?_ | refine Fin.mk ?_ | intro _)
        all_goals ((try refine VC.mk ?_); (try simp only [CL.ncell, CL.cnt, vq] at *); (try omega))
  · have : L.length = i := by omega
    rw [show (L.all fun l => decide (psum f p l = psum f p (L.getD 0 []))) = true from allP_true (by rw [this]; exact hall)]
    repeat' ((conv => whnf); first | refine And.intro ?_ ?_ | with_reducible exact VC.mk rfl | exact Ok.mk | exact True.intro | refine Nx.mk ?_ | refine Fin.mk ?_ | intro _)
    all_goals ((try refine VC.mk ?_); (try simp only [CL.ncell, CL.cnt, vq] at *); (try omega))
    all_goals (refine Sup.via ?_; repeat' ((conv => whnf); first | refine And.intro ?_ ?_ | with_reducible exact VC.mk rfl | exact Ok.mk | exact True.intro | refine Nx.mk ?_ | refine Fin.mk ?_ | intro _); all_goals ((try refine VC.mk ?_); (try simp only [CL.ncell, CL.cnt, vq] at *); (try omega)); all_goals (try (simp [CL.sub]; done)))
def powerP : PSp := fun xs K => match xs with
  | [.agg [.int .i64 n, .isl (.ints .i64 f) .none], .int .i64 p] => VC (FigOK n f ∧ ∀ i, PowOK (f.getD i 0) p) ∧ K (.bp (pwrB n p f))
  | _ => False
theorem power_ok : POK Tryz.prog 66 powerP := by
  intro xs K h
  unfold powerP at h
  split at h
  · exact ⟨_, h.2, power_spec _ _ _ h.1.get.1 h.1.get.2⟩
  · exact h.elim
end Go.Eng.YtobnbkoeocdhbaaGreatDoor
namespace Go.Eng.YtobnbkoeocdhbaaGreatDoor
open Go.Proofs
set_option maxRecDepth 100000
set_option maxHeartbeats 0
set_option linter.unusedVariables false
set_option linter.unusedSimpArgs false
theorem lfirst_spec (l : List Int) (hl : l.length < 1000000) : PSpec Tryz.prog 45 [.isl (.ints .i64 l) .none] (.int .i64 (firstOf l)) := by
  refine pspec_of (md := 1) (rf := []) mixed tabOK noC_ok Tryz.func45 (by rfl) (by rfl) (by rfl) ?_
  repeat' ((conv => whnf); first | refine And.intro ?_ ?_ | with_reducible exact VC.mk rfl | exact Ok.mk | exact True.intro | refine Nx.mk ?_ | refine Fin.mk ?_ | intro _)
  all_goals ((try refine VC.mk ?_); (try simp only [CL.ncell, CL.cnt, vq] at *); (try omega))
  conv => whnf
  refine loop_of (X := Nat) (fun i => i ≤ l.length ∧ ∀ j, j < i → l.getD j 0 = 0) (fun i => [(7, .int .i64 i)]) (fun _ => []) (fun i => l.length - i) 0 ⟨anyB_ok, mixed, tabOK, noC_ok, noY_ok⟩ (by rfl) ⟨by omega, fun j hj => by omega⟩ ?_ ?_
  · repeat' ((conv => whnf); first | refine And.intro ?_ ?_ | with_reducible exact VC.mk rfl | exact Ok.mk | exact True.intro | refine Nx.mk ?_ | refine Fin.mk ?_ | intro _)
    all_goals ((try refine VC.mk ?_); (try simp only [CL.ncell, CL.cnt, vq] at *); (try omega))
  · intro i hi
    obtain ⟨hi, hz⟩ := hi
    repeat' ((conv => whnf); first | refine And.intro ?_ ?_ | with_reducible exact VC.mk rfl | exact Ok.mk | exact True.intro | refine Nx.mk ?_ | refine Fin.mk ?_ | intro _)
    all_goals ((try refine VC.mk ?_); (try simp only [CL.ncell, CL.cnt, vq] at *); (try omega))
    · rename_i hne
      have := firstOf_at l i (by omega) hz (by simpa using hne)
      rw [this]; exact Sup.of rfl
    · rename_i hne
      have hne : l.getD i 0 = 0 := by simpa using hne
      refine ⟨i + 1, [], ⟨⟨by omega, fun j hj => ?_⟩, by omega⟩, ?_⟩
      · by_cases e : j = i
        · subst e; exact hne
        · exact hz j (by omega)
      · repeat' ((conv => whnf); first | refine And.intro ?_ ?_ | with_reducible exact VC.mk rfl | exact Ok.mk | exact True.intro | refine Nx.mk ?_ | refine Fin.mk ?_ | intro _)
        all_goals ((try refine VC.mk ?_); (try simp only [CL.ncell, CL.cnt, vq] at *); (try omega))
    · have : i = l.length := by omega
      subst this
      rw [firstOf_zero l hz]; exact Sup.of rfl
def lfirstP : PSp := fun xs K => match xs with
  | [.isl (.ints .i64 l) .none] => VC (l.length < 1000000) ∧ K (.int .i64 (firstOf l))
  | _ => False
theorem lfirst_ok : POK Tryz.prog 45 lfirstP := by
  intro xs K h
  unfold lfirstP at h
  split at h
  · exact ⟨_, h.2, lfirst_spec _ h.1.get⟩
  · exact h.elim
def outB (lo hi x : Int) : Bool := decide (x < lo) || decide (hi < x)
theorem c87_spec (lo hi x : Int) : PSpec Tryz.prog 87 ([] ++ [.int .i64 x] ++ [.ip (.pv [.int .i64 lo]) 0, .ip (.pv [.int .i64 hi]) 0]) (.bp (outB lo hi x)) := by
  refine pspec_of (md := 1) (rf := []) mixed tabOK noC_ok Tryz.func87 (by rfl) (by rfl) (by rfl) ?_
  unfold outB
  repeat' ((conv => whnf); first | refine And.intro ?_ ?_ | with_reducible exact VC.mk rfl | exact Ok.mk | exact True.intro | refine Nx.mk ?_ | refine Fin.mk ?_ | intro _)
  · rename_i hq
    rw [show (decide (x < lo)) = false from hq, Bool.false_or]
    exact Sup.of rfl
  · rename_i hq
    rw [show (decide (x < lo)) = true from hq, Bool.true_or]
    all_goals (refine Sup.via ?_; repeat' ((conv => whnf); first | refine And.intro ?_ ?_ | with_reducible exact VC.mk rfl | exact Ok.mk | exact True.intro | refine Nx.mk ?_ | refine Fin.mk ?_ | intro _); all_goals ((try refine VC.mk ?_); (try simp only [CL.ncell, CL.cnt, vq] at *); (try omega)); all_goals (try (simp [CL.sub]; done)))
noncomputable def cpFr : CPT := cpAdd 86 (viewCC hasFP) (cpAdd 46 (pureCC whenP) noC)
theorem cpFr_ok : CPOK Tryz.prog cpFr := cpAdd_ok (viewCC_ok hasF_ok) (cpAdd_ok (pureCC_ok lwhen_ok) noC_ok)
theorem from_spec (lo hi : Int) (l : List Int) (hl : l.length ≤ 2000000) : PSpec Tryz.prog 47 [.int .i64 lo, .int .i64 hi, .isl (.ints .i64 l) .none] (.int .i64 (if l.any (outB lo hi) then 3 else 0)) := by
  refine pspec_of (md := 1) (rf := []) mixed tabOK cpFr_ok Tryz.func47 (by rfl) (by rfl) (by rfl) ?_
  repeat' ((conv => whnf); first | refine And.intro ?_ ?_ | with_reducible exact VC.mk rfl | exact Ok.mk | exact True.intro | refine Nx.mk ?_ | refine Fin.mk ?_ | intro _)
  all_goals ((try refine VC.mk ?_); (try simp only [CL.ncell, CL.cnt, vq] at *); (try omega))
  · exact ⟨hl, rfl, rfl⟩
  refine ⟨outB lo hi, fun x _ => c87_spec lo hi x, ?_⟩
  repeat' ((conv => whnf); first | refine And.intro ?_ ?_ | with_reducible exact VC.mk rfl | exact Ok.mk | exact True.intro | refine Nx.mk ?_ | refine Fin.mk ?_ | intro _)
  all_goals ((try refine VC.mk ?_); (try simp only [CL.ncell, CL.cnt, vq] at *); (try omega))
  all_goals (first | (refine Sup.of ?_; first | rfl | (simp [*, resOf]; done)) | (refine Sup.via ?_; repeat' ((conv => whnf); first | refine And.intro ?_ ?_ | with_reducible exact VC.mk rfl | exact Ok.mk | exact True.intro | refine Nx.mk ?_ | refine Fin.mk ?_ | intro _); all_goals ((try refine VC.mk ?_); (try simp only [CL.ncell, CL.cnt, vq] at *); (try omega)); all_goals (try (simp [CL.sub]; done))))
def fromP : PSp := fun xs K => match xs with
  | [.int .i64 lo, .int .i64 hi, .isl (.ints .i64 l) .none] => VC (l.length ≤ 2000000) ∧ K (.int .i64 (if l.any (outB lo hi) then 3 else 0))
  | _ => False
theorem from_ok : POK Tryz.prog 47 fromP := by
  intro xs K h
  unfold fromP at h
  split at h
  · exact ⟨_, h.2, from_spec _ _ _ h.1.get⟩
  · exact h.elim
noncomputable def cpCn : CPT := cpAdd 47 (pureCC fromP) noC
theorem cpCn_ok : CPOK Tryz.prog cpCn := cpAdd_ok (pureCC_ok from_ok) noC_ok
def numsE (l : List Int) : Int := if l.any (outB (-999999999) 999999999) then 3 else 0
theorem numbers_spec (l : List Int) (hl : l.length ≤ 2000000) : PSpec Tryz.prog 94 [.isl (.ints .i64 l) .none] (.int .i64 (numsE l)) := by
  refine pspec_of (md := 1) (rf := []) mixed tabOK cpCn_ok Tryz.func94 (by rfl) (by rfl) (by rfl) ?_
  unfold numsE
  repeat' ((conv => whnf); first | refine And.intro ?_ ?_ | with_reducible exact VC.mk rfl | exact Ok.mk | exact True.intro | refine Nx.mk ?_ | refine Fin.mk ?_ | intro _)
  all_goals ((try refine VC.mk ?_); (try simp only [CL.ncell, CL.cnt, vq] at *); (try omega))
  all_goals (first | (refine Sup.of ?_; first | rfl | (simp [*, resOf]; done)) | (refine Sup.via ?_; repeat' ((conv => whnf); first | refine And.intro ?_ ?_ | with_reducible exact VC.mk rfl | exact Ok.mk | exact True.intro | refine Nx.mk ?_ | refine Fin.mk ?_ | intro _); all_goals ((try refine VC.mk ?_); (try simp only [CL.ncell, CL.cnt, vq] at *); (try omega)); all_goals (try (simp [CL.sub]; done))))
def numbersP : PSp := fun xs K => match xs with
  | [.isl (.ints .i64 l) .none] => VC (l.length ≤ 2000000) ∧ K (.int .i64 (numsE l))
  | _ => False
theorem numbers_ok : POK Tryz.prog 94 numbersP := by
  intro xs K h
  unfold numbersP at h
  split at h
  · exact ⟨_, h.2, numbers_spec _ h.1.get⟩
  · exact h.elim
noncomputable def cpSqr : CPT := cpAdd 45 (pureCC lfirstP) (cpAdd 47 (pureCC fromP) (cpAdd 94 (pureCC numbersP) noC))
theorem cpSqr_ok : CPOK Tryz.prog cpSqr := cpAdd_ok (pureCC_ok lfirst_ok) (cpAdd_ok (pureCC_ok from_ok) (cpAdd_ok (pureCC_ok numbers_ok) noC_ok))
/-- the error of a square whose numbers are in range -/
theorem chkSq_spec (n : Int) (f : List Int) (hn : 1 ≤ n ∧ n ≤ 16) (hl : (f.length : Int) = n * n) (hf : ∀ x ∈ f, -1000 ≤ x ∧ x ≤ 1000) : PSpec Tryz.prog 64 [.agg [.int .i64 n, .int .i64 n, .isl (.ints .i64 f) .none]] (.int .i64 0) := by
  have h1 := mul_bd (show 0 ≤ n ∧ n ≤ 16 by omega) (show 0 ≤ n ∧ n ≤ 16 by omega)
  have hz : numsE f = 0 := if_neg (by
    rw [List.any_eq_true]
    rintro ⟨x, hx, h⟩
    have := hf x hx
    simp only [outB, Bool.or_eq_true, decide_eq_true_eq] at h
    omega)
  have hz2 : (if [n].any (outB 1 16) then (3 : Int) else 0) = 0 := if_neg (by
    simp only [List.any_cons, List.any_nil, Bool.or_false, outB, Bool.or_eq_true, decide_eq_true_eq]
    omega)
  refine pspec_of (md := 1) (rf := []) mixed tabOK cpSqr_ok Tryz.func64 (by rfl) (by rfl) (by rfl) ?_
  repeat' ((conv => whnf); first | refine And.intro ?_ ?_ | with_reducible exact VC.mk rfl | exact Ok.mk | exact True.intro | refine Nx.mk ?_ | refine Fin.mk ?_ | intro _)
  all_goals ((try refine VC.mk ?_); (try simp only [CL.ncell, CL.cnt, vq] at *); (try omega))
  rw [hz, hz2]
  exact Sup.of rfl
def chkSqP : PSp := fun xs K => match xs with
  | [.agg [.int .i64 n, .int .i64 m, .isl (.ints .i64 f) .none]] => VC ((1 ≤ n ∧ n ≤ 16) ∧ m = n ∧ (f.length : Int) = n * n ∧ ∀ x ∈ f, -1000 ≤ x ∧ x ≤ 1000) ∧ K (.int .i64 0)
  | _ => False
theorem chkSq_ok : POK Tryz.prog 64 chkSqP := by
  intro xs K h
  unfold chkSqP at h
  split at h
  · exact ⟨_, h.2, (by obtain ⟨h1, h2, h3, h4⟩ := h.1.get; subst h2; exact chkSq_spec _ _ h1 h3 h4)⟩
  · exact h.elim
noncomputable def cpMm : CPT := cpAdd 64 (pureCC chkSqP) (cpAdd 65 (pureCC isP) (cpAdd 66 (pureCC powerP) noC))
theorem cpMm_ok : CPOK Tryz.prog cpMm := cpAdd_ok (pureCC_ok chkSq_ok) (cpAdd_ok (pureCC_ok is_ok) (cpAdd_ok (pureCC_ok power_ok) noC_ok))
def mulM (n : Int) (f : List Int) : Int := if pwrB n 2 f then if pwrB n 3 f then if pwrB n 4 f then 4 else 3 else 2 else 1
theorem pow_all {n : Int} {f : List Int} (h : FigOK n f) (h4 : ∀ x ∈ f, -100 ≤ x ∧ x ≤ 100) (k : Int) (hk : 2 ≤ k ∧ k ≤ 4) (i : Nat) : PowOK (f.getD i 0) k := by
  refine ⟨hk, h.get i, fun _ => ?_⟩
  rw [List.getD_eq_getElem?_getD]
  by_cases hi : i < f.length
  · rw [List.getElem?_eq_getElem hi]; exact h4 _ (List.getElem_mem hi)
  · rw [List.getElem?_eq_none (by omega)]; simp
theorem mm_spec (n : Int) (f : List Int) (h : FigOK n f) (h4 : ∀ x ∈ f, -100 ≤ x ∧ x ≤ 100) : PSpec Tryz.prog 24 [.agg [.int .i64 n, .int .i64 n, .isl (.ints .i64 f) .none]] (.tup (if isB n kMag1 f then [.int .i64 (mulM n f), .int .i64 0] else [.int .i64 0, .int .i64 16])) := by
  have h1 := h.ord
  have hp := pow_all h h4
  have h5 := h.len
  have h6 := h.num
  refine pspec_of (md := 1) (rf := []) mixed tabOK cpMm_ok Tryz.func24 (by rfl) (by rfl) (by rfl) ?_
  repeat' ((conv => whnf); first | refine And.intro ?_ ?_ | with_reducible exact VC.mk rfl | exact Ok.mk | exact True.intro | refine Nx.mk ?_ | refine Fin.mk ?_ | intro _)
  all_goals ((try refine VC.mk ?_); (try simp only [CL.ncell, CL.cnt, vq] at *); (try omega))
  · exact ⟨by omega, h5, h6⟩
  · rename_i hq _
    rw [if_neg (by simpa using hq)]
    exact Sup.of rfl
  rename_i hq _
  rw [if_pos (by simpa using hq)]
  unfold mulM
  conv => whnf
  refine loop_rounds 5 (rounds_succ ⟨anyB_ok, mixed, tabOK, cpMm_ok, noY_ok⟩ (by rfl) ?_)
  repeat' ((conv => whnf); first | refine And.intro ?_ ?_ | with_reducible exact VC.mk rfl | exact Ok.mk | exact True.intro | refine Nx.mk ?_ | refine Fin.mk ?_ | (intro hq; (try (exact absurd hq (by decide)))))
  all_goals ((try refine VC.mk ?_); (try simp only [CL.ncell, CL.cnt, vq] at *); (try omega))
  · exact ⟨h, hp _ (by omega)⟩
  rotate_left
  · have hb : pwrB n 2 f = false := ‹pwrB n (1 + 1) f = false›
    rw [hb, if_neg (by decide)]
    exact Sup.of rfl
  have hb2 : pwrB n 2 f = true := ‹pwrB n (1 + 1) f = true›
  rw [hb2, if_pos rfl]
  conv => whnf
  refine rounds_succ ⟨anyB_ok, mixed, tabOK, cpMm_ok, noY_ok⟩ (by rfl) ?_
  repeat' ((conv => whnf); first | refine And.intro ?_ ?_ | with_reducible exact VC.mk rfl | exact Ok.mk | exact True.intro | refine Nx.mk ?_ | refine Fin.mk ?_ | (intro hq; (try (exact absurd hq (by decide)))))
  all_goals ((try refine VC.mk ?_); (try simp only [CL.ncell, CL.cnt, vq] at *); (try omega))
  · exact ⟨h, hp _ (by omega)⟩
  rotate_left
  · have hb : pwrB n 3 f = false := ‹pwrB n (1 + 1 + 1) f = false›
    rw [hb, if_neg (by decide)]
    exact Sup.of rfl
  have hb3 : pwrB n 3 f = true := ‹pwrB n (1 + 1 + 1) f = true›
  rw [hb3, if_pos rfl]
  conv => whnf
  refine rounds_succ ⟨anyB_ok, mixed, tabOK, cpMm_ok, noY_ok⟩ (by rfl) ?_
  repeat' ((conv => whnf); first | refine And.intro ?_ ?_ | with_reducible exact VC.mk rfl | exact Ok.mk | exact True.intro | refine Nx.mk ?_ | refine Fin.mk ?_ | (intro hq; (try (exact absurd hq (by decide)))))
  all_goals ((try refine VC.mk ?_); (try simp only [CL.ncell, CL.cnt, vq] at *); (try omega))
  · exact ⟨h, hp _ (by omega)⟩
  rotate_left
  · have hb : pwrB n 4 f = false := ‹pwrB n (1 + 1 + 1 + 1) f = false›
    rw [hb, if_neg (by decide)]
    exact Sup.of rfl
  have hb4 : pwrB n 4 f = true := ‹pwrB n (1 + 1 + 1 + 1) f = true›
  rw [hb4, if_pos rfl]
  conv => whnf
  refine rounds_succ ⟨anyB_ok, mixed, tabOK, cpMm_ok, noY_ok⟩ (by rfl) ?_
  repeat' ((conv => whnf); first | refine And.intro ?_ ?_ | with_reducible exact VC.mk rfl | exact Ok.mk | exact True.intro | refine Nx.mk ?_ | refine Fin.mk ?_ | (intro hq; (try (exact absurd hq (by decide)))))
  all_goals exact Sup.of rfl
end Go.Eng.YtobnbkoeocdhbaaGreatDoor
namespace Go.Eng.YtobnbkoeocdhbaaGreatDoor
open Go.Proofs
set_option maxRecDepth 100000
set_option maxHeartbeats 0
set_option linter.unusedVariables false
set_option linter.unusedSimpArgs false
/-- the square without its border, its first rows -/
def innT (n : Nat) (f : List Int) : Nat → List Int
  | 0 => []
  | k + 1 => innT n f k ++ (f.drop ((k + 1) * n + 1)).take (n - 2)
def innL (n : Nat) (f : List Int) : List Int := innT n f (n - 2)
theorem innT_len (n : Nat) (f : List Int) (hf : f.length = n * n) (hn : 2 ≤ n) : ∀ k, k ≤ n - 2 → (innT n f k).length = k * (n - 2) := by
  intro k
  induction k with
  | zero => intro _; simp [innT]
  | succ k ih =>
    intro hk
    have h1 : (k + 1) * n + n ≤ n * n := by
      have : (k + 2) * n ≤ n * n := Nat.mul_le_mul_right n (by omega)
      have e : (k + 2) * n = (k + 1) * n + n := by rw [show k + 2 = k + 1 + 1 from rfl, Nat.succ_mul (k + 1)]
      omega
    show (innT n f k ++ _).length = _
    rw [List.length_append, ih (by omega), List.length_take, List.length_drop, hf, Nat.succ_mul k (n - 2), Nat.min_eq_left (by omega)]
theorem innT_mem (n : Nat) (f : List Int) : ∀ k, ∀ x ∈ innT n f k, x ∈ f := by
  intro k
  induction k with
  | zero => intro x hx; simp [innT] at hx
  | succ k ih =>
    intro x hx
    rcases List.mem_append.1 hx with h | h
    · exact ih x h
    · exact List.mem_of_mem_drop (List.mem_of_mem_take h)
theorem FigOK.inner {n : Nat} {f : List Int} (h : FigOK n f) (h4 : 4 ≤ n) : FigOK ((n : Int) - 2) (innL n f) := by
  have h0 := h.ord
  refine ⟨by omega, ?_, fun x hx => h.num x (innT_mem n f _ x hx)⟩
  have hl := h.len
  have := innT_len n f (by have : ((f.length : Nat) : Int) = ((n * n : Nat) : Int) := by rw [hl]; simp
                           exact_mod_cast this) (by omega) (n - 2) (Nat.le_refl _)
  show ((innT n f (n - 2)).length : Int) = _
  rw [this]
  have : ((n - 2 : Nat) : Int) = (n : Int) - 2 := by omega
  rw [Int.natCast_mul, this]
theorem inner_spec (n : Nat) (f : List Int) (h : FigOK n f) (h4 : 3 ≤ n) : PSpec Tryz.prog 160 [figV n f] (figV ((n : Int) - 2) (innL n f)) := by
  have h0 := h.ord
  have h1 := h.cnt
  have hl := h.len
  have hl' : f.length = n * n := by
    have : ((f.length : Nat) : Int) = ((n * n : Nat) : Int) := by rw [hl]; simp
    exact_mod_cast this
  refine pspec_of (md := 1) (rf := []) mixed tabOK noC_ok Tryz.func160 (by rfl) (by rfl) (by rfl) ?_
  repeat' ((conv => whnf); first | refine And.intro ?_ ?_ | with_reducible exact VC.mk rfl | exact Ok.mk | exact True.intro | refine Nx.mk ?_ | refine Fin.mk ?_ | intro _)
  all_goals ((try refine VC.mk ?_); (try simp only [CL.ncell, CL.cnt, vq] at *); (try omega))
  conv => whnf
  refine loop_of (X := Nat) (fun k => k ≤ n - 2) (fun k => [(4, .int .i64 ((k : Int) + 1))]) (fun k => [(2, .cells (.pv [.int .i64 ((n : Int) - 2), .isl (.ints .i64 (innT n f k)) (.own 19)]) false), (19, .tok 1 (innT n f k).length)]) (fun k => n - k) 0 ⟨anyB_ok, mixed, tabOK, noC_ok, noY_ok⟩ (by rfl) (by omega) ?_ ?_
  · repeat' ((conv => whnf); first | refine And.intro ?_ ?_ | with_reducible exact VC.mk rfl | exact Ok.mk | exact True.intro | refine Nx.mk ?_ | refine Fin.mk ?_ | intro _)
    all_goals ((try refine VC.mk ?_); (try simp only [CL.ncell, CL.cnt, vq] at *); (try omega))
  intro k hk
  have hn2 : (n : Int) * n ≤ 100 := by omega
  by_cases hlt : k < n - 2
  · have h5 : ((k : Int) + 1) * n + n ≤ n * n := by
      have : ((k : Int) + 1) * n ≤ (n - 1) * n := Int.mul_le_mul_of_nonneg_right (by omega) (by omega)
      have e : ((n : Int) - 1) * n = n * n - n := by rw [Int.sub_mul, Int.one_mul]
      omega
    have h6 : 0 ≤ ((k : Int) + 1) * n := Int.mul_nonneg (by omega) (by omega)
    have h7 := innT_len n f hl' (by omega) k (by omega)
    have h8 : k * (n - 2) ≤ 100 := Nat.le_trans (Nat.mul_le_mul (show k ≤ 10 by omega) (show n - 2 ≤ 10 by omega)) (by decide)
    have e3 : (((k : Int) + 1) * n + n - 1).toNat - (((k : Int) + 1) * n + 1).toNat = n - 2 := by omega
    have e4 : (((k : Int) + 1) * n + 1).toNat = (k + 1) * n + 1 := by
      have : ((k : Int) + 1) * n = (((k + 1) * n : Nat) : Int) := by rw [Int.natCast_mul]; rfl
      omega
    have h9 : (k + 1) * n + n ≤ n * n := by
      have : (k + 2) * n ≤ n * n := Nat.mul_le_mul_right n (by omega)
      have e : (k + 2) * n = (k + 1) * n + n := by rw [show k + 2 = k + 1 + 1 from rfl, Nat.succ_mul (k + 1)]
      omega
    have h10 : (List.take (n - 2) (List.drop ((k + 1) * n + 1) f)).length = n - 2 := by
      rw [List.length_take, List.length_drop, hl', Nat.min_eq_left (by omega)]
    have e5 : innT n f (k + 1) = innT n f k ++ List.take (n - 2) (List.drop ((k + 1) * n + 1) f) := rfl
    repeat' ((conv => whnf); first | refine And.intro ?_ ?_ | with_reducible exact VC.mk rfl | exact Ok.mk | exact True.intro | refine Nx.mk ?_ | refine Fin.mk ?_ | intro _)
    all_goals ((try refine VC.mk ?_); (try simp only [CL.ncell, CL.cnt, vq] at *); (try omega))
    · rw [e3, e4, List.length_append, h10]; omega
    rw [e3, e4]
    refine ⟨k + 1, [], ⟨by omega, by omega⟩, ?_⟩
    rw [e5, List.length_append]
    repeat' ((conv => whnf); first | refine And.intro ?_ ?_ | with_reducible exact VC.mk rfl | exact Ok.mk | exact True.intro | refine Nx.mk ?_ | refine Fin.mk ?_ | intro _)
    all_goals ((try refine VC.mk ?_); (try simp only [CL.ncell, CL.cnt, vq] at *); (try omega))
  · have ek : k = n - 2 := by omega
    subst ek
    repeat' ((conv => whnf); first | refine And.intro ?_ ?_ | with_reducible exact VC.mk rfl | exact Ok.mk | exact True.intro | refine Nx.mk ?_ | refine Fin.mk ?_ | intro _)
    all_goals ((try refine VC.mk ?_); (try simp only [CL.ncell, CL.cnt, vq] at *); (try omega))
    exact Sup.of rfl
theorem inner_spec' {n : Int} {f : List Int} (h : FigOK n f) (h3 : 3 ≤ n) : PSpec Tryz.prog 160 [figV n f] (figV (n - 2) (innL n.toNat f)) := by
  have e : ((n.toNat : Nat) : Int) = n := Int.toNat_of_nonneg (by omega)
  have := inner_spec n.toNat f (by rw [e]; exact h) (by omega)
  rw [e] at this
  exact this
def innerP : PSp := fun xs K => match xs with
  | [.agg [.int .i64 n, .isl (.ints .i64 f) .none]] => VC (FigOK n f ∧ 3 ≤ n) ∧ K (.agg [.int .i64 (n - 2), .isl (.ints .i64 (innL n.toNat f)) .none])
  | _ => False
theorem inner_ok : POK Tryz.prog 160 innerP := by
  intro xs K h
  unfold innerP at h
  split at h
  · exact ⟨_, h.2, inner_spec' h.1.get.1 h.1.get.2⟩
  · exact h.elim
/-- are all squares within the borders magic -/
def brF : Nat → Nat → List Int → Bool
  | 0, _, _ => true
  | t + 1, n, f => if 3 ≤ n then isB n kMag1 f && brF t (n - 2) (innL n f) else true
theorem brF_lo (t : Nat) {n : Nat} (f : List Int) (h : ¬ 3 ≤ n) : brF t n f = true := by cases t with | zero => rfl | succ t => unfold brF; rw [if_neg h]
def brB (n : Nat) (f : List Int) : Bool := decide (5 ≤ n) && brF 10 n f
noncomputable def cpBr : CPT := cpAdd 65 (pureCC isP) (cpAdd 160 (pureCC innerP) noC)
theorem cpBr_ok : CPOK Tryz.prog cpBr := cpAdd_ok (pureCC_ok is_ok) (cpAdd_ok (pureCC_ok inner_ok) noC_ok)
theorem bord_spec (n : Nat) (f : List Int) (h : FigOK n f) : PSpec Tryz.prog 122 [figV n f] (.bp (brB n f)) := by
  have h0 := h.ord
  unfold brB
  refine pspec_of (md := 1) (rf := []) mixed tabOK cpBr_ok Tryz.func122 (by rfl) (by rfl) (by rfl) ?_
  repeat' ((conv => whnf); first | refine And.intro ?_ ?_ | with_reducible exact VC.mk rfl | exact Ok.mk | exact True.intro | refine Nx.mk ?_ | refine Fin.mk ?_ | intro _)
  all_goals ((try refine VC.mk ?_); (try simp only [CL.ncell, CL.cnt, vq] at *); (try omega))
  · rename_i hq
    rw [show decide (5 ≤ n) = false from decide_eq_false (by omega), Bool.false_and]
    all_goals (refine Sup.via ?_; repeat' ((conv => whnf); first | refine And.intro ?_ ?_ | with_reducible exact VC.mk rfl | exact Ok.mk | exact True.intro | refine Nx.mk ?_ | refine Fin.mk ?_ | intro _); all_goals ((try refine VC.mk ?_); (try simp only [CL.ncell, CL.cnt, vq] at *); (try omega)); all_goals (try (simp [CL.sub]; done)))
  rename_i hq
  rw [show decide (5 ≤ n) = true from decide_eq_true (by omega), Bool.true_and]
  conv => whnf
  refine loop_of (X := Nat × Nat × List Int) (fun x => x.2.1 ≤ 2 * x.1 ∧ x.1 ≤ 10 ∧ (3 ≤ x.2.1 → FigOK x.2.1 x.2.2) ∧ brF x.1 x.2.1 x.2.2 = brF 10 n f) (fun x => []) (fun x => [(0, .cells (.pv [.int .i64 x.2.1, .isl (.ints .i64 x.2.2) .none]) false)]) (fun x => x.1) (10, n, f) ⟨anyB_ok, mixed, tabOK, cpBr_ok, noY_ok⟩ (by rfl) ⟨show n ≤ 2 * 10 by omega, Nat.le_refl _, fun _ => h, rfl⟩ ?_ ?_
  · repeat' ((conv => whnf); first | refine And.intro ?_ ?_ | with_reducible exact VC.mk rfl | exact Ok.mk | exact True.intro | refine Nx.mk ?_ | refine Fin.mk ?_ | intro _)
    all_goals ((try refine VC.mk ?_); (try simp only [CL.ncell, CL.cnt, vq] at *); (try omega))
  intro ⟨t, m, g⟩ ⟨hm, ht, hf, he⟩
  simp only at hm ht hf he
  rw [← he]
  by_cases h3 : 3 ≤ m
  · have hf := hf h3
    obtain ⟨t, rfl⟩ : ∃ t', t = t' + 1 := ⟨t - 1, by omega⟩
    have e : brF (t + 1) m g = (isB m kMag1 g && brF t (m - 2) (innL m g)) := by
      show (if 3 ≤ m then _ else _) = _
      rw [if_pos h3]
    rw [e]
    repeat' ((conv => whnf); first | refine And.intro ?_ ?_ | with_reducible exact VC.mk rfl | exact Ok.mk | exact True.intro | refine Nx.mk ?_ | refine Fin.mk ?_ | intro _)
    all_goals ((try refine VC.mk ?_); (try simp only [CL.ncell, CL.cnt, vq] at *); (try omega))
    · rename_i hq _
      rw [show isB m kMag1 g = false from by simpa using hq, Bool.false_and]
      all_goals (refine Sup.via ?_; repeat' ((conv => whnf); first | refine And.intro ?_ ?_ | with_reducible exact VC.mk rfl | exact Ok.mk | exact True.intro | refine Nx.mk ?_ | refine Fin.mk ?_ | intro _); all_goals ((try refine VC.mk ?_); (try simp only [CL.ncell, CL.cnt, vq] at *); (try omega)); all_goals (try (simp [CL.sub]; done)))
    · exact ⟨hf, by omega⟩
    · rename_i hq _
      rw [show isB m kMag1 g = true from by simpa using hq, Bool.true_and]
      refine ⟨(t, m - 2, innL m g), [], ⟨⟨show m - 2 ≤ 2 * t by omega, show t ≤ 10 by omega, fun h5 => ?_, rfl⟩, show t < t + 1 by omega⟩, ?_⟩
      · have h5 : 3 ≤ m - 2 := h5
        have := hf.inner (by omega)
        rw [show ((m : Int) - 2) = ((m - 2 : Nat) : Int) by omega] at this
        exact this
      rw [show ((m : Int) - 2) = ((m - 2 : Nat) : Int) by omega]
      repeat' ((conv => whnf); first | refine And.intro ?_ ?_ | with_reducible exact VC.mk rfl | exact Ok.mk | exact True.intro | refine Nx.mk ?_ | refine Fin.mk ?_ | intro _)
      all_goals ((try refine VC.mk ?_); (try simp only [CL.ncell, CL.cnt, vq] at *); (try omega))
  · rw [brF_lo _ _ h3]
    repeat' ((conv => whnf); first | refine And.intro ?_ ?_ | with_reducible exact VC.mk rfl | exact Ok.mk | exact True.intro | refine Nx.mk ?_ | refine Fin.mk ?_ | intro _)
    all_goals ((try refine VC.mk ?_); (try simp only [CL.ncell, CL.cnt, vq] at *); (try omega))
    all_goals (refine Sup.via ?_; repeat' ((conv => whnf); first | refine And.intro ?_ ?_ | with_reducible exact VC.mk rfl | exact Ok.mk | exact True.intro | refine Nx.mk ?_ | refine Fin.mk ?_ | intro _); all_goals ((try refine VC.mk ?_); (try simp only [CL.ncell, CL.cnt, vq] at *); (try omega)); all_goals (try (simp [CL.sub]; done)))
end Go.Eng.YtobnbkoeocdhbaaGreatDoor
namespace Go.Eng.YtobnbkoeocdhbaaGreatDoor
open Go.Proofs
set_option maxRecDepth 100000
set_option maxHeartbeats 0
set_option linter.unusedVariables false
set_option linter.unusedSimpArgs false
theorem cln_spec (l : List Int) (hl : 1 ≤ l.length ∧ l.length ≤ 1000000) : PSpec Tryz.prog 56 [.isl (.ints .i64 l) .none] (.isl (.ints .i64 l) .none) := by
  refine pspec_of (md := 1) (rf := []) mixed tabOK noC_ok Tryz.func56 (by rfl) (by rfl) (by rfl) ?_
  repeat' ((conv => whnf); first | refine And.intro ?_ ?_ | with_reducible exact VC.mk rfl | exact Ok.mk | exact True.intro | refine Nx.mk ?_ | refine Fin.mk ?_ | intro _)
  all_goals ((try refine VC.mk ?_); (try simp only [CL.ncell, CL.cnt, vq] at *); (try omega))
  all_goals first | (simp; omega) | exact Sup.of rfl
def clnP : PSp := fun xs K => match xs with
  | [.isl (.ints .i64 l) .none] => VC (1 ≤ l.length ∧ l.length ≤ 1000000) ∧ K (.isl (.ints .i64 l) .none)
  | _ => False
theorem cln_ok : POK Tryz.prog 56 clnP := by
  intro xs K h
  unfold clnP at h
  split at h
  · exact ⟨_, h.2, cln_spec _ h.1.get⟩
  · exact h.elim
def biB (n : Int) (f : List Int) : Bool := isB n kMag1 f && pwrB n 2 f
noncomputable def cpBi : CPT := cpAdd 65 (pureCC isP) (cpAdd 66 (pureCC powerP) noC)
theorem cpBi_ok : CPOK Tryz.prog cpBi := cpAdd_ok (pureCC_ok is_ok) (cpAdd_ok (pureCC_ok power_ok) noC_ok)
theorem k8_spec (n : Int) (f : List Int) (h : FigOK n f) : PSpec Tryz.prog 123 [figV n f] (.bp (biB n f)) := by
  have hp : ∀ i, PowOK (f.getD i 0) 2 := fun i => ⟨by omega, h.get i, fun e => by omega⟩
  unfold biB
  refine pspec_of (md := 1) (rf := []) mixed tabOK cpBi_ok Tryz.func123 (by rfl) (by rfl) (by rfl) ?_
  repeat' ((conv => whnf); first | refine And.intro ?_ ?_ | with_reducible exact VC.mk rfl | exact Ok.mk | exact True.intro | refine Nx.mk ?_ | refine Fin.mk ?_ | intro _)
  all_goals ((try refine VC.mk ?_); (try simp only [CL.ncell, CL.cnt, vq] at *); (try omega))
  · exact ⟨h, hp⟩
  · rename_i hq
    rw [show isB n kMag1 f = true from hq, Bool.true_and]
    exact Sup.of rfl
  · rename_i hq
    rw [show isB n kMag1 f = false from hq, Bool.false_and]
    all_goals (refine Sup.via ?_; repeat' ((conv => whnf); first | refine And.intro ?_ ?_ | with_reducible exact VC.mk rfl | exact Ok.mk | exact True.intro | refine Nx.mk ?_ | refine Fin.mk ?_ | intro _); all_goals ((try refine VC.mk ?_); (try simp only [CL.ncell, CL.cnt, vq] at *); (try omega)); all_goals (try (simp [CL.sub]; done)))
def knd1P : PSp := fun xs K => match xs with
  | [.agg [.int .i64 n, .isl (.ints .i64 f) .none]] => VC (FigOK n f) ∧ K (.bp (nrmB f))
  | _ => False
theorem knd1_ok : POK Tryz.prog 115 knd1P := by
  intro xs K h
  unfold knd1P at h
  split at h
  · exact ⟨_, h.2, k1_spec _ _ h.1.get⟩
  · exact h.elim
def knd2P : PSp := fun xs K => match xs with
  | [.agg [.int .i64 n, .isl (.ints .i64 f) .none]] => VC (FigOK n f) ∧ K (.bp (isB n kSem1 f))
  | _ => False
theorem knd2_ok : POK Tryz.prog 117 knd2P := by
  intro xs K h
  unfold knd2P at h
  split at h
  · exact ⟨_, h.2, k2_spec _ _ h.1.get⟩
  · exact h.elim
def knd3P : PSp := fun xs K => match xs with
  | [.agg [.int .i64 n, .isl (.ints .i64 f) .none]] => VC (FigOK n f) ∧ K (.bp (isB n kMag1 f))
  | _ => False
theorem knd3_ok : POK Tryz.prog 118 knd3P := by
  intro xs K h
  unfold knd3P at h
  split at h
  · exact ⟨_, h.2, k3_spec _ _ h.1.get⟩
  · exact h.elim
def knd4P : PSp := fun xs K => match xs with
  | [.agg [.int .i64 n, .isl (.ints .i64 f) .none]] => VC (FigOK n f) ∧ K (.bp (isB n kPan1 f))
  | _ => False
theorem knd4_ok : POK Tryz.prog 119 knd4P := by
  intro xs K h
  unfold knd4P at h
  split at h
  · exact ⟨_, h.2, k4_spec _ _ h.1.get⟩
  · exact h.elim
def knd5P : PSp := fun xs K => match xs with
  | [.agg [.int .i64 n, .isl (.ints .i64 f) .none]] => VC (FigOK n f) ∧ K (.bp (assB n f))
  | _ => False
theorem knd5_ok : POK Tryz.prog 120 knd5P := by
  intro xs K h
  unfold knd5P at h
  split at h
  · exact ⟨_, h.2, k5_spec _ _ h.1.get⟩
  · exact h.elim
def knd6P : PSp := fun xs K => match xs with
  | [.agg [.int .i64 n, .isl (.ints .i64 f) .none]] => VC (FigOK n f) ∧ K (.bp (mpB n f))
  | _ => False
theorem knd6_ok : POK Tryz.prog 121 knd6P := by
  intro xs K h
  unfold knd6P at h
  split at h
  · exact ⟨_, h.2, k6_spec _ _ h.1.get⟩
  · exact h.elim
theorem bord_spec' {n : Int} {f : List Int} (h : FigOK n f) : PSpec Tryz.prog 122 [figV n f] (.bp (brB n.toNat f)) := by
  have h0 := h.ord
  have e : ((n.toNat : Nat) : Int) = n := Int.toNat_of_nonneg (by omega)
  have := bord_spec n.toNat f (by rw [e]; exact h)
  rw [e] at this
  exact this
def knd7P : PSp := fun xs K => match xs with
  | [.agg [.int .i64 n, .isl (.ints .i64 f) .none]] => VC (FigOK n f) ∧ K (.bp (brB n.toNat f))
  | _ => False
theorem knd7_ok : POK Tryz.prog 122 knd7P := by
  intro xs K h
  unfold knd7P at h
  split at h
  · exact ⟨_, h.2, bord_spec' h.1.get⟩
  · exact h.elim
def knd8P : PSp := fun xs K => match xs with
  | [.agg [.int .i64 n, .isl (.ints .i64 f) .none]] => VC (FigOK n f) ∧ K (.bp (biB n f))
  | _ => False
theorem knd8_ok : POK Tryz.prog 123 knd8P := by
  intro xs K h
  unfold knd8P at h
  split at h
  · exact ⟨_, h.2, k8_spec _ _ h.1.get⟩
  · exact h.elim
abbrev sNor : ByteArray := ⟨#[110, 111, 114, 109, 97, 108]⟩
abbrev sAss : ByteArray := ⟨#[97, 115, 115, 111, 99, 105, 97, 116, 105, 118, 101]⟩
abbrev sMos : ByteArray := ⟨#[109, 111, 115, 116, 45, 112, 101, 114, 102, 101, 99, 116]⟩
abbrev sBor : ByteArray := ⟨#[98, 111, 114, 100, 101, 114, 101, 100]⟩
abbrev sBim : ByteArray := ⟨#[98, 105, 109, 97, 103, 105, 99]⟩
abbrev kFn (k : Nat) : PV := .fn (.func k) [] []
abbrev kRecs : List (List PV) := [[.str sNor, kFn 115], [.str kSem1, kFn 117], [.str kMag1, kFn 118], [.str kPan1, kFn 119], [.str sAss, kFn 120], [.str sMos, kFn 121], [.str sBor, kFn 122], [.str sBim, kFn 123]]
theorem ktab_spec : PSpec Tryz.prog 74 [] (.isl (.recs 2 kRecs) .full) := by
  refine pspec_of (md := 1) (rf := []) mixed tabOK noC_ok Tryz.func74 (by rfl) (by rfl) (by rfl) ?_
  repeat' ((conv => whnf); first | refine And.intro ?_ ?_ | with_reducible exact VC.mk rfl | exact Ok.mk | exact True.intro | refine Nx.mk ?_ | refine Fin.mk ?_ | intro _)
  all_goals ((try refine VC.mk ?_); (try simp only [CL.ncell, CL.cnt, vq] at *); (try omega))
  exact Sup.of (show (PV.isl (.recs 2 kRecs) .full) = _ from rfl)
def ktabP : PSp := fun xs K => match xs with
  | [] => VC (True) ∧ K (.isl (.recs 2 kRecs) .full)
  | _ => False
theorem ktab_ok : POK Tryz.prog 74 ktabP := by
  intro xs K h
  unfold ktabP at h
  split at h
  · exact ⟨_, h.2, ktab_spec⟩
  · exact h.elim
/-- the kinds that a square has, the first ones of the table -/
def kdB (n : Int) (f : List Int) : List (ByteArray × Bool) := [(sNor, nrmB f), (kSem1, isB n kSem1 f), (kMag1, isB n kMag1 f), (kPan1, isB n kPan1 f), (sAss, assB n f), (sMos, mpB n f), (sBor, brB n.toNat f), (sBim, biB n f)]
def kdT (n : Int) (f : List Int) (i : Nat) : List ByteArray := (((kdB n f).take i).filter fun x => x.2).map fun x => x.1
theorem kdT_succ (n : Int) (f : List Int) (i : Nat) (hi : i < 8) : kdT n f (i + 1) = if ((kdB n f).getD i (sNor, false)).2 then kdT n f i ++ [((kdB n f).getD i (sNor, false)).1] else kdT n f i := by
  have hl : i < (kdB n f).length := hi
  unfold kdT
  rw [List.take_add_one, List.filter_append, List.map_append, List.getD_eq_getElem?_getD, List.getElem?_eq_getElem hl]
  simp only [Option.toList_some, Option.getD_some, List.filter_cons, List.filter_nil]
  split <;> simp
theorem kdT_len (n : Int) (f : List Int) (i : Nat) : (kdT n f i).length ≤ i := by
  unfold kdT
  rw [List.length_map]
  refine Nat.le_trans (List.length_filter_le _ _) ?_
  rw [List.length_take]; omega
noncomputable def cpKd : CPT := cpAdd 56 (pureCC clnP) (cpAdd 64 (pureCC chkSqP) (cpAdd 74 (pureCC ktabP) (cpAdd 115 (pureCC knd1P) (cpAdd 117 (pureCC knd2P) (cpAdd 118 (pureCC knd3P) (cpAdd 119 (pureCC knd4P) (cpAdd 120 (pureCC knd5P) (cpAdd 121 (pureCC knd6P) (cpAdd 122 (pureCC knd7P) (cpAdd 123 (pureCC knd8P) noC))))))))))
theorem cpKd_ok : CPOK Tryz.prog cpKd := cpAdd_ok (pureCC_ok cln_ok) (cpAdd_ok (pureCC_ok chkSq_ok) (cpAdd_ok (pureCC_ok ktab_ok) (cpAdd_ok (pureCC_ok knd1_ok) (cpAdd_ok (pureCC_ok knd2_ok) (cpAdd_ok (pureCC_ok knd3_ok) (cpAdd_ok (pureCC_ok knd4_ok) (cpAdd_ok (pureCC_ok knd5_ok) (cpAdd_ok (pureCC_ok knd6_ok) (cpAdd_ok (pureCC_ok knd7_ok) (cpAdd_ok (pureCC_ok knd8_ok) noC_ok))))))))))
theorem lkinds_spec (n : Int) (f : List Int) (h : FigOK n f) : PSpec Tryz.prog 35 [.agg [.int .i64 n, .int .i64 n, .isl (.ints .i64 f) .none]] (.tup [.isl (.strs (kdT n f 8)) .none, .int .i64 0]) := by
  have h0 := h.ord
  have h1 := h.len
  have h2 := h.num
  have h3 := h.cnt
  refine pspec_of (md := 1) (rf := []) mixed tabOK cpKd_ok Tryz.func35 (by rfl) (by rfl) (by rfl) ?_
  repeat' ((conv => whnf); first | refine And.intro ?_ ?_ | with_reducible exact VC.mk rfl | exact Ok.mk | exact True.intro | refine Nx.mk ?_ | refine Fin.mk ?_ | intro _)
  all_goals ((try refine VC.mk ?_); (try simp only [CL.ncell, CL.cnt, vq] at *); (try omega))
  · exact ⟨by omega, h1, h2⟩
  conv => whnf
  refine loop_of (X := Nat) (fun i => i ≤ 8) (fun i => [(15, .int .i64 i), (5, .isl (.strs (kdT n f i)) (.own 3)), (7, .any)]) (fun i => [(3, .tok 1 (kdT n f i).length)]) (fun i => 8 - i) 0 ⟨anyB_ok, mixed, tabOK, cpKd_ok, noY_ok⟩ (by rfl) (by omega) ?_ ?_
  · repeat' ((conv => whnf); first | refine And.intro ?_ ?_ | with_reducible exact VC.mk rfl | exact Ok.mk | exact True.intro | refine Nx.mk ?_ | refine Fin.mk ?_ | intro _)
    all_goals ((try refine VC.mk ?_); (try simp only [CL.ncell, CL.cnt, vq] at *); (try omega))
  intro i hi
  obtain rfl | rfl | rfl | rfl | rfl | rfl | rfl | rfl | rfl : i = 0 ∨ i = 1 ∨ i = 2 ∨ i = 3 ∨ i = 4 ∨ i = 5 ∨ i = 6 ∨ i = 7 ∨ i = 8 := by omega
  · have e : kdT n f (0 + 1) = if nrmB f then kdT n f 0 ++ [sNor] else kdT n f 0 := kdT_succ n f 0 (by omega)
    have el := kdT_len n f 0
    repeat' ((conv => whnf); first | refine And.intro ?_ ?_ | with_reducible exact VC.mk rfl | exact Ok.mk | exact True.intro | refine Nx.mk ?_ | refine Fin.mk ?_ | intro _)
    all_goals ((try refine VC.mk ?_); (try simp only [CL.ncell, CL.cnt, vq] at *); (try omega))
    · rfl
    all_goals first | exact h | (simp only [List.length_append, List.length_cons, List.length_nil]; omega) | skip
    · rename_i hq _
      rw [if_pos (show nrmB f = true from hq)] at e
      refine ⟨0 + 1, [], ⟨by omega, by omega⟩, ?_⟩
      rw [e, List.length_append]
      repeat' ((conv => whnf); first | refine And.intro ?_ ?_ | with_reducible exact VC.mk rfl | exact Ok.mk | exact True.intro | refine Nx.mk ?_ | refine Fin.mk ?_ | intro _)
      all_goals ((try refine VC.mk ?_); (try simp only [CL.ncell, CL.cnt, vq] at *); (try omega))
    · rename_i hq _
      rw [if_neg (by rw [show nrmB f = false from hq]; decide)] at e
      refine ⟨0 + 1, [], ⟨by omega, by omega⟩, ?_⟩
      rw [e]
      repeat' ((conv => whnf); first | refine And.intro ?_ ?_ | with_reducible exact VC.mk rfl | exact Ok.mk | exact True.intro | refine Nx.mk ?_ | refine Fin.mk ?_ | intro _)
      all_goals ((try refine VC.mk ?_); (try simp only [CL.ncell, CL.cnt, vq] at *); (try omega))
  · have e : kdT n f (1 + 1) = if isB n kSem1 f then kdT n f 1 ++ [kSem1] else kdT n f 1 := kdT_succ n f 1 (by omega)
    have el := kdT_len n f 1
    repeat' ((conv => whnf); first | refine And.intro ?_ ?_ | with_reducible exact VC.mk rfl | exact Ok.mk | exact True.intro | refine Nx.mk ?_ | refine Fin.mk ?_ | intro _)
    all_goals ((try refine VC.mk ?_); (try simp only [CL.ncell, CL.cnt, vq] at *); (try omega))
    · rfl
    all_goals first | exact h | (simp only [List.length_append, List.length_cons, List.length_nil]; omega) | skip
    · rename_i hq _
      rw [if_pos (show isB n kSem1 f = true from hq)] at e
      refine ⟨1 + 1, [], ⟨by omega, by omega⟩, ?_⟩
      rw [e, List.length_append]
      repeat' ((conv => whnf); first | refine And.intro ?_ ?_ | with_reducible exact VC.mk rfl | exact Ok.mk | exact True.intro | refine Nx.mk ?_ | refine Fin.mk ?_ | intro _)
      all_goals ((try refine VC.mk ?_); (try simp only [CL.ncell, CL.cnt, vq] at *); (try omega))
    · rename_i hq _
      rw [if_neg (by rw [show isB n kSem1 f = false from hq]; decide)] at e
      refine ⟨1 + 1, [], ⟨by omega, by omega⟩, ?_⟩
      rw [e]
      repeat' ((conv => whnf); first | refine And.intro ?_ ?_ | with_reducible exact VC.mk rfl | exact Ok.mk | exact True.intro | refine Nx.mk ?_ | refine Fin.mk ?_ | intro _)
      all_goals ((try refine VC.mk ?_); (try simp only [CL.ncell, CL.cnt, vq] at *); (try omega))
  · have e : kdT n f (2 + 1) = if isB n kMag1 f then kdT n f 2 ++ [kMag1] else kdT n f 2 := kdT_succ n f 2 (by omega)
    have el := kdT_len n f 2
    repeat' ((conv => whnf); first | refine And.intro ?_ ?_ | with_reducible exact VC.mk rfl | exact Ok.mk | exact True.intro | refine Nx.mk ?_ | refine Fin.mk ?_ | intro _)
    all_goals ((try refine VC.mk ?_); (try simp only [CL.ncell, CL.cnt, vq] at *); (try omega))
    · rfl
    all_goals first | exact h | (simp only [List.length_append, List.length_cons, List.length_nil]; omega) | skip
    · rename_i hq _
      rw [if_pos (show isB n kMag1 f = true from hq)] at e
      refine ⟨2 + 1, [], ⟨by omega, by omega⟩, ?_⟩
      rw [e, List.length_append]
      repeat' ((conv => whnf); first | refine And.intro ?_ ?_ | with_reducible exact VC.mk rfl | exact Ok.mk | exact True.intro | refine Nx.mk ?_ | refine Fin.mk ?_ | intro _)
      all_goals ((try refine VC.mk ?_); (try simp only [CL.ncell, CL.cnt, vq] at *); (try omega))
    · rename_i hq _
      rw [if_neg (by rw [show isB n kMag1 f = false from hq]; decide)] at e
      refine ⟨2 + 1, [], ⟨by omega, by omega⟩, ?_⟩
      rw [e]
      repeat' ((conv => whnf); first | refine And.intro ?_ ?_ | with_reducible exact VC.mk rfl | exact Ok.mk | exact True.intro | refine Nx.mk ?_ | refine Fin.mk ?_ | intro _)
      all_goals ((try refine VC.mk ?_); (try simp only [CL.ncell, CL.cnt, vq] at *); (try omega))
  · have e : kdT n f (3 + 1) = if isB n kPan1 f then kdT n f 3 ++ [kPan1] else kdT n f 3 := kdT_succ n f 3 (by omega)
    have el := kdT_len n f 3
    repeat' ((conv => whnf); first | refine And.intro ?_ ?_ | with_reducible exact VC.mk rfl | exact Ok.mk | exact True.intro | refine Nx.mk ?_ | refine Fin.mk ?_ | intro _)
    all_goals ((try refine VC.mk ?_); (try simp only [CL.ncell, CL.cnt, vq] at *); (try omega))
    · rfl
    all_goals first | exact h | (simp only [List.length_append, List.length_cons, List.length_nil]; omega) | skip
    · rename_i hq _
      rw [if_pos (show isB n kPan1 f = true from hq)] at e
      refine ⟨3 + 1, [], ⟨by omega, by omega⟩, ?_⟩
      rw [e, List.length_append]
      repeat' ((conv => whnf); first | refine And.intro ?_ ?_ | with_reducible exact VC.mk rfl | exact Ok.mk | exact True.intro | refine Nx.mk ?_ | refine Fin.mk ?_ | intro _)
      all_goals ((try refine VC.mk ?_); (try simp only [CL.ncell, CL.cnt, vq] at *); (try omega))
    · rename_i hq _
      rw [if_neg (by rw [show isB n kPan1 f = false from hq]; decide)] at e
      refine ⟨3 + 1, [], ⟨by omega, by omega⟩, ?_⟩
      rw [e]
      repeat' ((conv => whnf); first | refine And.intro ?_ ?_ | with_reducible exact VC.mk rfl | exact Ok.mk | exact True.intro | refine Nx.mk ?_ | refine Fin.mk ?_ | intro _)
      all_goals ((try refine VC.mk ?_); (try simp only [CL.ncell, CL.cnt, vq] at *); (try omega))
  · have e : kdT n f (4 + 1) = if assB n f then kdT n f 4 ++ [sAss] else kdT n f 4 := kdT_succ n f 4 (by omega)
    have el := kdT_len n f 4
    repeat' ((conv => whnf); first | refine And.intro ?_ ?_ | with_reducible exact VC.mk rfl | exact Ok.mk | exact True.intro | refine Nx.mk ?_ | refine Fin.mk ?_ | intro _)
    all_goals ((try refine VC.mk ?_); (try simp only [CL.ncell, CL.cnt, vq] at *); (try omega))
    · rfl
    all_goals first | exact h | (simp only [List.length_append, List.length_cons, List.length_nil]; omega) | skip
    · rename_i hq _
      rw [if_pos (show assB n f = true from hq)] at e
      refine ⟨4 + 1, [], ⟨by omega, by omega⟩, ?_⟩
      rw [e, List.length_append]
      repeat' ((conv => whnf); first | refine And.intro ?_ ?_ | with_reducible exact VC.mk rfl | exact Ok.mk | exact True.intro | refine Nx.mk ?_ | refine Fin.mk ?_ | intro _)
      all_goals ((try refine VC.mk ?_); (try simp only [CL.ncell, CL.cnt, vq] at *); (try omega))
    · rename_i hq _
      rw [if_neg (by rw [show assB n f = false from hq]; decide)] at e
      refine ⟨4 + 1, [], ⟨by omega, by omega⟩, ?_⟩
      rw [e]
      repeat' ((conv => whnf); first | refine And.intro ?_ ?_ | with_reducible exact VC.mk rfl | exact Ok.mk | exact True.intro | refine Nx.mk ?_ | refine Fin.mk ?_ | intro _)
      all_goals ((try refine VC.mk ?_); (try simp only [CL.ncell, CL.cnt, vq] at *); (try omega))
  · have e : kdT n f (5 + 1) = if mpB n f then kdT n f 5 ++ [sMos] else kdT n f 5 := kdT_succ n f 5 (by omega)
    have el := kdT_len n f 5
    repeat' ((conv => whnf); first | refine And.intro ?_ ?_ | with_reducible exact VC.mk rfl | exact Ok.mk | exact True.intro | refine Nx.mk ?_ | refine Fin.mk ?_ | intro _)
    all_goals ((try refine VC.mk ?_); (try simp only [CL.ncell, CL.cnt, vq] at *); (try omega))
    · rfl
    all_goals first | exact h | (simp only [List.length_append, List.length_cons, List.length_nil]; omega) | skip
    · rename_i hq _
      rw [if_pos (show mpB n f = true from hq)] at e
      refine ⟨5 + 1, [], ⟨by omega, by omega⟩, ?_⟩
      rw [e, List.length_append]
      repeat' ((conv => whnf); first | refine And.intro ?_ ?_ | with_reducible exact VC.mk rfl | exact Ok.mk | exact True.intro | refine Nx.mk ?_ | refine Fin.mk ?_ | intro _)
      all_goals ((try refine VC.mk ?_); (try simp only [CL.ncell, CL.cnt, vq] at *); (try omega))
    · rename_i hq _
      rw [if_neg (by rw [show mpB n f = false from hq]; decide)] at e
      refine ⟨5 + 1, [], ⟨by omega, by omega⟩, ?_⟩
      rw [e]
      repeat' ((conv => whnf); first | refine And.intro ?_ ?_ | with_reducible exact VC.mk rfl | exact Ok.mk | exact True.intro | refine Nx.mk ?_ | refine Fin.mk ?_ | intro _)
      all_goals ((try refine VC.mk ?_); (try simp only [CL.ncell, CL.cnt, vq] at *); (try omega))
  · have e : kdT n f (6 + 1) = if brB n.toNat f then kdT n f 6 ++ [sBor] else kdT n f 6 := kdT_succ n f 6 (by omega)
    have el := kdT_len n f 6
    repeat' ((conv => whnf); first | refine And.intro ?_ ?_ | with_reducible exact VC.mk rfl | exact Ok.mk | exact True.intro | refine Nx.mk ?_ | refine Fin.mk ?_ | intro _)
    all_goals ((try refine VC.mk ?_); (try simp only [CL.ncell, CL.cnt, vq] at *); (try omega))
    · rfl
    all_goals first | exact h | (simp only [List.length_append, List.length_cons, List.length_nil]; omega) | skip
    · rename_i hq _
      rw [if_pos (show brB n.toNat f = true from hq)] at e
      refine ⟨6 + 1, [], ⟨by omega, by omega⟩, ?_⟩
      rw [e, List.length_append]
      repeat' ((conv => whnf); first | refine And.intro ?_ ?_ | with_reducible exact VC.mk rfl | exact Ok.mk | exact True.intro | refine Nx.mk ?_ | refine Fin.mk ?_ | intro _)
      all_goals ((try refine VC.mk ?_); (try simp only [CL.ncell, CL.cnt, vq] at *); (try omega))
    · rename_i hq _
      rw [if_neg (by rw [show brB n.toNat f = false from hq]; decide)] at e
      refine ⟨6 + 1, [], ⟨by omega, by omega⟩, ?_⟩
      rw [e]
      repeat' ((conv => whnf); first | refine And.intro ?_ ?_ | with_reducible exact VC.mk rfl | exact Ok.mk | exact True.intro | refine Nx.mk ?_ | refine Fin.mk ?_ | intro _)
      all_goals ((try refine VC.mk ?_); (try simp only [CL.ncell, CL.cnt, vq] at *); (try omega))
  · have e : kdT n f (7 + 1) = if biB n f then kdT n f 7 ++ [sBim] else kdT n f 7 := kdT_succ n f 7 (by omega)
    have el := kdT_len n f 7
    repeat' ((conv => whnf); first | refine And.intro ?_ ?_ | with_reducible exact VC.mk rfl | exact Ok.mk | exact True.intro | refine Nx.mk ?_ | refine Fin.mk ?_ | intro _)
    all_goals ((try refine VC.mk ?_); (try simp only [CL.ncell, CL.cnt, vq] at *); (try omega))
    · rfl
    all_goals first | exact h | (simp only [List.length_append, List.length_cons, List.length_nil]; omega) | skip
    · rename_i hq _
      rw [if_pos (show biB n f = true from hq)] at e
      refine ⟨7 + 1, [], ⟨by omega, by omega⟩, ?_⟩
      rw [e, List.length_append]
      repeat' ((conv => whnf); first | refine And.intro ?_ ?_ | with_reducible exact VC.mk rfl | exact Ok.mk | exact True.intro | refine Nx.mk ?_ | refine Fin.mk ?_ | intro _)
      all_goals ((try refine VC.mk ?_); (try simp only [CL.ncell, CL.cnt, vq] at *); (try omega))
    · rename_i hq _
      rw [if_neg (by rw [show biB n f = false from hq]; decide)] at e
      refine ⟨7 + 1, [], ⟨by omega, by omega⟩, ?_⟩
      rw [e]
      repeat' ((conv => whnf); first | refine And.intro ?_ ?_ | with_reducible exact VC.mk rfl | exact Ok.mk | exact True.intro | refine Nx.mk ?_ | refine Fin.mk ?_ | intro _)
      all_goals ((try refine VC.mk ?_); (try simp only [CL.ncell, CL.cnt, vq] at *); (try omega))
  · repeat' ((conv => whnf); first | refine And.intro ?_ ?_ | with_reducible exact VC.mk rfl | exact Ok.mk | exact True.intro | refine Nx.mk ?_ | refine Fin.mk ?_ | intro _)
    all_goals ((try refine VC.mk ?_); (try simp only [CL.ncell, CL.cnt, vq] at *); (try omega))
    exact Sup.of rfl
def lkindsP : PSp := fun xs K => match xs with
  | [.agg [.int .i64 n, .int .i64 m, .isl (.ints .i64 f) .none]] => VC (FigOK n f ∧ m = n) ∧ K (.tup [.isl (.strs (kdT n f 8)) .none, .int .i64 0])
  | _ => False
theorem lkinds_ok : POK Tryz.prog 35 lkindsP := by
  intro xs K h
  unfold lkindsP at h
  split at h
  · exact ⟨_, h.2, (by obtain ⟨h1, h2⟩ := h.1.get; subst h2; exact lkinds_spec _ _ h1)⟩
  · exact h.elim
/-- has a list a text among its first ones -/
def anyT (L : List ByteArray) (k : ByteArray) (j : Nat) : Bool := (L.take j).any fun x => decide (x = k)
theorem anyT_succ (L : List ByteArray) (k : ByteArray) (j : Nat) (h : j < L.length) : anyT L k (j + 1) = (anyT L k j || decide (L.getD j .empty = k)) := by
  unfold anyT
  rw [List.take_add_one, List.any_append, List.getD_eq_getElem?_getD, List.getElem?_eq_getElem h]
  simp
def hasL (L : List ByteArray) (k : ByteArray) : Bool := L.any fun x => decide (x = k)
def hasB (n : Int) (f : List Int) (ks : List ByteArray) : Bool := ks.all (hasL (kdT n f 8))
theorem allS_true {ks : List ByteArray} {q : ByteArray → Bool} (h : ∀ j, j < ks.length → q (ks.getD j .empty) = true) : ks.all q = true := by
  refine List.all_eq_true.2 fun l hl => ?_
  obtain ⟨i, hi, rfl⟩ := List.getElem_of_mem hl
  have := h i hi
  rwa [List.getD_eq_getElem?_getD, List.getElem?_eq_getElem hi] at this
theorem allS_false {ks : List ByteArray} {q : ByteArray → Bool} {i : Nat} (hi : i < ks.length) (h : q (ks.getD i .empty) = false) : ks.all q = false := by
  refine Bool.eq_false_iff.2 fun e => ?_
  have hm : ks.getD i .empty ∈ ks := by rw [List.getD_eq_getElem?_getD, List.getElem?_eq_getElem hi]; exact List.getElem_mem _
  have := List.all_eq_true.1 e _ hm
  rw [h] at this; cases this
noncomputable def cpHs : CPT := cpAdd 35 (pureCC lkindsP) noC
theorem cpHs_ok : CPOK Tryz.prog cpHs := cpAdd_ok (pureCC_ok lkinds_ok) noC_ok
theorem has_spec (n : Int) (f : List Int) (ks : List ByteArray) (h : FigOK n f) (hk : ks.length ≤ 100) : PSpec Tryz.prog 9 [.agg [.int .i64 n, .int .i64 n, .isl (.ints .i64 f) .none], .isl (.strs ks) .none] (.bp (hasB n f ks)) := by
  have hlen := kdT_len n f 8
  unfold hasB
  refine pspec_of (md := 1) (rf := []) mixed tabOK cpHs_ok Tryz.func9 (by rfl) (by rfl) (by rfl) ?_
  repeat' ((conv => whnf); first | refine And.intro ?_ ?_ | with_reducible exact VC.mk rfl | exact Ok.mk | exact True.intro | refine Nx.mk ?_ | refine Fin.mk ?_ | intro _)
  all_goals ((try refine VC.mk ?_); (try simp only [CL.ncell, CL.cnt, vq] at *); (try omega))
  conv => whnf
  obtain ⟨L, hL⟩ : ∃ L, kdT n f 8 = L := ⟨_, rfl⟩
  simp only [hL] at *
  refine loop_of (X := Nat) (fun i => i ≤ ks.length ∧ ∀ j, j < i → hasL L (ks.getD j .empty) = true) (fun i => [(21, .int .i64 i), (12, .any), (14, .any)]) (fun i => []) (fun i => ks.length - i) 0 ⟨anyB_ok, mixed, tabOK, cpHs_ok, noY_ok⟩ (by rfl) ⟨by omega, fun j hj => by omega⟩ ?_ ?_
  · repeat' ((conv => whnf); first | refine And.intro ?_ ?_ | with_reducible exact VC.mk rfl | exact Ok.mk | exact True.intro | refine Nx.mk ?_ | refine Fin.mk ?_ | intro _)
    all_goals ((try refine VC.mk ?_); (try simp only [CL.ncell, CL.cnt, vq] at *); (try omega))
  intro i ⟨hi, hall⟩
  by_cases hlt : i < ks.length
  · repeat' ((conv => whnf); first | refine And.intro ?_ ?_ | with_reducible exact VC.mk rfl | exact Ok.mk | exact True.intro | refine Nx.mk ?_ | refine Fin.mk ?_ | intro _)
    all_goals ((try refine VC.mk ?_); (try simp only [CL.ncell, CL.cnt, vq] at *); (try omega))
    conv => whnf
    refine loop_of (X := Nat) (fun j => j ≤ L.length) (fun j => [(27, .int .i64 j), (12, .any), (14, .any), (9, .bp (anyT L (ks.getD i .empty) j))]) (fun j => []) (fun j => L.length - j) 0 ⟨anyB_ok, mixed, tabOK, cpHs_ok, noY_ok⟩ (by rfl) (by omega) ?_ ?_
    · repeat' ((conv => whnf); first | refine And.intro ?_ ?_ | with_reducible exact VC.mk rfl | exact Ok.mk | exact True.intro | refine Nx.mk ?_ | refine Fin.mk ?_ | intro _)
      all_goals ((try refine VC.mk ?_); (try simp only [CL.ncell, CL.cnt, vq] at *); (try omega))
    intro j hj
    by_cases hjl : j < L.length
    · have e := anyT_succ L (ks.getD i .empty) j hjl
      repeat' ((conv => whnf); first | refine And.intro ?_ ?_ | with_reducible exact VC.mk rfl | exact Ok.mk | exact True.intro | refine Nx.mk ?_ | refine Fin.mk ?_ | intro _)
      all_goals ((try refine VC.mk ?_); (try simp only [CL.ncell, CL.cnt, vq] at *); (try omega))
      · rename_i hq
        rw [show anyT L (ks.getD i .empty) j = false from by assumption, Bool.false_or] at e
        refine ⟨j + 1, [], ⟨by omega, by omega⟩, ?_⟩
        rw [e]
        repeat' ((conv => whnf); first | refine And.intro ?_ ?_ | with_reducible exact VC.mk rfl | exact Ok.mk | exact True.intro | refine Nx.mk ?_ | refine Fin.mk ?_ | intro _)
        all_goals ((try refine VC.mk ?_); (try simp only [CL.ncell, CL.cnt, vq] at *); (try omega))
      · rename_i hq
        rw [show anyT L (ks.getD i .empty) j = true from by assumption, Bool.true_or] at e
        refine ⟨j + 1, [], ⟨by omega, by omega⟩, ?_⟩
        rw [e]
        repeat' ((conv => whnf); first | refine And.intro ?_ ?_ | with_reducible exact VC.mk rfl | exact Ok.mk | exact True.intro | refine Nx.mk ?_ | refine Fin.mk ?_ | intro _)
        all_goals ((try refine VC.mk ?_); (try simp only [CL.ncell, CL.cnt, vq] at *); (try omega))
    · have ej : anyT L (ks.getD i .empty) j = hasL L (ks.getD i .empty) := by
        unfold anyT hasL
        rw [List.take_of_length_le (by omega)]
      rw [ej]
      repeat' ((conv => whnf); first | refine And.intro ?_ ?_ | with_reducible exact VC.mk rfl | exact Ok.mk | exact True.intro | refine Nx.mk ?_ | refine Fin.mk ?_ | intro _)
      all_goals ((try refine VC.mk ?_); (try simp only [CL.ncell, CL.cnt, vq] at *); (try omega))
      · rename_i hq _
        have hq : hasL L (ks.getD i .empty) = false := by simpa using hq
        rw [show ks.all (hasL L) = false from allS_false hlt hq]
        all_goals (refine Sup.via ?_; repeat' ((conv => whnf); first | refine And.intro ?_ ?_ | with_reducible exact VC.mk rfl | exact Ok.mk | exact True.intro | refine Nx.mk ?_ | refine Fin.mk ?_ | intro _); all_goals ((try refine VC.mk ?_); (try simp only [CL.ncell, CL.cnt, vq] at *); (try omega)); all_goals (try (simp [CL.sub]; done)))
      · rename_i hq _
        have hq : hasL L (ks.getD i .empty) = true := by simpa using hq
        refine ⟨i + 1, [], ⟨⟨by omega, fun j hj => ?_⟩, by omega⟩, ?_⟩
        · by_cases e : j = i
          · subst e; exact hq
          · exact hall j (by omega)
        repeat' ((conv => whnf); first | refine And.intro ?_ ?_ | with_reducible exact VC.mk rfl | exact Ok.mk | exact True.intro | refine Nx.mk ?_ | refine Fin.mk ?_ | intro _)
        all_goals ((try refine VC.mk ?_); (try simp only [CL.ncell, CL.cnt, vq] at *); (try omega))
  · have : ks.length = i := by omega
    rw [show ks.all (hasL L) = true from allS_true (by rw [this]; exact hall)]
    repeat' ((conv => whnf); first | refine And.intro ?_ ?_ | with_reducible exact VC.mk rfl | exact Ok.mk | exact True.intro | refine Nx.mk ?_ | refine Fin.mk ?_ | intro _)
    all_goals ((try refine VC.mk ?_); (try simp only [CL.ncell, CL.cnt, vq] at *); (try omega))
    all_goals (refine Sup.via ?_; repeat' ((conv => whnf); first | refine And.intro ?_ ?_ | with_reducible exact VC.mk rfl | exact Ok.mk | exact True.intro | refine Nx.mk ?_ | refine Fin.mk ?_ | intro _); all_goals ((try refine VC.mk ?_); (try simp only [CL.ncell, CL.cnt, vq] at *); (try omega)); all_goals (try (simp [CL.sub]; done)))
end Go.Eng.YtobnbkoeocdhbaaGreatDoor
namespace Go.Eng.YtobnbkoeocdhbaaGreatDoor
open Go.Proofs
set_option maxRecDepth 100000
set_option maxHeartbeats 0
set_option linter.unusedVariables false
set_option linter.unusedSimpArgs false
def upTo (n : Nat) : List Int := (List.range n).map fun i : Nat => (i : Int) + 1
theorem mem_upTo {n : Nat} {a : Int} : a ∈ upTo n ↔ 1 ≤ a ∧ a ≤ n := by
  unfold upTo
  rw [List.mem_map]
  constructor
  · rintro ⟨i, hi, rfl⟩
    have := List.mem_range.1 hi
    omega
  · intro h
    exact ⟨(a - 1).toNat, List.mem_range.2 (by omega), by omega⟩
theorem upTo_nodup (n : Nat) : (upTo n).Nodup := by
  unfold upTo
  refine List.Pairwise.map _ ?_ List.nodup_range
  intro a b h; omega
theorem upTo_asc (n : Nat) : (upTo n).Pairwise (· ≤ ·) := by
  unfold upTo
  rw [List.pairwise_map]
  refine List.pairwise_iff_getElem.2 fun i j hi hj hij => ?_
  simp only [List.getElem_range]; omega
theorem getD_at {l : List Int} {i : Nat} (h : i < l.length) : l.getD i 0 = l[i] := by rw [List.getD_eq_getElem?_getD, List.getElem?_eq_getElem h]; rfl
theorem norm_perm {l : List Int} (h : isNorm l = true) : (upTo l.length).Perm l := by
  obtain ⟨h1, h2⟩ := (isNorm_iff l).1 h
  have hn : l.Nodup := List.pairwise_iff_getElem.2 fun i j hi hj hij => by
    have := h2 i j hij hj
    rwa [getD_at hi, getD_at hj] at this
  refine List.perm_iff_count.2 fun a => ?_
  have hm : a ∈ upTo l.length ↔ a ∈ l := by
    rw [mem_upTo]
    constructor
    · intro ha
      obtain ⟨i, hi, he⟩ := inj_surj (c := fun i => (l.getD i 0 - 1).toNat) (N := l.length) (fun i hi => by have := h1 i hi; omega) (fun i j hij hj e => by
        have a1 := h1 i (by omega); have a2 := h1 j hj
        exact h2 i j hij hj (by omega)) (a - 1).toNat (by omega)
      have a1 := h1 i hi
      have : a = l[i] := by rw [← getD_at hi]; omega
      rw [this]; exact List.getElem_mem _
    · intro ha
      obtain ⟨i, hi, rfl⟩ := List.getElem_of_mem ha
      have := h1 i hi
      rwa [getD_at hi] at this
  rw [(upTo_nodup _).count, hn.count]
  by_cases h' : a ∈ l
  · rw [if_pos h', if_pos (hm.2 h')]
  · rw [if_neg h', if_neg fun h => h' (hm.1 h)]
theorem sortI_norm {l : List Int} (h : isNorm l = true) : sortI l = upTo l.length := by
  have h1 : (sortI l).Perm (upTo l.length) := (List.mergeSort_perm l _).trans (norm_perm h).symm
  have h2 : (sortI l).Pairwise (· ≤ ·) := by
    have := List.pairwise_mergeSort (le := fun x y : Int => decide (x ≤ y)) (fun a b c h1 h2 => by simp only [decide_eq_true_eq] at *; omega) (fun a b => by simp only [Bool.or_eq_true, decide_eq_true_eq]; omega) l
    exact this.imp fun h => by simpa using h
  exact h1.eq_of_pairwise (fun a b _ _ h1 h2 => Int.le_antisymm h1 h2) h2 (upTo_asc _)
theorem nrmB_norm {l : List Int} (h : isNorm l = true) : nrmB l = true := by
  refine nrmB_true fun i hi => ?_
  rw [sortI_norm h, List.getD_eq_getElem?_getD]
  simp [upTo, hi]
/-! lines -/
theorem allL_eq {n : Nat} (h : 2 ≤ n ∧ n ≤ 10) : rwL n = linesTo n (2 * n) ∧ rwL n ++ mn2 n = linesTo n (2 * n + 2) ∧ rwL n ++ mn2 n ++ rs2 n = linesTo n (4 * n) := by
  obtain rfl | rfl | rfl | rfl | rfl | rfl | rfl | rfl | rfl : n = 2 ∨ n = 3 ∨ n = 4 ∨ n = 5 ∨ n = 6 ∨ n = 7 ∨ n = 8 ∨ n = 9 ∨ n = 10 := by omega
  all_goals decide +kernel
def lnM (n : Nat) (s : ByteArray) : Nat := if s = kSem1 then 2 * n else if s = kPan1 then 4 * n else 2 * n + 2
theorem lnsK_mem {n : Nat} (h : 2 ≤ n ∧ n ≤ 10) (s : ByteArray) (l : List Int) : l ∈ lnsK n s ↔ ∃ i, i < lnM n s ∧ l = lineAt n i := by
  have key : ∀ m, l ∈ linesTo n m ↔ ∃ i, i < m ∧ l = lineAt n i := fun m => by
    unfold linesTo
    rw [List.mem_map]
    constructor
    · rintro ⟨i, hi, rfl⟩; exact ⟨i, List.mem_range.1 hi, rfl⟩
    · rintro ⟨i, hi, rfl⟩; exact ⟨i, List.mem_range.2 hi, rfl⟩
  obtain ⟨e1, e2, e3⟩ := allL_eq h
  unfold lnsK lnM
  split
  · rw [mem_ddT, e1, key]
  split
  · rw [mem_ddT, e3, key]
  · rw [mem_ddT, e2, key]
theorem isB_iff {n : Int} {s : ByteArray} {f : List Int} : isB n s f = true ↔ ∀ i, i < (lnsK n.toNat s).length → sumAt f ((lnsK n.toNat s).getD i []) ((lnsK n.toNat s).getD i []).length = sumAt f ((lnsK n.toNat s).getD 0 []) ((lnsK n.toNat s).getD 0 []).length := by
  unfold isB diffI
  generalize lnsK n.toNat s = ls
  have hg : ∀ i, i < ls.length → (sumsL f ls ls.length).getD i 0 = sumAt f (ls.getD i []) (ls.getD i []).length := fun i hi => by
    unfold sumsL
    rw [List.take_length, List.getD_eq_getElem?_getD, List.getElem?_map, List.getElem?_eq_getElem hi, List.getD_eq_getElem?_getD, List.getElem?_eq_getElem hi]; rfl
  have hl := sumsL_len f ls ls.length (Nat.le_refl _)
  rw [hl]
  have e : decide (firstAt (fun i => notHd (sumsL f ls ls.length) ((sumsL f ls ls.length).getD i 0)) ls.length < 0) = !(List.range ls.length).any fun i => notHd (sumsL f ls ls.length) ((sumsL f ls ls.length).getD i 0) := by
    rw [← firstAt_nonneg, ← decide_not]
    congr 1
    exact propext ⟨fun h => by omega, fun h => by omega⟩
  rw [e, Bool.not_eq_true', List.any_eq_false]
  simp only [List.mem_range, notHd, decide_eq_true_eq, ne_eq, Classical.not_not]
  constructor
  · intro h i hi
    have := h i hi
    rwa [hg i hi, hg 0 (by omega)] at this
  · intro h i hi
    rw [hg i hi, hg 0 (by omega)]
    exact h i hi
theorem isB_lines {n : Nat} (hn : 2 ≤ n ∧ n ≤ 10) {s : ByteArray} {f : List Int} : isB n s f = true ↔ ∃ c, ∀ i, i < lnM n s → lineSum n f i = c := by
  have hs : ∀ i, lineSum n f i = sumAt f (lineAt n i) (lineAt n i).length := fun i => by rw [lineAt_len]; rfl
  have hk := lnsK_len hn s
  rw [isB_iff, Int.toNat_natCast]
  constructor
  · intro h
    refine ⟨sumAt f ((lnsK n s).getD 0 []) ((lnsK n s).getD 0 []).length, fun i hi => ?_⟩
    have hm := (lnsK_mem hn s (lineAt n i)).2 ⟨i, hi, rfl⟩
    obtain ⟨j, hj, e⟩ := List.getElem_of_mem hm
    have := h j hj
    rw [List.getD_eq_getElem?_getD, List.getElem?_eq_getElem hj] at this
    simp only [Option.getD_some] at this
    rw [e] at this
    rw [hs, this]
  · rintro ⟨c, h⟩ i hi
    have key : ∀ i, i < (lnsK n s).length → sumAt f ((lnsK n s).getD i []) ((lnsK n s).getD i []).length = c := fun i hi => by
      obtain ⟨j, hj, e⟩ := (lnsK_mem hn s _).1 (getD_mem' hi)
      rw [e, ← hs]; exact h j hj
    rw [key i hi, key 0 (by omega)]
theorem isB_of {n : Nat} (hn : 2 ≤ n ∧ n ≤ 10) {s : ByteArray} {g : Int} (hg : lnM n s = lineCnt n g) {f : List Int} (h : badLine n g f = none) : isB n s f = true := by
  rw [isB_lines hn]
  refine ⟨constOf n, fun i hi => ?_⟩
  exact (badLine_iff (by omega) g f).1 h i (by rw [← hg]; exact hi)
end Go.Eng.YtobnbkoeocdhbaaGreatDoor
namespace Go.Eng.YtobnbkoeocdhbaaGreatDoor
open Go.Proofs
set_option maxRecDepth 100000
set_option maxHeartbeats 0
set_option linter.unusedVariables false
set_option linter.unusedSimpArgs false
end Go.Eng.YtobnbkoeocdhbaaGreatDoor
namespace Go.Eng.YtobnbkoeocdhbaaGreatDoor
open Go.Proofs
set_option maxRecDepth 100000
set_option maxHeartbeats 0
set_option linter.unusedVariables false
set_option linter.unusedSimpArgs false
/-! Halved -/
def halvedAt (n : Int) (i : Nat) : Int := if (i : Int) < n / 2 then i else n - 1 - (i - n / 2)
def halvedL (n : Int) (m : Nat) : List Int := (List.range m).map (halvedAt n)
theorem halvedL_succ (n : Int) (m : Nat) : halvedL n (m + 1) = halvedL n m ++ [halvedAt n m] := by simp [halvedL, List.range_succ]
theorem halvedL_len (n : Int) (m : Nat) : (halvedL n m).length = m := by simp [halvedL]
def halvedV (n : Int) : PV := if n < 1 ∨ 16 < n then .tup [.isl (.ints .i64 []) .none, .int .i64 3] else if n % 4 = 0 then .tup [.isl (.ints .i64 (halvedL n n.toNat)) .none, .int .i64 0] else .tup [.isl (.ints .i64 []) .none, .int .i64 7]
theorem halved_err (n e : Int) (he : e ≠ 0) (hf : firstOf [if n < 1 ∨ 16 < n then 3 else 0, if n.tmod 4 ≠ 0 then 7 else 0] = e) : PSpec Tryz.prog 70 [.int .i64 n] (.tup [.isl (.ints .i64 []) .none, .int .i64 e]) := by
  refine pspec_of (md := 1) (rf := []) mixed tabOK cp2_ok Tryz.func70 (by rfl) (by rfl) (by rfl) ?_
  repeat' ((conv => whnf); first | refine And.intro ?_ ?_ | with_reducible exact VC.mk rfl | exact Ok.mk | exact True.intro | refine Nx.mk ?_ | refine Fin.mk ?_ | intro _)
  all_goals ((try refine VC.mk ?_); (try simp only [CL.ncell, CL.cnt, vq] at *); (try omega))
  all_goals (try (exfalso; simp_all; done))
  · rw [hf]; all_goals (refine Sup.via ?_; repeat' ((conv => whnf); first | refine And.intro ?_ ?_ | with_reducible exact VC.mk rfl | exact Ok.mk | exact True.intro | refine Nx.mk ?_ | refine Fin.mk ?_ | intro _); all_goals ((try refine VC.mk ?_); (try simp only [CL.ncell, CL.cnt, vq] at *); (try omega)); all_goals (try (simp [CL.sub]; done)))
theorem halved_ok (m : Nat) (hn : 1 ≤ m ∧ m ≤ 16) (h4 : (m : Int) % 4 = 0) : PSpec Tryz.prog 70 [.int .i64 (m : Int)] (.tup [.isl (.ints .i64 (halvedL m m)) .none, .int .i64 0]) := by
  refine pspec_of (md := 0) (rf := []) mixed tabOK cp2_ok Tryz.func70 (by rfl) (by rfl) (by rfl) ?_
  repeat' ((conv => whnf); first | refine And.intro ?_ ?_ | with_reducible exact VC.mk rfl | exact Ok.mk | exact True.intro | refine Nx.mk ?_ | refine Fin.mk ?_ | intro _)
  all_goals ((try refine VC.mk ?_); (try simp only [CL.ncell, CL.cnt, vq] at *); (try omega))
  all_goals (try (exfalso; simp_all [firstOf]; omega))
  conv => whnf
  refine loop_of (X := Nat) (fun i => i ≤ m) (fun i => [(19, .int .i64 i), (5, .isl (.ints .i64 (halvedL m i)) (.own 13))]) (fun i => [(13, .tok 1 i)]) (fun i => m - i) 0 ⟨anyB_ok, mixed, tabOK, cp2_ok, noY_ok⟩ (by rfl) (by omega) ?_ ?_
  · repeat' ((conv => whnf); first | refine And.intro ?_ ?_ | with_reducible exact VC.mk rfl | exact Ok.mk | exact True.intro | refine Nx.mk ?_ | refine Fin.mk ?_ | intro _)
    all_goals ((try refine VC.mk ?_); (try simp only [CL.ncell, CL.cnt, vq] at *); (try omega))
  · intro i hi
    by_cases hlt : i < m
    · have hl := halvedL_len m i
      have e1 := halvedL_succ m i
      repeat' ((conv => whnf); first | refine And.intro ?_ ?_ | with_reducible exact VC.mk rfl | exact Ok.mk | exact True.intro | refine Nx.mk ?_ | refine Fin.mk ?_ | intro _)
      all_goals ((try refine VC.mk ?_); (try simp only [CL.ncell, CL.cnt, vq] at *); (try omega))
      · simp [hl]; omega
      · refine ⟨i + 1, [], ⟨by omega, by omega⟩, ?_⟩
        repeat' ((conv => whnf); first | refine And.intro ?_ ?_ | with_reducible exact VC.mk rfl | exact Ok.mk | exact True.intro | refine Nx.mk ?_ | refine Fin.mk ?_ | intro _)
        all_goals ((try refine VC.mk ?_); (try simp only [CL.ncell, CL.cnt, vq] at *); (try omega))
        · rw [e1]; unfold halvedAt; rw [if_neg (by omega)]
      · simp [hl]; omega
      · refine ⟨i + 1, [], ⟨by omega, by omega⟩, ?_⟩
        repeat' ((conv => whnf); first | refine And.intro ?_ ?_ | with_reducible exact VC.mk rfl | exact Ok.mk | exact True.intro | refine Nx.mk ?_ | refine Fin.mk ?_ | intro _)
        all_goals ((try refine VC.mk ?_); (try simp only [CL.ncell, CL.cnt, vq] at *); (try omega))
        · rw [e1]; unfold halvedAt; rw [if_pos (by omega)]
    · have : m = i := by omega
      subst this
      repeat' ((conv => whnf); first | refine And.intro ?_ ?_ | with_reducible exact VC.mk rfl | exact Ok.mk | exact True.intro | refine Nx.mk ?_ | refine Fin.mk ?_ | intro _)
      all_goals ((try refine VC.mk ?_); (try simp only [CL.ncell, CL.cnt, vq] at *); (try omega))
      all_goals (refine Sup.via ?_; repeat' ((conv => whnf); first | refine And.intro ?_ ?_ | with_reducible exact VC.mk rfl | exact Ok.mk | exact True.intro | refine Nx.mk ?_ | refine Fin.mk ?_ | intro _); all_goals ((try refine VC.mk ?_); (try simp only [CL.ncell, CL.cnt, vq] at *); (try omega)); all_goals (try (simp [CL.sub]; done)))
theorem halved_spec (n : Int) : PSpec Tryz.prog 70 [.int .i64 n] (halvedV n) := by
  unfold halvedV
  by_cases h : n < 1 ∨ 16 < n
  · rw [if_pos h]
    refine halved_err n 3 (by omega) ?_
    rw [if_pos h]; rfl
  · rw [if_neg h]
    have ht : n.tmod 4 = n % 4 := Int.tmod_eq_emod_of_nonneg (by omega)
    by_cases h4 : n % 4 = 0
    · rw [if_pos h4]
      obtain ⟨m, rfl⟩ : ∃ m : Nat, n = m := ⟨n.toNat, by omega⟩
      rw [Int.toNat_natCast]
      exact halved_ok m (by omega) h4
    · rw [if_neg h4]
      refine halved_err n 7 (by omega) ?_
      rw [if_neg h, if_pos (by omega)]; rfl
def halvedCP : PSp := fun xs K => match xs with
  | [.int .i64 n] => VC (True) ∧ K (halvedV n)
  | _ => False
theorem halvedC_ok : POK Tryz.prog 70 halvedCP := by
  intro xs K h
  unfold halvedCP at h
  split at h
  · exact ⟨_, h.2, halved_spec _⟩
  · exact h.elim
/-! most-perfect squares -/
def turned (n x p : Int) : Int := if p % 2 = 1 then n - 1 - x else x
theorem c134_spec (n x p : Int) (hn : 0 ≤ n ∧ n ≤ 1000) (hx : 0 ≤ x ∧ x ≤ 1000) (hp : 0 ≤ p ∧ p ≤ 1000) : PSpec Tryz.prog 113 [.int .i64 x, .int .i64 p, .ip (.pv [.int .i64 n]) 0] (.int .i64 (turned n x p)) := by
  refine pspec_of (md := 0) (rf := []) mixed tabOK noC_ok Tryz.func113 (by rfl) (by rfl) (by rfl) ?_
  repeat' ((conv => whnf); first | refine And.intro ?_ ?_ | with_reducible exact VC.mk rfl | exact Ok.mk | exact True.intro | refine Nx.mk ?_ | refine Fin.mk ?_ | intro _)
  all_goals ((try refine VC.mk ?_); (try simp only [CL.ncell, CL.cnt, vq] at *); (try omega))
  all_goals (refine Sup.of ?_; unfold turned; simp_all [resOf])
def c134P : PSp := fun xs K => match xs with
  | [.int .i64 x, .int .i64 p, .ip (.pv [.int .i64 n]) 0] => VC ((0 ≤ n ∧ n ≤ 1000) ∧ (0 ≤ x ∧ x ≤ 1000) ∧ 0 ≤ p ∧ p ≤ 1000) ∧ K (.int .i64 (turned n x p))
  | _ => False
theorem c134_ok : POK Tryz.prog 113 c134P := by
  intro xs K h
  unfold c134P at h
  split at h
  · exact ⟨_, h.2, c134_spec _ _ _ h.1.get.1 h.1.get.2.1 h.1.get.2.2⟩
  · exact h.elim
def mpF (n : Int) (rows cols : List Int) (i j : Nat) : Int := turned n (rows.getD i 0) j + n * turned n (cols.getD j 0) i + 1
theorem turned_bd {n x p : Int} (hx : 0 ≤ x ∧ x < n) : 0 ≤ turned n x p ∧ turned n x p < n := by unfold turned; split <;> omega
theorem c135_spec (n : Nat) (rows cols : List Int) (i j : Nat) (hn : n ≤ 16) (hr : rows.length = n) (hc : cols.length = n) (hi : i < n) (hj : j < n) (h1 : ∀ k, k < n → 0 ≤ rows.getD k 0 ∧ rows.getD k 0 < n) (h2 : ∀ k, k < n → 0 ≤ cols.getD k 0 ∧ cols.getD k 0 < n) :
    PSpec Tryz.prog 114 ([] ++ [.int .i64 i, .int .i64 j] ++ [.ip (.pv [.fn (.func 113) [] [.ip (.pv [.int .i64 (n : Int)]) 0]]) 0, .ip (.pv [.isl (.ints .i64 rows) .none]) 0, .ip (.pv [.int .i64 (n : Int)]) 0, .ip (.pv [.isl (.ints .i64 cols) .none]) 0]) (.int .i64 (mpF n rows cols i j)) := by
  have hC : CPOK Tryz.prog (cpAdd 113 (pureCC c134P) noC) := cpAdd_ok (pureCC_ok c134_ok) noC_ok
  have a1 := h1 i hi
  have a2 := h2 j hj
  have b1 := turned_bd (p := (j : Int)) a1
  have b2 := turned_bd (p := (i : Int)) a2
  have b3 := mul_bd (A := 16) (B := 16) (show 0 ≤ (n : Int) ∧ (n : Int) ≤ 16 by omega) (show 0 ≤ turned n (cols.getD j 0) i ∧ turned n (cols.getD j 0) i ≤ 16 by omega)
  refine pspec_of (md := 0) (rf := []) mixed tabOK hC Tryz.func114 (by rfl) (by rfl) (by rfl) ?_
  repeat' ((conv => whnf); first | refine And.intro ?_ ?_ | with_reducible exact VC.mk rfl | exact Ok.mk | exact True.intro | refine Nx.mk ?_ | refine Fin.mk ?_ | intro _)
  all_goals ((try refine VC.mk ?_); (try simp only [CL.ncell, CL.cnt, vq] at *); (try omega))
  unfold mpF
  all_goals (refine Sup.via ?_; repeat' ((conv => whnf); first | refine And.intro ?_ ?_ | with_reducible exact VC.mk rfl | exact Ok.mk | exact True.intro | refine Nx.mk ?_ | refine Fin.mk ?_ | intro _); all_goals ((try refine VC.mk ?_); (try simp only [CL.ncell, CL.cnt, vq] at *); (try omega)); all_goals (try (simp [CL.sub]; done)))
def mpL (rows cols : List Int) : List Int := madeL rows.length (mpF rows.length rows cols)
theorem mostPerfect_spec (rows cols : List Int) (hn : rows.length ≤ 16) (hc : cols.length = rows.length) (h1 : ∀ k, k < rows.length → 0 ≤ rows.getD k 0 ∧ rows.getD k 0 < rows.length) (h2 : ∀ k, k < rows.length → 0 ≤ cols.getD k 0 ∧ cols.getD k 0 < rows.length) :
    PSpec Tryz.prog 71 [.isl (.ints .i64 rows) .none, .isl (.ints .i64 cols) .none] (gridV rows.length rows.length (mpL rows cols)) := by
  unfold mpL
  refine pspec_of (md := 0) (rf := []) mixed tabOK cpO3_ok Tryz.func71 (by rfl) (by rfl) (by rfl) ?_
  repeat' ((conv => whnf); first | refine And.intro ?_ ?_ | with_reducible exact VC.mk rfl | exact Ok.mk | exact True.intro | refine Nx.mk ?_ | refine Fin.mk ?_ | intro _)
  all_goals ((try refine VC.mk ?_); (try simp only [CL.ncell, CL.cnt, vq] at *); (try omega))
  refine ⟨mpF rows.length rows cols, fun i j hi hj => c135_spec rows.length rows cols i j hn rfl hc (by omega) (by omega) h1 h2, ?_⟩
  repeat' ((conv => whnf); first | refine And.intro ?_ ?_ | with_reducible exact VC.mk rfl | exact Ok.mk | exact True.intro | refine Nx.mk ?_ | refine Fin.mk ?_ | intro _)
  all_goals ((try refine VC.mk ?_); (try simp only [CL.ncell, CL.cnt, vq] at *); (try omega))
  all_goals (refine Sup.via ?_; repeat' ((conv => whnf); first | refine And.intro ?_ ?_ | with_reducible exact VC.mk rfl | exact Ok.mk | exact True.intro | refine Nx.mk ?_ | refine Fin.mk ?_ | intro _); all_goals ((try refine VC.mk ?_); (try simp only [CL.ncell, CL.cnt, vq] at *); (try omega)); all_goals (try (simp [CL.sub]; done)))
def mostPerfectP : PSp := fun xs K => match xs with
  | [.isl (.ints .i64 rows) .none, .isl (.ints .i64 cols) .none] => VC (rows.length ≤ 16 ∧ cols.length = rows.length ∧ (∀ k, k < rows.length → 0 ≤ rows.getD k 0 ∧ rows.getD k 0 < rows.length) ∧ ∀ k, k < rows.length → 0 ≤ cols.getD k 0 ∧ cols.getD k 0 < rows.length) ∧ K (gridV rows.length rows.length (mpL rows cols))
  | _ => False
theorem mostPerfect_ok : POK Tryz.prog 71 mostPerfectP := by
  intro xs K h
  unfold mostPerfectP at h
  split at h
  · exact ⟨_, h.2, mostPerfect_spec _ _ h.1.get.1 h.1.get.2.1 h.1.get.2.2.1 h.1.get.2.2.2⟩
  · exact h.elim
end Go.Eng.YtobnbkoeocdhbaaGreatDoor
namespace Go.Eng.YtobnbkoeocdhbaaGreatDoor
open Go.Proofs
set_option maxRecDepth 100000
set_option maxHeartbeats 0
set_option linter.unusedVariables false
set_option linter.unusedSimpArgs false
def panL (n : Int) : List Int := uniL n 0 0 1 2 2 1
theorem pan_sq {n : Int} (hn : 1 ≤ n) (h : n % 3 ≠ 0) : isSq n (1 % n) (2 % n) (2 % n) (1 % n) = true := by
  by_cases h1 : n % 3 = 1
  · exact isSq_of (u := n / 3) ⟨-1, by have := Int.emod_add_mul_ediv n 3; omega⟩
  · exact isSq_of (u := -(n / 3) - 1) ⟨1, by have := Int.emod_add_mul_ediv n 3; omega⟩
noncomputable def cpP1 : CPT := cpAdd 41 (pureCC reducedP) (cpAdd 42 (pureCC layP) (cpAdd 70 (pureCC halvedCP) (cpAdd 71 (pureCC mostPerfectP) noC)))
theorem cpP1_ok : CPOK Tryz.prog cpP1 := cpAdd_ok (pureCC_ok reduced_ok) (cpAdd_ok (pureCC_ok lay_ok) (cpAdd_ok (pureCC_ok halvedC_ok) (cpAdd_ok (pureCC_ok mostPerfect_ok) noC_ok)))
theorem c97_odd (n : Int) (hn : 1 ≤ n ∧ n ≤ 16) (h : n % 3 ≠ 0) : PSpec Tryz.prog 69 ([] ++ [] ++ [.ip (.pv [.bp true]) 0, .ip (.pv [.int .i64 n]) 0]) (gridV n n (panL n)) := by
  have hm := meet_none (s0 := 0 % n) (s1 := 0 % n) hn.1 (pan_sq hn.1 h)
  have h3 := emod_all hn.1 0 0 1 2 2 1
  unfold panL uniL
  refine pspec_of (md := 0) (rf := []) mixed tabOK cpP1_ok Tryz.func69 (by rfl) (by rfl) (by rfl) ?_
  repeat' ((conv => whnf); first | refine And.intro ?_ ?_ | with_reducible exact VC.mk rfl | exact Ok.mk | exact True.intro | refine Nx.mk ?_ | refine Fin.mk ?_ | intro _)
  all_goals ((try refine VC.mk ?_); (try simp only [CL.ncell, CL.cnt, vq] at *); (try omega))
  · refine ⟨by omega, fun x hx => ?_⟩
    simp only [List.mem_cons, List.not_mem_nil, or_false] at hx
    rcases hx with rfl | rfl | rfl | rfl | rfl | rfl <;> omega
  · exact ⟨hn, h3⟩
  simp only [layV, hm]
  repeat' ((conv => whnf); first | refine And.intro ?_ ?_ | with_reducible exact VC.mk rfl | exact Ok.mk | exact True.intro | refine Nx.mk ?_ | refine Fin.mk ?_ | intro _)
  all_goals ((try refine VC.mk ?_); (try simp only [CL.ncell, CL.cnt, vq] at *); (try omega))
  all_goals (refine Sup.via ?_; repeat' ((conv => whnf); first | refine And.intro ?_ ?_ | with_reducible exact VC.mk rfl | exact Ok.mk | exact True.intro | refine Nx.mk ?_ | refine Fin.mk ?_ | intro _); all_goals ((try refine VC.mk ?_); (try simp only [CL.ncell, CL.cnt, vq] at *); (try omega)); all_goals (try (simp [CL.sub]; done)))
theorem halved_bd (n : Int) (hn : 1 ≤ n ∧ n ≤ 16) (k : Nat) (hk : k < n.toNat) : 0 ≤ (halvedL n n.toNat).getD k 0 ∧ (halvedL n n.toNat).getD k 0 < n := by
  unfold halvedL
  rw [List.getD_eq_getElem?_getD, List.getElem?_map, List.getElem?_range hk]
  simp only [Option.map_some, Option.getD_some]
  unfold halvedAt
  split <;> omega
def panM (n : Int) : List Int := mpL (halvedL n n.toNat) (halvedL n n.toNat)
theorem c97_four (n : Int) (hn : 1 ≤ n ∧ n ≤ 16) (h : n % 4 = 0) : PSpec Tryz.prog 69 ([] ++ [] ++ [.ip (.pv [.bp false]) 0, .ip (.pv [.int .i64 n]) 0]) (gridV n n (panM n)) := by
  have hv : halvedV n = .tup [.isl (.ints .i64 (halvedL n n.toNat)) .none, .int .i64 0] := by unfold halvedV; rw [if_neg (by omega), if_pos h]
  have hl : ((halvedL n n.toNat).length : Int) = n := by rw [halvedL_len]; omega
  have hb := halved_bd n hn
  refine pspec_of (md := 0) (rf := []) mixed tabOK cpP1_ok Tryz.func69 (by rfl) (by rfl) (by rfl) ?_
  repeat' ((conv => whnf); first | refine And.intro ?_ ?_ | with_reducible exact VC.mk rfl | exact Ok.mk | exact True.intro | refine Nx.mk ?_ | refine Fin.mk ?_ | intro _)
  all_goals ((try refine VC.mk ?_); (try simp only [CL.ncell, CL.cnt, vq] at *); (try omega))
  simp only [hv]
  repeat' ((conv => whnf); first | refine And.intro ?_ ?_ | with_reducible exact VC.mk rfl | exact Ok.mk | exact True.intro | refine Nx.mk ?_ | refine Fin.mk ?_ | intro _)
  all_goals ((try refine VC.mk ?_); (try simp only [CL.ncell, CL.cnt, vq] at *); (try omega))
  · exact ⟨by rw [halvedL_len]; omega, fun k hk => by rw [hl]; exact hb k (by rw [halvedL_len] at hk; exact hk)⟩
  rw [hl]
  unfold panM
  all_goals (refine Sup.via ?_; repeat' ((conv => whnf); first | refine And.intro ?_ ?_ | with_reducible exact VC.mk rfl | exact Ok.mk | exact True.intro | refine Nx.mk ?_ | refine Fin.mk ?_ | intro _); all_goals ((try refine VC.mk ?_); (try simp only [CL.ncell, CL.cnt, vq] at *); (try omega)); all_goals (try (simp [CL.sub]; done)))
theorem pandiagonal_spec (n : Int) : PSpec Tryz.prog 28 [.int .i64 n] (gridOr n (n % 2 = 1 ∧ n % 3 ≠ 0 ∨ n % 4 = 0) (if n % 2 = 1 then panL n else panM n)) := by
  unfold gridOr
  by_cases hn : n < 1 ∨ 16 < n
  · rw [if_pos hn]
    refine pspec_of (md := 1) (rf := []) mixed tabOK cpO2_ok Tryz.func28 (by rfl) (by rfl) (by rfl) ?_
    repeat' ((conv => whnf); first | refine And.intro ?_ ?_ | with_reducible exact VC.mk rfl | exact Ok.mk | exact True.intro | refine Nx.mk ?_ | refine Fin.mk ?_ | intro _)
    all_goals ((try refine VC.mk ?_); (try simp only [CL.ncell, CL.cnt, vq] at *); (try omega))
    all_goals (try (exfalso; omega))
    all_goals (refine Sup.via ?_; repeat' ((conv => whnf); first | refine And.intro ?_ ?_ | with_reducible exact VC.mk rfl | exact Ok.mk | exact True.intro | refine Nx.mk ?_ | refine Fin.mk ?_ | intro _); all_goals ((try refine VC.mk ?_); (try simp only [CL.ncell, CL.cnt, vq] at *); (try omega)); all_goals (try (simp [CL.sub]; done)))
  · rw [if_neg hn]
    have h2 : n.tmod 2 = n % 2 := Int.tmod_eq_emod_of_nonneg (by omega)
    have h3 : n.tmod 3 = n % 3 := Int.tmod_eq_emod_of_nonneg (by omega)
    have h4 : n.tmod 4 = n % 4 := Int.tmod_eq_emod_of_nonneg (by omega)
    by_cases c1 : n % 2 = 1 ∧ n % 3 ≠ 0
    · rw [if_pos (.inl c1), if_pos c1.1]
      refine pspec_of (md := 1) (rf := []) mixed tabOK cpO2_ok Tryz.func28 (by rfl) (by rfl) (by rfl) ?_
      repeat' ((conv => whnf); first | refine And.intro ?_ ?_ | with_reducible exact VC.mk rfl | exact Ok.mk | exact True.intro | refine Nx.mk ?_ | refine Fin.mk ?_ | intro _)
      all_goals ((try refine VC.mk ?_); (try simp only [CL.ncell, CL.cnt, vq] at *); (try omega))
      all_goals (try (exfalso; omega))
      all_goals (refine ⟨n, n, panL n, (by rw [show decide (n.tmod 2 ≠ 0) = true from by simp; omega]; exact c97_odd n (by omega) c1.2), ?_⟩)
      all_goals repeat' ((conv => whnf); first | refine And.intro ?_ ?_ | with_reducible exact VC.mk rfl | exact Ok.mk | exact True.intro | refine Nx.mk ?_ | refine Fin.mk ?_ | intro _)
      all_goals all_goals ((try refine VC.mk ?_); (try simp only [CL.ncell, CL.cnt, vq] at *); (try omega))
      all_goals (refine Sup.via ?_; repeat' ((conv => whnf); first | refine And.intro ?_ ?_ | with_reducible exact VC.mk rfl | exact Ok.mk | exact True.intro | refine Nx.mk ?_ | refine Fin.mk ?_ | intro _); all_goals ((try refine VC.mk ?_); (try simp only [CL.ncell, CL.cnt, vq] at *); (try omega)); all_goals (try (simp [CL.sub]; done)))
    · by_cases c2 : n % 4 = 0
      · rw [if_pos (.inr c2), if_neg (by omega)]
        refine pspec_of (md := 1) (rf := []) mixed tabOK cpO2_ok Tryz.func28 (by rfl) (by rfl) (by rfl) ?_
        repeat' ((conv => whnf); first | refine And.intro ?_ ?_ | with_reducible exact VC.mk rfl | exact Ok.mk | exact True.intro | refine Nx.mk ?_ | refine Fin.mk ?_ | intro _)
        all_goals ((try refine VC.mk ?_); (try simp only [CL.ncell, CL.cnt, vq] at *); (try omega))
        all_goals (try (exfalso; omega))
        all_goals (refine ⟨n, n, panM n, (by rw [show decide (n.tmod 2 ≠ 0) = false from by simp; omega]; exact c97_four n (by omega) c2), ?_⟩)
        all_goals repeat' ((conv => whnf); first | refine And.intro ?_ ?_ | with_reducible exact VC.mk rfl | exact Ok.mk | exact True.intro | refine Nx.mk ?_ | refine Fin.mk ?_ | intro _)
        all_goals all_goals ((try refine VC.mk ?_); (try simp only [CL.ncell, CL.cnt, vq] at *); (try omega))
        all_goals (refine Sup.via ?_; repeat' ((conv => whnf); first | refine And.intro ?_ ?_ | with_reducible exact VC.mk rfl | exact Ok.mk | exact True.intro | refine Nx.mk ?_ | refine Fin.mk ?_ | intro _); all_goals ((try refine VC.mk ?_); (try simp only [CL.ncell, CL.cnt, vq] at *); (try omega)); all_goals (try (simp [CL.sub]; done)))
      · rw [if_neg (by omega)]
        refine pspec_of (md := 1) (rf := []) mixed tabOK cpO2_ok Tryz.func28 (by rfl) (by rfl) (by rfl) ?_
        repeat' ((conv => whnf); first | refine And.intro ?_ ?_ | with_reducible exact VC.mk rfl | exact Ok.mk | exact True.intro | refine Nx.mk ?_ | refine Fin.mk ?_ | intro _)
        all_goals ((try refine VC.mk ?_); (try simp only [CL.ncell, CL.cnt, vq] at *); (try omega))
        all_goals (try (exfalso; omega))
        all_goals (refine Sup.via ?_; repeat' ((conv => whnf); first | refine And.intro ?_ ?_ | with_reducible exact VC.mk rfl | exact Ok.mk | exact True.intro | refine Nx.mk ?_ | refine Fin.mk ?_ | intro _); all_goals ((try refine VC.mk ?_); (try simp only [CL.ncell, CL.cnt, vq] at *); (try omega)); all_goals (try (simp [CL.sub]; done)))
end Go.Eng.YtobnbkoeocdhbaaGreatDoor
namespace Go.Eng.YtobnbkoeocdhbaaGreatDoor
open Go.Proofs
set_option maxRecDepth 100000
set_option maxHeartbeats 0
set_option linter.unusedVariables false
set_option linter.unusedSimpArgs false
/-! which kinds a square has -/
theorem hasL_kdT (n : Int) (f : List Int) (k : ByteArray) : hasL (kdT n f 8) k = (kdB n f).any fun x => x.2 && decide (x.1 = k) := by
  unfold hasL kdT
  rw [List.take_of_length_le (show (kdB n f).length ≤ 8 from Nat.le_refl _), List.any_map, List.any_filter]
  rfl
theorem has_nor (n : Int) (f : List Int) : hasL (kdT n f 8) sNor = nrmB f := by rw [hasL_kdT]; simp [kdB]
theorem has_sem (n : Int) (f : List Int) : hasL (kdT n f 8) kSem1 = isB n kSem1 f := by rw [hasL_kdT]; simp [kdB]
theorem has_mag (n : Int) (f : List Int) : hasL (kdT n f 8) kMag1 = isB n kMag1 f := by rw [hasL_kdT]; simp [kdB]
theorem has_pan (n : Int) (f : List Int) : hasL (kdT n f 8) kPan1 = isB n kPan1 f := by rw [hasL_kdT]; simp [kdB]
theorem has_ass (n : Int) (f : List Int) : hasL (kdT n f 8) sAss = assB n f := by rw [hasL_kdT]; simp [kdB]
theorem has_mos (n : Int) (f : List Int) : hasL (kdT n f 8) sMos = mpB n f := by rw [hasL_kdT]; simp [kdB]
theorem has_bim (n : Int) (f : List Int) : hasL (kdT n f 8) sBim = biB n f := by rw [hasL_kdT]; simp [kdB]
theorem qs_psum (f : List Int) (l : List Int) (h : ∀ x ∈ l, 0 ≤ x ∧ x < f.length) : psum f 2 l = sumAt (qsL f) l l.length := by
  unfold psum psumT sumAt
  rw [List.take_length]
  suffices H : ∀ (l : List Int) (a : Int), (∀ x ∈ l, 0 ≤ x ∧ x < f.length) → l.foldl (fun s c => s + powI (f.getD c.toNat 0) 2) a = l.foldl (fun s c => s + (qsL f).getD c.toNat 0) a from H l 0 h
  intro l
  induction l with
  | nil => intro a _; rfl
  | cons x r ih =>
    intro a h
    have hx := h x (by simp)
    show List.foldl _ (a + powI (f.getD x.toNat 0) 2) r = List.foldl _ (a + (qsL f).getD x.toNat 0) r
    rw [qsL_get f x.toNat (by omega), ih _ (fun y hy => h y (by simp [hy]))]
    congr 1
    unfold powI
    rw [if_pos rfl, Int.one_mul]
theorem pwrB_of {n : Nat} (hn : 2 ≤ n ∧ n ≤ 10) {f : List Int} (hl : f.length = n * n) {c : Int} (h : ∀ i, i < 2 * n + 2 → sumAt (qsL f) (lineAt n i) n = c) : pwrB n 2 f = true := by
  have hk := lnsK_len hn kMag1
  have key : ∀ l ∈ lnsK n kMag1, psum f 2 l = c := fun l hm => by
    have hL := lnsK_line hn hm
    obtain ⟨i, hi, e⟩ := (lnsK_mem hn kMag1 l).1 hm
    have := h i hi
    rw [← e] at this
    rw [qs_psum f l (fun x hx => by have := hL.mem x hx; rw [hl]; simpa using this), hL.len, this]
  unfold pwrB
  rw [Int.toNat_natCast]
  refine List.all_eq_true.2 fun l hm => decide_eq_true ?_
  rw [key l hm, key _ (getD_mem' (by omega))]
theorem mulM_two {n : Int} {f : List Int} (h : pwrB n 2 f = true) : 2 ≤ mulM n f := by
  unfold mulM
  rw [if_pos h]
  split
  · split <;> omega
  · omega
/-! the examples -/
def ex3 : List Int := siaL 3
def ex4 : List Int := panM 4
theorem ex3_B : goodB 3 2 ex3 = true ∧ isB 3 kSem1 ex3 = true ∧ isB 3 kMag1 ex3 = true ∧ assB 3 ex3 = true ∧ isB 3 kPan1 ex3 = false := by decide +kernel
theorem ex4_B : isB 4 kPan1 ex4 = true ∧ mpB 4 ex4 = true := by decide +kernel
theorem bim_eq : madeL 9 bimF = madeL 9 (terF 0 1 1 0 2 0 0 1 1 2 1 1 2 2 1 2) := rfl
theorem bim_adm : admC 0 1 1 0 2 0 0 1 1 2 1 1 2 2 1 2 = true := by decide
theorem ter_len (x0 x1 x2 x3 x4 x5 x6 x7 x8 x9 x10 x11 x12 x13 x14 x15 : Int) : (madeL 9 (terF x0 x1 x2 x3 x4 x5 x6 x7 x8 x9 x10 x11 x12 x13 x14 x15)).length = 81 := by simp [madeL]
theorem ter_pwr (x0 x1 x2 x3 x4 x5 x6 x7 x8 x9 x10 x11 x12 x13 x14 x15 : Int) (h : admC x0 x1 x2 x3 x4 x5 x6 x7 x8 x9 x10 x11 x12 x13 x14 x15 = true) : pwrB 9 2 (madeL 9 (terF x0 x1 x2 x3 x4 x5 x6 x7 x8 x9 x10 x11 x12 x13 x14 x15)) = true :=
  pwrB_of (n := 9) (by omega) (ter_len x0 x1 x2 x3 x4 x5 x6 x7 x8 x9 x10 x11 x12 x13 x14 x15) (c := 20049) fun i hi => forms_squares x0 x1 x2 x3 x4 x5 x6 x7 x8 x9 x10 x11 x12 x13 x14 x15 h i hi
theorem ter_isB (x0 x1 x2 x3 x4 x5 x6 x7 x8 x9 x10 x11 x12 x13 x14 x15 : Int) (h : admC x0 x1 x2 x3 x4 x5 x6 x7 x8 x9 x10 x11 x12 x13 x14 x15 = true) : isB 9 kMag1 (madeL 9 (terF x0 x1 x2 x3 x4 x5 x6 x7 x8 x9 x10 x11 x12 x13 x14 x15)) = true :=
  isB_of (n := 9) (by omega) (g := 2) (by decide) (forms_magic x0 x1 x2 x3 x4 x5 x6 x7 x8 x9 x10 x11 x12 x13 x14 x15 h)
theorem ex3_ok : FigOK 3 ex3 := ⟨by omega, by decide +kernel, by decide +kernel⟩
theorem ex4_ok : FigOK 4 ex4 := ⟨by omega, by decide +kernel, by decide +kernel⟩
theorem bim_bd : ∀ x ∈ madeL 9 bimF, -100 ≤ x ∧ x ≤ 100 := by decide +kernel
theorem bim_ok : FigOK 9 (madeL 9 bimF) := ⟨by omega, by rw [bim_eq, ter_len]; rfl, fun x hx => by have := bim_bd x hx; omega⟩
theorem sia3_spec : PSpec Tryz.prog 27 [.int .i64 3] (.tup [gridV 3 3 ex3, .int .i64 0]) := siamese_spec 3
theorem pan4_spec : PSpec Tryz.prog 28 [.int .i64 4] (.tup [gridV 4 4 ex4, .int .i64 0]) := pandiagonal_spec 4
theorem mmB_spec : PSpec Tryz.prog 24 [gridV 9 9 (madeL 9 bimF)] (.tup [.int .i64 (mulM 9 (madeL 9 bimF)), .int .i64 0]) := by
  have := mm_spec 9 (madeL 9 bimF) bim_ok bim_bd
  rw [if_pos (by rw [bim_eq]; exact ter_isB _ _ _ _ _ _ _ _ _ _ _ _ _ _ _ _ bim_adm)] at this
  exact this
theorem has3a : PSpec Tryz.prog 9 [gridV 3 3 ex3, .isl (.strs [sNor, kSem1, kMag1, sAss]) .none] (.bool true) := by
  have := has_spec 3 ex3 [sNor, kSem1, kMag1, sAss] ex3_ok (by decide)
  obtain ⟨h1, h2, h3, h4, h5⟩ := ex3_B
  rw [show hasB 3 ex3 [sNor, kSem1, kMag1, sAss] = true from by
    unfold hasB
    simp only [List.all_cons, List.all_nil, has_nor, has_sem, has_mag, has_ass, h2, h3, h4, nrmB_norm (goodB_ok h1).norm, Bool.and_self]] at this
  exact pspec_sup this sup_b
theorem has3b : PSpec Tryz.prog 9 [gridV 3 3 ex3, .isl (.strs [kPan1]) .none] (.bool false) := by
  have := has_spec 3 ex3 [kPan1] ex3_ok (by decide)
  obtain ⟨h1, h2, h3, h4, h5⟩ := ex3_B
  rw [show hasB 3 ex3 [kPan1] = false from by
    unfold hasB
    simp only [List.all_cons, List.all_nil, has_pan, h5, Bool.and_self, Bool.false_and]] at this
  exact pspec_sup this sup_b
theorem has4 : PSpec Tryz.prog 9 [gridV 4 4 ex4, .isl (.strs [kPan1, sMos]) .none] (.bool true) := by
  have := has_spec 4 ex4 [kPan1, sMos] ex4_ok (by decide)
  obtain ⟨h1, h2⟩ := ex4_B
  rw [show hasB 4 ex4 [kPan1, sMos] = true from by
    unfold hasB
    simp only [List.all_cons, List.all_nil, has_pan, has_mos, h1, h2, Bool.and_self]] at this
  exact pspec_sup this sup_b
def exHasP : PSp := fun xs K => match xs with
  | [g, .isl (.strs ks) .none] => (VC (g = gridV 3 3 ex3 ∧ ks = [sNor, kSem1, kMag1, sAss]) ∧ K (.bool true)) ∨ (VC (g = gridV 3 3 ex3 ∧ ks = [kPan1]) ∧ K (.bool false)) ∨ (VC (g = gridV 4 4 ex4 ∧ ks = [kPan1, sMos]) ∧ K (.bool true))
  | _ => False
theorem exHas_ok : POK Tryz.prog 9 exHasP := by
  intro xs K h
  unfold exHasP at h
  split at h
  · rcases h with ⟨⟨rfl, rfl⟩, h⟩ | ⟨⟨rfl, rfl⟩, h⟩ | ⟨⟨rfl, rfl⟩, h⟩
    · exact ⟨_, h, has3a⟩
    · exact ⟨_, h, has3b⟩
    · exact ⟨_, h, has4⟩
  · exact h.elim
noncomputable def cpEx : CPT := cpAdd 27 (pureCC (atC True [.int .i64 3] (.tup [gridV 3 3 ex3, .int .i64 0]))) (cpAdd 28 (pureCC (atC True [.int .i64 4] (.tup [gridV 4 4 ex4, .int .i64 0]))) (cpAdd 29 (pureCC bimagicP) (cpAdd 24 (pureCC (atC True [gridV 9 9 (madeL 9 bimF)] (.tup [.int .i64 (mulM 9 (madeL 9 bimF)), .int .i64 0]))) (cpAdd 9 (pureCC exHasP) noC))))
theorem cpEx_ok : CPOK Tryz.prog cpEx := cpAdd_ok (pureCC_ok (atC_ok fun _ => sia3_spec)) (cpAdd_ok (pureCC_ok (atC_ok fun _ => pan4_spec)) (cpAdd_ok (pureCC_ok bimagic_ok) (cpAdd_ok (pureCC_ok (atC_ok fun _ => mmB_spec)) (cpAdd_ok (pureCC_ok exHas_ok) noC_ok))))
theorem loom_spec : PSpec Tryz.prog 7 [] (.bool true) := by
  have hm : 2 ≤ mulM 9 (madeL 9 bimF) := mulM_two (by rw [bim_eq]; exact ter_pwr _ _ _ _ _ _ _ _ _ _ _ _ _ _ _ _ bim_adm)
  refine pspec_of (md := 1) (rf := []) mixed tabOK cpEx_ok Tryz.func7 (by rfl) (by rfl) (by rfl) ?_
  repeat' ((conv => whnf); first | refine And.intro ?_ ?_ | with_reducible exact VC.mk rfl | exact Ok.mk | exact True.intro | refine Nx.mk ?_ | refine Fin.mk ?_ | intro _)
  all_goals ((try refine VC.mk ?_); (try simp only [CL.ncell, CL.cnt, vq] at *); (try omega))
  · conv => whnf
    refine .inl ⟨⟨rfl, rfl⟩, ?_⟩
    repeat' ((conv => whnf); first | refine And.intro ?_ ?_ | with_reducible exact VC.mk rfl | exact Ok.mk | exact True.intro | refine Nx.mk ?_ | refine Fin.mk ?_ | (intro hq; (try (exact absurd hq (by decide)))))
    all_goals ((try refine VC.mk ?_); (try simp only [CL.ncell, CL.cnt, vq] at *); (try omega))
    conv => whnf
    refine .inr (.inl ⟨⟨rfl, rfl⟩, ?_⟩)
    repeat' ((conv => whnf); first | refine And.intro ?_ ?_ | with_reducible exact VC.mk rfl | exact Ok.mk | exact True.intro | refine Nx.mk ?_ | refine Fin.mk ?_ | (intro hq; (try (exact absurd hq (by decide)))))
    all_goals ((try refine VC.mk ?_); (try simp only [CL.ncell, CL.cnt, vq] at *); (try omega))
    conv => whnf
    refine .inr (.inr ⟨⟨rfl, rfl⟩, ?_⟩)
    repeat' ((conv => whnf); first | refine And.intro ?_ ?_ | with_reducible exact VC.mk rfl | exact Ok.mk | exact True.intro | refine Nx.mk ?_ | refine Fin.mk ?_ | (intro hq; (try (exact absurd hq (by decide)))))
    all_goals ((try refine VC.mk ?_); (try simp only [CL.ncell, CL.cnt, vq] at *); (try omega))
    rw [decide_eq_true hm]
    exact sup_b
def loomP : PSp := fun xs K => match xs with
  | [] => VC (True) ∧ K (.bool true)
  | _ => False
theorem loom_ok : POK Tryz.prog 7 loomP := by
  intro xs K h
  unfold loomP at h
  split at h
  · exact ⟨_, h.2, loom_spec⟩
  · exact h.elim
end Go.Eng.YtobnbkoeocdhbaaGreatDoor
namespace Go.Eng.YtobnbkoeocdhbaaGreatDoor
open Go.Proofs
set_option maxRecDepth 100000
set_option maxHeartbeats 0
set_option linter.unusedVariables false
set_option linter.unusedSimpArgs false
/-- the square of admitted forms -/
structure TerOK (r c : Int) (f : List Int) : Prop where
  er : r = 9
  ec : c = 9
  ok : FigOK 9 f
  bd : ∀ x ∈ f, -100 ≤ x ∧ x ≤ 100
  mag : isB 9 kMag1 f = true
  pwr : pwrB 9 2 f = true
  nor : nrmB f = true
theorem adm_norm (x0 x1 x2 x3 x4 x5 x6 x7 x8 x9 x10 x11 x12 x13 x14 x15 : Int) (h : ∀ x ∈ [x0, x1, x2, x3, x4, x5, x6, x7, x8, x9, x10, x11, x12, x13, x14, x15], 0 ≤ x ∧ x ≤ 2) (ha : (decide (4 ≤ rkF x0 x1 x2 x3 x4 x5 x6 x7 x8 x9 x10 x11 x12 x13 x14 x15) && admC x0 x1 x2 x3 x4 x5 x6 x7 x8 x9 x10 x11 x12 x13 x14 x15) = true) : TerOK 9 9 (madeL 9 (terF x0 x1 x2 x3 x4 x5 x6 x7 x8 x9 x10 x11 x12 x13 x14 x15)) ∧ PSpec Tryz.prog 23 [.agg (fmL x0 x1 x2 x3 x4 x5 x6 x7 x8 x9 x10 x11 x12 x13 x14 x15)] (.tup [gridV 9 9 (madeL 9 (terF x0 x1 x2 x3 x4 x5 x6 x7 x8 x9 x10 x11 x12 x13 x14 x15)), .int .i64 0]) := by
  rw [Bool.and_eq_true] at ha
  obtain ⟨h1, h2⟩ := ha
  have hn : isNorm (madeL 9 (terF x0 x1 x2 x3 x4 x5 x6 x7 x8 x9 x10 x11 x12 x13 x14 x15)) = true := by rw [norm_rank]; exact h1
  have hl := ter_len x0 x1 x2 x3 x4 x5 x6 x7 x8 x9 x10 x11 x12 x13 x14 x15
  have hb : ∀ x ∈ madeL 9 (terF x0 x1 x2 x3 x4 x5 x6 x7 x8 x9 x10 x11 x12 x13 x14 x15), 1 ≤ x ∧ x ≤ 81 := fun x hx => by
    obtain ⟨i, hi, rfl⟩ := List.getElem_of_mem hx
    have := ((isNorm_iff _).1 hn).1 i hi
    rw [getD_at hi, hl] at this
    exact this
  refine ⟨⟨rfl, rfl, ⟨by omega, by rw [hl]; rfl, fun x hx => by have := hb x hx; omega⟩, fun x hx => by have := hb x hx; omega, ter_isB x0 x1 x2 x3 x4 x5 x6 x7 x8 x9 x10 x11 x12 x13 x14 x15 h2, ter_pwr x0 x1 x2 x3 x4 x5 x6 x7 x8 x9 x10 x11 x12 x13 x14 x15 h2, nrmB_norm hn⟩, ?_⟩
  have hf : formErr [x0, x1, x2, x3, x4, x5, x6, x7, x8, x9, x10, x11, x12, x13, x14, x15] = 0 := by
    unfold formErr
    rw [if_neg]
    rw [List.any_eq_true]
    rintro ⟨x, hx, hh⟩
    have := h x hx
    simp [notTern] at hh; omega
  have hne : normErr 9 9 (madeL 9 (terF x0 x1 x2 x3 x4 x5 x6 x7 x8 x9 x10 x11 x12 x13 x14 x15)) = 0 := by
    unfold normErr
    rw [if_pos, if_pos hn]
    unfold sqErr
    rw [hl, if_neg (by omega)]
  have h5 := tern_spec x0 x1 x2 x3 x4 x5 x6 x7 x8 x9 x10 x11 x12 x13 x14 x15
  have e5 := ter_ok (l := [x0, x1, x2, x3, x4, x5, x6, x7, x8, x9, x10, x11, x12, x13, x14, x15]) (L := madeL 9 (terF x0 x1 x2 x3 x4 x5 x6 x7 x8 x9 x10 x11 x12 x13 x14 x15)) hf hne
  rw [e5.1, e5.2.1, e5.2.2] at h5
  exact h5
end Go.Eng.YtobnbkoeocdhbaaGreatDoor
namespace Go.Eng.YtobnbkoeocdhbaaGreatDoor
open Go.Proofs
set_option maxRecDepth 100000
set_option maxHeartbeats 0
set_option linter.unusedVariables false
set_option linter.unusedSimpArgs false
def bit0 (v : Int) : Bool := decide (IntKind.u8.wrap ((BitVec.ofInt IntKind.u8.bits v &&& BitVec.ofInt IntKind.u8.bits 1).toNat : Int) = 1)
def bitK (v : Int) (k : Nat) : Bool := bit0 (v / 2 ^ k)
def dbl (t : Bool) (x : Int) : Int := if t then (2 * x).tmod 3 else x
/-- the turned forms, their first rows -/
def othL (t0 t1 t2 t3 t4 : Bool) (x0 x1 x2 x3 x4 x5 x6 x7 x8 x9 x10 x11 x12 x13 x14 x15 : Int) : Nat → List PV
  | 0 => [.int .i64 x0, .int .i64 x1, .int .i64 x2, .int .i64 x3, .int .i64 x4, .int .i64 x5, .int .i64 x6, .int .i64 x7, .int .i64 x8, .int .i64 x9, .int .i64 x10, .int .i64 x11, .int .i64 x12, .int .i64 x13, .int .i64 x14, .int .i64 x15]
  | 1 => [.int .i64 (dbl t1 (if t0 then x2 else x0)), .int .i64 (dbl t1 (if t0 then x3 else x1)), .int .i64 (dbl t1 (if t0 then x0 else x2)), .int .i64 (dbl t1 (if t0 then x1 else x3)), .int .i64 x4, .int .i64 x5, .int .i64 x6, .int .i64 x7, .int .i64 x8, .int .i64 x9, .int .i64 x10, .int .i64 x11, .int .i64 x12, .int .i64 x13, .int .i64 x14, .int .i64 x15]
  | 2 => [.int .i64 (dbl t1 (if t0 then x2 else x0)), .int .i64 (dbl t1 (if t0 then x3 else x1)), .int .i64 (dbl t1 (if t0 then x0 else x2)), .int .i64 (dbl t1 (if t0 then x1 else x3)), .int .i64 (dbl t2 (if t0 then x6 else x4)), .int .i64 (dbl t2 (if t0 then x7 else x5)), .int .i64 (dbl t2 (if t0 then x4 else x6)), .int .i64 (dbl t2 (if t0 then x5 else x7)), .int .i64 x8, .int .i64 x9, .int .i64 x10, .int .i64 x11, .int .i64 x12, .int .i64 x13, .int .i64 x14, .int .i64 x15]
  | 3 => [.int .i64 (dbl t1 (if t0 then x2 else x0)), .int .i64 (dbl t1 (if t0 then x3 else x1)), .int .i64 (dbl t1 (if t0 then x0 else x2)), .int .i64 (dbl t1 (if t0 then x1 else x3)), .int .i64 (dbl t2 (if t0 then x6 else x4)), .int .i64 (dbl t2 (if t0 then x7 else x5)), .int .i64 (dbl t2 (if t0 then x4 else x6)), .int .i64 (dbl t2 (if t0 then x5 else x7)), .int .i64 (dbl t3 (if t0 then x10 else x8)), .int .i64 (dbl t3 (if t0 then x11 else x9)), .int .i64 (dbl t3 (if t0 then x8 else x10)), .int .i64 (dbl t3 (if t0 then x9 else x11)), .int .i64 x12, .int .i64 x13, .int .i64 x14, .int .i64 x15]
  | _ => [.int .i64 (dbl t1 (if t0 then x2 else x0)), .int .i64 (dbl t1 (if t0 then x3 else x1)), .int .i64 (dbl t1 (if t0 then x0 else x2)), .int .i64 (dbl t1 (if t0 then x1 else x3)), .int .i64 (dbl t2 (if t0 then x6 else x4)), .int .i64 (dbl t2 (if t0 then x7 else x5)), .int .i64 (dbl t2 (if t0 then x4 else x6)), .int .i64 (dbl t2 (if t0 then x5 else x7)), .int .i64 (dbl t3 (if t0 then x10 else x8)), .int .i64 (dbl t3 (if t0 then x11 else x9)), .int .i64 (dbl t3 (if t0 then x8 else x10)), .int .i64 (dbl t3 (if t0 then x9 else x11)), .int .i64 (dbl t4 (if t0 then x14 else x12)), .int .i64 (dbl t4 (if t0 then x15 else x13)), .int .i64 (dbl t4 (if t0 then x12 else x14)), .int .i64 (dbl t4 (if t0 then x13 else x15))]
noncomputable def adB (x0 x1 x2 x3 x4 x5 x6 x7 x8 x9 x10 x11 x12 x13 x14 x15 : Int) : Bool := decide (4 ≤ rkF x0 x1 x2 x3 x4 x5 x6 x7 x8 x9 x10 x11 x12 x13 x14 x15) && admC x0 x1 x2 x3 x4 x5 x6 x7 x8 x9 x10 x11 x12 x13 x14 x15
theorem dbl_bd {t : Bool} {x : Int} (h : 0 ≤ x ∧ x ≤ 2) : 0 ≤ dbl t x ∧ dbl t x ≤ 2 := by
  unfold dbl
  split
  · rw [Int.tmod_eq_emod_of_nonneg (by omega)]; omega
  · exact h
theorem ite_bd {t : Bool} {x y : Int} (h : 0 ≤ x ∧ x ≤ 2) (g : 0 ≤ y ∧ y ≤ 2) : 0 ≤ (if t then x else y) ∧ (if t then x else y) ≤ 2 := by
  split
  · exact h
  · exact g
theorem turn_bd {x0 x1 x2 x3 x4 x5 x6 x7 x8 x9 x10 x11 x12 x13 x14 x15 : Int} (h : ∀ x ∈ [x0, x1, x2, x3, x4, x5, x6, x7, x8, x9, x10, x11, x12, x13, x14, x15], 0 ≤ x ∧ x ≤ 2) (t0 t1 t2 t3 t4 : Bool) : ∀ z ∈ [dbl t1 (if t0 then x2 else x0), dbl t1 (if t0 then x3 else x1), dbl t1 (if t0 then x0 else x2), dbl t1 (if t0 then x1 else x3), dbl t2 (if t0 then x6 else x4), dbl t2 (if t0 then x7 else x5), dbl t2 (if t0 then x4 else x6), dbl t2 (if t0 then x5 else x7), dbl t3 (if t0 then x10 else x8), dbl t3 (if t0 then x11 else x9), dbl t3 (if t0 then x8 else x10), dbl t3 (if t0 then x9 else x11), dbl t4 (if t0 then x14 else x12), dbl t4 (if t0 then x15 else x13), dbl t4 (if t0 then x12 else x14), dbl t4 (if t0 then x13 else x15)], 0 ≤ z ∧ z ≤ 2 := by
  simp only [List.mem_cons, List.not_mem_nil, or_false, forall_eq_or_imp, forall_eq] at h
  obtain ⟨b0, b1, b2, b3, b4, b5, b6, b7, b8, b9, b10, b11, b12, b13, b14, b15⟩ := h
  intro z hz
  simp only [List.mem_cons, List.not_mem_nil, or_false] at hz
  rcases hz with rfl | rfl | rfl | rfl | rfl | rfl | rfl | rfl | rfl | rfl | rfl | rfl | rfl | rfl | rfl | rfl
  all_goals (refine dbl_bd (ite_bd ?_ ?_) <;> assumption)
theorem dbl_mod {t : Bool} {x : Int} (h : 0 ≤ x) : dbl t x % 3 = ((if t then 2 else 1) * x) % 3 := by
  unfold dbl
  cases t
  · simp
  · simp only [if_true]
    rw [Int.tmod_eq_emod_of_nonneg (by omega)]; omega
theorem turn_adm (x0 x1 x2 x3 x4 x5 x6 x7 x8 x9 x10 x11 x12 x13 x14 x15 : Int) (h : ∀ x ∈ [x0, x1, x2, x3, x4, x5, x6, x7, x8, x9, x10, x11, x12, x13, x14, x15], 0 ≤ x ∧ x ≤ 2) (t0 t1 t2 t3 t4 : Bool) : adB (dbl t1 (if t0 then x2 else x0)) (dbl t1 (if t0 then x3 else x1)) (dbl t1 (if t0 then x0 else x2)) (dbl t1 (if t0 then x1 else x3)) (dbl t2 (if t0 then x6 else x4)) (dbl t2 (if t0 then x7 else x5)) (dbl t2 (if t0 then x4 else x6)) (dbl t2 (if t0 then x5 else x7)) (dbl t3 (if t0 then x10 else x8)) (dbl t3 (if t0 then x11 else x9)) (dbl t3 (if t0 then x8 else x10)) (dbl t3 (if t0 then x9 else x11)) (dbl t4 (if t0 then x14 else x12)) (dbl t4 (if t0 then x15 else x13)) (dbl t4 (if t0 then x12 else x14)) (dbl t4 (if t0 then x13 else x15)) = adB x0 x1 x2 x3 x4 x5 x6 x7 x8 x9 x10 x11 x12 x13 x14 x15 := by
  obtain ⟨V, hV⟩ : ∃ V : Nat → Int, V = fun i => [x0, x1, x2, x3, x4, x5, x6, x7, x8, x9, x10, x11, x12, x13, x14, x15].getD i 0 := ⟨_, rfl⟩
  have hb : ∀ i, 0 ≤ V i := fun i => by
    subst hV
    show 0 ≤ [x0, x1, x2, x3, x4, x5, x6, x7, x8, x9, x10, x11, x12, x13, x14, x15].getD i 0
    rw [List.getD_eq_getElem?_getD]
    by_cases hi : i < [x0, x1, x2, x3, x4, x5, x6, x7, x8, x9, x10, x11, x12, x13, x14, x15].length
    · rw [List.getElem?_eq_getElem hi]; exact (h _ (List.getElem_mem hi)).1
    · rw [List.getElem?_eq_none (by omega)]; exact Int.le_refl 0
  have key : ∀ Y : Nat → Int, (∀ i, 0 ≤ Y i) → admF (fun i => dbl ([t1, t2, t3, t4].getD (i / 4) false) (Y i)) = admF Y := fun Y hY =>
    Scaled.adm (u := fun r => if [t1, t2, t3, t4].getD r false then 2 else 1) ⟨fun r _ => by split <;> simp, fun i _ => dbl_mod (hY i)⟩
  cases t0 with
  | true =>
    have := (key (fun i => V (swp i)) fun i => hb _).trans (swap_adm V)
    subst hV
    exact this
  | false =>
    have := key V hb
    subst hV
    exact this
noncomputable def admP' : PSp := fun xs K => match xs with
  | [.agg [.int .i64 x0, .int .i64 x1, .int .i64 x2, .int .i64 x3, .int .i64 x4, .int .i64 x5, .int .i64 x6, .int .i64 x7, .int .i64 x8, .int .i64 x9, .int .i64 x10, .int .i64 x11, .int .i64 x12, .int .i64 x13, .int .i64 x14, .int .i64 x15]] => VC (∀ x ∈ [x0, x1, x2, x3, x4, x5, x6, x7, x8, x9, x10, x11, x12, x13, x14, x15], 0 ≤ x ∧ x ≤ 2) ∧ K (.tup [.bp (adB x0 x1 x2 x3 x4 x5 x6 x7 x8 x9 x10 x11 x12 x13 x14 x15), .int .i64 0])
  | _ => False
theorem admP_ok' : POK Tryz.prog 22 admP' := by
  intro xs K h
  unfold admP' at h
  split at h
  · exact ⟨_, h.2, adm_spec  _ _ _ _ _ _ _ _ _ _ _ _ _ _ _ _ h.1.get⟩
  · exact h.elim
noncomputable def terP' : PSp := fun xs K => match xs with
  | [.agg [.int .i64 x0, .int .i64 x1, .int .i64 x2, .int .i64 x3, .int .i64 x4, .int .i64 x5, .int .i64 x6, .int .i64 x7, .int .i64 x8, .int .i64 x9, .int .i64 x10, .int .i64 x11, .int .i64 x12, .int .i64 x13, .int .i64 x14, .int .i64 x15]] => VC ((∀ x ∈ [x0, x1, x2, x3, x4, x5, x6, x7, x8, x9, x10, x11, x12, x13, x14, x15], 0 ≤ x ∧ x ≤ 2) ∧ adB x0 x1 x2 x3 x4 x5 x6 x7 x8 x9 x10 x11 x12 x13 x14 x15 = true) ∧ K (.tup [gridV 9 9 (madeL 9 (terF x0 x1 x2 x3 x4 x5 x6 x7 x8 x9 x10 x11 x12 x13 x14 x15)), .int .i64 0])
  | _ => False
theorem terP_ok' : POK Tryz.prog 23 terP' := by
  intro xs K h
  unfold terP' at h
  split at h
  · exact ⟨_, h.2, (adm_norm _ _ _ _ _ _ _ _ _ _ _ _ _ _ _ _ h.1.get.1 h.1.get.2).2⟩
  · exact h.elim
def mmP' : PSp := fun xs K => match xs with
  | [.agg [.int .i64 r, .int .i64 c, .isl (.ints .i64 f) .none]] => VC (TerOK r c f) ∧ K (.tup [.int .i64 (mulM 9 f), .int .i64 0])
  | _ => False
theorem mmP_ok' : POK Tryz.prog 24 mmP' := by
  intro xs K h
  unfold mmP' at h
  split at h
  · obtain ⟨⟨h1⟩, h2⟩ := h
    obtain ⟨rfl, rfl, ho, hb, hm, hp, hn⟩ := h1
    have := mm_spec 9 _ ho hb
    rw [if_pos hm] at this
    exact ⟨_, h2, this⟩
  · exact h.elim
def hasP' : PSp := fun xs K => match xs with
  | [.agg [.int .i64 r, .int .i64 c, .isl (.ints .i64 f) .none], .isl (.strs ks) .none] => VC (TerOK r c f ∧ ks = [sNor, kMag1, sBim]) ∧ K (.bool true)
  | _ => False
theorem hasP_ok' : POK Tryz.prog 9 hasP' := by
  intro xs K h
  unfold hasP' at h
  split at h
  · obtain ⟨⟨h1, rfl⟩, h2⟩ := h
    obtain ⟨rfl, rfl, ho, hb, hm, hp, hn⟩ := h1
    have := has_spec 9 _ [sNor, kMag1, sBim] ho (by decide)
    rw [show hasB 9 _ [sNor, kMag1, sBim] = true from by
      unfold hasB
      simp only [List.all_cons, List.all_nil, has_nor, has_mag, has_bim, biB, hm, hp, hn, Bool.and_self]] at this
    exact ⟨_, h2, pspec_sup this sup_b⟩
  · exact h.elim
noncomputable def cpL5 (fe : Int) (x0 x1 x2 x3 x4 x5 x6 x7 x8 x9 x10 x11 x12 x13 x14 x15 : Int) : CPT := cpAdd 21 (pureCC (atC True [.agg (fmL x0 x1 x2 x3 x4 x5 x6 x7 x8 x9 x10 x11 x12 x13 x14 x15)] (.int .i64 fe))) (cpAdd 7 (pureCC loomP) (cpAdd 22 (pureCC admP') (cpAdd 23 (pureCC terP') (cpAdd 24 (pureCC mmP') (cpAdd 9 (pureCC hasP') noC)))))
theorem cpL5_ok (fe : Int) (x0 x1 x2 x3 x4 x5 x6 x7 x8 x9 x10 x11 x12 x13 x14 x15 : Int) (h : PSpec Tryz.prog 21 [.agg (fmL x0 x1 x2 x3 x4 x5 x6 x7 x8 x9 x10 x11 x12 x13 x14 x15)] (.int .i64 fe)) : CPOK Tryz.prog (cpL5 fe x0 x1 x2 x3 x4 x5 x6 x7 x8 x9 x10 x11 x12 x13 x14 x15) :=
  cpAdd_ok (pureCC_ok (atC_ok fun _ => h)) (cpAdd_ok (pureCC_ok loom_ok) (cpAdd_ok (pureCC_ok admP_ok') (cpAdd_ok (pureCC_ok terP_ok') (cpAdd_ok (pureCC_ok mmP_ok') (cpAdd_ok (pureCC_ok hasP_ok') noC_ok)))))
theorem forms_good (turn : Int) (ht : 0 ≤ turn ∧ turn ≤ 255) (x0 x1 x2 x3 x4 x5 x6 x7 x8 x9 x10 x11 x12 x13 x14 x15 : Int) (h : ∀ x ∈ [x0, x1, x2, x3, x4, x5, x6, x7, x8, x9, x10, x11, x12, x13, x14, x15], 0 ≤ x ∧ x ≤ 2) : PSpec Tryz.prog 5 [.agg (fmL x0 x1 x2 x3 x4 x5 x6 x7 x8 x9 x10 x11 x12 x13 x14 x15), .int .u8 turn] (.bp true) := by
  have h7 := CheckForms_spec x0 x1 x2 x3 x4 x5 x6 x7 x8 x9 x10 x11 x12 x13 x14 x15
  have hf : formErr [x0, x1, x2, x3, x4, x5, x6, x7, x8, x9, x10, x11, x12, x13, x14, x15] = 0 := by
    unfold formErr
    rw [if_neg]
    rw [List.any_eq_true]
    rintro ⟨x, hx, hh⟩
    have := h x hx
    simp [notTern] at hh; omega
  rw [hf] at h7
  have hC := cpL5_ok 0 x0 x1 x2 x3 x4 x5 x6 x7 x8 x9 x10 x11 x12 x13 x14 x15 h7
  clear h7 hf
  unfold cpL5 at hC
  refine pspec_of (md := 1) (rf := []) mixed tabOK hC Tryz.func5 (by rfl) (by rfl) (by rfl) ?_
  repeat' ((conv => whnf); first | refine And.intro ?_ ?_ | with_reducible exact VC.mk rfl | exact Ok.mk | exact True.intro | refine Nx.mk ?_ | refine Fin.mk ?_ | (intro hq; (try (exact absurd hq (by decide)))))
  · exact ⟨trivial⟩
  · exact ⟨h⟩
  conv => whnf
  have hb := h
  simp only [List.mem_cons, List.not_mem_nil, or_false, forall_eq_or_imp, forall_eq] at hb
  obtain ⟨b0, b1, b2, b3, b4, b5, b6, b7, b8, b9, b10, b11, b12, b13, b14, b15⟩ := hb
  obtain ⟨t0, h0⟩ : ∃ t, bit0 turn = t := ⟨_, rfl⟩
  obtain ⟨t1, h1⟩ : ∃ t, bitK turn 1 = t := ⟨_, rfl⟩
  obtain ⟨t2, h2⟩ : ∃ t, bitK turn 2 = t := ⟨_, rfl⟩
  obtain ⟨t3, h3⟩ : ∃ t, bitK turn 3 = t := ⟨_, rfl⟩
  obtain ⟨t4, h4⟩ : ∃ t, bitK turn 4 = t := ⟨_, rfl⟩
  refine loop_of (X := Nat) (fun i => i ≤ 4) (fun i => [(29, .int .i64 i), (21, .any), (23, .any)]) (fun i => [(9, .cells (.pv (othL t0 t1 t2 t3 t4 x0 x1 x2 x3 x4 x5 x6 x7 x8 x9 x10 x11 x12 x13 x14 x15 i)) false)]) (fun i => 4 - i) 0 ⟨anyB_ok, mixed, tabOK, hC, noY_ok⟩ (by rfl) (by omega) ?_ ?_
  · repeat' ((conv => whnf); first | refine And.intro ?_ ?_ | with_reducible exact VC.mk rfl | exact Ok.mk | exact True.intro | refine Nx.mk ?_ | refine Fin.mk ?_ | intro _)
    all_goals ((try refine VC.mk ?_); (try simp only [CL.ncell, CL.cnt, vq] at *); (try omega))
  intro i hi
  have hc : i = 0 ∨ i = 1 ∨ i = 2 ∨ i = 3 ∨ i = 4 := by omega
  rcases hc with rfl | rfl | rfl | rfl | rfl
  · repeat' ((conv => whnf); first | refine And.intro ?_ ?_ | with_reducible exact VC.mk rfl | exact Ok.mk | exact True.intro | refine Nx.mk ?_ | refine Fin.mk ?_ | (intro hq; (try (exact absurd hq (by decide)))))
    all_goals (try (first | omega | decide | exact ht.1))
    · rename_i hqa
      obtain rfl : t0 = true := h0.symm.trans (show bit0 turn = true from hqa)
      obtain rfl : t1 = true := h1.symm.trans (show bitK turn 1 = true from hq)
      conv => whnf
      refine loop_rounds 5 (rounds_succ ⟨anyB_ok, mixed, tabOK, hC, noY_ok⟩ (by rfl) ?_)
      repeat' ((conv => whnf); first | refine And.intro ?_ ?_ | with_reducible exact VC.mk rfl | exact Ok.mk | exact True.intro | refine Nx.mk ?_ | refine Fin.mk ?_ | (intro hq; (try (exact absurd hq (by decide)))))
      all_goals (try (first | omega | decide))
      conv => whnf
      refine rounds_succ ⟨anyB_ok, mixed, tabOK, hC, noY_ok⟩ (by rfl) ?_
      repeat' ((conv => whnf); first | refine And.intro ?_ ?_ | with_reducible exact VC.mk rfl | exact Ok.mk | exact True.intro | refine Nx.mk ?_ | refine Fin.mk ?_ | (intro hq; (try (exact absurd hq (by decide)))))
      all_goals (try (first | omega | decide))
      conv => whnf
      refine rounds_succ ⟨anyB_ok, mixed, tabOK, hC, noY_ok⟩ (by rfl) ?_
      repeat' ((conv => whnf); first | refine And.intro ?_ ?_ | with_reducible exact VC.mk rfl | exact Ok.mk | exact True.intro | refine Nx.mk ?_ | refine Fin.mk ?_ | (intro hq; (try (exact absurd hq (by decide)))))
      all_goals (try (first | omega | decide))
      conv => whnf
      refine rounds_succ ⟨anyB_ok, mixed, tabOK, hC, noY_ok⟩ (by rfl) ?_
      repeat' ((conv => whnf); first | refine And.intro ?_ ?_ | with_reducible exact VC.mk rfl | exact Ok.mk | exact True.intro | refine Nx.mk ?_ | refine Fin.mk ?_ | (intro hq; (try (exact absurd hq (by decide)))))
      all_goals (try (first | omega | decide))
      conv => whnf
      refine rounds_succ ⟨anyB_ok, mixed, tabOK, hC, noY_ok⟩ (by rfl) ?_
      repeat' ((conv => whnf); first | refine And.intro ?_ ?_ | with_reducible exact VC.mk rfl | exact Ok.mk | exact True.intro | refine Nx.mk ?_ | refine Fin.mk ?_ | (intro hq; (try (exact absurd hq (by decide)))))
      all_goals (try (first | omega | decide))
      refine ⟨0 + 1, [], ⟨by omega, by omega⟩, ?_⟩
      repeat' ((conv => whnf); first | refine And.intro ?_ ?_ | with_reducible exact VC.mk rfl | exact Ok.mk | exact True.intro | refine Nx.mk ?_ | refine Fin.mk ?_ | (intro hq; (try (exact absurd hq (by decide)))))
      all_goals first | exact VC.mk rfl | omega | decide
    · rename_i hqa
      obtain rfl : t0 = true := h0.symm.trans (show bit0 turn = true from hqa)
      obtain rfl : t1 = false := h1.symm.trans (show bitK turn 1 = false from hq)
      all_goals (try (first | omega | decide))
      refine ⟨0 + 1, [], ⟨by omega, by omega⟩, ?_⟩
      repeat' ((conv => whnf); first | refine And.intro ?_ ?_ | with_reducible exact VC.mk rfl | exact Ok.mk | exact True.intro | refine Nx.mk ?_ | refine Fin.mk ?_ | (intro hq; (try (exact absurd hq (by decide)))))
      all_goals first | exact VC.mk rfl | omega | decide
    · rename_i hqa
      obtain rfl : t0 = false := h0.symm.trans (show bit0 turn = false from hqa)
      obtain rfl : t1 = true := h1.symm.trans (show bitK turn 1 = true from hq)
      conv => whnf
      refine loop_rounds 5 (rounds_succ ⟨anyB_ok, mixed, tabOK, hC, noY_ok⟩ (by rfl) ?_)
      repeat' ((conv => whnf); first | refine And.intro ?_ ?_ | with_reducible exact VC.mk rfl | exact Ok.mk | exact True.intro | refine Nx.mk ?_ | refine Fin.mk ?_ | (intro hq; (try (exact absurd hq (by decide)))))
      all_goals (try (first | omega | decide))
      conv => whnf
      refine rounds_succ ⟨anyB_ok, mixed, tabOK, hC, noY_ok⟩ (by rfl) ?_
      repeat' ((conv => whnf); first | refine And.intro ?_ ?_ | with_reducible exact VC.mk rfl | exact Ok.mk | exact True.intro | refine Nx.mk ?_ | refine Fin.mk ?_ | (intro hq; (try (exact absurd hq (by decide)))))
      all_goals (try (first | omega | decide))
      conv => whnf
      refine rounds_succ ⟨anyB_ok, mixed, tabOK, hC, noY_ok⟩ (by rfl) ?_
      repeat' ((conv => whnf); first | refine And.intro ?_ ?_ | with_reducible exact VC.mk rfl | exact Ok.mk | exact True.intro | refine Nx.mk ?_ | refine Fin.mk ?_ | (intro hq; (try (exact absurd hq (by decide)))))
      all_goals (try (first | omega | decide))
      conv => whnf
      refine rounds_succ ⟨anyB_ok, mixed, tabOK, hC, noY_ok⟩ (by rfl) ?_
      repeat' ((conv => whnf); first | refine And.intro ?_ ?_ | with_reducible exact VC.mk rfl | exact Ok.mk | exact True.intro | refine Nx.mk ?_ | refine Fin.mk ?_ | (intro hq; (try (exact absurd hq (by decide)))))
      all_goals (try (first | omega | decide))
      conv => whnf
      refine rounds_succ ⟨anyB_ok, mixed, tabOK, hC, noY_ok⟩ (by rfl) ?_
      repeat' ((conv => whnf); first | refine And.intro ?_ ?_ | with_reducible exact VC.mk rfl | exact Ok.mk | exact True.intro | refine Nx.mk ?_ | refine Fin.mk ?_ | (intro hq; (try (exact absurd hq (by decide)))))
      all_goals (try (first | omega | decide))
      refine ⟨0 + 1, [], ⟨by omega, by omega⟩, ?_⟩
      repeat' ((conv => whnf); first | refine And.intro ?_ ?_ | with_reducible exact VC.mk rfl | exact Ok.mk | exact True.intro | refine Nx.mk ?_ | refine Fin.mk ?_ | (intro hq; (try (exact absurd hq (by decide)))))
      all_goals first | exact VC.mk rfl | omega | decide
    · rename_i hqa
      obtain rfl : t0 = false := h0.symm.trans (show bit0 turn = false from hqa)
      obtain rfl : t1 = false := h1.symm.trans (show bitK turn 1 = false from hq)
      all_goals (try (first | omega | decide))
      refine ⟨0 + 1, [], ⟨by omega, by omega⟩, ?_⟩
      repeat' ((conv => whnf); first | refine And.intro ?_ ?_ | with_reducible exact VC.mk rfl | exact Ok.mk | exact True.intro | refine Nx.mk ?_ | refine Fin.mk ?_ | (intro hq; (try (exact absurd hq (by decide)))))
      all_goals first | exact VC.mk rfl | omega | decide
  · repeat' ((conv => whnf); first | refine And.intro ?_ ?_ | with_reducible exact VC.mk rfl | exact Ok.mk | exact True.intro | refine Nx.mk ?_ | refine Fin.mk ?_ | (intro hq; (try (exact absurd hq (by decide)))))
    all_goals (try (first | omega | decide | exact ht.1))
    · rename_i hqa
      obtain rfl : t0 = true := h0.symm.trans (show bit0 turn = true from hqa)
      obtain rfl : t2 = true := h2.symm.trans (show bitK turn 2 = true from hq)
      conv => whnf
      refine loop_rounds 5 (rounds_succ ⟨anyB_ok, mixed, tabOK, hC, noY_ok⟩ (by rfl) ?_)
      repeat' ((conv => whnf); first | refine And.intro ?_ ?_ | with_reducible exact VC.mk rfl | exact Ok.mk | exact True.intro | refine Nx.mk ?_ | refine Fin.mk ?_ | (intro hq; (try (exact absurd hq (by decide)))))
      all_goals (try (first | omega | decide))
      conv => whnf
      refine rounds_succ ⟨anyB_ok, mixed, tabOK, hC, noY_ok⟩ (by rfl) ?_
      repeat' ((conv => whnf); first | refine And.intro ?_ ?_ | with_reducible exact VC.mk rfl | exact Ok.mk | exact True.intro | refine Nx.mk ?_ | refine Fin.mk ?_ | (intro hq; (try (exact absurd hq (by decide)))))
      all_goals (try (first | omega | decide))
      conv => whnf
      refine rounds_succ ⟨anyB_ok, mixed, tabOK, hC, noY_ok⟩ (by rfl) ?_
      repeat' ((conv => whnf); first | refine And.intro ?_ ?_ | with_reducible exact VC.mk rfl | exact Ok.mk | exact True.intro | refine Nx.mk ?_ | refine Fin.mk ?_ | (intro hq; (try (exact absurd hq (by decide)))))
      all_goals (try (first | omega | decide))
      conv => whnf
      refine rounds_succ ⟨anyB_ok, mixed, tabOK, hC, noY_ok⟩ (by rfl) ?_
      repeat' ((conv => whnf); first | refine And.intro ?_ ?_ | with_reducible exact VC.mk rfl | exact Ok.mk | exact True.intro | refine Nx.mk ?_ | refine Fin.mk ?_ | (intro hq; (try (exact absurd hq (by decide)))))
      all_goals (try (first | omega | decide))
      conv => whnf
      refine rounds_succ ⟨anyB_ok, mixed, tabOK, hC, noY_ok⟩ (by rfl) ?_
      repeat' ((conv => whnf); first | refine And.intro ?_ ?_ | with_reducible exact VC.mk rfl | exact Ok.mk | exact True.intro | refine Nx.mk ?_ | refine Fin.mk ?_ | (intro hq; (try (exact absurd hq (by decide)))))
      all_goals (try (first | omega | decide))
      refine ⟨1 + 1, [], ⟨by omega, by omega⟩, ?_⟩
      repeat' ((conv => whnf); first | refine And.intro ?_ ?_ | with_reducible exact VC.mk rfl | exact Ok.mk | exact True.intro | refine Nx.mk ?_ | refine Fin.mk ?_ | (intro hq; (try (exact absurd hq (by decide)))))
      all_goals first | exact VC.mk rfl | omega | decide
    · rename_i hqa
      obtain rfl : t0 = true := h0.symm.trans (show bit0 turn = true from hqa)
      obtain rfl : t2 = false := h2.symm.trans (show bitK turn 2 = false from hq)
      all_goals (try (first | omega | decide))
      refine ⟨1 + 1, [], ⟨by omega, by omega⟩, ?_⟩
      repeat' ((conv => whnf); first | refine And.intro ?_ ?_ | with_reducible exact VC.mk rfl | exact Ok.mk | exact True.intro | refine Nx.mk ?_ | refine Fin.mk ?_ | (intro hq; (try (exact absurd hq (by decide)))))
      all_goals first | exact VC.mk rfl | omega | decide
    · rename_i hqa
      obtain rfl : t0 = false := h0.symm.trans (show bit0 turn = false from hqa)
      obtain rfl : t2 = true := h2.symm.trans (show bitK turn 2 = true from hq)
      conv => whnf
      refine loop_rounds 5 (rounds_succ ⟨anyB_ok, mixed, tabOK, hC, noY_ok⟩ (by rfl) ?_)
      repeat' ((conv => whnf); first | refine And.intro ?_ ?_ | with_reducible exact VC.mk rfl | exact Ok.mk | exact True.intro | refine Nx.mk ?_ | refine Fin.mk ?_ | (intro hq; (try (exact absurd hq (by decide)))))
      all_goals (try (first | omega | decide))
      conv => whnf
      refine rounds_succ ⟨anyB_ok, mixed, tabOK, hC, noY_ok⟩ (by rfl) ?_
      repeat' ((conv => whnf); first | refine And.intro ?_ ?_ | with_reducible exact VC.mk rfl | exact Ok.mk | exact True.intro | refine Nx.mk ?_ | refine Fin.mk ?_ | (intro hq; (try (exact absurd hq (by decide)))))
      all_goals (try (first | omega | decide))
      conv => whnf
      refine rounds_succ ⟨anyB_ok, mixed, tabOK, hC, noY_ok⟩ (by rfl) ?_
      repeat' ((conv => whnf); first | refine And.intro ?_ ?_ | with_reducible exact VC.mk rfl | exact Ok.mk | exact True.intro | refine Nx.mk ?_ | refine Fin.mk ?_ | (intro hq; (try (exact absurd hq (by decide)))))
      all_goals (try (first | omega | decide))
      conv => whnf
      refine rounds_succ ⟨anyB_ok, mixed, tabOK, hC, noY_ok⟩ (by rfl) ?_
      repeat' ((conv => whnf); first | refine And.intro ?_ ?_ | with_reducible exact VC.mk rfl | exact Ok.mk | exact True.intro | refine Nx.mk ?_ | refine Fin.mk ?_ | (intro hq; (try (exact absurd hq (by decide)))))
      all_goals (try (first | omega | decide))
      conv => whnf
      refine rounds_succ ⟨anyB_ok, mixed, tabOK, hC, noY_ok⟩ (by rfl) ?_
      repeat' ((conv => whnf); first | refine And.intro ?_ ?_ | with_reducible exact VC.mk rfl | exact Ok.mk | exact True.intro | refine Nx.mk ?_ | refine Fin.mk ?_ | (intro hq; (try (exact absurd hq (by decide)))))
      all_goals (try (first | omega | decide))
      refine ⟨1 + 1, [], ⟨by omega, by omega⟩, ?_⟩
      repeat' ((conv => whnf); first | refine And.intro ?_ ?_ | with_reducible exact VC.mk rfl | exact Ok.mk | exact True.intro | refine Nx.mk ?_ | refine Fin.mk ?_ | (intro hq; (try (exact absurd hq (by decide)))))
      all_goals first | exact VC.mk rfl | omega | decide
    · rename_i hqa
      obtain rfl : t0 = false := h0.symm.trans (show bit0 turn = false from hqa)
      obtain rfl : t2 = false := h2.symm.trans (show bitK turn 2 = false from hq)
      all_goals (try (first | omega | decide))
      refine ⟨1 + 1, [], ⟨by omega, by omega⟩, ?_⟩
      repeat' ((conv => whnf); first | refine And.intro ?_ ?_ | with_reducible exact VC.mk rfl | exact Ok.mk | exact True.intro | refine Nx.mk ?_ | refine Fin.mk ?_ | (intro hq; (try (exact absurd hq (by decide)))))
      all_goals first | exact VC.mk rfl | omega | decide
  · repeat' ((conv => whnf); first | refine And.intro ?_ ?_ | with_reducible exact VC.mk rfl | exact Ok.mk | exact True.intro | refine Nx.mk ?_ | refine Fin.mk ?_ | (intro hq; (try (exact absurd hq (by decide)))))
    all_goals (try (first | omega | decide | exact ht.1))
    · rename_i hqa
      obtain rfl : t0 = true := h0.symm.trans (show bit0 turn = true from hqa)
      obtain rfl : t3 = true := h3.symm.trans (show bitK turn 3 = true from hq)
      conv => whnf
      refine loop_rounds 5 (rounds_succ ⟨anyB_ok, mixed, tabOK, hC, noY_ok⟩ (by rfl) ?_)
      repeat' ((conv => whnf); first | refine And.intro ?_ ?_ | with_reducible exact VC.mk rfl | exact Ok.mk | exact True.intro | refine Nx.mk ?_ | refine Fin.mk ?_ | (intro hq; (try (exact absurd hq (by decide)))))
      all_goals (try (first | omega | decide))
      conv => whnf
      refine rounds_succ ⟨anyB_ok, mixed, tabOK, hC, noY_ok⟩ (by rfl) ?_
      repeat' ((conv => whnf); first | refine And.intro ?_ ?_ | with_reducible exact VC.mk rfl | exact Ok.mk | exact True.intro | refine Nx.mk ?_ | refine Fin.mk ?_ | (intro hq; (try (exact absurd hq (by decide)))))
      all_goals (try (first | omega | decide))
      conv => whnf
      refine rounds_succ ⟨anyB_ok, mixed, tabOK, hC, noY_ok⟩ (by rfl) ?_
      repeat' ((conv => whnf); first | refine And.intro ?_ ?_ | with_reducible exact VC.mk rfl | exact Ok.mk | exact True.intro | refine Nx.mk ?_ | refine Fin.mk ?_ | (intro hq; (try (exact absurd hq (by decide)))))
      all_goals (try (first | omega | decide))
      conv => whnf
      refine rounds_succ ⟨anyB_ok, mixed, tabOK, hC, noY_ok⟩ (by rfl) ?_
      repeat' ((conv => whnf); first | refine And.intro ?_ ?_ | with_reducible exact VC.mk rfl | exact Ok.mk | exact True.intro | refine Nx.mk ?_ | refine Fin.mk ?_ | (intro hq; (try (exact absurd hq (by decide)))))
      all_goals (try (first | omega | decide))
      conv => whnf
      refine rounds_succ ⟨anyB_ok, mixed, tabOK, hC, noY_ok⟩ (by rfl) ?_
      repeat' ((conv => whnf); first | refine And.intro ?_ ?_ | with_reducible exact VC.mk rfl | exact Ok.mk | exact True.intro | refine Nx.mk ?_ | refine Fin.mk ?_ | (intro hq; (try (exact absurd hq (by decide)))))
      all_goals (try (first | omega | decide))
      refine ⟨2 + 1, [], ⟨by omega, by omega⟩, ?_⟩
      repeat' ((conv => whnf); first | refine And.intro ?_ ?_ | with_reducible exact VC.mk rfl | exact Ok.mk | exact True.intro | refine Nx.mk ?_ | refine Fin.mk ?_ | (intro hq; (try (exact absurd hq (by decide)))))
      all_goals first | exact VC.mk rfl | omega | decide
    · rename_i hqa
      obtain rfl : t0 = true := h0.symm.trans (show bit0 turn = true from hqa)
      obtain rfl : t3 = false := h3.symm.trans (show bitK turn 3 = false from hq)
      all_goals (try (first | omega | decide))
      refine ⟨2 + 1, [], ⟨by omega, by omega⟩, ?_⟩
      repeat' ((conv => whnf); first | refine And.intro ?_ ?_ | with_reducible exact VC.mk rfl | exact Ok.mk | exact True.intro | refine Nx.mk ?_ | refine Fin.mk ?_ | (intro hq; (try (exact absurd hq (by decide)))))
      all_goals first | exact VC.mk rfl | omega | decide
    · rename_i hqa
      obtain rfl : t0 = false := h0.symm.trans (show bit0 turn = false from hqa)
      obtain rfl : t3 = true := h3.symm.trans (show bitK turn 3 = true from hq)
      conv => whnf
      refine loop_rounds 5 (rounds_succ ⟨anyB_ok, mixed, tabOK, hC, noY_ok⟩ (by rfl) ?_)
      repeat' ((conv => whnf); first | refine And.intro ?_ ?_ | with_reducible exact VC.mk rfl | exact Ok.mk | exact True.intro | refine Nx.mk ?_ | refine Fin.mk ?_ | (intro hq; (try (exact absurd hq (by decide)))))
      all_goals (try (first | omega | decide))
      conv => whnf
      refine rounds_succ ⟨anyB_ok, mixed, tabOK, hC, noY_ok⟩ (by rfl) ?_
      repeat' ((conv => whnf); first | refine And.intro ?_ ?_ | with_reducible exact VC.mk rfl | exact Ok.mk | exact True.intro | refine Nx.mk ?_ | refine Fin.mk ?_ | (intro hq; (try (exact absurd hq (by decide)))))
      all_goals (try (first | omega | decide))
      conv => whnf
      refine rounds_succ ⟨anyB_ok, mixed, tabOK, hC, noY_ok⟩ (by rfl) ?_
      repeat' ((conv => whnf); first | refine And.intro ?_ ?_ | with_reducible exact VC.mk rfl | exact Ok.mk | exact True.intro | refine Nx.mk ?_ | refine Fin.mk ?_ | (intro hq; (try (exact absurd hq (by decide)))))
      all_goals (try (first | omega | decide))
      conv => whnf
      refine rounds_succ ⟨anyB_ok, mixed, tabOK, hC, noY_ok⟩ (by rfl) ?_
      repeat' ((conv => whnf); first | refine And.intro ?_ ?_ | with_reducible exact VC.mk rfl | exact Ok.mk | exact True.intro | refine Nx.mk ?_ | refine Fin.mk ?_ | (intro hq; (try (exact absurd hq (by decide)))))
      all_goals (try (first | omega | decide))
      conv => whnf
      refine rounds_succ ⟨anyB_ok, mixed, tabOK, hC, noY_ok⟩ (by rfl) ?_
      repeat' ((conv => whnf); first | refine And.intro ?_ ?_ | with_reducible exact VC.mk rfl | exact Ok.mk | exact True.intro | refine Nx.mk ?_ | refine Fin.mk ?_ | (intro hq; (try (exact absurd hq (by decide)))))
      all_goals (try (first | omega | decide))
      refine ⟨2 + 1, [], ⟨by omega, by omega⟩, ?_⟩
      repeat' ((conv => whnf); first | refine And.intro ?_ ?_ | with_reducible exact VC.mk rfl | exact Ok.mk | exact True.intro | refine Nx.mk ?_ | refine Fin.mk ?_ | (intro hq; (try (exact absurd hq (by decide)))))
      all_goals first | exact VC.mk rfl | omega | decide
    · rename_i hqa
      obtain rfl : t0 = false := h0.symm.trans (show bit0 turn = false from hqa)
      obtain rfl : t3 = false := h3.symm.trans (show bitK turn 3 = false from hq)
      all_goals (try (first | omega | decide))
      refine ⟨2 + 1, [], ⟨by omega, by omega⟩, ?_⟩
      repeat' ((conv => whnf); first | refine And.intro ?_ ?_ | with_reducible exact VC.mk rfl | exact Ok.mk | exact True.intro | refine Nx.mk ?_ | refine Fin.mk ?_ | (intro hq; (try (exact absurd hq (by decide)))))
      all_goals first | exact VC.mk rfl | omega | decide
  · repeat' ((conv => whnf); first | refine And.intro ?_ ?_ | with_reducible exact VC.mk rfl | exact Ok.mk | exact True.intro | refine Nx.mk ?_ | refine Fin.mk ?_ | (intro hq; (try (exact absurd hq (by decide)))))
    all_goals (try (first | omega | decide | exact ht.1))
    · rename_i hqa
      obtain rfl : t0 = true := h0.symm.trans (show bit0 turn = true from hqa)
      obtain rfl : t4 = true := h4.symm.trans (show bitK turn 4 = true from hq)
      conv => whnf
      refine loop_rounds 5 (rounds_succ ⟨anyB_ok, mixed, tabOK, hC, noY_ok⟩ (by rfl) ?_)
      repeat' ((conv => whnf); first | refine And.intro ?_ ?_ | with_reducible exact VC.mk rfl | exact Ok.mk | exact True.intro | refine Nx.mk ?_ | refine Fin.mk ?_ | (intro hq; (try (exact absurd hq (by decide)))))
      all_goals (try (first | omega | decide))
      conv => whnf
      refine rounds_succ ⟨anyB_ok, mixed, tabOK, hC, noY_ok⟩ (by rfl) ?_
      repeat' ((conv => whnf); first | refine And.intro ?_ ?_ | with_reducible exact VC.mk rfl | exact Ok.mk | exact True.intro | refine Nx.mk ?_ | refine Fin.mk ?_ | (intro hq; (try (exact absurd hq (by decide)))))
      all_goals (try (first | omega | decide))
      conv => whnf
      refine rounds_succ ⟨anyB_ok, mixed, tabOK, hC, noY_ok⟩ (by rfl) ?_
      repeat' ((conv => whnf); first | refine And.intro ?_ ?_ | with_reducible exact VC.mk rfl | exact Ok.mk | exact True.intro | refine Nx.mk ?_ | refine Fin.mk ?_ | (intro hq; (try (exact absurd hq (by decide)))))
      all_goals (try (first | omega | decide))
      conv => whnf
      refine rounds_succ ⟨anyB_ok, mixed, tabOK, hC, noY_ok⟩ (by rfl) ?_
      repeat' ((conv => whnf); first | refine And.intro ?_ ?_ | with_reducible exact VC.mk rfl | exact Ok.mk | exact True.intro | refine Nx.mk ?_ | refine Fin.mk ?_ | (intro hq; (try (exact absurd hq (by decide)))))
      all_goals (try (first | omega | decide))
      conv => whnf
      refine rounds_succ ⟨anyB_ok, mixed, tabOK, hC, noY_ok⟩ (by rfl) ?_
      repeat' ((conv => whnf); first | refine And.intro ?_ ?_ | with_reducible exact VC.mk rfl | exact Ok.mk | exact True.intro | refine Nx.mk ?_ | refine Fin.mk ?_ | (intro hq; (try (exact absurd hq (by decide)))))
      all_goals (try (first | omega | decide))
      refine ⟨3 + 1, [], ⟨by omega, by omega⟩, ?_⟩
      repeat' ((conv => whnf); first | refine And.intro ?_ ?_ | with_reducible exact VC.mk rfl | exact Ok.mk | exact True.intro | refine Nx.mk ?_ | refine Fin.mk ?_ | (intro hq; (try (exact absurd hq (by decide)))))
      all_goals first | exact VC.mk rfl | omega | decide
    · rename_i hqa
      obtain rfl : t0 = true := h0.symm.trans (show bit0 turn = true from hqa)
      obtain rfl : t4 = false := h4.symm.trans (show bitK turn 4 = false from hq)
      all_goals (try (first | omega | decide))
      refine ⟨3 + 1, [], ⟨by omega, by omega⟩, ?_⟩
      repeat' ((conv => whnf); first | refine And.intro ?_ ?_ | with_reducible exact VC.mk rfl | exact Ok.mk | exact True.intro | refine Nx.mk ?_ | refine Fin.mk ?_ | (intro hq; (try (exact absurd hq (by decide)))))
      all_goals first | exact VC.mk rfl | omega | decide
    · rename_i hqa
      obtain rfl : t0 = false := h0.symm.trans (show bit0 turn = false from hqa)
      obtain rfl : t4 = true := h4.symm.trans (show bitK turn 4 = true from hq)
      conv => whnf
      refine loop_rounds 5 (rounds_succ ⟨anyB_ok, mixed, tabOK, hC, noY_ok⟩ (by rfl) ?_)
      repeat' ((conv => whnf); first | refine And.intro ?_ ?_ | with_reducible exact VC.mk rfl | exact Ok.mk | exact True.intro | refine Nx.mk ?_ | refine Fin.mk ?_ | (intro hq; (try (exact absurd hq (by decide)))))
      all_goals (try (first | omega | decide))
      conv => whnf
      refine rounds_succ ⟨anyB_ok, mixed, tabOK, hC, noY_ok⟩ (by rfl) ?_
      repeat' ((conv => whnf); first | refine And.intro ?_ ?_ | with_reducible exact VC.mk rfl | exact Ok.mk | exact True.intro | refine Nx.mk ?_ | refine Fin.mk ?_ | (intro hq; (try (exact absurd hq (by decide)))))
      all_goals (try (first | omega | decide))
      conv => whnf
      refine rounds_succ ⟨anyB_ok, mixed, tabOK, hC, noY_ok⟩ (by rfl) ?_
      repeat' ((conv => whnf); first | refine And.intro ?_ ?_ | with_reducible exact VC.mk rfl | exact Ok.mk | exact True.intro | refine Nx.mk ?_ | refine Fin.mk ?_ | (intro hq; (try (exact absurd hq (by decide)))))
      all_goals (try (first | omega | decide))
      conv => whnf
      refine rounds_succ ⟨anyB_ok, mixed, tabOK, hC, noY_ok⟩ (by rfl) ?_
      repeat' ((conv => whnf); first | refine And.intro ?_ ?_ | with_reducible exact VC.mk rfl | exact Ok.mk | exact True.intro | refine Nx.mk ?_ | refine Fin.mk ?_ | (intro hq; (try (exact absurd hq (by decide)))))
      all_goals (try (first | omega | decide))
      conv => whnf
      refine rounds_succ ⟨anyB_ok, mixed, tabOK, hC, noY_ok⟩ (by rfl) ?_
      repeat' ((conv => whnf); first | refine And.intro ?_ ?_ | with_reducible exact VC.mk rfl | exact Ok.mk | exact True.intro | refine Nx.mk ?_ | refine Fin.mk ?_ | (intro hq; (try (exact absurd hq (by decide)))))
      all_goals (try (first | omega | decide))
      refine ⟨3 + 1, [], ⟨by omega, by omega⟩, ?_⟩
      repeat' ((conv => whnf); first | refine And.intro ?_ ?_ | with_reducible exact VC.mk rfl | exact Ok.mk | exact True.intro | refine Nx.mk ?_ | refine Fin.mk ?_ | (intro hq; (try (exact absurd hq (by decide)))))
      all_goals first | exact VC.mk rfl | omega | decide
    · rename_i hqa
      obtain rfl : t0 = false := h0.symm.trans (show bit0 turn = false from hqa)
      obtain rfl : t4 = false := h4.symm.trans (show bitK turn 4 = false from hq)
      all_goals (try (first | omega | decide))
      refine ⟨3 + 1, [], ⟨by omega, by omega⟩, ?_⟩
      repeat' ((conv => whnf); first | refine And.intro ?_ ?_ | with_reducible exact VC.mk rfl | exact Ok.mk | exact True.intro | refine Nx.mk ?_ | refine Fin.mk ?_ | (intro hq; (try (exact absurd hq (by decide)))))
      all_goals first | exact VC.mk rfl | omega | decide
  · have hz : ∀ z ∈ [dbl t1 (if t0 then x2 else x0), dbl t1 (if t0 then x3 else x1), dbl t1 (if t0 then x0 else x2), dbl t1 (if t0 then x1 else x3), dbl t2 (if t0 then x6 else x4), dbl t2 (if t0 then x7 else x5), dbl t2 (if t0 then x4 else x6), dbl t2 (if t0 then x5 else x7), dbl t3 (if t0 then x10 else x8), dbl t3 (if t0 then x11 else x9), dbl t3 (if t0 then x8 else x10), dbl t3 (if t0 then x9 else x11), dbl t4 (if t0 then x14 else x12), dbl t4 (if t0 then x15 else x13), dbl t4 (if t0 then x12 else x14), dbl t4 (if t0 then x13 else x15)], 0 ≤ z ∧ z ≤ 2 := by
      exact turn_bd h t0 t1 t2 t3 t4
    have ha : adB (dbl t1 (if t0 then x2 else x0)) (dbl t1 (if t0 then x3 else x1)) (dbl t1 (if t0 then x0 else x2)) (dbl t1 (if t0 then x1 else x3)) (dbl t2 (if t0 then x6 else x4)) (dbl t2 (if t0 then x7 else x5)) (dbl t2 (if t0 then x4 else x6)) (dbl t2 (if t0 then x5 else x7)) (dbl t3 (if t0 then x10 else x8)) (dbl t3 (if t0 then x11 else x9)) (dbl t3 (if t0 then x8 else x10)) (dbl t3 (if t0 then x9 else x11)) (dbl t4 (if t0 then x14 else x12)) (dbl t4 (if t0 then x15 else x13)) (dbl t4 (if t0 then x12 else x14)) (dbl t4 (if t0 then x13 else x15)) = adB x0 x1 x2 x3 x4 x5 x6 x7 x8 x9 x10 x11 x12 x13 x14 x15 := by
      exact turn_adm x0 x1 x2 x3 x4 x5 x6 x7 x8 x9 x10 x11 x12 x13 x14 x15 h t0 t1 t2 t3 t4
    rw [show othL t0 t1 t2 t3 t4 x0 x1 x2 x3 x4 x5 x6 x7 x8 x9 x10 x11 x12 x13 x14 x15 4 = [.int .i64 (dbl t1 (if t0 then x2 else x0)), .int .i64 (dbl t1 (if t0 then x3 else x1)), .int .i64 (dbl t1 (if t0 then x0 else x2)), .int .i64 (dbl t1 (if t0 then x1 else x3)), .int .i64 (dbl t2 (if t0 then x6 else x4)), .int .i64 (dbl t2 (if t0 then x7 else x5)), .int .i64 (dbl t2 (if t0 then x4 else x6)), .int .i64 (dbl t2 (if t0 then x5 else x7)), .int .i64 (dbl t3 (if t0 then x10 else x8)), .int .i64 (dbl t3 (if t0 then x11 else x9)), .int .i64 (dbl t3 (if t0 then x8 else x10)), .int .i64 (dbl t3 (if t0 then x9 else x11)), .int .i64 (dbl t4 (if t0 then x14 else x12)), .int .i64 (dbl t4 (if t0 then x15 else x13)), .int .i64 (dbl t4 (if t0 then x12 else x14)), .int .i64 (dbl t4 (if t0 then x13 else x15))] from rfl]
    generalize dbl t1 (if t0 then x2 else x0) = z0 at *
    generalize dbl t1 (if t0 then x3 else x1) = z1 at *
    generalize dbl t1 (if t0 then x0 else x2) = z2 at *
    generalize dbl t1 (if t0 then x1 else x3) = z3 at *
    generalize dbl t2 (if t0 then x6 else x4) = z4 at *
    generalize dbl t2 (if t0 then x7 else x5) = z5 at *
    generalize dbl t2 (if t0 then x4 else x6) = z6 at *
    generalize dbl t2 (if t0 then x5 else x7) = z7 at *
    generalize dbl t3 (if t0 then x10 else x8) = z8 at *
    generalize dbl t3 (if t0 then x11 else x9) = z9 at *
    generalize dbl t3 (if t0 then x8 else x10) = z10 at *
    generalize dbl t3 (if t0 then x9 else x11) = z11 at *
    generalize dbl t4 (if t0 then x14 else x12) = z12 at *
    generalize dbl t4 (if t0 then x15 else x13) = z13 at *
    generalize dbl t4 (if t0 then x12 else x14) = z14 at *
    generalize dbl t4 (if t0 then x13 else x15) = z15 at *
    clear h0 h1 h2 h3 h4
    conv => whnf
    refine And.intro (fun hq => absurd hq (by decide)) ?_
    intro _
    conv => whnf
    refine And.intro ⟨hz⟩ ?_
    conv => whnf
    refine And.intro (fun _ => ?_) (fun hq => absurd hq (by decide))
    rw [ha]
    cases hav : adB x0 x1 x2 x3 x4 x5 x6 x7 x8 x9 x10 x11 x12 x13 x14 x15 with
    | false =>
      repeat' ((conv => whnf); first | refine And.intro ?_ ?_ | with_reducible exact VC.mk rfl | exact Ok.mk | exact True.intro | refine Nx.mk ?_ | refine Fin.mk ?_ | (intro hq; (try (exact absurd hq (by decide)))))
      all_goals first | exact ⟨trivial⟩ | exact sup_true
    | true =>
      rw [hav] at ha
      have kx := (adm_norm x0 x1 x2 x3 x4 x5 x6 x7 x8 x9 x10 x11 x12 x13 x14 x15 h hav).1
      have kz := (adm_norm z0 z1 z2 z3 z4 z5 z6 z7 z8 z9 z10 z11 z12 z13 z14 z15 hz ha).1
      have mx := mulM_two kx.pwr
      have mz := mulM_two kz.pwr
      repeat' ((conv => whnf); first | refine And.intro ?_ ?_ | with_reducible exact VC.mk rfl | exact Ok.mk | exact True.intro | refine Nx.mk ?_ | refine Fin.mk ?_ | (intro hq; (try (exact absurd hq (by decide)))))
      conv => whnf
      refine loop_of (X := Nat) (fun i => i ≤ 2) (fun i => [(95, .int .i64 i), (76, .any), (78, .any)]) (fun i => []) (fun i => 2 - i) 0 ⟨anyB_ok, mixed, tabOK, hC, noY_ok⟩ (by rfl) (by omega) ?_ ?_
      · repeat' ((conv => whnf); first | refine And.intro ?_ ?_ | with_reducible exact VC.mk rfl | exact Ok.mk | exact True.intro | refine Nx.mk ?_ | refine Fin.mk ?_ | intro _)
        all_goals ((try refine VC.mk ?_); (try simp only [CL.ncell, CL.cnt, vq] at *); (try omega))
      intro i hi
      have hc : i = 0 ∨ i = 1 ∨ i = 2 := by omega
      rcases hc with rfl | rfl | rfl
      · repeat' ((conv => whnf); first | refine And.intro ?_ ?_ | with_reducible exact VC.mk rfl | exact Ok.mk | exact True.intro | refine Nx.mk ?_ | refine Fin.mk ?_ | (intro hq; (try (exact absurd hq (by decide)))))
        all_goals first | exact ⟨trivial⟩ | exact sup_true | (with_reducible show (_ : Int) < _; show (_ : Int) < ((2 : Nat) : Int); omega) | (with_reducible show (_ : Nat) < _; show _ < 2; omega) | (with_reducible show (_ : Int) ≤ _; omega) | exact of_decide_eq_true hq | (refine Nat.le_of_ble_eq_true ?_; rfl) | rfl | exact ⟨h, hav⟩ | exact ⟨kx⟩ | exact ⟨kx, rfl⟩ | skip
        · refine ⟨0 + 1, [], ⟨by omega, by omega⟩, ?_⟩
          repeat' ((conv => whnf); first | refine And.intro ?_ ?_ | with_reducible exact VC.mk rfl | exact Ok.mk | exact True.intro | refine Nx.mk ?_ | refine Fin.mk ?_ | (intro hq; (try (exact absurd hq (by decide)))))
          all_goals (try (first | omega | decide | rfl))
        · have hq := of_decide_eq_true (show decide _ = true from hq)
          exact absurd hq (by omega)
      · repeat' ((conv => whnf); first | refine And.intro ?_ ?_ | with_reducible exact VC.mk rfl | exact Ok.mk | exact True.intro | refine Nx.mk ?_ | refine Fin.mk ?_ | (intro hq; (try (exact absurd hq (by decide)))))
        all_goals first | exact ⟨trivial⟩ | exact sup_true | (with_reducible show (_ : Int) < _; show (_ : Int) < ((2 : Nat) : Int); omega) | (with_reducible show (_ : Nat) < _; show _ < 2; omega) | (with_reducible show (_ : Int) ≤ _; omega) | exact of_decide_eq_true hq | (refine Nat.le_of_ble_eq_true ?_; rfl) | rfl | exact ⟨hz, ha⟩ | exact ⟨kz⟩ | exact ⟨kz, rfl⟩ | skip
        · refine ⟨1 + 1, [], ⟨by omega, by omega⟩, ?_⟩
          repeat' ((conv => whnf); first | refine And.intro ?_ ?_ | with_reducible exact VC.mk rfl | exact Ok.mk | exact True.intro | refine Nx.mk ?_ | refine Fin.mk ?_ | (intro hq; (try (exact absurd hq (by decide)))))
          all_goals (try (first | omega | decide | rfl))
        · have hq := of_decide_eq_true (show decide _ = true from hq)
          exact absurd hq (by omega)
      · conv => whnf
        refine And.intro (fun hq => absurd hq (show ¬ decide (((2 : Nat) : Int) < ((2 : Nat) : Int)) = true by decide)) ?_
        repeat' ((conv => whnf); first | refine And.intro ?_ ?_ | with_reducible exact VC.mk rfl | exact Ok.mk | exact True.intro | refine Nx.mk ?_ | refine Fin.mk ?_ | (intro hq; (try (exact absurd hq (by decide)))))
        all_goals first | exact ⟨trivial⟩ | exact sup_true
end Go.Eng.YtobnbkoeocdhbaaGreatDoor
namespace Go.Eng.YtobnbkoeocdhbaaGreatDoor
open Go.Proofs
set_option maxRecDepth 100000
set_option maxHeartbeats 0
set_option linter.unusedVariables false
set_option linter.unusedSimpArgs false
theorem forms_bad (turn : Int) (x0 x1 x2 x3 x4 x5 x6 x7 x8 x9 x10 x11 x12 x13 x14 x15 : Int) (h : formErr [x0, x1, x2, x3, x4, x5, x6, x7, x8, x9, x10, x11, x12, x13, x14, x15] ≠ 0) : PSpec Tryz.prog 5 [.agg (fmL x0 x1 x2 x3 x4 x5 x6 x7 x8 x9 x10 x11 x12 x13 x14 x15), .int .u8 turn] (.bp true) := by
  have h7 := CheckForms_spec x0 x1 x2 x3 x4 x5 x6 x7 x8 x9 x10 x11 x12 x13 x14 x15
  generalize formErr [x0, x1, x2, x3, x4, x5, x6, x7, x8, x9, x10, x11, x12, x13, x14, x15] = fe at *
  have hC := cpL5_ok fe x0 x1 x2 x3 x4 x5 x6 x7 x8 x9 x10 x11 x12 x13 x14 x15 h7
  clear h7
  unfold cpL5 at hC
  refine pspec_of (md := 1) (rf := []) mixed tabOK hC Tryz.func5 (by rfl) (by rfl) (by rfl) ?_
  conv => whnf
  refine And.intro ⟨trivial⟩ (And.intro ⟨rfl⟩ ?_)
  conv => whnf
  refine And.intro (fun _ => ?_) (fun hq => absurd (of_decide_eq_false hq) (fun h' => h' h))
  repeat' ((conv => whnf); first | refine And.intro ?_ ?_ | with_reducible exact VC.mk rfl | exact Ok.mk | exact True.intro | refine Nx.mk ?_ | refine Fin.mk ?_ | intro _)
  all_goals first | exact ⟨trivial⟩ | exact sup_true
theorem forms_law (x0 x1 x2 x3 x4 x5 x6 x7 x8 x9 x10 x11 x12 x13 x14 x15 turn : Int) (ht : 0 ≤ turn ∧ turn ≤ 255) : PSpec Tryz.prog 5 [.agg (fmL x0 x1 x2 x3 x4 x5 x6 x7 x8 x9 x10 x11 x12 x13 x14 x15), .int .u8 turn] (.bp true) := by
  by_cases h : formErr [x0, x1, x2, x3, x4, x5, x6, x7, x8, x9, x10, x11, x12, x13, x14, x15] = 0
  · exact forms_good turn ht x0 x1 x2 x3 x4 x5 x6 x7 x8 x9 x10 x11 x12 x13 x14 x15 (good_of h)
  · exact forms_bad turn x0 x1 x2 x3 x4 x5 x6 x7 x8 x9 x10 x11 x12 x13 x14 x15 h
theorem u8_wf {n : Int} (h : (Go.Lit.int Go.IntKind.u8 n).wf = true) : 0 ≤ n ∧ n ≤ 255 := by
  have h1 : Go.IntKind.u8.min = 0 := by decide
  have h2 : Go.IntKind.u8.max = 255 := by decide
  simp [Go.Lit.wf, h1, h2] at h
  exact h
end Go.Eng.YtobnbkoeocdhbaaGreatDoor
