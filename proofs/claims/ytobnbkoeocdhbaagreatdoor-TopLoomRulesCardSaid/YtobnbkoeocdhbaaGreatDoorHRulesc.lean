/-
  Contracts of functions of the program: what each returns. Their conditions stand in them.
-/
import Derived.Test.YtobnbkoeocdhbaaGreatDoorHRulesb
namespace Go.Eng.YtobnbkoeocdhbaaGreatDoor
open Go.Proofs
set_option maxRecDepth 100000
set_option maxHeartbeats 0
set_option linter.unusedVariables false
set_option linter.unusedSimpArgs false
/-! which kinds a square has -/
theorem hasL_kdT (n : Int) (f : List Int) (k : ByteArray) : hasL (kdT n f 8) k = (kdB n f).any fun x => x.2 && decide (x.1 = k) := by
  unfold hasL kdT
  rw [List.take_of_length_le (show (kdB n f).length ≤ 8 from Nat.le_refl _), List.any_map, List.any_filter]
  rfl
theorem has_nor (n : Int) (f : List Int) : hasL (kdT n f 8) sNor = nrmB f := by rw [hasL_kdT]; simp [kdB]
theorem has_sem (n : Int) (f : List Int) : hasL (kdT n f 8) kSem1 = isB n kSem1 f := by rw [hasL_kdT]; simp [kdB]
theorem has_mag (n : Int) (f : List Int) : hasL (kdT n f 8) kMag1 = isB n kMag1 f := by rw [hasL_kdT]; simp [kdB]
theorem has_pan (n : Int) (f : List Int) : hasL (kdT n f 8) kPan1 = isB n kPan1 f := by rw [hasL_kdT]; simp [kdB]
theorem has_ass (n : Int) (f : List Int) : hasL (kdT n f 8) sAss = assB n f := by rw [hasL_kdT]; simp [kdB]
theorem has_mos (n : Int) (f : List Int) : hasL (kdT n f 8) sMos = mpB n f := by rw [hasL_kdT]; simp [kdB]
theorem qs_psum (f : List Int) (l : List Int) (h : ∀ x ∈ l, 0 ≤ x ∧ x < f.length) : psum f 2 l = sumAt (qsL f) l l.length := by
  unfold psum psumT sumAt
  rw [List.take_length]
  suffices H : ∀ (l : List Int) (a : Int), (∀ x ∈ l, 0 ≤ x ∧ x < f.length) → l.foldl (fun s c => s + powI (f.getD c.toNat 0) 2) a = l.foldl (fun s c => s + (qsL f).getD c.toNat 0) a from H l 0 h
  intro l
  induction l with
  | nil => intro a _; rfl
  | cons x r ih =>
    intro a h
    have hx := h x (by simp)
    show List.foldl _ (a + powI (f.getD x.toNat 0) 2) r = List.foldl _ (a + (qsL f).getD x.toNat 0) r
    rw [qsL_get f x.toNat (by omega), ih _ (fun y hy => h y (by simp [hy]))]
    congr 1
    unfold powI
    rw [if_pos rfl, Int.one_mul]
theorem pwrB_of {n : Nat} (hn : 1 ≤ n ∧ n ≤ 10) {f : List Int} (hl : f.length = n * n) {c : Int} (h : ∀ i, i < 2 * n + 2 → sumAt (qsL f) (lineAt n i) n = c) : pwrB n 2 f = true := by
  have hk := lnsK_len hn kMag1
  have key : ∀ l ∈ lnsK n kMag1, psum f 2 l = c := fun l hm => by
    have hL := lnsK_line hn hm
    obtain ⟨i, hi, e⟩ := (lnsK_mem hn kMag1 l).1 hm
    have := h i hi
    rw [← e] at this
    rw [qs_psum f l (fun x hx => by have := hL.mem x hx; rw [hl]; simpa using this), hL.len, this]
  unfold pwrB
  rw [Int.toNat_natCast]
  refine List.all_eq_true.2 fun l hm => decide_eq_true ?_
  rw [key l hm, key _ (getD_mem' (by omega))]
theorem mulM_two {n : Int} {f : List Int} (h : pwrB n 2 f = true) : 2 ≤ mulM n f := by
  unfold mulM
  rw [if_pos h]
  split
  · split <;> omega
  · omega
/-! the examples -/
def ex3 : List Int := siaL 3
def ex4 : List Int := panM 4
theorem ex3_B : goodB 3 2 ex3 = true ∧ isB 3 kSem1 ex3 = true ∧ isB 3 kMag1 ex3 = true ∧ assB 3 ex3 = true ∧ isB 3 kPan1 ex3 = false := by decide +kernel
theorem ex4_B : isB 4 kPan1 ex4 = true ∧ mpB 4 ex4 = true := by decide +kernel
theorem bim_eq : madeL 9 bimF = madeL 9 (terF 0 1 1 0 2 0 0 1 1 2 1 1 2 2 1 2) := rfl
theorem bim_adm : admC 0 1 1 0 2 0 0 1 1 2 1 1 2 2 1 2 = true := by decide
theorem ter_len (x0 x1 x2 x3 x4 x5 x6 x7 x8 x9 x10 x11 x12 x13 x14 x15 : Int) : (madeL 9 (terF x0 x1 x2 x3 x4 x5 x6 x7 x8 x9 x10 x11 x12 x13 x14 x15)).length = 81 := by simp [madeL]
theorem ter_pwr (x0 x1 x2 x3 x4 x5 x6 x7 x8 x9 x10 x11 x12 x13 x14 x15 : Int) (h : admC x0 x1 x2 x3 x4 x5 x6 x7 x8 x9 x10 x11 x12 x13 x14 x15 = true) : pwrB 9 2 (madeL 9 (terF x0 x1 x2 x3 x4 x5 x6 x7 x8 x9 x10 x11 x12 x13 x14 x15)) = true :=
  pwrB_of (n := 9) (by omega) (ter_len x0 x1 x2 x3 x4 x5 x6 x7 x8 x9 x10 x11 x12 x13 x14 x15) (c := 20049) fun i hi => forms_squares x0 x1 x2 x3 x4 x5 x6 x7 x8 x9 x10 x11 x12 x13 x14 x15 h i hi
theorem ter_isB (x0 x1 x2 x3 x4 x5 x6 x7 x8 x9 x10 x11 x12 x13 x14 x15 : Int) (h : admC x0 x1 x2 x3 x4 x5 x6 x7 x8 x9 x10 x11 x12 x13 x14 x15 = true) : isB 9 kMag1 (madeL 9 (terF x0 x1 x2 x3 x4 x5 x6 x7 x8 x9 x10 x11 x12 x13 x14 x15)) = true :=
  isB_of (n := 9) (by omega) (g := 2) (by decide) (forms_magic x0 x1 x2 x3 x4 x5 x6 x7 x8 x9 x10 x11 x12 x13 x14 x15 h)
theorem ex3_ok : FigOK 3 ex3 := ⟨by omega, by decide +kernel, by decide +kernel⟩
theorem ex4_ok : FigOK 4 ex4 := ⟨by omega, by decide +kernel, by decide +kernel⟩
theorem bim_bd : ∀ x ∈ madeL 9 bimF, -100 ≤ x ∧ x ≤ 100 := by decide +kernel
theorem bim_ok : FigOK 9 (madeL 9 bimF) := ⟨by omega, by rw [bim_eq, ter_len]; rfl, fun x hx => by have := bim_bd x hx; omega⟩
theorem sia3_spec : PSpec Tryz.prog 27 [.int .i64 3] (.tup [gridV 3 3 ex3, .int .i64 0]) := siamese_spec 3
theorem pan4_spec : PSpec Tryz.prog 28 [.int .i64 4] (.tup [gridV 4 4 ex4, .int .i64 0]) := pandiagonal_spec 4
theorem mmB_spec : PSpec Tryz.prog 24 [gridV 9 9 (madeL 9 bimF)] (.tup [.int .i64 (mulM 9 (madeL 9 bimF)), .int .i64 0]) := by
  have := mm_spec 9 (madeL 9 bimF) bim_ok bim_bd
  rw [if_pos (by rw [bim_eq]; exact ter_isB _ _ _ _ _ _ _ _ _ _ _ _ _ _ _ _ bim_adm)] at this
  exact this
theorem has3a : PSpec Tryz.prog 9 [gridV 3 3 ex3, .isl (.strs [sNor, kSem1, kMag1, sAss]) .none] (.bool true) := by
  have := has_spec 3 ex3 [sNor, kSem1, kMag1, sAss] ex3_ok (by decide)
  obtain ⟨h1, h2, h3, h4, h5⟩ := ex3_B
  rw [show hasB 3 ex3 [sNor, kSem1, kMag1, sAss] = true from by
    unfold hasB
    simp only [List.all_cons, List.all_nil, has_nor, has_sem, has_mag, has_ass, h2, h3, h4, nrmB_norm (goodB_ok h1).norm, Bool.and_self]] at this
  exact pspec_sup this sup_b
theorem has3b : PSpec Tryz.prog 9 [gridV 3 3 ex3, .isl (.strs [kPan1]) .none] (.bool false) := by
  have := has_spec 3 ex3 [kPan1] ex3_ok (by decide)
  obtain ⟨h1, h2, h3, h4, h5⟩ := ex3_B
  rw [show hasB 3 ex3 [kPan1] = false from by
    unfold hasB
    simp only [List.all_cons, List.all_nil, has_pan, h5, Bool.and_self, Bool.false_and]] at this
  exact pspec_sup this sup_b
theorem has4 : PSpec Tryz.prog 9 [gridV 4 4 ex4, .isl (.strs [kPan1, sMos]) .none] (.bool true) := by
  have := has_spec 4 ex4 [kPan1, sMos] ex4_ok (by decide)
  obtain ⟨h1, h2⟩ := ex4_B
  rw [show hasB 4 ex4 [kPan1, sMos] = true from by
    unfold hasB
    simp only [List.all_cons, List.all_nil, has_pan, has_mos, h1, h2, Bool.and_self]] at this
  exact pspec_sup this sup_b
def exHasP : PSp := fun xs K => match xs with
  | [g, .isl (.strs ks) .none] => (VC (g = gridV 3 3 ex3 ∧ ks = [sNor, kSem1, kMag1, sAss]) ∧ K (.bool true)) ∨ (VC (g = gridV 3 3 ex3 ∧ ks = [kPan1]) ∧ K (.bool false)) ∨ (VC (g = gridV 4 4 ex4 ∧ ks = [kPan1, sMos]) ∧ K (.bool true))
  | _ => False
theorem exHas_ok : POK Tryz.prog 9 exHasP := by
  intro xs K h
  unfold exHasP at h
  split at h
  · rcases h with ⟨⟨rfl, rfl⟩, h⟩ | ⟨⟨rfl, rfl⟩, h⟩ | ⟨⟨rfl, rfl⟩, h⟩
    · exact ⟨_, h, has3a⟩
    · exact ⟨_, h, has3b⟩
    · exact ⟨_, h, has4⟩
  · exact h.elim
noncomputable def cpEx : CPT := cpAdd 27 (pureCC (atC True [.int .i64 3] (.tup [gridV 3 3 ex3, .int .i64 0]))) (cpAdd 28 (pureCC (atC True [.int .i64 4] (.tup [gridV 4 4 ex4, .int .i64 0]))) (cpAdd 29 (pureCC bimagicP) (cpAdd 24 (pureCC (atC True [gridV 9 9 (madeL 9 bimF)] (.tup [.int .i64 (mulM 9 (madeL 9 bimF)), .int .i64 0]))) (cpAdd 9 (pureCC exHasP) noC))))
theorem cpEx_ok : CPOK Tryz.prog cpEx := cpAdd_ok (pureCC_ok (atC_ok fun _ => sia3_spec)) (cpAdd_ok (pureCC_ok (atC_ok fun _ => pan4_spec)) (cpAdd_ok (pureCC_ok bimagic_ok) (cpAdd_ok (pureCC_ok (atC_ok fun _ => mmB_spec)) (cpAdd_ok (pureCC_ok exHas_ok) noC_ok))))
theorem loom_spec : PSpec Tryz.prog 7 [] (.bool true) := by
  have hm : 2 ≤ mulM 9 (madeL 9 bimF) := mulM_two (by rw [bim_eq]; exact ter_pwr _ _ _ _ _ _ _ _ _ _ _ _ _ _ _ _ bim_adm)
  refine pspec_of (md := 1) (rf := []) mixed tabOK cpEx_ok Tryz.func7 (by rfl) (by rfl) (by rfl) ?_
  repeat' ((conv => whnf); first | refine And.intro ?_ ?_ | with_reducible exact VC.mk rfl | exact Ok.mk | exact True.intro | refine Nx.mk ?_ | refine Fin.mk ?_ | intro _)
  all_goals ((try refine VC.mk ?_); (try simp only [CL.ncell, CL.cnt, vq] at *); (try omega))
  · conv => whnf
    refine .inl ⟨⟨rfl, rfl⟩, ?_⟩
    repeat' ((conv => whnf); first | refine And.intro ?_ ?_ | with_reducible exact VC.mk rfl | exact Ok.mk | exact True.intro | refine Nx.mk ?_ | refine Fin.mk ?_ | (intro hq; (try (exact absurd hq (by decide)))))
    all_goals ((try refine VC.mk ?_); (try simp only [CL.ncell, CL.cnt, vq] at *); (try omega))
    conv => whnf
    refine .inr (.inl ⟨⟨rfl, rfl⟩, ?_⟩)
    repeat' ((conv => whnf); first | refine And.intro ?_ ?_ | with_reducible exact VC.mk rfl | exact Ok.mk | exact True.intro | refine Nx.mk ?_ | refine Fin.mk ?_ | (intro hq; (try (exact absurd hq (by decide)))))
    all_goals ((try refine VC.mk ?_); (try simp only [CL.ncell, CL.cnt, vq] at *); (try omega))
    conv => whnf
    refine .inr (.inr ⟨⟨rfl, rfl⟩, ?_⟩)
    repeat' ((conv => whnf); first | refine And.intro ?_ ?_ | with_reducible exact VC.mk rfl | exact Ok.mk | exact True.intro | refine Nx.mk ?_ | refine Fin.mk ?_ | (intro hq; (try (exact absurd hq (by decide)))))
    all_goals ((try refine VC.mk ?_); (try simp only [CL.ncell, CL.cnt, vq] at *); (try omega))
    rw [decide_eq_true hm]
    exact sup_b
def loomP : PSp := fun xs K => match xs with
  | [] => VC (True) ∧ K (.bool true)
  | _ => False
theorem loom_ok : POK Tryz.prog 7 loomP := by
  intro xs K h
  unfold loomP at h
  split at h
  · exact ⟨_, h.2, loom_spec⟩
  · exact h.elim
end Go.Eng.YtobnbkoeocdhbaaGreatDoor
namespace Go.Eng.YtobnbkoeocdhbaaGreatDoor
open Go.Proofs
set_option maxRecDepth 100000
set_option maxHeartbeats 0
set_option linter.unusedVariables false
set_option linter.unusedSimpArgs false
theorem Mod_spec (a n : Int) (ha : -4611686018427387904 ≤ a ∧ a ≤ 4611686018427387904) (hn : 0 < n ∧ n ≤ 1000000) : PSpec Tryz.prog 80 [.int .i64 a, .int .i64 n] (.int .i64 (a % n)) := by
  have h1 : -n < a.tmod n := by have := Int.lt_tmod_of_pos a hn.1; omega
  have h2 : a.tmod n < n := Int.tmod_lt_of_pos a hn.1
  refine pspec_of (md := 1) (rf := []) mixed tabOK noC_ok Tryz.func80 (by rfl) (by rfl) (by rfl) ?_
  repeat' ((conv => whnf); first | refine And.intro ?_ ?_ | with_reducible exact VC.mk rfl | exact Ok.mk | exact True.intro | refine Nx.mk ?_ | refine Fin.mk ?_ | intro _)
  all_goals ((try refine VC.mk ?_); (try simp only [CL.ncell, CL.cnt, vq] at *); (try omega))
  rw [← mod_eq a n hn.1]; exact Sup.of rfl
def ModP : PSp := fun xs K => match xs with
  | [.int .i64 a, .int .i64 n] => VC ((-4611686018427387904 ≤ a ∧ a ≤ 4611686018427387904) ∧ 0 < n ∧ n ≤ 1000000) ∧ K (.int .i64 (a % n))
  | _ => False
theorem Mod_ok : POK Tryz.prog 80 ModP := by
  intro xs K h
  unfold ModP at h
  split at h
  · exact ⟨_, h.2, Mod_spec _ _ h.1.get.1 h.1.get.2⟩
  · exact h.elim
noncomputable def cpL2 : CPT := cpAdd 80 (pureCC ModP) noC
theorem cpL2_ok : CPOK Tryz.prog cpL2 := cpAdd_ok (pureCC_ok Mod_ok) noC_ok
theorem rPlace_spec (n s0 s1 x0 x1 b0 b1 k : Int) (hn : 1 ≤ n ∧ n ≤ 16) (hk : 1 ≤ k ∧ k ≤ 1000000) (h : ∀ x ∈ [s0, s1, x0, x1, b0, b1], -4611686018427387904 ≤ x ∧ x ≤ 4611686018427387904) :
    PSpec Tryz.prog 39 [.agg [.int .i64 n, .int .i64 s0, .int .i64 s1, .int .i64 x0, .int .i64 x1, .int .i64 b0, .int .i64 b1], .int .i64 k] (.tup [.int .i64 (rowOf n (s0 % n) (x0 % n) (b0 % n) k), .int .i64 (rowOf n (s1 % n) (x1 % n) (b1 % n) k)]) := by
  simp only [List.mem_cons, List.not_mem_nil, or_false, forall_eq_or_imp, forall_eq] at h
  obtain ⟨h1, h2, h3, h4, h5, h6⟩ := h
  have r1 := row_bd n s0 x0 b0 k hn hk
  have r2 := row_bd n s1 x1 b1 k hn hk
  refine pspec_of (md := 0) (rf := []) mixed tabOK cpL2_ok Tryz.func39 (by rfl) (by rfl) (by rfl) ?_
  repeat' ((conv => whnf); first | refine And.intro ?_ ?_ | with_reducible exact VC.mk rfl | exact Ok.mk | exact True.intro | refine Nx.mk ?_ | refine Fin.mk ?_ | intro _)
  all_goals ((try refine VC.mk ?_); (try simp only [CL.ncell, CL.cnt, vq] at *); (try omega))
  all_goals (first | (refine Sup.of ?_; first | rfl | (simp [*, resOf]; done)) | (refine Sup.via ?_; repeat' ((conv => whnf); first | refine And.intro ?_ ?_ | with_reducible exact VC.mk rfl | exact Ok.mk | exact True.intro | refine Nx.mk ?_ | refine Fin.mk ?_ | intro _); all_goals ((try refine VC.mk ?_); (try simp only [CL.ncell, CL.cnt, vq] at *); (try omega)); all_goals (try (simp [CL.sub]; done))))
def rPlaceP : PSp := fun xs K => match xs with
  | [.agg [.int .i64 n, .int .i64 s0, .int .i64 s1, .int .i64 x0, .int .i64 x1, .int .i64 b0, .int .i64 b1], .int .i64 k] => VC ((1 ≤ n ∧ n ≤ 16) ∧ (1 ≤ k ∧ k ≤ 1000000) ∧ ∀ x ∈ [s0, s1, x0, x1, b0, b1], -4611686018427387904 ≤ x ∧ x ≤ 4611686018427387904) ∧ K (.tup [.int .i64 (rowOf n (s0 % n) (x0 % n) (b0 % n) k), .int .i64 (rowOf n (s1 % n) (x1 % n) (b1 % n) k)])
  | _ => False
theorem rPlace_ok : POK Tryz.prog 39 rPlaceP := by
  intro xs K h
  unfold rPlaceP at h
  split at h
  · exact ⟨_, h.2, rPlace_spec _ _ _ _ _ _ _ _ h.1.get.1 h.1.get.2.1 h.1.get.2.2⟩
  · exact h.elim
theorem rCheckStep_spec (n s0 s1 x0 x1 b0 b1 : Int) : PSpec Tryz.prog 11 [.agg [.int .i64 n, .int .i64 s0, .int .i64 s1, .int .i64 x0, .int .i64 x1, .int .i64 b0, .int .i64 b1]] (.int .i64 (stepErr n s0 s1 x0 x1 b0 b1)) := by
  refine pspec_of (md := 1) (rf := []) mixed tabOK noC_ok Tryz.func11 (by rfl) (by rfl) (by rfl) ?_
  repeat' ((conv => whnf); first | refine And.intro ?_ ?_ | with_reducible exact VC.mk rfl | exact Ok.mk | exact True.intro | refine Nx.mk ?_ | refine Fin.mk ?_ | intro _)
  all_goals ((try refine VC.mk ?_); (try simp only [CL.ncell, CL.cnt, vq] at *); (try omega))
  · all_goals (refine Sup.of ?_; simp_all [resOf, stepErr] <;> omega)
  · unfold stepErr
    obtain ⟨L, hL⟩ : ∃ L : List Int, [s0, s1, x0, x1, b0, b1] = L := ⟨_, rfl⟩
    have hlen : L.length = 6 := by rw [← hL]; rfl
    have hn : ¬ (n < 1 ∨ 16 < n) := by simp_all
    rw [hL]
    conv => whnf
    refine loop_of (X := Nat) (fun i => i ≤ 6 ∧ ∀ j, j < i → farB (L.getD j 0) = false) (fun i => [(4, .int .i64 i)]) (fun i => []) (fun i => 6 - i) 0 ⟨anyB_ok, mixed, tabOK, noC_ok, noY_ok⟩ (by rfl) ⟨by omega, fun j hj => by omega⟩ ?_ ?_
    · repeat' ((conv => whnf); first | refine And.intro ?_ ?_ | with_reducible exact VC.mk rfl | exact Ok.mk | exact True.intro | refine Nx.mk ?_ | refine Fin.mk ?_ | intro _)
      all_goals ((try refine VC.mk ?_); (try simp only [CL.ncell, CL.cnt, vq] at *); (try omega))
    · rintro i ⟨hi, hok⟩
      by_cases hlt : i < 6
      · have hbad : farB (L.getD i 0) = true → Sup (resOf [.int .i64 3]) (.int .i64 (if (n < 1 ∨ 16 < n) ∨ L.any farB = true then 3 else 0)) := fun h => by
          rw [if_pos (.inr (List.any_eq_true.2 ⟨L.getD i 0, by rw [List.getD_eq_getElem?_getD, List.getElem?_eq_getElem (by omega)]; exact List.getElem_mem _, h⟩))]; exact Sup.of rfl
        repeat' ((conv => whnf); first | refine And.intro ?_ ?_ | with_reducible exact VC.mk rfl | exact Ok.mk | exact True.intro | refine Nx.mk ?_ | refine Fin.mk ?_ | intro _)
        all_goals ((try refine VC.mk ?_); (try simp only [CL.ncell, CL.cnt, vq] at *); (try omega))
        · exact hbad (by unfold farB; simp_all)
        · refine ⟨i + 1, [], ⟨⟨by omega, fun j hj => ?_⟩, by omega⟩, ?_⟩
          · by_cases e : j = i
            · subst e; unfold farB; simp_all
            · exact hok j (by omega)
          · repeat' ((conv => whnf); first | refine And.intro ?_ ?_ | with_reducible exact VC.mk rfl | exact Ok.mk | exact True.intro | refine Nx.mk ?_ | refine Fin.mk ?_ | intro _)
            all_goals ((try refine VC.mk ?_); (try simp only [CL.ncell, CL.cnt, vq] at *); (try omega))
        · exact hbad (by unfold farB; simp_all)
      · have : i = 6 := by omega
        subst this
        have e : ¬ ((n < 1 ∨ 16 < n) ∨ L.any farB = true) := by
          rintro (h | h)
          · exact hn h
          · obtain ⟨x, hx, hf⟩ := List.any_eq_true.1 h
            obtain ⟨j, hj, rfl⟩ := List.getElem_of_mem hx
            have := hok j (by omega)
            rw [List.getD_eq_getElem?_getD, List.getElem?_eq_getElem hj] at this
            simp at this; rw [this] at hf; cases hf
        rw [if_neg e]
        repeat' ((conv => whnf); first | refine And.intro ?_ ?_ | with_reducible exact VC.mk rfl | exact Ok.mk | exact True.intro | refine Nx.mk ?_ | refine Fin.mk ?_ | intro _)
        all_goals ((try refine VC.mk ?_); (try simp only [CL.ncell, CL.cnt, vq] at *); (try omega))
        all_goals (try exact Sup.of rfl)
  · all_goals (refine Sup.of ?_; simp_all [resOf, stepErr] <;> omega)
noncomputable def cpM : CPT := cpAdd 39 (pureCC rPlaceP) noC
theorem cpM_ok : CPOK Tryz.prog cpM := cpAdd_ok (pureCC_ok rPlace_ok) noC_ok
theorem rMeet_spec (n s0 s1 x0 x1 b0 b1 : Int) (hn : 1 ≤ n ∧ n ≤ 16) (h : ∀ x ∈ [s0, s1, x0, x1, b0, b1], -999999999 ≤ x ∧ x ≤ 999999999) :
    PSpec Tryz.prog 13 [.agg [.int .i64 n, .int .i64 s0, .int .i64 s1, .int .i64 x0, .int .i64 x1, .int .i64 b0, .int .i64 b1]] (meetV (cellS n s0 s1 x0 x1 b0 b1) (n * n).toNat) := by
  have h1 := mul_bd (show 0 ≤ n ∧ n ≤ 16 by omega) (show 0 ≤ n ∧ n ≤ 16 by omega)
  have h' : ∀ x ∈ [s0, s1, x0, x1, b0, b1], -4611686018427387904 ≤ x ∧ x ≤ 4611686018427387904 := fun x hx => by have := h x hx; omega
  refine pspec_of (md := 1) (rf := []) mixed tabOK cpM_ok Tryz.func13 (by rfl) (by rfl) (by rfl) ?_
  repeat' ((conv => whnf); first | refine And.intro ?_ ?_ | with_reducible exact VC.mk rfl | exact Ok.mk | exact True.intro | refine Nx.mk ?_ | refine Fin.mk ?_ | intro _)
  all_goals ((try refine VC.mk ?_); (try simp only [CL.ncell, CL.cnt, vq] at *); (try omega))
  obtain ⟨N, hN⟩ : ∃ N, N = (n * n).toNat := ⟨_, rfl⟩
  have hN' : (N : Int) = n * n := by omega
  have hce := fun y => cellS_eq (s0 := s0) (s1 := s1) (x0 := x0) (x1 := x1) (b0 := b0) (b1 := b1) hn.1 y
  have hcb := fun y => cellS_lt (s0 := s0) (s1 := s1) (x0 := x0) (x1 := x1) (b0 := b0) (b1 := b1) hn.1 y
  obtain ⟨c, hc⟩ : ∃ c, c = cellS n s0 s1 x0 x1 b0 b1 := ⟨_, rfl⟩
  rw [← hc] at hce hcb
  rw [← hN] at hcb
  rw [← hN, ← hc]
  conv => whnf
  refine loop_of (X := Nat) (fun y => y ≤ N ∧ ∀ j, j < y → meetAt c N j = false) (fun y => [(5, .int .i64 ((y : Int) + 1))]) (fun y => [(1, .cells (.ints .i64 (gAt c N y)) false)]) (fun y => N - y) 0 ⟨anyB_ok, mixed, tabOK, cpM_ok, noY_ok⟩ (by rfl) ⟨by omega, fun j hj => by omega⟩ ?_ ?_
  · repeat' ((conv => whnf); first | refine And.intro ?_ ?_ | with_reducible exact VC.mk rfl | exact Ok.mk | exact True.intro | refine Nx.mk ?_ | refine Fin.mk ?_ | intro _)
    all_goals ((try refine VC.mk ?_); (try simp only [CL.ncell, CL.cnt, vq] at *); (try omega))
  · rintro y ⟨hy, hm⟩
    by_cases hlt : y < N
    · have e1 := hcb y
      have e2 := gAt_len c N y
      have e3 := hce y
      have e4 := rowS_bd (n := n) (s := s0 % n) (x := x0 % n) (b := b0 % n) (k := (y : Int) + 1) hn
      have e5 := rowS_bd (n := n) (s := s1 % n) (x := x1 % n) (b := b1 % n) (k := (y : Int) + 1) hn
      have e6 := gAt_getD c N y (c y)
      repeat' ((conv => whnf); first | refine And.intro ?_ ?_ | with_reducible exact VC.mk rfl | exact Ok.mk | exact True.intro | refine Nx.mk ?_ | refine Fin.mk ?_ | intro _)
      all_goals ((try refine VC.mk ?_); (try simp only [CL.ncell, CL.cnt, vq] at *); (try omega))
      all_goals (try simp only [e3, Int.toNat_natCast] at *)
      all_goals (try omega)
      · exact ⟨by omega, by omega, h'⟩
      · have e : meetOf c N = some y := find_some hlt (by unfold meetAt; simp only [decide_eq_true_eq]; omega) hm
        unfold meetV
        rw [e]
        all_goals (first | (refine Sup.of ?_; first | rfl | (simp [*, resOf]; done)) | (refine Sup.via ?_; repeat' ((conv => whnf); first | refine And.intro ?_ ?_ | with_reducible exact VC.mk rfl | exact Ok.mk | exact True.intro | refine Nx.mk ?_ | refine Fin.mk ?_ | intro _); all_goals ((try refine VC.mk ?_); (try simp only [CL.ncell, CL.cnt, vq] at *); (try omega)); all_goals (try (simp [CL.sub]; done))))
      · refine ⟨y + 1, [], ⟨⟨by omega, fun j hj => ?_⟩, by omega⟩, ?_⟩
        · by_cases e : j = y
          · subst e; unfold meetAt; simp only [decide_eq_false_iff_not]; omega
          · exact hm j (by omega)
        · repeat' ((conv => whnf); first | refine And.intro ?_ ?_ | with_reducible exact VC.mk rfl | exact Ok.mk | exact True.intro | refine Nx.mk ?_ | refine Fin.mk ?_ | intro _)
          all_goals ((try refine VC.mk ?_); (try simp only [CL.ncell, CL.cnt, vq] at *); (try omega))
          rw [gAt_succ]
    · have : N = y := by omega
      subst this
      have e : meetOf c N = none := find_none hm
      unfold meetV
      rw [e]
      repeat' ((conv => whnf); first | refine And.intro ?_ ?_ | with_reducible exact VC.mk rfl | exact Ok.mk | exact True.intro | refine Nx.mk ?_ | refine Fin.mk ?_ | intro _)
      all_goals ((try refine VC.mk ?_); (try simp only [CL.ncell, CL.cnt, vq] at *); (try omega))
      all_goals (first | (refine Sup.of ?_; first | rfl | (simp [*, resOf]; done)) | (refine Sup.via ?_; repeat' ((conv => whnf); first | refine And.intro ?_ ?_ | with_reducible exact VC.mk rfl | exact Ok.mk | exact True.intro | refine Nx.mk ?_ | refine Fin.mk ?_ | intro _); all_goals ((try refine VC.mk ?_); (try simp only [CL.ncell, CL.cnt, vq] at *); (try omega)); all_goals (try (simp [CL.sub]; done))))
theorem CheckKind_spec (s : ByteArray) : PSpec Tryz.prog 12 [.str s] (.int .i64 (kindErr s)) := by
  refine pspec_of (md := 0) (rf := []) mixed tabOK noC_ok Tryz.func12 (by rfl) (by rfl) (by rfl) ?_
  repeat' ((conv => whnf); first | refine And.intro ?_ ?_ | with_reducible exact VC.mk rfl | exact Ok.mk | exact True.intro | refine Nx.mk ?_ | refine Fin.mk ?_ | intro _)
  all_goals ((try refine VC.mk ?_); (try simp only [CL.ncell, CL.cnt, vq] at *); (try omega))
  all_goals (refine Sup.of ?_; simp_all [resOf, kindErr])
end Go.Eng.YtobnbkoeocdhbaaGreatDoor
namespace Go.Eng.YtobnbkoeocdhbaaGreatDoor
open Go.Proofs
set_option maxRecDepth 100000
set_option maxHeartbeats 0
set_option linter.unusedVariables false
set_option linter.unusedSimpArgs false
def sumN (f : Nat → Nat) (n : Nat) : Nat := Nat.rec 0 (fun i s => s + f i) n
def allN (f : Nat → Bool) (n : Nat) : Bool := Nat.rec true (fun i s => match f i with | true => s | false => false) n
theorem allN_iff {f : Nat → Bool} : ∀ {n : Nat}, allN f n = true ↔ ∀ i, i < n → f i = true := by
  intro n
  induction n with
  | zero => exact ⟨fun _ i h => by omega, fun _ => rfl⟩
  | succ n ih =>
    have e : allN f (n + 1) = match f n with | true => allN f n | false => false := rfl
    rw [e]
    cases h : f n with
    | false => simp; exact ⟨n, by omega, h⟩
    | true =>
      simp only
      rw [ih]
      constructor
      · intro g i hi
        by_cases e : i = n
        · subst e; exact h
        · exact g i (by omega)
      · intro g i hi; exact g i (by omega)
theorem sumN_cast (f : Nat → Nat) : ∀ n : Nat, ((sumN f n : Nat) : Int) = sumF (fun i => (f i : Int)) n := by
  intro n
  induction n with
  | zero => rfl
  | succ n ih =>
    have e : sumN f (n + 1) = sumN f n + f n := rfl
    rw [e, sumF]; push_cast; rw [ih]
/-! what is reckoned for all orders -/
def cntN (n y r : Nat) : Nat := sumN (fun b => match Nat.beq ((b * y) % n) r with | true => 1 | false => 0) n
def cntOK (n y : Nat) : Bool := allN (fun r => Nat.beq (cntN n y r) (match Nat.beq (r % Nat.gcd y n) 0 with | true => Nat.gcd y n | false => 0)) n
theorem cnt_all8 : allN (fun n => allN (fun y => cntOK (n + 1) y) (n + 1)) 8 = true := by decide +kernel
theorem cnt_9 : allN (fun y => cntOK 9 y) 9 = true := by decide +kernel
theorem cnt_10 : allN (fun y => cntOK 10 y) 10 = true := by decide +kernel
theorem cnt_11 : allN (fun y => cntOK 11 y) 11 = true := by decide +kernel
theorem cnt_12 : allN (fun y => cntOK 12 y) 12 = true := by decide +kernel
theorem cnt_13 : allN (fun y => cntOK 13 y) 13 = true := by decide +kernel
theorem cnt_14 : allN (fun y => cntOK 14 y) 14 = true := by decide +kernel
theorem cnt_15 : allN (fun y => cntOK 15 y) 15 = true := by decide +kernel
theorem cnt_16 : allN (fun y => cntOK 16 y) 16 = true := by decide +kernel
def clsA (n d a0 : Nat) : Nat := sumN (fun a => match Nat.beq (a % d) a0 with | true => a + 1 | false => 0) n
def clsB (n d a0 : Nat) : Nat := sumN (fun a => match Nat.beq (a % d) a0 with | true => a | false => 0) n
def clsOK (n d : Nat) : Bool := match Nat.beq (n % d) 0 with
  | true => allN (fun a0 => Nat.beq (2 * (d * clsA n d a0)) (n * (2 * a0 + n + 2 - d)) && Nat.beq (2 * (d * clsB n d a0)) (n * (2 * a0 + n - d))) d
  | false => true
theorem cls_all : allN (fun n => allN (fun d => clsOK (n + 1) (d + 1)) (n + 1)) 16 = true := by decide +kernel
theorem cnt_ok {n y : Nat} (hn : 1 ≤ n ∧ n ≤ 16) (hy : y < n) : cntOK n y = true := by
  rcases Nat.lt_or_ge n 9 with h | h
  · obtain ⟨k, rfl⟩ : ∃ k, n = k + 1 := ⟨n - 1, by omega⟩
    exact allN_iff.1 (allN_iff.1 cnt_all8 k (by omega)) y hy
  · have : n = 9 ∨ n = 10 ∨ n = 11 ∨ n = 12 ∨ n = 13 ∨ n = 14 ∨ n = 15 ∨ n = 16 := by omega
    rcases this with rfl | rfl | rfl | rfl | rfl | rfl | rfl | rfl
    · exact allN_iff.1 cnt_9 y hy
    · exact allN_iff.1 cnt_10 y hy
    · exact allN_iff.1 cnt_11 y hy
    · exact allN_iff.1 cnt_12 y hy
    · exact allN_iff.1 cnt_13 y hy
    · exact allN_iff.1 cnt_14 y hy
    · exact allN_iff.1 cnt_15 y hy
    · exact allN_iff.1 cnt_16 y hy
theorem beq_iff {a b : Nat} : Nat.beq a b = true ↔ a = b := ⟨Nat.eq_of_beq_eq_true, fun h => by subst h; exact Nat.beq_refl _⟩
theorem match_beq {α : Type} (a b : Nat) (x y : α) : (match Nat.beq a b with | true => x | false => y) = if a = b then x else y := by
  by_cases h : a = b
  · rw [if_pos h, beq_iff.2 h]
  · rw [if_neg h]
    cases e : Nat.beq a b with
    | true => exact absurd (beq_iff.1 e) h
    | false => rfl
theorem cnt_sum {n y : Nat} (hn : 1 ≤ n ∧ n ≤ 16) (hy : y < n) {r : Nat} (hr : r < n) : sumF (fun b => if (b * y) % n = r then 1 else 0) n = if r % Nat.gcd y n = 0 then (Nat.gcd y n : Int) else 0 := by
  have h := beq_iff.1 (allN_iff.1 (cnt_ok hn hy) r hr)
  rw [match_beq] at h
  unfold cntN at h
  have h2 := congrArg (fun (x : Nat) => (x : Int)) h
  simp only [sumN_cast] at h2
  have e : sumF (fun b => if (b * y) % n = r then (1 : Int) else 0) n = sumF (fun i => ((match Nat.beq (i * y % n) r with | true => 1 | false => 0 : Nat) : Int)) n := sumF_congr fun i _ => by rw [match_beq]; split <;> rfl
  rw [e, h2]; split <;> rfl
theorem cls_sum {n d a0 : Nat} (hn : 1 ≤ n ∧ n ≤ 16) (hd : 1 ≤ d) (hdn : d ∣ n) (ha : a0 < d) :
    2 * ((d : Int) * sumF (fun a => if a % d = a0 then (a : Int) + 1 else 0) n) = n * (2 * a0 + n + 2 - d) ∧ 2 * ((d : Int) * sumF (fun a => if a % d = a0 then (a : Int) else 0) n) = n * (2 * a0 + n - d) := by
  have hle := Nat.le_of_dvd (by omega) hdn
  obtain ⟨k, rfl⟩ : ∃ k, n = k + 1 := ⟨n - 1, by omega⟩
  obtain ⟨j, rfl⟩ : ∃ j, d = j + 1 := ⟨d - 1, by omega⟩
  have h := allN_iff.1 (allN_iff.1 cls_all k (by omega)) j (by omega)
  unfold clsOK at h
  rw [match_beq, if_pos (Nat.mod_eq_zero_of_dvd hdn)] at h
  have h := allN_iff.1 h a0 ha
  rw [Bool.and_eq_true, beq_iff, beq_iff] at h
  generalize k + 1 = n at *
  generalize j + 1 = d at *
  obtain ⟨h1, h2⟩ := h
  unfold clsA at h1
  unfold clsB at h2
  have h1 := congrArg (fun (x : Nat) => (x : Int)) h1
  have h2 := congrArg (fun (x : Nat) => (x : Int)) h2
  rw [Int.natCast_mul, Int.natCast_mul, sumN_cast, Int.natCast_mul] at h1 h2
  have e1 : sumF (fun a => if a % d = a0 then (a : Int) + 1 else 0) n = sumF (fun i => ((match Nat.beq (i % d) a0 with | true => i + 1 | false => 0 : Nat) : Int)) n := sumF_congr fun i _ => by rw [match_beq]; split <;> simp
  have e2 : sumF (fun a => if a % d = a0 then (a : Int) else 0) n = sumF (fun i => ((match Nat.beq (i % d) a0 with | true => i | false => 0 : Nat) : Int)) n := sumF_congr fun i _ => by rw [match_beq]; split <;> simp
  rw [e1, e2]
  have f1 : ((2 * a0 + n + 2 - d : Nat) : Int) = 2 * a0 + n + 2 - d := by omega
  have f2 : ((2 * a0 + n - d : Nat) : Int) = 2 * a0 + n - d := by omega
  rw [f1] at h1
  rw [f2] at h2
  exact ⟨h1, h2⟩
/-- one congruence modulo d -/
theorem one_sol {d x t : Nat} (hd : 1 ≤ d) (hx : Nat.gcd x d = 1) : ∃ a0, a0 < d ∧ ∀ a, (a * x) % d = t % d ↔ a % d = a0 := by
  have inj : ∀ i j, i < j → j < d → (i * x) % d ≠ (j * x) % d := fun i j hij hj e => by
    have h1 := Nat.sub_mod_eq_zero_of_mod_eq e.symm
    rw [← Nat.sub_mul] at h1
    have h2 := Nat.Coprime.dvd_of_dvd_mul_right (Nat.Coprime.symm hx) (Nat.dvd_of_mod_eq_zero h1)
    have := Nat.le_of_dvd (by omega) h2
    omega
  obtain ⟨a0, h1, h2⟩ := inj_surj (c := fun i => (i * x) % d) (N := d) (fun i _ => Nat.mod_lt _ (by omega)) inj (t % d) (Nat.mod_lt _ (by omega))
  refine ⟨a0, h1, fun a => ?_⟩
  have e : (a * x) % d = (a % d * x) % d := by simp [Nat.mul_mod]
  have hm : a % d < d := Nat.mod_lt _ (by omega)
  rw [e]
  constructor
  · intro h
    rcases Nat.lt_trichotomy (a % d) a0 with hh | hh | hh
    · exact absurd (h.trans h2.symm) (inj _ _ hh h1)
    · exact hh
    · exact absurd (h2.trans h.symm) (inj _ _ hh hm)
  · intro h; rw [h]; exact h2
theorem modr {x n : Nat} (h : x < 2 * n) : x % n = if x < n then x else x - n := by
  by_cases h1 : x < n
  · rw [if_pos h1, Nat.mod_eq_of_lt h1]
  · rw [if_neg h1, Nat.mod_eq_sub_mod (by omega), Nat.mod_eq_of_lt (by omega)]
/-- how many solutions of the second digit there are -/
theorem half_cnt {n x y t : Nat} (hn : 1 ≤ n ∧ n ≤ 16) (hy : y < n) (ht : t < n) (hg : Nat.gcd (Nat.gcd x y) n = 1) : ∃ a0, a0 < Nat.gcd y n ∧ ∀ a, sumF (fun b => if (a * x + b * y) % n = t then 1 else 0) n = if a % Nat.gcd y n = a0 then (Nat.gcd y n : Int) else 0 := by
  have hd : 1 ≤ Nat.gcd y n := Nat.gcd_pos_of_pos_right _ (by omega)
  have hdn : Nat.gcd y n ∣ n := Nat.gcd_dvd_right _ _
  obtain ⟨a0, h1, h2⟩ := one_sol (x := x) (t := t) hd (by rw [← Nat.gcd_assoc]; exact hg)
  refine ⟨a0, h1, fun a => ?_⟩
  have hu : (a * x) % n < n := Nat.mod_lt _ (by omega)
  have hr : (t + (n - (a * x) % n)) % n < n := Nat.mod_lt _ (by omega)
  have e1 : sumF (fun b => if (a * x + b * y) % n = t then (1 : Int) else 0) n = sumF (fun b => if (b * y) % n = (t + (n - (a * x) % n)) % n then 1 else 0) n := sumF_congr fun b _ => by
    have hv : (b * y) % n < n := Nat.mod_lt _ (by omega)
    have : (a * x + b * y) % n = t ↔ (b * y) % n = (t + (n - (a * x) % n)) % n := by
      rw [Nat.add_mod, modr (x := a * x % n + b * y % n) (n := n) (by omega), modr (x := t + (n - (a * x) % n)) (n := n) (by omega)]
      split <;> split <;> omega
    simp only [this]
  rw [e1, cnt_sum hn hy hr, Nat.mod_mod_of_dvd _ hdn]
  have hun : (a * x) % n % Nat.gcd y n = (a * x) % Nat.gcd y n := Nat.mod_mod_of_dvd _ hdn
  have key : (t + (n - (a * x) % n)) % Nat.gcd y n = 0 ↔ a % Nat.gcd y n = a0 := by
    rw [← h2 a, ← hun]
    generalize (a * x) % n = u at *
    have e2 : (t + (n - u)) + u = t + n := by omega
    have e3 := congrArg (· % Nat.gcd y n) e2
    simp only [Nat.add_mod (t + (n - u)) u, Nat.add_mod t n, Nat.mod_eq_zero_of_dvd hdn, Nat.add_zero, Nat.mod_mod] at e3
    have hw : (t + (n - u)) % Nat.gcd y n < Nat.gcd y n := Nat.mod_lt _ (by omega)
    have hz : u % Nat.gcd y n < Nat.gcd y n := Nat.mod_lt _ (by omega)
    rw [modr (x := (t + (n - u)) % Nat.gcd y n + u % Nat.gcd y n) (n := Nat.gcd y n) (by omega)] at e3
    split at e3 <;> omega
  by_cases h : a % Nat.gcd y n = a0
  · rw [if_pos (key.2 h), if_pos h]
  · rw [if_neg (fun hh => h (key.1 hh)), if_neg h]
end Go.Eng.YtobnbkoeocdhbaaGreatDoor
namespace Go.Eng.YtobnbkoeocdhbaaGreatDoor
open Go.Proofs
set_option maxRecDepth 100000
set_option maxHeartbeats 0
set_option linter.unusedVariables false
set_option linter.unusedSimpArgs false
theorem constD (n : Nat) : 2 * constOf n = n * ((n : Int) * n + 1) := by
  unfold constOf
  have h : (n : Int) * ((n : Int) * n + 1) % 2 = 0 := by
    rcases Nat.mod_two_eq_zero_or_one n with h | h
    · obtain ⟨k, hk⟩ : ∃ k : Int, (n : Int) = 2 * k := ⟨(n : Int) / 2, by omega⟩
      rw [hk, Int.mul_assoc, Int.mul_emod_right]
    · obtain ⟨k, hk⟩ : ∃ k : Int, (n : Int) = 2 * k + 1 := ⟨(n : Int) / 2, by omega⟩
      have : (n : Int) * ((n : Int) * n + 1) = 2 * ((2 * k + 1) * (2 * k * k + 2 * k + 1)) := by rw [hk]; grind
      rw [this, Int.mul_emod_right]
  omega
theorem sumF_zero {f : Nat → Int} : ∀ {n : Nat}, (∀ i, i < n → f i = 0) → sumF f n = 0 := by
  intro n h
  have := sumF_congr (g := fun _ => (0 : Int)) h
  rw [this, sumF_const]; simp
theorem sumF_pos {f : Nat → Int} {n i : Nat} (h0 : ∀ j, j < n → 0 ≤ f j) (hi : i < n) (h : sumF f n = 0) : f i = 0 := by
  induction n with
  | zero => omega
  | succ n ih =>
    have h1 := sumF_nonneg (f := f) (n := n) fun j hj => h0 j (by omega)
    have h2 := h0 n (by omega)
    simp only [sumF] at h
    by_cases e : i = n
    · subst e; omega
    · exact ih (fun j hj => h0 j (by omega)) (by omega) (by omega)
def lineS (n x y t : Nat) : Int := sumF (fun b => sumF (fun a => if (a * x + b * y) % n = t then (b : Int) * n + a + 1 else 0) n) n
structure LineV (n x y t d e a0 b0 : Nat) : Prop where
  ha : a0 < d
  hb : b0 < e
  sum : 2 * lineS n x y t = n * (2 * a0 + n + 2 - d) + n * (n * (2 * b0 + n - e))
  on : ∀ a b, a < n → b < n → (a * x + b * y) % n = t → a % d = a0 ∧ b % e = b0
  ex : ∃ a b, a < n ∧ b < n ∧ (a * x + b * y) % n = t
theorem line_val {n x y t : Nat} (hn : 1 ≤ n ∧ n ≤ 16) (hx : x < n) (hy : y < n) (ht : t < n) (hg : Nat.gcd (Nat.gcd x y) n = 1) : ∃ a0 b0, LineV n x y t (Nat.gcd y n) (Nat.gcd x n) a0 b0 := by
  obtain ⟨a0, h1, h2⟩ := half_cnt hn hy ht hg
  obtain ⟨b0, g1, g2⟩ := half_cnt (x := y) (y := x) hn hx ht (by rw [Nat.gcd_comm y x]; exact hg)
  have hd : 1 ≤ Nat.gcd y n := Nat.gcd_pos_of_pos_right _ (by omega)
  have hdn : Nat.gcd y n ∣ n := Nat.gcd_dvd_right _ _
  have he : 1 ≤ Nat.gcd x n := Nat.gcd_pos_of_pos_right _ (by omega)
  have hen : Nat.gcd x n ∣ n := Nat.gcd_dvd_right _ _
  have k1 := (cls_sum hn hd hdn h1).1
  have k2 := (cls_sum hn he hen g1).2
  generalize Nat.gcd y n = d at *
  generalize Nat.gcd x n = e at *
  refine ⟨a0, b0, h1, g1, ?_, fun a b ha hb hab => ⟨?_, ?_⟩, ?_⟩
  · have e1 : lineS n x y t = sumF (fun a => if a % d = a0 then (d : Int) * (a + 1) else 0) n + sumF (fun b => if b % e = b0 then (n : Int) * (e * b) else 0) n := by
      have s1 : lineS n x y t = sumF (fun b => sumF (fun a => ((a : Int) + 1) * (if (a * x + b * y) % n = t then 1 else 0)) n + sumF (fun a => ((b : Int) * n) * (if (b * y + a * x) % n = t then 1 else 0)) n) n :=
        sumF_congr fun b _ => by
          rw [← sumF_add]
          exact sumF_congr fun a _ => by rw [Nat.add_comm (b * y)]; split <;> omega
      rw [s1, sumF_add]
      congr 1
      · rw [sumF_swap]
        exact sumF_congr fun a _ => by rw [sumF_mul, h2 a]; split <;> simp [Int.mul_comm]
      · exact sumF_congr fun b _ => by rw [sumF_mul, g2 b]; split <;> grind
    have e2 : sumF (fun a => if a % d = a0 then (d : Int) * (a + 1) else 0) n = d * sumF (fun a => if a % d = a0 then (a : Int) + 1 else 0) n := by
      rw [← sumF_mul]; exact sumF_congr fun a _ => by split <;> simp
    have e3 : sumF (fun b => if b % e = b0 then (n : Int) * (e * b) else 0) n = n * (e * sumF (fun b => if b % e = b0 then (b : Int) else 0) n) := by
      rw [← sumF_mul, ← sumF_mul]; exact sumF_congr fun a _ => by split <;> simp
    rw [e1, e2, e3, Int.mul_add, k1, ← k2]
    grind
  · refine Classical.byContradiction fun hne => ?_
    have := h2 a
    rw [if_neg hne] at this
    have := sumF_pos (fun j _ => by split <;> omega) hb this
    rw [if_pos hab] at this; omega
  · refine Classical.byContradiction fun hne => ?_
    have := g2 b
    rw [if_neg hne] at this
    have := sumF_pos (fun j _ => by split <;> omega) ha this
    rw [Nat.add_comm, if_pos hab] at this; omega
  · refine Classical.byContradiction fun hne => ?_
    have hle := Nat.le_of_dvd (by omega) hdn
    have := h2 a0
    rw [if_pos (Nat.mod_eq_of_lt h1)] at this
    have z : sumF (fun b => if (a0 * x + b * y) % n = t then (1 : Int) else 0) n = 0 := sumF_zero fun b hb => if_neg fun hh => hne ⟨a0, b, by omega, hb, hh⟩
    omega
theorem line_const {n x y t d e a0 b0 : Nat} (hn : 1 ≤ n) (hd : d ≤ n) (he : e ≤ n) (V : LineV n x y t d e a0 b0) : lineS n x y t = constOf n ↔ (2 * a0 + 1 = d ∧ 2 * b0 + 1 = e) := by
  obtain ⟨h1, h2, hs, _, _⟩ := V
  have hc := constD n
  generalize lineS n x y t = S at *
  generalize constOf (n : Int) = C at *
  have e0 : 2 * S - 2 * C = n * ((2 * a0 + 1 - d) + n * (2 * b0 + 1 - e)) := by rw [hs, hc]; grind
  constructor
  · intro h
    rw [h, Int.sub_self] at e0
    have e1 : (2 * (a0 : Int) + 1 - d) + n * (2 * b0 + 1 - e) = 0 := by
      rcases Int.mul_eq_zero.1 e0.symm with hh | hh
      · omega
      · exact hh
    have e2 := small_dvd (n := (n : Int)) (a := 2 * a0 + 1 - d) (by omega) ⟨-(2 * b0 + 1 - e), by rw [Int.mul_neg]; omega⟩ (by omega) (by omega)
    have e3 : (n : Int) * (2 * b0 + 1 - e) = 0 := by omega
    rcases Int.mul_eq_zero.1 e3 with hh | hh <;> omega
  · rintro ⟨g1, g2⟩
    have f1 : (2 * (a0 : Int) + 1 - d) = 0 := by omega
    have f2 : (2 * (b0 : Int) + 1 - e) = 0 := by omega
    rw [f1, f2] at e0
    simp at e0
    omega
theorem gcd_le {y n : Nat} (hn : 1 ≤ n) : Nat.gcd y n ≤ n := Nat.le_of_dvd (by omega) (Nat.gcd_dvd_right _ _)
/-- all lines of a direction -/
theorem dir_iff {n x y : Nat} (hn : 1 ≤ n ∧ n ≤ 16) (hx : x < n) (hy : y < n) (hg : Nat.gcd (Nat.gcd x y) n = 1) (T : Nat → Nat) (hT : ∀ k, k < n → T k < n) (k0 : Nat) (hk0 : k0 < n) (h0 : T k0 = 0) :
    (∀ k, k < n → lineS n x y (T k) = constOf n) ↔ (Nat.gcd x n = 1 ∧ Nat.gcd y n = 1) := by
  constructor
  · intro h
    have h := h k0 hk0
    rw [h0] at h
    obtain ⟨a0, b0, V⟩ := line_val hn hx hy (show 0 < n by omega) hg
    have hh := (line_const hn.1 (gcd_le hn.1) (gcd_le hn.1) V).1 h
    have := V.on 0 0 (by omega) (by omega) (by simp)
    simp only [Nat.zero_mod] at this
    omega
  · rintro ⟨h1, h2⟩ k hk
    obtain ⟨a0, b0, V⟩ := line_val hn hx hy (hT k hk) hg
    rw [line_const hn.1 (gcd_le hn.1) (gcd_le hn.1) V]
    have a := V.ha
    have b := V.hb
    omega
end Go.Eng.YtobnbkoeocdhbaaGreatDoor
namespace Go.Eng.YtobnbkoeocdhbaaGreatDoor
open Go.Proofs
set_option maxRecDepth 100000
set_option maxHeartbeats 0
set_option linter.unusedVariables false
set_option linter.unusedSimpArgs false
def rowN (n s x b k : Nat) : Nat := (s + k % n * x + k / n * b) % n
theorem rowOf_nat (n s x b k : Nat) : rowOf (n : Int) s x b ((k : Int) + 1) = (rowN n s x b k : Int) := by
  unfold rowOf rowN; rw [Int.add_sub_cancel]; push_cast; rfl
theorem cellN_nat (n s0 s1 x0 x1 b0 b1 k : Nat) : cellN n s0 s1 x0 x1 b0 b1 k = n * rowN n s0 x0 b0 k + rowN n s1 x1 b1 k := by
  unfold cellN
  rw [cellOf_eq, rowOf_nat, rowOf_nat]
  have : ((rowN n s0 x0 b0 k : Int) * n + rowN n s1 x1 b1 k) = ((n * rowN n s0 x0 b0 k + rowN n s1 x1 b1 k : Nat) : Int) := by push_cast; rw [Int.mul_comm]
  rw [this, Int.toNat_natCast]
theorem rowN_lt {n s x b k : Nat} (hn : 1 ≤ n) : rowN n s x b k < n := Nat.mod_lt _ (by omega)
theorem dm {n x y : Nat} (hy : y < n) : (n * x + y) / n = x ∧ (n * x + y) % n = y := by
  rw [Nat.mul_add_div (by omega), Nat.div_eq_of_lt hy, Nat.mul_add_mod, Nat.mod_eq_of_lt hy]
  exact ⟨by omega, rfl⟩
/-- a sum over the cells with a property, by their numbers -/
theorem sq_sum {n : Nat} (hn : 1 ≤ n) {c : Nat → Nat} {r q : Nat → Nat} (hr : ∀ k, r k < n) (hq : ∀ k, q k < n) (hc : ∀ k, c k = n * r k + q k) (inj : ∀ i j, i < j → j < n * n → c i ≠ c j) (G : Nat → Nat → Prop) [∀ i j, Decidable (G i j)] :
    sumF (fun y => if G (y / n) (y % n) then (gAt c (n * n) (n * n)).getD y 0 else 0) (n * n) = sumF (fun b => sumF (fun a => if G (r (b * n + a)) (q (b * n + a)) then (b : Int) * n + a + 1 else 0) n) n := by
  have hb : ∀ i, i < n * n → c i < n * n := fun i _ => by rw [hc]; exact flat_idx (hr i) (hq i)
  rw [← sumF_perm hb inj (fun y => if G (y / n) (y % n) then (gAt c (n * n) (n * n)).getD y 0 else 0), sumF_block]
  refine sumF_congr fun b hbn => sumF_congr fun a han => ?_
  have hk : b * n + a < n * n := by have := flat_idx (n := n) hbn han; rw [Nat.mul_comm b]; exact this
  rw [gAt_at hb inj (n * n) (b * n + a) hk (Nat.le_refl _), hc, (dm (hq _)).1, (dm (hq _)).2]
  push_cast
  rfl
theorem path_sum {n : Nat} (hn : 1 ≤ n) (f : Nat → Int) (h : Nat → Nat) (hh : ∀ i, i < n → h i < n) : sumF (fun y => if y % n = h (y / n) then f y else 0) (n * n) = sumF (fun i => f (n * i + h i)) n := by
  rw [sumF_block]
  refine sumF_congr fun i hi => ?_
  have e : sumF (fun j => if (i * n + j) % n = h ((i * n + j) / n) then f (i * n + j) else 0) n = sumF (fun j => if j = h i then f (i * n + j) else 0) n := sumF_congr fun j hj => by
    rw [Nat.mul_comm i n, (dm hj).1, (dm hj).2]
  rw [e, sumF_at, if_pos (hh i hi), Nat.mul_comm i n]
theorem row_sum {n : Nat} (hn : 1 ≤ n) (f : Nat → Int) {i : Nat} (hi : i < n) : sumF (fun y => if y / n = i then f y else 0) (n * n) = sumF (fun j => f (n * i + j)) n := by
  rw [sumF_block]
  have e : sumF (fun I => sumF (fun j => if (I * n + j) / n = i then f (I * n + j) else 0) n) n = sumF (fun I => if I = i then sumF (fun j => f (n * I + j)) n else 0) n := sumF_congr fun I hI => by
    by_cases h : I = i
    · subst h
      rw [if_pos rfl]
      exact sumF_congr fun j hj => by rw [Nat.mul_comm I n, (dm hj).1, if_pos rfl]
    · rw [if_neg h]
      exact sumF_zero fun j hj => by rw [Nat.mul_comm I n, (dm hj).1, if_neg h]
  rw [e, sumF_at, if_pos hi]
theorem mod_iff {n p q : Nat} (hn : 1 ≤ n) : p % n = q % n ↔ (n : Int) ∣ (p : Int) - q := by
  constructor
  · intro h
    exact emod_eq_dvd (by rw [← Int.natCast_emod, ← Int.natCast_emod, h])
  · rintro ⟨k, hk⟩
    have h1 : (p : Int) % n = (q : Int) % n := emod_of_sub hk
    rw [← Int.natCast_emod, ← Int.natCast_emod] at h1
    exact_mod_cast h1
theorem dvd_shift {n u v : Int} (k : Int) (h : u - v = n * k) : n ∣ u ↔ n ∣ v := by
  constructor
  · rintro ⟨j, hj⟩; exact ⟨j - k, by rw [Int.mul_sub]; omega⟩
  · rintro ⟨j, hj⟩; exact ⟨j + k, by rw [Int.mul_add]; omega⟩
theorem lin_red {n X Y a b : Nat} : (a * (X % n) + b * (Y % n)) % n = (a * X + b * Y) % n := by
  rw [Nat.add_mod, Nat.mul_mod_mod, Nat.mul_mod_mod, ← Nat.add_mod]
/-! the four directions -/
structure Red (n s0 s1 x0 x1 b0 b1 : Nat) : Prop where
  n1 : 1 ≤ n
  h0 : s0 < n
  h1 : s1 < n
  h2 : x0 < n
  h3 : x1 < n
  h4 : b0 < n
  h5 : b1 < n
theorem cond_row {n s x y a b i : Nat} (hn : 1 ≤ n) (hs : s < n) (hi : i < n) : (s + a * x + b * y) % n = i ↔ (a * x + b * y) % n = (i + (n - s)) % n := by
  have e : (s + a * x + b * y) % n = i ↔ (s + a * x + b * y) % n = i % n := by rw [Nat.mod_eq_of_lt hi]
  rw [e, mod_iff hn, mod_iff hn]
  refine dvd_shift 1 ?_
  push_cast [Int.ofNat_sub (Nat.le_of_lt hs)]
  omega
theorem cond_up {n s0 s1 x0 x1 b0 b1 a b k : Nat} (R : Red n s0 s1 x0 x1 b0 b1) (hk : k < n) :
    (s1 + a * x1 + b * b1) % n = ((s0 + a * x0 + b * b0) % n + k) % n ↔ (a * ((x0 + (n - x1)) % n) + b * ((b0 + (n - b1)) % n)) % n = (s1 + (n - s0) + (n - k)) % n := by
  obtain ⟨hn, h0, h1, h2, h3, h4, h5⟩ := R
  rw [Nat.mod_add_mod, lin_red, mod_iff hn, mod_iff hn]
  have e : (n : Int) ∣ ((s1 + a * x1 + b * b1 : Nat) : Int) - ((s0 + a * x0 + b * b0 + k : Nat) : Int) ↔ (n : Int) ∣ -(((s1 + a * x1 + b * b1 : Nat) : Int) - ((s0 + a * x0 + b * b0 + k : Nat) : Int)) := Int.dvd_neg.symm
  rw [e]
  refine dvd_shift (2 - a - b) ?_
  push_cast [Int.ofNat_sub (Nat.le_of_lt h3), Int.ofNat_sub (Nat.le_of_lt h5), Int.ofNat_sub (Nat.le_of_lt h0), Int.ofNat_sub (Nat.le_of_lt hk)]
  grind
theorem cond_dn {n s0 s1 x0 x1 b0 b1 a b k : Nat} (R : Red n s0 s1 x0 x1 b0 b1) (hk : k < n) :
    (s1 + a * x1 + b * b1) % n = (k + n - (s0 + a * x0 + b * b0) % n) % n ↔ (a * ((x0 + x1) % n) + b * ((b0 + b1) % n)) % n = (k + (n - s0) + (n - s1)) % n := by
  obtain ⟨hn, h0, h1, h2, h3, h4, h5⟩ := R
  have hm : (s0 + a * x0 + b * b0) % n < n := Nat.mod_lt _ (by omega)
  have hd := Nat.div_add_mod (s0 + a * x0 + b * b0) n
  generalize (s0 + a * x0 + b * b0) % n = m at *
  generalize (s0 + a * x0 + b * b0) / n = w at *
  rw [lin_red, mod_iff hn, mod_iff hn]
  refine dvd_shift (1 - w) ?_
  have hd' : (n : Int) * w + m = s0 + a * x0 + b * b0 := by exact_mod_cast hd
  have e1 : ((k + n - m : Nat) : Int) = k + n - m := by omega
  rw [e1]
  push_cast [Int.ofNat_sub (Nat.le_of_lt h0), Int.ofNat_sub (Nat.le_of_lt h1)]
  grind
/-- the square's lines -/
structure SqS (n s0 s1 x0 x1 b0 b1 : Nat) (L : List Int) : Prop where
  row : ∀ i, i < n → sumF (fun j => sqAt n L i j) n = lineS n x0 b0 ((i + (n - s0)) % n)
  col : ∀ j, j < n → sumF (fun i => sqAt n L i j) n = lineS n x1 b1 ((j + (n - s1)) % n)
  up : ∀ k, k < n → sumF (fun i => sqAt n L i ((i + k) % n)) n = lineS n ((x0 + (n - x1)) % n) ((b0 + (n - b1)) % n) ((s1 + (n - s0) + (n - k)) % n)
  dn : ∀ k, k < n → sumF (fun i => sqAt n L i ((k + n - i) % n)) n = lineS n ((x0 + x1) % n) ((b0 + b1) % n) ((k + (n - s0) + (n - s1)) % n)
theorem sq_lines {n s0 s1 x0 x1 b0 b1 : Nat} (R : Red n s0 s1 x0 x1 b0 b1) (inj : ∀ i j, i < j → j < n * n → cellN n s0 s1 x0 x1 b0 b1 i ≠ cellN n s0 s1 x0 x1 b0 b1 j) :
    SqS n s0 s1 x0 x1 b0 b1 (gAt (cellN n s0 s1 x0 x1 b0 b1) (n * n) (n * n)) := by
  have hn := R.n1
  have key := fun G [∀ i j, Decidable (G i j)] => sq_sum hn (c := cellN n s0 s1 x0 x1 b0 b1) (r := rowN n s0 x0 b0) (q := rowN n s1 x1 b1) (fun k => rowN_lt hn) (fun k => rowN_lt hn) (fun k => cellN_nat n s0 s1 x0 x1 b0 b1 k) inj G
  have rn : ∀ s x y a b, a < n → rowN n s x y (b * n + a) = (s + a * x + b * y) % n := fun s x y a b ha => by
    unfold rowN; rw [Nat.mul_comm b n, (dm ha).1, (dm ha).2]
  generalize gAt (cellN n s0 s1 x0 x1 b0 b1) (n * n) (n * n) = L at *
  refine ⟨fun i hi => ?_, fun j hj => ?_, fun k hk => ?_, fun k hk => ?_⟩
  · have e := row_sum hn (fun y => L.getD y 0) hi
    unfold sqAt
    rw [← e, key (fun I _ => I = i)]
    exact sumF_congr fun b _ => sumF_congr fun a ha => by simp only [rn _ _ _ _ _ ha, cond_row hn R.h0 hi]
  · have e := path_sum hn (fun y => L.getD y 0) (fun _ => j) (fun _ _ => hj)
    unfold sqAt
    rw [← e, key (fun _ J => J = j)]
    exact sumF_congr fun b _ => sumF_congr fun a ha => by simp only [rn _ _ _ _ _ ha, cond_row hn R.h1 hj]
  · have e := path_sum hn (fun y => L.getD y 0) (fun i => (i + k) % n) (fun _ _ => Nat.mod_lt _ (by omega))
    unfold sqAt
    rw [← e, key (fun I J => J = (I + k) % n)]
    exact sumF_congr fun b _ => sumF_congr fun a ha => by simp only [rn _ _ _ _ _ ha, cond_up R hk]
  · have e := path_sum hn (fun y => L.getD y 0) (fun i => (k + n - i) % n) (fun _ _ => Nat.mod_lt _ (by omega))
    unfold sqAt
    rw [← e, key (fun I J => J = (k + n - I) % n)]
    exact sumF_congr fun b _ => sumF_congr fun a ha => by simp only [rn _ _ _ _ _ ha, cond_dn R hk]
end Go.Eng.YtobnbkoeocdhbaaGreatDoor
namespace Go.Eng.YtobnbkoeocdhbaaGreatDoor
open Go.Proofs
set_option maxRecDepth 100000
set_option maxHeartbeats 0
set_option linter.unusedVariables false
set_option linter.unusedSimpArgs false
theorem cop_nat (n : Nat) (a : Int) (x : Nat) (h : a % n = (x : Int)) : coprime n a = decide (Nat.gcd x n = 1) := by
  unfold coprime; rw [h, Int.gcd_natCast_natCast]
theorem gcdN_nat (n : Nat) (a : Int) (x : Nat) (h : a % n = (x : Int)) : gcdN n a = (Nat.gcd x n : Int) := by
  unfold gcdN; rw [h, Int.gcd_natCast_natCast]
theorem mod_nat {n x : Nat} (h : x < n) : (x : Int) % n = x := Int.emod_eq_of_lt (by omega) (by omega)
theorem sub_nat {n x y : Nat} (hn : 1 ≤ n) (hy : y < n) : ((x : Int) - y) % n = (((x + (n - y)) % n : Nat) : Int) := by
  push_cast [Int.ofNat_sub (Nat.le_of_lt hy)]
  exact emod_of_sub (k := -1) (by omega)
theorem add_nat (n x y : Nat) : ((x : Int) + y) % n = (((x + y) % n : Nat) : Int) := by push_cast; rfl
/-- no common part -/
theorem gcd3 {n u v : Nat} {D : Int} (h : Int.gcd (D % n) n = 1) (al be ga : Int) (hD : D = u * al + v * be + n * ga) : Nat.gcd (Nat.gcd u v) n = 1 := by
  have p1 : Nat.gcd (Nat.gcd u v) n ∣ n := Nat.gcd_dvd_right _ _
  have p2 : Nat.gcd (Nat.gcd u v) n ∣ u := Nat.dvd_trans (Nat.gcd_dvd_left _ _) (Nat.gcd_dvd_left _ _)
  have p3 : Nat.gcd (Nat.gcd u v) n ∣ v := Nat.dvd_trans (Nat.gcd_dvd_left _ _) (Nat.gcd_dvd_right _ _)
  generalize Nat.gcd (Nat.gcd u v) n = p at *
  obtain ⟨k1, e1⟩ := p1
  obtain ⟨k2, e2⟩ := p2
  obtain ⟨k3, e3⟩ := p3
  have e1' : (n : Int) = p * k1 := by exact_mod_cast e1
  have e2' : (u : Int) = p * k2 := by exact_mod_cast e2
  have e3' : (v : Int) = p * k3 := by exact_mod_cast e3
  have hm := Int.emod_add_mul_ediv D n
  have q1 : (p : Int) ∣ D % n := ⟨k2 * al + k3 * be + k1 * ga - k1 * (D / n), by
    have : D % n = D - n * (D / n) := by omega
    generalize D / n = w at *
    rw [this, hD, e1', e2', e3']; grind⟩
  have q2 : (p : Int) ∣ n := ⟨k1, e1'⟩
  have q3 : p ∣ Int.gcd (D % n) n := Nat.dvd_gcd (by have := Int.natAbs_dvd_natAbs.2 q1; simpa using this) (by have := Int.natAbs_dvd_natAbs.2 q2; simpa using this)
  rw [h] at q3
  exact Nat.dvd_one.1 q3
/-- two digits that lead back to the first cell -/
theorem back_inj {n s0 s1 x0 x1 b0 b1 : Nat} (R : Red n s0 s1 x0 x1 b0 b1) (inj : ∀ i j, i < j → j < n * n → cellN n s0 s1 x0 x1 b0 b1 i ≠ cellN n s0 s1 x0 x1 b0 b1 j) (p q : Int) (h0 : (n : Int) ∣ p * x0 + q * b0) (h1 : (n : Int) ∣ p * x1 + q * b1) : (n : Int) ∣ p ∧ (n : Int) ∣ q := by
  have hn := R.n1
  have hp : 0 ≤ p % n ∧ p % n < n := ⟨Int.emod_nonneg _ (by omega), Int.emod_lt_of_pos _ (by omega)⟩
  have hq : 0 ≤ q % n ∧ q % n < n := ⟨Int.emod_nonneg _ (by omega), Int.emod_lt_of_pos _ (by omega)⟩
  have mp := Int.emod_add_mul_ediv p n
  have mq := Int.emod_add_mul_ediv q n
  obtain ⟨a, ha⟩ : ∃ a : Nat, p % n = a := ⟨(p % n).toNat, by omega⟩
  obtain ⟨b, hb⟩ : ∃ b : Nat, q % n = b := ⟨(q % n).toNat, by omega⟩
  have han : a < n := by omega
  have hbn : b < n := by omega
  rw [ha] at mp
  rw [hb] at mq
  have z : ∀ x y : Nat, (n : Int) ∣ p * x + q * y → ∀ s : Nat, (s + a * x + b * y) % n = s % n := fun x y h s => by
    rw [mod_iff hn]
    obtain ⟨k, hk⟩ := h
    generalize p / n = w1 at *
    generalize q / n = w2 at *
    refine ⟨k - w1 * x - w2 * y, ?_⟩
    push_cast
    have e : (p : Int) * x + q * y = ((a : Int) + n * w1) * x + (b + n * w2) * y := by rw [mp, mq]
    rw [hk] at e
    grind
  have hk : b * n + a < n * n := by have := flat_idx (n := n) hbn han; rw [Nat.mul_comm b]; exact this
  have hz : b * n + a = 0 := by
    refine Classical.byContradiction fun hne => inj 0 (b * n + a) (by omega) hk ?_
    rw [cellN_nat, cellN_nat]
    have e : ∀ s x y, rowN n s x y (b * n + a) = (s + a * x + b * y) % n := fun s x y => by unfold rowN; rw [Nat.mul_comm b n, (dm han).1, (dm han).2]
    have e0 : ∀ s x y, rowN n s x y 0 = s % n := fun s x y => by unfold rowN; simp
    rw [e, e, e0, e0, z _ _ h0, z _ _ h1]
  have hb0 : b = 0 := by
    rcases Nat.eq_zero_or_pos b with h | h
    · exact h
    · have := Nat.mul_pos h (show 0 < n by omega); omega
  have ha0 : a = 0 := by subst hb0; omega
  subst ha0; subst hb0
  exact ⟨⟨p / n, by omega⟩, ⟨q / n, by omega⟩⟩
theorem sq_conv {n s0 s1 x0 x1 b0 b1 : Nat} (R : Red n s0 s1 x0 x1 b0 b1) (inj : ∀ i j, i < j → j < n * n → cellN n s0 s1 x0 x1 b0 b1 i ≠ cellN n s0 s1 x0 x1 b0 b1 j) : isSq n x0 x1 b0 b1 = true := by
  have hn := R.n1
  unfold isSq coprime
  rw [decide_eq_true_eq]
  generalize hD : (x0 : Int) * b1 - x1 * b0 = D
  refine Classical.byContradiction fun hne => ?_
  have g1 : (Int.gcd (D % n) n : Int) ∣ n := Int.gcd_dvd_right ..
  have g2 : (Int.gcd (D % n) n : Int) ∣ D % n := Int.gcd_dvd_left ..
  have g0 : 0 < Int.gcd (D % n) n := Int.gcd_pos_of_ne_zero_right _ (by omega)
  have hm := Int.emod_add_mul_ediv D n
  generalize Int.gcd (D % n) n = g at *
  obtain ⟨t, ht⟩ := g1
  obtain ⟨j, hj⟩ := g2
  have hD2 : D = g * (j + t * (D / n)) := by
    generalize D / n = w at *
    rw [← hm, hj, ht]; grind
  generalize j + t * (D / n) = r at *
  have ht1 : 0 < t := by
    rcases Int.lt_trichotomy t 0 with h | h | h
    · have := Int.mul_le_mul_of_nonneg_left (show t ≤ -1 by omega) (show (0 : Int) ≤ g by omega); omega
    · subst h; omega
    · exact h
  have htn : t < n := by
    have := Int.mul_le_mul_of_nonneg_right (show (2 : Int) ≤ g by omega) (show 0 ≤ t by omega)
    omega
  have c1 := back_inj R inj (t * b0) (-(t * x0)) ⟨0, by grind⟩ ⟨-r, by rw [ht]; grind⟩
  have c2 := back_inj R inj (t * b1) (-(t * x1)) ⟨r, by rw [ht]; grind⟩ ⟨0, by grind⟩
  have c3 := back_inj R inj t 0 (by have := (Int.dvd_neg.1 c1.2); simpa using this) (by have := (Int.dvd_neg.1 c2.2); simpa using this)
  have := Int.le_of_dvd ht1 c3.1
  omega
/-- a diagonal and its digits -/
theorem bal_line {n s0 s1 x0 x1 b0 b1 : Nat} (R : Red n s0 s1 x0 x1 b0 b1) (inj : ∀ i j, i < j → j < n * n → cellN n s0 s1 x0 x1 b0 b1 i ≠ cellN n s0 s1 x0 x1 b0 b1 j) (q : Nat → Nat) (hq : ∀ i, i < n → q i < n) (X Y T : Nat)
    (hc : ∀ a b, a < n → b < n → ((s1 + a * x1 + b * b1) % n = q ((s0 + a * x0 + b * b0) % n) ↔ (a * X + b * Y) % n = T)) {a0 c0 : Nat} (V : LineV n X Y T (Nat.gcd Y n) (Nat.gcd X n) a0 c0) (u v : Int) (hu : u % n = (X : Int)) (hv : v % n = (Y : Int)) (h : Nat → Int)
    (hh : ∀ i, i < n → h i = (gAt (cellN n s0 s1 x0 x1 b0 b1) (n * n) (n * n)).getD (n * i + q i) 0) : balB n h u v = true ↔ (2 * a0 + 1 = Nat.gcd Y n ∧ 2 * c0 + 1 = Nat.gcd X n) := by
  have hn := R.n1
  unfold balB
  rw [gcdN_nat n u X hu, gcdN_nat n v Y hv, Int.toNat_natCast]
  have hd : 1 ≤ Nat.gcd Y n := Nat.gcd_pos_of_pos_right _ (by omega)
  have he : 1 ≤ Nat.gcd X n := Nat.gcd_pos_of_pos_right _ (by omega)
  generalize Nat.gcd Y n = d at *
  generalize Nat.gcd X n = e at *
  have hcb : ∀ i, i < n * n → cellN n s0 s1 x0 x1 b0 b1 i < n * n := fun i _ => by rw [cellN_nat]; exact flat_idx (rowN_lt hn) (rowN_lt hn)
  have rn : ∀ s x y a b, a < n → rowN n s x y (b * n + a) = (s + a * x + b * y) % n := fun s x y a b ha => by
    unfold rowN; rw [Nat.mul_comm b n, (dm ha).1, (dm ha).2]
  -- the number at a place of the diagonal
  have at1 : ∀ a b, a < n → b < n → (a * X + b * Y) % n = T → ∃ i, i < n ∧ h i = ((b * n + a : Nat) : Int) + 1 := fun a b ha hb hab => by
    have hk : b * n + a < n * n := by have := flat_idx (n := n) hb ha; rw [Nat.mul_comm b]; exact this
    have h1 := gAt_at hcb inj (n * n) (b * n + a) hk (Nat.le_refl _)
    rw [cellN_nat, rn _ _ _ _ _ ha, rn _ _ _ _ _ ha, (hc a b ha hb).2 hab] at h1
    exact ⟨_, Nat.mod_lt _ (by omega), by rw [hh _ (Nat.mod_lt _ (by omega))]; exact h1⟩
  have at2 : ∀ i, i < n → ∃ a b, a < n ∧ b < n ∧ (a * X + b * Y) % n = T ∧ h i = ((b * n + a : Nat) : Int) + 1 := fun i hi => by
    obtain ⟨k, k1, k2, k3⟩ := gAt_full hcb inj (n * i + q i) (flat_idx hi (hq i hi))
    have ha : k % n < n := Nat.mod_lt _ (by omega)
    have hb : k / n < n := Nat.div_lt_of_lt_mul k1
    have hdm : k / n * n + k % n = k := by have := Nat.div_add_mod k n; rw [Nat.mul_comm]; exact this
    refine ⟨k % n, k / n, ha, hb, (hc _ _ ha hb).1 ?_, by rw [hh i hi, k3, hdm]⟩
    rw [cellN_nat] at k2
    have r1 := rowN_lt (n := n) (s := s0) (x := x0) (b := b0) (k := k) hn
    have r2 := rowN_lt (n := n) (s := s1) (x := x1) (b := b1) (k := k) hn
    have e1 : rowN n s0 x0 b0 k = i := by
      have a := congrArg (· / n) k2
      simp only [(dm r2).1, (dm (hq i hi)).1] at a
      exact a
    have e2 : rowN n s1 x1 b1 k = q i := by
      have a := congrArg (· % n) k2
      simp only [(dm r2).2, (dm (hq i hi)).2] at a
      exact a
    unfold rowN at e1 e2
    rw [e1, e2]
  have dig : ∀ a b : Nat, a < n → (((b * n + a : Nat) : Int) + 1 - 1) % n = a ∧ (((b * n + a : Nat) : Int) + 1 - 1) / n = b := fun a b ha => by
    rw [Int.add_sub_cancel, ← Int.natCast_emod, ← Int.natCast_ediv, Nat.mul_comm b n, (dm ha).1, (dm ha).2]; exact ⟨rfl, rfl⟩
  simp only [Bool.and_eq_true, Bool.not_eq_true', decide_eq_false_iff_not, List.all_eq_true, List.mem_range, balAt, decide_eq_true_eq]
  constructor
  · rintro ⟨⟨g1, g2⟩, g3⟩
    obtain ⟨a, b, ha, hb, hab⟩ := V.ex
    obtain ⟨i, hi, hv⟩ := at1 a b ha hb hab
    have g3 := g3 i hi
    rw [hv, (dig a b ha).1, (dig a b ha).2] at g3
    have o := V.on a b ha hb hab
    have f1 : (a : Int) % d = (a0 : Int) := by rw [← Int.natCast_emod, o.1]
    have f2 : (b : Int) % e = (c0 : Int) := by rw [← Int.natCast_emod, o.2]
    rw [f1, f2] at g3
    omega
  · rintro ⟨g1, g2⟩
    refine ⟨⟨by omega, by omega⟩, fun i hi => ?_⟩
    obtain ⟨a, b, ha, hb, hab, hv⟩ := at2 i hi
    rw [hv, (dig a b ha).1, (dig a b ha).2]
    have o := V.on a b ha hb hab
    have f1 : (a : Int) % d = (a0 : Int) := by rw [← Int.natCast_emod, o.1]
    have f2 : (b : Int) % e = (c0 : Int) := by rw [← Int.natCast_emod, o.2]
    rw [f1, f2]
    omega
end Go.Eng.YtobnbkoeocdhbaaGreatDoor
namespace Go.Eng.YtobnbkoeocdhbaaGreatDoor
open Go.Proofs
set_option maxRecDepth 100000
set_option maxHeartbeats 0
set_option linter.unusedVariables false
set_option linter.unusedSimpArgs false
def kindB (n s0 s1 x0 x1 b0 b1 : Int) (s : ByteArray) : Bool :=
  if s = kSq then isSq n x0 x1 b0 b1 else if s = kSemi then isSemi n x0 x1 b0 b1 else if s = kMag then isMag n s0 s1 x0 x1 b0 b1 else isPan n x0 x1 b0 b1
theorem kindB_sq {n s0 s1 x0 x1 b0 b1 : Int} {s : ByteArray} (h : kindB n s0 s1 x0 x1 b0 b1 s = true) : isSq n x0 x1 b0 b1 = true := by
  unfold kindB at h
  split at h
  · exact h
  · split at h
    · unfold isSemi at h; rw [Bool.and_eq_true] at h; exact h.1
    · split at h
      · unfold isMag isSemi at h; rw [Bool.and_eq_true, Bool.and_eq_true] at h; exact h.1.1
      · unfold isPan isSemi at h; rw [Bool.and_eq_true, Bool.and_eq_true] at h; exact h.1.1
theorem upT0 {n s0 s1 : Nat} (h0 : s0 < n) (h1 : s1 < n) : ∃ k, k < n ∧ (s1 + (n - s0) + (n - k)) % n = 0 := by
  refine ⟨(s1 + (n - s0)) % n, Nat.mod_lt _ (by omega), ?_⟩
  rw [modr (x := s1 + (n - s0)) (n := n) (by omega)]
  split
  · rw [show s1 + (n - s0) + (n - (s1 + (n - s0))) = n by omega, Nat.mod_self]
  · rw [show s1 + (n - s0) + (n - (s1 + (n - s0) - n)) = n + n by omega, Nat.add_mod_right, Nat.mod_self]
theorem dnT0 {n s0 s1 : Nat} (h0 : s0 < n) (h1 : s1 < n) : ∃ k, k < n ∧ (k + (n - s0) + (n - s1)) % n = 0 := by
  refine ⟨(s0 + s1) % n, Nat.mod_lt _ (by omega), ?_⟩
  rw [modr (x := s0 + s1) (n := n) (by omega)]
  split
  · rw [show s0 + s1 + (n - s0) + (n - s1) = n + n by omega, Nat.add_mod_right, Nat.mod_self]
  · rw [show s0 + s1 - n + (n - s0) + (n - s1) = n by omega, Nat.mod_self]
theorem exact_nat {n s0 s1 x0 x1 b0 b1 : Nat} (R : Red n s0 s1 x0 x1 b0 b1) (h16 : n ≤ 16) (s : ByteArray) (hk : kindErr s = 0) :
    kindB n s0 s1 x0 x1 b0 b1 s = true ↔ (meetOf (cellN n s0 s1 x0 x1 b0 b1) (n * n) = none ∧ badLine n (gOf s) (gAt (cellN n s0 s1 x0 x1 b0 b1) (n * n) (n * n)) = none) := by
  have hn := R.n1
  have eN : ((n : Int) * n).toNat = n * n := by rw [← Int.natCast_mul, Int.toNat_natCast]
  have hcb : ∀ i, i < n * n → cellN n s0 s1 x0 x1 b0 b1 i < n * n := fun i _ => by rw [cellN_nat]; exact flat_idx (rowN_lt hn) (rowN_lt hn)
  by_cases hsq : isSq n x0 x1 b0 b1 = true
  · have hm : meetOf (cellN n s0 s1 x0 x1 b0 b1) (n * n) = none := by
      have := meet_none (s0 := (s0 : Int)) (s1 := s1) (show 1 ≤ (n : Int) by omega) hsq
      rw [eN] at this; exact this
    have inj := meetOf_inj hcb hm
    have S := sq_lines R inj
    have hD : Int.gcd (((x0 : Int) * b1 - x1 * b0) % n) n = 1 := by
      unfold isSq coprime at hsq
      exact of_decide_eq_true hsq
    have hX : ((x0 : Int) - x1) % n = (((x0 + (n - x1)) % n : Nat) : Int) := sub_nat hn R.h3
    have hY : ((b0 : Int) - b1) % n = (((b0 + (n - b1)) % n : Nat) : Int) := sub_nat hn R.h5
    have hX' : ((x0 : Int) + x1) % n = (((x0 + x1) % n : Nat) : Int) := add_nat n x0 x1
    have hY' : ((b0 : Int) + b1) % n = (((b0 + b1) % n : Nat) : Int) := add_nat n b0 b1
    have lX : (x0 + (n - x1)) % n < n := Nat.mod_lt _ (by omega)
    have lY : (b0 + (n - b1)) % n < n := Nat.mod_lt _ (by omega)
    have lX' : (x0 + x1) % n < n := Nat.mod_lt _ (by omega)
    have lY' : (b0 + b1) % n < n := Nat.mod_lt _ (by omega)
    have hcu := fun (a b k : Nat) (hk : k < n) => cond_up (a := a) (b := b) R hk
    have hcd := fun (a b k : Nat) (hk : k < n) => cond_dn (a := a) (b := b) R hk
    have Sup := S.up
    have Sdn := S.dn
    generalize (x0 + (n - x1)) % n = X at *
    generalize (b0 + (n - b1)) % n = Y at *
    generalize (x0 + x1) % n = X' at *
    generalize (b0 + b1) % n = Y' at *
    have w1 := Int.emod_add_mul_ediv ((x0 : Int) - x1) n
    have w2 := Int.emod_add_mul_ediv ((b0 : Int) - b1) n
    have w3 := Int.emod_add_mul_ediv ((x0 : Int) + x1) n
    have w4 := Int.emod_add_mul_ediv ((b0 : Int) + b1) n
    rw [hX] at w1
    rw [hY] at w2
    rw [hX'] at w3
    rw [hY'] at w4
    have gR : Nat.gcd (Nat.gcd x0 b0) n = 1 := gcd3 hD b1 (-x1) 0 (by grind)
    have gC : Nat.gcd (Nat.gcd x1 b1) n = 1 := gcd3 hD (-b0) x0 0 (by grind)
    have gU : Nat.gcd (Nat.gcd X Y) n = 1 := gcd3 hD b1 (-x1) (((x0 : Int) - x1) / n * b1 - ((b0 : Int) - b1) / n * x1) (by grind)
    have gD : Nat.gcd (Nat.gcd X' Y') n = 1 := gcd3 hD b1 (-x1) (((x0 : Int) + x1) / n * b1 - ((b0 : Int) + b1) / n * x1) (by grind)
    clear w1 w2 w3 w4
    have cx0 := cop_nat n x0 x0 (mod_nat R.h2)
    have cx1 := cop_nat n x1 x1 (mod_nat R.h3)
    have cb0 := cop_nat n b0 b0 (mod_nat R.h4)
    have cb1 := cop_nat n b1 b1 (mod_nat R.h5)
    have cX := cop_nat n ((x0 : Int) - x1) X hX
    have cY := cop_nat n ((b0 : Int) - b1) Y hY
    have cX' := cop_nat n ((x0 : Int) + x1) X' hX'
    have cY' := cop_nat n ((b0 : Int) + b1) Y' hY'
    have ml : ∀ z, z % n < n := fun z => Nat.mod_lt _ (by omega)
    obtain ⟨ku, ku1, ku2⟩ := upT0 R.h0 R.h1
    obtain ⟨kd, kd1, kd2⟩ := dnT0 R.h0 R.h1
    have dR := dir_iff ⟨hn, h16⟩ R.h2 R.h4 gR (fun i => (i + (n - s0)) % n) (fun _ _ => ml _) s0 R.h0 (by have := R.h0; (try simp only); rw [show s0 + (n - s0) = n by omega, Nat.mod_self])
    have dC := dir_iff ⟨hn, h16⟩ R.h3 R.h5 gC (fun i => (i + (n - s1)) % n) (fun _ _ => ml _) s1 R.h1 (by have := R.h1; (try simp only); rw [show s1 + (n - s1) = n by omega, Nat.mod_self])
    have dU := dir_iff ⟨hn, h16⟩ lX lY gU (fun k => (s1 + (n - s0) + (n - k)) % n) (fun _ _ => ml _) ku ku1 ku2
    have dD := dir_iff ⟨hn, h16⟩ lX' lY' gD (fun k => (k + (n - s0) + (n - s1)) % n) (fun _ _ => ml _) kd kd1 kd2
    -- the diagonals
    obtain ⟨a0, c0, VU⟩ := line_val ⟨hn, h16⟩ lX lY (ml (s1 + (n - s0) + (n - 0))) gU
    obtain ⟨a1, c1, VD⟩ := line_val ⟨hn, h16⟩ lX' lY' (ml (n - 1 + (n - s0) + (n - s1))) gD
    have bU := bal_line R inj (fun i => (i + 0) % n) (fun _ _ => ml _) X Y _ (fun a b _ _ => hcu a b 0 (by omega)) VU ((x0 : Int) - x1) ((b0 : Int) - b1) hX hY (mainAt n (sqL n s0 s1 x0 x1 b0 b1)) (fun i hi => by
      unfold mainAt sqL
      rw [eN, show ((n : Int) * i + i) = ((n * i + i : Nat) : Int) by push_cast; rfl, Int.toNat_natCast, Nat.add_zero, Nat.mod_eq_of_lt hi])
    have bD := bal_line R inj (fun i => (n - 1 + n - i) % n) (fun _ _ => ml _) X' Y' _ (fun a b _ _ => hcd a b (n - 1) (by omega)) VD ((x0 : Int) + x1) ((b0 : Int) + b1) hX' hY' (antiAt n (sqL n s0 s1 x0 x1 b0 b1)) (fun i hi => by
      unfold antiAt sqL
      rw [eN, show ((n : Int) * i + n - 1 - i) = ((n * i + (n - 1 - i) : Nat) : Int) by push_cast [Int.ofNat_sub (show i ≤ n - 1 by omega), Int.ofNat_sub hn]; omega, Int.toNat_natCast]
      rw [show n - 1 + n - i = n - 1 - i + n by omega, Nat.add_mod_right, Nat.mod_eq_of_lt (by omega)])
    rw [← line_const hn (gcd_le hn) (gcd_le hn) VU, ← Sup 0 (by omega), up_first] at bU
    rw [← line_const hn (gcd_le hn) (gcd_le hn) VD, ← Sdn (n - 1) (by omega), dn_last] at bD
    rw [good_iff (by omega)]
    have semi : isSemi n x0 x1 b0 b1 = true ↔ ((∀ i, i < n → sumF (fun j => sqAt n (gAt (cellN n s0 s1 x0 x1 b0 b1) (n * n) (n * n)) i j) n = constOf n) ∧ (∀ j, j < n → sumF (fun i => sqAt n (gAt (cellN n s0 s1 x0 x1 b0 b1) (n * n) (n * n)) i j) n = constOf n)) := by
      unfold isSemi
      rw [hsq, Bool.true_and]
      simp only [List.all_cons, List.all_nil, Bool.and_true, Bool.and_eq_true, cx0, cx1, cb0, cb1, decide_eq_true_eq]
      constructor
      · rintro ⟨h1, h2, h3, h4⟩
        exact ⟨fun i hi => by rw [S.row i hi]; exact dR.2 ⟨h1, h3⟩ i hi, fun j hj => by rw [S.col j hj]; exact dC.2 ⟨h2, h4⟩ j hj⟩
      · rintro ⟨h1, h2⟩
        have f1 := dR.1 fun i hi => by rw [← S.row i hi]; exact h1 i hi
        have f2 := dC.1 fun i hi => by rw [← S.col i hi]; exact h2 i hi
        exact ⟨f1.1, f2.1, f1.2, f2.2⟩
    have hg : (s = kSq ∧ gOf s = 0) ∨ (s = kSemi ∧ gOf s = 1) ∨ (s = kMag ∧ gOf s = 2) ∨ (s = kPan ∧ gOf s = 3) := by
      unfold kindErr at hk
      split at hk
      · rename_i h
        rcases h with rfl | rfl | rfl | rfl
        · exact .inl ⟨rfl, by decide⟩
        · exact .inr (.inl ⟨rfl, by decide⟩)
        · exact .inr (.inr (.inl ⟨rfl, by decide⟩))
        · exact .inr (.inr (.inr ⟨rfl, by decide⟩))
      · omega
    have hSU : (∀ k, k < n → sumF (fun i => sqAt n (gAt (cellN n s0 s1 x0 x1 b0 b1) (n * n) (n * n)) i ((i + k) % n)) n = constOf n) ↔ (Nat.gcd X n = 1 ∧ Nat.gcd Y n = 1) := by
      rw [← dU]; exact ⟨fun h k hk => by rw [← Sup k hk]; exact h k hk, fun h k hk => by rw [Sup k hk]; exact h k hk⟩
    have hSD : (∀ k, k < n → sumF (fun i => sqAt n (gAt (cellN n s0 s1 x0 x1 b0 b1) (n * n) (n * n)) i ((k + n - i) % n)) n = constOf n) ↔ (Nat.gcd X' n = 1 ∧ Nat.gcd Y' n = 1) := by
      rw [← dD]; exact ⟨fun h k hk => by rw [← Sdn k hk]; exact h k hk, fun h k hk => by rw [Sdn k hk]; exact h k hk⟩
    unfold kindB
    rcases hg with ⟨hs, hgo⟩ | ⟨hs, hgo⟩ | ⟨hs, hgo⟩ | ⟨hs, hgo⟩ <;> rw [hgo] <;> subst hs
    · rw [if_pos rfl]
      exact ⟨fun _ => ⟨hm, ⟨fun h => by omega, fun h => by omega, fun h => by omega, fun h => by omega, fun h => by omega, fun h => by omega⟩⟩, fun _ => hsq⟩
    · rw [if_neg (by decide), if_pos rfl, semi]
      exact ⟨fun h => ⟨hm, ⟨fun _ => h.1, fun _ => h.2, fun h => by omega, fun h => by omega, fun h => by omega, fun h => by omega⟩⟩, fun h => ⟨h.2.row (by omega), h.2.col (by omega)⟩⟩
    · rw [if_neg (by decide), if_neg (by decide), if_pos rfl]
      unfold isMag
      rw [Bool.and_eq_true, Bool.and_eq_true, semi, bU, bD]
      exact ⟨fun h => ⟨hm, ⟨fun _ => h.1.1, fun _ => h.1.2, fun _ => h.2.1, fun _ => h.2.2, fun h => by omega, fun h => by omega⟩⟩, fun h => ⟨⟨h.2.row (by omega), h.2.col (by omega)⟩, h.2.d1 (by omega), h.2.d2 (by omega)⟩⟩
    · rw [if_neg (by decide), if_neg (by decide), if_neg (by decide)]
      unfold isPan
      rw [Bool.and_eq_true, semi]
      simp only [List.all_cons, List.all_nil, Bool.and_true, Bool.and_eq_true, cX, cX', cY, cY', decide_eq_true_eq]
      constructor
      · rintro ⟨h1, g1, g2, g3, g4⟩
        have u := hSU.2 ⟨g1, g3⟩
        have d := hSD.2 ⟨g2, g4⟩
        refine ⟨hm, ⟨fun _ => h1.1, fun _ => h1.2, fun _ => ?_, fun _ => ?_, fun _ => u, fun _ => d⟩⟩
        · rw [← up_first]; exact u 0 (by omega)
        · rw [← dn_last]; exact d (n - 1) (by omega)
      · rintro ⟨_, G⟩
        have u := hSU.1 (G.up (by omega))
        have d := hSD.1 (G.dn (by omega))
        exact ⟨⟨G.row (by omega), G.col (by omega)⟩, u.1, d.1, u.2, d.2⟩
  · constructor
    · intro h; exact absurd (kindB_sq h) hsq
    · rintro ⟨hm, _⟩
      exact absurd (sq_conv R (meetOf_inj hcb hm)) hsq
/-- what Admits says is what Refuse finds -/
theorem exact_adm {n s0 s1 x0 x1 b0 b1 : Int} {s : ByteArray} (hn : 1 ≤ n ∧ n ≤ 16) (hk : kindErr s = 0) :
    admB n s0 s1 x0 x1 b0 b1 s = true ↔ (meetOf (cellS n s0 s1 x0 x1 b0 b1) (n.toNat * n.toNat) = none ∧ badLine n.toNat (gOf s) (gAt (cellS n s0 s1 x0 x1 b0 b1) (n.toNat * n.toNat) (n.toNat * n.toNat)) = none) := by
  obtain ⟨m, rfl⟩ : ∃ m : Nat, n = m := ⟨n.toNat, by omega⟩
  rw [Int.toNat_natCast]
  have md : ∀ y : Int, ∃ z : Nat, y % m = z ∧ z < m := fun y => ⟨(y % m).toNat, by have := Int.emod_nonneg y (show (m : Int) ≠ 0 by omega); omega, by have := Int.emod_lt_of_pos y (show (0 : Int) < m by omega); have := Int.emod_nonneg y (show (m : Int) ≠ 0 by omega); omega⟩
  obtain ⟨t0, h0, l0⟩ := md s0
  obtain ⟨t1, h1, l1⟩ := md s1
  obtain ⟨y0, h2, l2⟩ := md x0
  obtain ⟨y1, h3, l3⟩ := md x1
  obtain ⟨c0, h4, l4⟩ := md b0
  obtain ⟨c1, h5, l5⟩ := md b1
  have := exact_nat (n := m) (s0 := t0) (s1 := t1) (x0 := y0) (x1 := y1) (b0 := c0) (b1 := c1) ⟨by omega, l0, l1, l2, l3, l4, l5⟩ (by omega) s hk
  unfold kindB at this
  unfold admB cellS
  rw [h0, h1, h2, h3, h4, h5]
  exact this
end Go.Eng.YtobnbkoeocdhbaaGreatDoor
namespace Go.Eng.YtobnbkoeocdhbaaGreatDoor
open Go.Proofs
set_option maxRecDepth 100000
set_option maxHeartbeats 0
set_option linter.unusedVariables false
set_option linter.unusedSimpArgs false
theorem gAt_norm {c : Nat → Nat} {N : Nat} (hb : ∀ i, i < N → c i < N) (inj : ∀ i j, i < j → j < N → c i ≠ c j) : isNorm (gAt c N N) = true := by
  rw [isNorm_iff, gAt_len]
  refine ⟨fun y hy => ?_, fun x y hxy hy => ?_⟩
  · obtain ⟨i, h1, _, h3⟩ := gAt_full hb inj y hy
    rw [h3]; omega
  · obtain ⟨i, h1, h2, h3⟩ := gAt_full hb inj y hy
    obtain ⟨j, g1, g2, g3⟩ := gAt_full hb inj x (by omega)
    rw [h3, g3]
    intro e
    have : i = j := by omega
    subst this
    omega
theorem kind_bad {n s0 s1 x0 x1 b0 b1 : Int} {s : ByteArray} (h : ¬ (stepErr n s0 s1 x0 x1 b0 b1 = 0 ∧ n ≤ 9 ∧ s ≠ kSq ∧ kindErr s = 0)) : PSpec Tryz.prog 4 [stepV n s0 s1 x0 x1 b0 b1, .str s] (.bp true) := by
  have hS := rCheckStep_spec n s0 s1 x0 x1 b0 b1
  have hK := CheckKind_spec s
  generalize stepErr n s0 s1 x0 x1 b0 b1 = e1 at *
  generalize kindErr s = e2 at *
  have hC := cpAdd_ok (pureCC_ok (atC_ok (C := True) fun _ => hS)) (cpAdd_ok (pureCC_ok (atC_ok (C := True) fun _ => hK)) (cpAdd_ok (pureCC_ok loom_ok) noC_ok))
  clear hS hK
  refine pspec_of (md := 1) (rf := []) mixed tabOK hC Tryz.func4 (by rfl) (by rfl) (by rfl) ?_
  repeat' ((conv => whnf); first | refine And.intro ?_ ?_ | with_reducible exact VC.mk rfl | exact Ok.mk | exact True.intro | refine Nx.mk ?_ | refine Fin.mk ?_ | (intro hq; (try simp only [decide_eq_true_eq, decide_eq_false_iff_not, Bool.not_eq_true, Bool.not_eq_false, Bool.not_eq_true', Bool.not_eq_false', Bool.not_true, Bool.not_false, ite_true, ite_false] at hq); (try (exfalso; first | exact absurd hq (by decide) | omega))))
  all_goals first | exact ⟨trivial⟩ | exact sup_true | (exfalso; exact h ⟨Classical.not_not.1 ‹_›, by omega, ‹_›, Classical.not_not.1 ‹_›⟩)
/-- the lines that a kind names, and the number of its lines -/
theorem kind_ln {s : ByteArray} (hq : s ≠ kSq) (hk : kindErr s = 0) : knownS s ∧ ∀ n : Nat, lnM n s = lineCnt n (gOf s) ∧ 2 * n ≤ lnM n s := by
  have hc : s = kSemi ∨ s = kMag ∨ s = kPan := by
    unfold kindErr at hk
    split at hk
    · rename_i h; rcases h with h | h; · exact absurd h hq
      exact h
    · cases hk
  rcases hc with rfl | rfl | rfl
  · refine ⟨.inl rfl, fun n => ?_⟩
    have e1 : lnM n kSemi = 2 * n := if_pos rfl
    have e2 : lineCnt n (gOf kSemi) = 2 * n := rfl
    omega
  · refine ⟨.inr (.inl rfl), fun n => ?_⟩
    have e1 : lnM n kMag = 2 * n + 2 := rfl
    have e2 : lineCnt n (gOf kMag) = 2 * n + 2 := rfl
    omega
  · refine ⟨.inr (.inr rfl), fun n => ?_⟩
    have e1 : lnM n kPan = 4 * n := rfl
    have e2 : lineCnt n (gOf kPan) = 4 * n := rfl
    omega
theorem rules_law (n s0 s1 x0 x1 b0 b1 : Int) (s : ByteArray) : PSpec Tryz.prog 4 [stepV n s0 s1 x0 x1 b0 b1, .str s] (.bp true) := by
  by_cases hask : stepErr n s0 s1 x0 x1 b0 b1 = 0 ∧ n ≤ 9 ∧ s ≠ kSq ∧ kindErr s = 0
  rotate_left
  · exact kind_bad hask
  obtain ⟨hz, h9, hsq, hk⟩ := hask
  obtain ⟨h1, h2⟩ := stepErr_zero hz
  obtain ⟨hks, hln⟩ := kind_ln hsq hk
  have hS := rCheckStep_spec n s0 s1 x0 x1 b0 b1
  have hK := CheckKind_spec s
  obtain ⟨m, rfl⟩ : ∃ m : Nat, n = m := ⟨n.toNat, by omega⟩
  have eN : ((m : Int) * m).toNat = m * m := by rw [← Int.natCast_mul, Int.toNat_natCast]
  have hmm : ((m * m : Nat) : Int) = (m : Int) * m := by push_cast; rfl
  have hA := admits_spec m s0 s1 x0 x1 b0 b1 s
  have hU := uniform_spec m s0 s1 x0 x1 b0 b1
  have hR := refuse_spec m s0 s1 x0 x1 b0 b1 s
  have hM := rMeet_spec m s0 s1 x0 x1 b0 b1 h1 h2
  have hY := sqSys_spec m s (by omega) hks
  rw [Int.toNat_natCast] at hY
  have ha : askErr m s0 s1 x0 x1 b0 b1 s = 0 := by unfold askErr; rw [if_pos hz, hk]
  have hE := exact_adm (s0 := s0) (s1 := s1) (x0 := x0) (x1 := x1) (b0 := b0) (b1 := b1) h1 hk
  rw [Int.toNat_natCast] at hE
  unfold admitsV at hA
  rw [ha, decide_eq_true rfl, Bool.true_and] at hA
  unfold uniformV at hU
  rw [if_pos hz, eN] at hU
  unfold uniV at hU
  unfold refuseAll at hR
  have hg : (if s = kSq then (0 : Int) else if s = kSemi then 1 else if s = kMag then 2 else 3) = gOf s := rfl
  rw [if_pos ha, hg, Int.toNat_natCast] at hR
  unfold refuseV at hR
  unfold meetV at hM
  rw [eN] at hM
  have hcb : ∀ i, i < m * m → cellS m s0 s1 x0 x1 b0 b1 i < m * m := fun i _ => by
    have := cellS_lt (s0 := s0) (s1 := s1) (x0 := x0) (x1 := x1) (b0 := b0) (b1 := b1) h1.1 i
    rw [eN] at this; exact this
  rw [hz] at hS
  rw [hk] at hK
  cases hm : meetOf (cellS m s0 s1 x0 x1 b0 b1) (m * m) with
  | some y =>
    rw [hm] at hM
    dsimp only at hM
    have hC := cpAdd_ok (pureCC_ok (atC_ok (C := True) fun _ => hS)) (cpAdd_ok (pureCC_ok (atC_ok (C := True) fun _ => hK)) (cpAdd_ok (pureCC_ok (atC_ok (C := True) fun _ => hM)) (cpAdd_ok (pureCC_ok loom_ok) noC_ok)))
    clear hS hK hA hU hR hM hE hY
    refine pspec_of (md := 1) (rf := []) mixed tabOK hC Tryz.func4 (by rfl) (by rfl) (by rfl) ?_
    repeat' ((conv => whnf); first | refine And.intro ?_ ?_ | with_reducible exact VC.mk rfl | exact Ok.mk | exact True.intro | refine Nx.mk ?_ | refine Fin.mk ?_ | (intro hq; (try simp only [decide_eq_true_eq, decide_eq_false_iff_not, Bool.not_eq_true, Bool.not_eq_false, Bool.not_eq_true', Bool.not_eq_false', Bool.not_true, Bool.not_false, ite_true, ite_false] at hq); (try (exfalso; first | exact absurd hq (by decide) | omega))))
    all_goals first | exact ⟨trivial⟩ | exact sup_true | (exfalso; first | omega | exact hsq ‹_› | exact absurd rfl ‹_› | exact absurd ‹_› (by omega)) | skip
  | none =>
    have inj := meetOf_inj hcb hm
    have hN := gAt_norm hcb inj
    rw [hm] at hU hR hM
    have hL := gAt_len (cellS m s0 s1 x0 x1 b0 b1) (m * m) (m * m)
    have hE2 : admB m s0 s1 x0 x1 b0 b1 s = (badLine m (gOf s) (gAt (cellS m s0 s1 x0 x1 b0 b1) (m * m) (m * m))).isNone := by
      rw [Bool.eq_iff_iff, Option.isNone_iff_eq_none, hE]
      exact ⟨fun h => h.2, fun h => ⟨hm, h⟩⟩
    rw [hE2] at hA
    dsimp only at hR hU hM
    generalize gAt (cellS m s0 s1 x0 x1 b0 b1) (m * m) (m * m) = L at *
    have hLb : ∀ x ∈ L, 1 ≤ x ∧ x ≤ 81 := fun x hx => by
      have h81 : m * m ≤ 9 * 9 := Nat.mul_le_mul (by omega) (by omega)
      obtain ⟨i, hi, rfl⟩ := List.getElem_of_mem hx
      have := ((isNorm_iff _).1 hN).1 i hi
      rw [getD_at hi, hL] at this
      omega
    have hF : FigOK m L := ⟨by omega, by rw [hL]; omega, fun x hx => by have := hLb x hx; omega⟩
    have hlens : LnsOK (lnsK m s) := ⟨by have := lnsK_len (n := m) (by omega) s; omega, fun x hx => by have := (lnsK_line (n := m) (by omega) hx).len; omega⟩
    have hsy : sysE ((m : Int) * m) (lnsK m s) = 0 := by
      have := sys_zero (n := m) (by omega)
      rcases hks with rfl | rfl | rfl
      · exact this.1
      · exact this.2.1
      · exact this.2.2
    have hnums : numsE L = 0 := if_neg (by
      rw [List.any_eq_true]
      rintro ⟨x, hx, h⟩
      have := hLb x hx
      simp only [outB, Bool.or_eq_true, decide_eq_true_eq] at h
      omega)
    have hfe : fillE ((m : Int) * m) (lnsK m s) L = 0 := by
      unfold fillE
      rw [hsy, hnums, if_neg (by rw [hL]; omega)]; rfl
    have h17 := rSys_spec ((m : Int) * m) (lnsK m s) hlens
    rw [hsy] at h17
    have hsu := hF.sums s
    rw [Int.toNat_natCast] at hsu
    have h18 := lIsMagic_spec ((m : Int) * m) (lnsK m s) L hlens (by rw [hL]; have : m * m ≤ 9 * 9 := Nat.mul_le_mul (by omega) (by omega); omega) hfe hsu
    have hmag : decide (diffI (sumsL L (lnsK m s) (lnsK m s).length) < 0) = (badLine m (gOf s) L).isNone := by
      have a1 : isB m s L = decide (diffI (sumsL L (lnsK m s) (lnsK m s).length) < 0) := by unfold isB; rw [Int.toNat_natCast]
      rw [← a1, Bool.eq_iff_iff, Option.isNone_iff_eq_none]
      exact isB_good (by omega) (hln m).1 (hln m).2 hL hN
    rw [hmag] at h18
    have h20 := fun l => hasLine_spec (lnsK m s) l ⟨hlens.len, hlens.all⟩
    have hlen2 : ((L.length : Nat) : Int) = (m : Int) * m := by rw [hL]; omega
    cases hb : badLine m (gOf s) L with
    | none =>
      rw [hb] at hA hR h18
      simp only [Option.isNone_none] at hA h18
      dsimp only at hR
      have hC := cpAdd_ok (pureCC_ok (atC_ok (C := True) fun _ => hS)) (cpAdd_ok (pureCC_ok (atC_ok (C := True) fun _ => hK)) (cpAdd_ok (pureCC_ok (atC_ok (C := True) fun _ => hM)) (cpAdd_ok (pureCC_ok (atC_ok (C := True) fun _ => hA)) (cpAdd_ok (pureCC_ok (atC_ok (C := True) fun _ => hU)) (cpAdd_ok (pureCC_ok (atC_ok (C := True) fun _ => hR))
        (cpAdd_ok (pureCC_ok (atC_ok (C := True) fun _ => hY)) (cpAdd_ok (pureCC_ok (atC_ok (C := True) fun _ => h17)) (cpAdd_ok (pureCC_ok (atC_ok (C := True) fun _ => h18)) (cpAdd_ok (pureCC_ok loom_ok) noC_ok)))))))))
      clear hS hK hA hU hR hM hE hE2 hY h17 h18 h20 hmag hsu hF hLb
      refine pspec_of (md := 1) (rf := []) mixed tabOK hC Tryz.func4 (by rfl) (by rfl) (by rfl) ?_
      repeat' ((conv => whnf); first | refine And.intro ?_ ?_ | with_reducible exact VC.mk rfl | exact Ok.mk | exact True.intro | refine Nx.mk ?_ | refine Fin.mk ?_ | (intro hq; (try simp only [decide_eq_true_eq, decide_eq_false_iff_not, Bool.not_eq_true, Bool.not_eq_false, Bool.not_eq_true', Bool.not_eq_false', Bool.not_true, Bool.not_false, ite_true, ite_false] at hq); (try (exfalso; first | exact absurd hq (by decide) | omega))))
      all_goals first | exact ⟨trivial⟩ | exact sup_true | (exfalso; first | omega | exact hsq ‹_› | exact absurd rfl ‹_›) | skip
    | some i =>
      rw [hb] at hA hR h18
      simp only [Option.isNone_some] at hA h18
      dsimp only at hR
      have hil : i < lineCnt m (gOf s) := by
        have := List.mem_of_find?_eq_some (show (List.range (lineCnt m (gOf s))).find? (fun i => !lineOk m L i) = some i from hb)
        exact List.mem_range.1 this
      have hin : ((lnsK m s).any fun x => decide (x = lineAt m i)) = true :=
        List.any_eq_true.2 ⟨lineAt m i, (lnsK_mem (by omega) s _).2 ⟨i, by rw [(hln m).1]; exact hil, rfl⟩, decide_eq_true rfl⟩
      have h20 := h20 (lineAt m i)
      rw [hin] at h20
      generalize lineAt m i = la at *
      generalize lineSum m L i = q at *
      have hC := cpAdd_ok (pureCC_ok (atC_ok (C := True) fun _ => hS)) (cpAdd_ok (pureCC_ok (atC_ok (C := True) fun _ => hK)) (cpAdd_ok (pureCC_ok (atC_ok (C := True) fun _ => hM)) (cpAdd_ok (pureCC_ok (atC_ok (C := True) fun _ => hA)) (cpAdd_ok (pureCC_ok (atC_ok (C := True) fun _ => hU)) (cpAdd_ok (pureCC_ok (atC_ok (C := True) fun _ => hR))
        (cpAdd_ok (pureCC_ok (atC_ok (C := True) fun _ => hY)) (cpAdd_ok (pureCC_ok (atC_ok (C := True) fun _ => h17)) (cpAdd_ok (pureCC_ok (atC_ok (C := True) fun _ => h18)) (cpAdd_ok (pureCC_ok (atC_ok (C := True) fun _ => h20)) (cpAdd_ok (pureCC_ok loom_ok) noC_ok))))))))))
      clear hS hK hA hU hR hM hE hE2 hY h17 h18 h20 hmag hsu hF hLb hin
      refine pspec_of (md := 1) (rf := []) mixed tabOK hC Tryz.func4 (by rfl) (by rfl) (by rfl) ?_
      repeat' ((conv => whnf); first | refine And.intro ?_ ?_ | with_reducible exact VC.mk rfl | exact Ok.mk | exact True.intro | refine Nx.mk ?_ | refine Fin.mk ?_ | (intro hq; (try simp only [decide_eq_true_eq, decide_eq_false_iff_not, Bool.not_eq_true, Bool.not_eq_false, Bool.not_eq_true', Bool.not_eq_false', Bool.not_true, Bool.not_false, ite_true, ite_false] at hq); (try (exfalso; first | exact absurd hq (by decide) | omega))))
      all_goals first | exact ⟨trivial⟩ | exact sup_true | (exfalso; first | omega | exact hsq ‹_› | exact absurd rfl ‹_›) | skip
end Go.Eng.YtobnbkoeocdhbaaGreatDoor
