/-
  An engine that walks through a function of the program with symbolic values, and the proofs that it is sound. No condition.
-/
import Derived.Sort.Grow
import Derived.Below
import Derived.Test.YtobnbkoeocdhbaaGreatDoorEc
namespace Go.Eng
open Go.RowKit
set_option linter.unusedVariables false
set_option linter.unusedSimpArgs false
/-- a name for nothing -/
theorem Mem.ghost {S : Imm} {w : World} {ι : Ix} {H : Hp} (M : Mem S w ι H) {n : Nat} (hn : Hget H n = none) :
    ∃ ι', ι.le ι' ∧ Mem S w ι' (Hput H n dead) ∧ ∀ p, Tr p S w ι H S w ι' (Hput H n dead) := by
  have hno := M.none_o hn
  have := M.step1 (b := w.heap.size) (k := n) (o' := dead) (ι' := ι.seto n w.heap.size) (.refl _) (fun _ _ _ => rfl) (.refl _ _) (fun b' j h => .inl h) (fun j hs => M.imm _ _ hs) (seto_le hno) (fun k' e => by simp [Ix.seto, e]) (fun _ _ => rfl) rfl
    (.inl (Nat.le_refl _)) (fun b' h => h.elim) (by simp [AO.isTok]) (fun _ => M.none_t hn) ⟨w.heap.size, by simp [Ix.seto], fun j hj => by simp [CL.ncell] at hj⟩
  exact ⟨_, seto_le hno, this.1, this.2⟩
/-- the same cells, said otherwise -/
theorem Mem.recast {S : Imm} {w : World} {ι : Ix} {H : Hp} (M : Mem S w ι H) {k : Nat} {c c' : CL} (ho : Hget H k = some (.cells c false)) (hn : c'.ncell ≤ c.ncell)
    (hc : ∀ j, j < c'.ncell → ∀ v, Rep S w ι (c.get j) v → Rep S w ι (c'.get j) v) :
    Mem S w ι (Hput H k (.cells c' false)) ∧ ∀ p, Tr p S w ι H S w ι (Hput H k (.cells c' false)) := by
  obtain ⟨b, arr, e, h1, h2, h3, h4, h5⟩ := M.obj k _ ho
  exact M.write ho h1 h2 ⟨.refl _, fun _ _ => rfl, h2⟩ (Nat.le_refl _) (by omega) (fun j hj => hc j hj _ (h4 j (by omega)))
/-- what may be said of the objects at the head -/
def EntryOK (args : List PV) (objs : List AO) (args1 : List PV) (H1 : Hp) : Prop :=
  ∀ (S : Imm) (w : World) (ι : Ix) (vs : Array Value), Mem S w ι (hpOf objs) → RepA S w ι args vs → ∃ ι', Mem S w ι' H1 ∧ RepA S w ι' args1 vs ∧ ∀ p, Tr p S w ι (hpOf objs) S w ι' H1
theorem EntryOK.refl (args : List PV) (objs : List AO) : EntryOK args objs args (hpOf objs) := fun S w ι vs M R => ⟨ι, M, R, fun p => .refl _ _ _ _ _⟩
/-- what is told of names that there are -/
def sgLive (H : Hp) : Sg → Sg
  | [] => []
  | (a, b) :: r => match Hget H a with | some _ => (a, b) :: sgLive H r | none => sgLive H r
def retEK (τ : TypeId → Option TE) (fn : Func) (m : Nat) (extra : Sg) (rs : List PV) (objs' : List AO) (e : Exit) (env : Env) (H : Hp) : Prop :=
  match e with
  | .normal => resK τ fn.results.toList env H fun vs => forceS (sgOf (sgLive H extra) H 0 (hpOf objs')) fun σ => subK σ m vs H rs (hpOf objs') Ok
  | .ret => resK τ fn.results.toList env H fun vs => forceS (sgOf (sgLive H extra) H 0 (hpOf objs')) fun σ => subK σ m vs H rs (hpOf objs') Ok
  | _ => False
section
variable {P : Program} {τ : TypeId → Option TE} {B : Imm → World → Prop}
theorem lspec_of_aw' (hB : BOK B) (hτ : TabOK P τ) {g : FuncId} {fn : Func} {c : Code} {args args1 rs : List PV} {objs objs' : List AO} {H1 : Hp} {extra : Sg} (hE : EntryOK args objs args1 H1) (hf : P.funcs[g]? = some fn) (hb : fn.body = some c)
    (h : AW P none B objs.length c (retEK τ fn objs.length extra rs objs') (args1 ++ anys (fn.ntmps - args1.length)) H1) : LSpecB P B g args objs rs objs' := by
  intro S w ι vs hBw M hr
  obtain ⟨ι0, M0, hr0, T0⟩ := hE S w ι vs M hr
  have hA : At B objs.length S w ι (hpOf objs) (args1 ++ anys (fn.ntmps - args1.length)) H1 { tmps := vs ++ Array.replicate (fn.ntmps - vs.size) undef, defers := [] } w :=
    ⟨S, ι0, hBw, M0, by rw [hr0.1]; exact anys_rep hr0 _, .nil _ _ _, fun d hd => by simp at hd, T0 _⟩
  refine callsIn_of_wp_marks hf hb trivial (wpIn_mono (h S w ι (hpOf objs) _ w hA) ?_)
  rintro e ⟨tmps, ds⟩ w1 ⟨env', H', q, hA1⟩
  have fin : (resK τ fn.results.toList env' H' fun vs => forceS (sgOf (sgLive H' extra) H' 0 (hpOf objs')) fun σ => subK σ objs.length vs H' rs (hpOf objs') Ok) →
      LeavesInM (Fw none) 0 P fn tmps (fun e w' => ∃ val S' ι', e = .returned val ∧ Mem S' w' ι' (hpOf objs') ∧ Rep S' w' ι' (resOf rs) val ∧ Tr objs.length S w ι (hpOf objs) S' w' ι' (hpOf objs')) ds .returning w1 := by
    intro q
    refine At.leave hB ds w1 hA1 fun w2 hA2 => ?_
    obtain ⟨S2, ι2, hb2, M2, R2, D2, D2', T2⟩ := hA2.ex
    obtain ⟨vs1, q, hs⟩ := resK_sound (P := P) hτ _ q
    rw [forceS_eq] at q
    obtain ⟨vals, r1, r2, r3⟩ := hs M2 R2
    have hA3 : At B objs.length S w ι (hpOf objs) vs1 H' { tmps := vals.toArray, defers := [] } w2 :=
      ⟨S2, ι2, hb2, M2, ⟨by simp [r2], fun i hi => by have := r3 i hi; simpa [Array.getD_eq_getD_getElem?] using this⟩, D2, D2', T2⟩
    have hA4 := (subK_sound (B := B) q).2 _ _ _ _ _ _ hA3
    obtain ⟨S4, ι4, hb4, M4, R4, _, _, T4⟩ := hA4.ex
    have hrun : (results fn tmps).run P w2 = .ok (if h : vals.toArray.size = 1 then vals.toArray[0] else .tuple vals.toArray) w2 := by
      unfold results
      rw [Sem.run_bind, Array.mapM_eq_mapM_toList, ← bind_pure_comp, Sem.run_bind]
      have : (List.mapM (fun (x : ResultVar) => (match x with | .tmp t => pure (tmps.getD t undef) | .cell a t => do loadVar t (← asAddr (tmps.getD a undef)) : Sem Value)) fn.results.toList).run P w2 = .ok vals w2 := r1
      erw [this]
      simp only [Result.andThen, Function.comp, Sem.run_pure]
    refine ⟨_, hrun, _, S4, ι4, rfl, M4, ?_, T4⟩
    have h1 := R4.1
    have h2 := R4.2
    exact resOf_rep' (by simpa using h1) (fun i hi => by have := h2 i hi; simpa [Array.getD_eq_getD_getElem?] using this)
  cases e with
  | normal => exact fin q
  | ret => exact fin q
  | _ => exact q.elim
end
/-- a function with objects walked from its head, seen as told, to its results -/
def bodyEK (P : Program) (B : Imm → World → Prop) (τ : TypeId → Option TE) (md : Nat) (rf : List Nat) (CP : CPT) (YP : YPT) (fn : Func) (args1 : List PV) (m : Nat) (H1 : Hp) (n0 : Nat) (extra : Sg) (rs : List PV) (objs' : List AO) : Prop :=
  ev P none B m τ md rf CP YP (fn.body.getD .skip) n0 (args1 ++ anys (fn.ntmps - args1.length)) H1 fun e env H _ => retEK τ fn m extra rs objs' e env H
theorem lspec_of_entry {P : Program} {τ : TypeId → Option TE} (hm : P.follows .mixedOrders = true) (hτ : TabOK P τ) {md rf CP} (hC : CPOK P CP) {g : FuncId} {fn : Func} {args args1 rs : List PV} {objs objs' : List AO} {H1 : Hp} (hE : EntryOK args objs args1 H1) (n0 : Nat) (extra : Sg)
    (hf : P.funcs[g]? = some fn) (hn : (fn.name == "runtime.NumGoroutine") = false) (hb : fn.body.isSome = true) (hok : codeOK (fn.body.getD .skip) = true)
    (h : bodyEK P anyB τ md rf CP noY fn args1 objs.length H1 n0 extra rs objs') : LSpec P g args objs rs objs' := by
  refine ⟨enters hf hn (by cases h : fn.body <;> simp_all), ?_⟩
  obtain ⟨c, hc⟩ := Option.isSome_iff_exists.1 hb
  unfold bodyEK at h
  rw [hc] at h hok
  exact lspec_of_aw' anyB_ok hτ hE hf hc ((ev_sound anyB_ok hm hτ hC noY_ok c hok _ _ _ _ h).mono fun e env H ⟨n, h⟩ => h)
/-! own objects given for good -/
def frzF (H : Hp) : List PV → (List PV → List (Nat × AO) → Prop) → Prop
  | [], K => K [] []
  | p :: r, K => match p with
    | .rsl j off n => getHK H j fun o => match o with
      | .cells c fz => match fz with
        | true => False
        | false => typedK c fun d => eszK d fun ce => cntK d fun cn => ifK (Nat.beq off 0) (n ≤ cn ∧ frzF H r fun us sets => ifK (match memN j (keys sets) with | true => false | false => true) (K (.isl (d.sub 0 n) .none :: us) ((j, .cells d true) :: sets)))
      | _ => False
    | p => match inlE p with
      | some q => forceK q fun q => frzF H r fun us sets => K (q :: us) sets
      | none => False
theorem frzF_sound {H : Hp} : ∀ {ds : List PV} {K : List PV → List (Nat × AO) → Prop}, frzF H ds K → ∃ us sets, K us sets ∧ us.length = ds.length ∧
    ∀ {S : Imm} {w : World} {ι : Ix} {H' : Hp} (vals : Nat → Value), Mem S w ι H' → (∀ j ∈ keys sets, Hget H' j = Hget H j) → (∀ i, i < ds.length → Rep S w ι (getL ds i) (vals i)) →
      ∃ S', Mem S' w ι (Hputs H' sets) ∧ Keeps S w S' w ∧ (∀ p, Tr p S w ι H' S' w ι (Hputs H' sets)) ∧ ∀ i, i < us.length → Rep S' w noI (getL us i) (vals i) := by
  intro ds
  induction ds with
  | nil => intro K h; exact ⟨_, _, h, rfl, fun vals M _ _ => ⟨_, M, .refl _ _, fun p => .refl _ _ _ _ _, fun i hi => by simp at hi⟩⟩
  | cons p r ih =>
    intro K h
    unfold frzF at h
    split at h
    · rename_i j off n
      rw [getHK_iff] at h
      obtain ⟨ob, hob, h⟩ := h
      split at h
      · rename_i c fz
        split at h
        · exact h.elim
        · obtain ⟨d, hA, d1, d2, d3⟩ := typedK_sound h
          clear h
          simp only [eszK_eq, cntK_eq, ifK_iff] at hA
          obtain ⟨hoff, hn, hB⟩ := hA
          have hoff := Nat.eq_of_beq_eq_true hoff
          subst hoff
          obtain ⟨us, sets, hC, hl, hs⟩ := ih hB
          obtain ⟨hj, hK⟩ := hC
          have hj : j ∉ keys sets := fun hm => by rw [← memN_iff] at hm; rw [hm] at hj; cases hj
          refine ⟨_, _, hK, by simp [hl], fun {S w ι H'} vals M ha hr => ?_⟩
          have hob' := (ha j (by simp [keys])).trans hob
          obtain ⟨S1, M1, K1, T1, F1⟩ := M.freeze (c' := d) hob' d2 (fun j hj => by intro S w ι v hr; exact d3 j hj hr)
          obtain ⟨S2, M2, K2, T2, R2⟩ := hs (fun i => vals (i + 1)) M1 (fun j' hj' => by
            rw [Hget_put, if_neg (fun (e : j' = j) => hj (by subst e; exact hj'))]
            exact ha j' (by simp only [keys, List.map_cons, List.mem_cons]; exact .inr hj')) (fun i hi => by have := (hr (i + 1) (by simpa using hi)).mono K1 _ (.refl _); simpa [getL] using this)
          refine ⟨S2, M2, K1.trans K2, fun p => (T1 p).trans (T2 p), fun i hi => ?_⟩
          cases i with
          | succ i => simpa [getL] using R2 i (by simpa using hi)
          | zero =>
            simp only [getL]
            have h0 := (hr 0 (by simp)).mono K1 _ (.refl _)
            simp only [getL] at h0
            refine Rep.mono K2 (ι := noI) ?_ _ (.refl _)
            generalize vals 0 = v0 at h0
            cases h0 with
            | rsl _ _ _ _ b cap hk hc _ =>
              have := sub_rep (S := S1) (w := w) (c := d) (b := b) (off := 0) (fun j hj => by rw [Nat.zero_add]; exact (F1 b hk j hj).1) (fun j hj => by rw [Nat.zero_add]; exact (F1 b hk j hj).2) (x := 0) (y := n) (by omega) hn (cap := cap) (by omega) noI
              simpa using this
            | rslz _ _ _ b o hk =>
              exact empty_rep _ (by rw [sub_cnt _ (by omega)]) (.inr ⟨b, o, rfl⟩) noI
      · exact h.elim
    · split at h
      · rename_i q hq
        rw [forceK_eq] at h
        obtain ⟨us, sets, hK, hl, hs⟩ := ih h
        refine ⟨_, _, hK, by simp [hl], fun {S w ι H'} vals M ha hr => ?_⟩
        obtain ⟨S2, M2, K2, T2, R2⟩ := hs (fun i => vals (i + 1)) M ha (fun i hi => by have := hr (i + 1) (by simpa using hi); simpa [getL] using this)
        refine ⟨S2, M2, K2, T2, fun i hi => ?_⟩
        cases i with
        | succ i => simpa [getL] using R2 i (by simpa using hi)
        | zero => simpa [getL] using (inlE_sound hq (hr 0 (by simp))).mono K2 _ (.refl _)
      · exact h.elim
/-- a call with a pointer to a record of the caller's own, which is written no more -/
def frzCC (C : PSp) : CT := fun args n H K => match args with
  | [p] => match p with
    | .rp k off => getHK H k fun o => match o with
      | .cells c fz => match fz with
        | true => False
        | false => match c with
          | .pv ds => frzF H ds fun us sets => ifK (match memN k (keys sets) with | true => false | false => true) (C [.ip (.pv us) off] fun v => K v (sets ++ [(k, .cells (.pv us) true)]) (keys sets ++ [k]) [])
          | _ => False
      | _ => False
    | _ => False
  | _ => False
theorem Hputs_app (H : Hp) : ∀ (a b : List (Nat × AO)), Hputs H (a ++ b) = Hputs (Hputs H a) b := by
  intro a
  induction a generalizing H with
  | nil => intro b; rfl
  | cons x a ih => intro b; obtain ⟨k, o⟩ := x; simp only [List.cons_append, Hputs, ih]
theorem frzCC_ok {P : Program} {g : FuncId} {C : PSp} (h : POK P g C) : COK P g (frzCC C) := by
  intro args n H K hk
  unfold frzCC at hk
  split at hk
  · split at hk
    · rename_i k off
      rw [getHK_iff] at hk
      obtain ⟨ob, hob, hk⟩ := hk
      split at hk
      · rename_i c fz
        split at hk
        · exact hk.elim
        · split at hk
          · rename_i ds
            obtain ⟨us, sets, hk, hl, hs⟩ := frzF_sound hk
            rw [ifK_iff] at hk
            obtain ⟨hkm, hk⟩ := hk
            have hkm : k ∉ keys sets := fun hm => by rw [← memN_iff] at hm; rw [hm] at hkm; cases hkm
            obtain ⟨v, hk, hent, hv⟩ := h _ _ hk
            refine ⟨v, _, _, [], hk, hent, fun S w ι H' vs hgb M hr ha _ => ?_⟩
            have hob' := (ha k (by simp)).trans hob
            obtain ⟨b, arr, e, g1, g2, g3, g4, g5⟩ := M.obj k _ hob'
            obtain ⟨S1, M1, K1, T1, R1⟩ := hs (fun i => arr.getD i undef) M (fun j hj => ha j (by simp [hj])) (fun i hi => g4 i hi)
            have hk1 : Hget (Hputs H' sets) k = some (.cells (.pv ds) false) := by rw [Hget_puts hkm]; exact hob'
            -- the record itself
            obtain ⟨b', arr', e', q1, q2, q3, q4, q5⟩ := M1.obj k _ hk1
            rw [g1] at q1; cases q1
            rw [g2] at q2; cases q2
            let S2 : Imm := fun b' j => S1 b' j ∨ (b' = b ∧ j < us.length)
            have hk2 : Keeps S1 w S2 w := ⟨fun b' j hs => ⟨.inl hs, rfl⟩, fun b' j hs => hs⟩
            have hus : us.length ≤ arr.size := by rw [hl]; exact g3
            have rdb : ∀ j, rdv w b j = arr.getD j undef := fun j => by rw [rdv, rd_of_heap g2, Array.getD_eq_getD_getElem?]
            have hlie : ∀ j, j < (CL.pv us).ncell → S2 b j ∧ Rep S2 w noI ((CL.pv us).get j) (rdv w b j) := fun j hj => ⟨.inr ⟨rfl, hj⟩, by rw [rdb]; exact (R1 j hj).mono hk2 _ (.refl _)⟩
            obtain ⟨M2, T2⟩ := M1.step1 (S' := S2) (w' := w) (ι' := ι) (k := k) (o' := .cells (.pv us) true) (b := b) (Bel.refl _) (fun _ _ _ => rfl) hk2 (fun b' j hs => by rcases hs with h | ⟨h, _⟩; exact .inl h; exact .inr h)
              (fun j hs => by
                rcases hs with h | ⟨_, h⟩
                · exact absurd h (q5 j)
                · rw [rd_of_heap g2, Array.getElem?_eq_getElem (by omega)]; rfl) (.refl _) (fun _ _ => rfl) (fun _ _ => rfl) rfl (.inr ⟨_, hk1, rfl, g1⟩) (fun b' h => h.elim) (by simp [AO.isTok]) (fun _ => M1.cells_t hk1 rfl)
              ⟨b, g1, hlie⟩
            have hput : Hputs H' (sets ++ [(k, .cells (.pv us) true)]) = Hput (Hputs H' sets) k (.cells (.pv us) true) := by rw [Hputs_app]; rfl
            have hA : RepA S2 w noI [.ip (.pv us) off] vs := by
              refine ⟨hr.1, fun i hi => ?_⟩
              have hi0 : i = 0 := by simp at hi; exact hi
              subst hi0
              have h0 := hr.2 0 (by simp)
              simp only [getL] at h0 ⊢
              generalize vs.getD 0 undef = v0 at h0
              cases h0 with
              | rp _ _ _ b2 hb2 =>
                rw [g1] at hb2; cases hb2
                have := Rep.ip (S := S2) (w := w) noI (.pv us) off b 0 (fun j hj => by rw [Nat.zero_add]; exact (hlie j hj).1) (fun j hj => by rw [Nat.zero_add]; exact (hlie j hj).2)
                rwa [Nat.zero_add] at this
            refine (hv S2 w vs (gB_mono hk2 (.refl _) (gB_mono K1 (.refl _) hgb)) M2.imm hA).mono ?_
            rintro ex w' ⟨val, S', rfl, o⟩
            rw [hput]
            have hno : ∀ k' ob b, Hget (Hput (Hputs H' sets) k (.cells (.pv us) true)) k' = some ob → ob.has ι k' b → b < w.heap.size := fun k' ob b ho hb => (M2.obj k' ob ho).lt hb
            have T3 : ∀ p, Tr p S2 w ι (Hput (Hputs H' sets) k (.cells (.pv us) true)) S' w' ι (Hput (Hputs H' sets) k (.cells (.pv us) true)) := fun p =>
              ⟨o.below, fun b hb _ => o.same b hb, o.keeps, fun b j hb hs => .inl (o.immN b j hb hs), fun b h => .inl h, fun _ _ _ h => h, fun _ _ b n h => ⟨b, n, h, .inl ⟨rfl, Nat.le_refl _⟩⟩⟩
            exact ⟨val, S', ι, rfl, ⟨fun k' ob ho => (M2.obj k' ob ho).mono o.keeps (.refl _) o.below (fun b hb => o.same b (hno k' ob b ho hb)) (fun _ => rfl) rfl (fun b j hb hs => o.immN b j (hno k' ob b ho hb) hs), M2.liveO, M2.liveT, M2.dist, o.imm⟩,
              .refl _, (K1.trans hk2).trans o.keeps, o.rep.up ι, fun p => ((T1 p).trans (T2 p)).trans (T3 p)⟩
          · exact hk.elim
      · exact hk.elim
    · exact hk.elim
  · exact hk.elim
end Go.Eng
namespace Go.Eng
open Go.RowKit
set_option linter.unusedVariables false
set_option linter.unusedSimpArgs false
end Go.Eng
namespace Go.Eng
open Go.RowKit
set_option linter.unusedVariables false
set_option linter.unusedSimpArgs false
section
variable {P : Program} {r : Option Nat} {τ : TypeId → Option TE} {B : Imm → World → Prop} {p : Nat}
end
end Go.Eng
namespace Go.Eng
open Go.RowKit
set_option linter.unusedVariables false
set_option linter.unusedSimpArgs false
end Go.Eng
namespace Go.Eng
open Go.RowKit Go.Sort
set_option linter.unusedVariables false
set_option linter.unusedSimpArgs false
theorem Mem.write' {S : Imm} {w w' : World} {ι : Ix} {H : Hp} (M : Mem S w ι H) {k b : Nat} {c c' : CL} {arr arr' : Array Value} {e : TypeId}
    (ho : Hget H k = some (.cells c false)) (hk : ι.o k = some b) (h : w.heap[b]? = some (.cells arr e (0, 0))) (below : Bel w w') (other : ∀ b', b' < w.heap.size → b' ≠ b → w'.heap[b']? = w.heap[b']?) (here : w'.heap[b]? = some (.cells arr' e (0, 0))) (hsz : arr.size ≤ arr'.size)
    (hn : c'.ncell ≤ arr'.size) (hc : ∀ j, j < c'.ncell → Rep S w ι (c'.get j) (arr'.getD j undef)) :
    Mem S w' ι (Hput H k (.cells c' false)) ∧ Keeps S w S w' ∧ ∀ p, Tr p S w ι H S w' ι (Hput H k (.cells c' false)) := by
  obtain ⟨b0, arr0, e0, h1, h2, h3, h4, h5⟩ := M.obj k _ ho
  rw [hk] at h1; cases h1
  have hlt : ∀ b' j, (rd w b' j).isSome → b' < w.heap.size := fun b' j hs => by
    rcases Nat.lt_or_ge b' w.heap.size with h6 | h6
    · exact h6
    · unfold rd at hs; rw [Array.getElem?_eq_none h6] at hs; simp at hs
  have hkeep : Keeps S w S w' := ⟨fun b' j hs => ⟨hs, rd_congr (other b' (hlt b' j (M.imm b' j hs)) (fun e => by subst e; exact h5 j hs)) j⟩, fun b' j hs => by
    by_cases eb : b' = b
    · subst eb
      rw [rd_of_heap h] at hs
      rw [rd_of_heap here]
      have : j < arr.size := by
        rcases Nat.lt_or_ge j arr.size with h1 | h1
        · exact h1
        · rw [Array.getElem?_eq_none h1] at hs; simp at hs
      rw [Array.getElem?_eq_getElem (by omega)]; rfl
    · rw [rd_congr (other b' (hlt b' j hs) eb) j]; exact hs⟩
  have ht : ι.t k = none := by
    cases et : ι.t k with
    | none => rfl
    | some x => obtain ⟨o, g1, g2⟩ := M.liveT k x et; rw [ho] at g1; cases g1; simp [AO.isTok] at g2
  have := M.step (S' := S) (w' := w') (ι' := ι) (k := k) (o' := .cells c' false) (b := b) below other hkeep (fun b' j h => .inl h) (fun j hs => absurd hs (h5 j)) (.refl _) (fun _ _ => rfl) (fun _ _ => rfl)
    rfl (.inr ⟨_, ho, rfl, hk⟩) (fun b' => by simp [AO.has, hk, eq_comm]) (by simp [AO.isTok]) (fun _ => ht) ⟨b, arr', e, hk, here, hn, fun j hj => (hc j hj).mono hkeep _ (.refl _), h5⟩
  exact ⟨this.1, hkeep, this.2⟩
/-- a list of integers in order -/
def sortI (l : List Int) : List Int := l.mergeSort fun x y => decide (x ≤ y)
theorem sortI_len (l : List Int) : (sortI l).length = l.length := List.length_mergeSort l
def sortCC : CT := fun args n H K => match args with
  | [p] => match p with
    | .rsl k off m => getHK H k fun o => match o with
      | .cells c fz => match fz with
        | true => False
        | false => match c with
          | .ints q xs => ifK (decide (q = .i64) && Nat.beq off 0) ((m = xs.length ∧ xs.length < 4611686018427387904) ∧ K (.tup []) [(k, .cells (.ints .i64 (sortI xs)) false)] [k] [])
          | _ => False
      | _ => False
    | _ => False
  | _ => False
theorem sortCC_ok {P : Program} {g : FuncId} (hent : ∀ vs w, (callFunc g vs).run P w = .ok (.enter g vs) w)
    (hS : ∀ (blk off cap : Nat) (zs : List Int) (w : World), Holds (Value.int .i64) w blk off zs.toArray → blk < w.heap.size → zs.length < 4611686018427387904 →
      Calls P g #[.slice (some ⟨blk, off, none⟩) zs.length cap] w fun e w' => e = .returned (.tuple #[]) ∧ ∃ n os, w' = grow (Sort.putRow (Value.int .i64) (Sort.ahead w n) blk off (zs.mergeSort fun x y => decide (x ≤ y)).toArray) os) : COK P g sortCC := by
  intro args n H K hk
  unfold sortCC at hk
  split at hk
  · split at hk
    · rename_i k off m
      rw [getHK_iff] at hk
      obtain ⟨ob, hob, hk⟩ := hk
      split at hk
      · rename_i c fz
        split at hk
        · exact hk.elim
        · split at hk
          · rename_i q xs
            simp only [ifK_iff, Bool.and_eq_true, decide_eq_true_eq] at hk
            obtain ⟨⟨rfl, hoff⟩, ⟨rfl, hlen⟩, hk⟩ := hk
            have hoff := Nat.eq_of_beq_eq_true hoff
            subst hoff
            refine ⟨_, _, _, [], hk, hent, fun S w ι H' vs _ M hr ha _ => ?_⟩
            have hob' := (ha k (by simp)).trans hob
            obtain ⟨b, arr, e, g1, g2, g3, g4, g5⟩ := M.obj k _ hob'
            have hv0 : ∃ o cap, vs = #[.slice (some ⟨b, o, none⟩) xs.length cap] ∧ (o = 0 ∨ xs.length = 0) := by
              have h0 := hr.2 0 (by simp)
              have hsz : vs.size = 1 := hr.1.symm
              simp only [getL] at h0
              have hvs : vs = #[vs.getD 0 undef] := by
                apply Array.ext (by simp [hsz])
                intro i h1 h2
                have : i = 0 := by omega
                subst this
                simp [Array.getD_eq_getD_getElem?, h1]
              rw [hvs]
              generalize vs.getD 0 undef = v0 at h0
              generalize hml : xs.length = ml at h0
              cases h0 with
              | rsl _ _ _ _ b' cap hk' hc _ => rw [g1] at hk'; cases hk'; exact ⟨0, cap, rfl, .inl rfl⟩
              | rslz _ _ _ b' o hk' => rw [g1] at hk'; cases hk'; exact ⟨o, 0, rfl, .inr rfl⟩
            obtain ⟨off, cap, rfl, ho⟩ := hv0
            have hbw : b < w.heap.size := by
              rcases Nat.lt_or_ge b w.heap.size with h6 | h6
              · exact h6
              · rw [Array.getElem?_eq_none h6] at g2; cases g2
            have hg4 : ∀ j, j < xs.length → arr[j]? = some (.int .i64 (xs.getD j 0)) := fun j hj => by
              have h7 := g4 j hj
              have h8 : j < arr.size := Nat.lt_of_lt_of_le hj g3
              rw [Array.getD_eq_getD_getElem?, Array.getElem?_eq_getElem h8] at h7
              rw [Array.getElem?_eq_getElem h8]
              simp only [CL.get, Option.getD_some] at h7
              generalize arr[j] = y at h7
              cases h7; rfl
            have hH : Holds (Value.int .i64) w b off xs.toArray := fun j hj => by
              have hj' : j < xs.length := by simpa using hj
              have h9 : off = 0 := by rcases ho with h | h; exact h; omega
              subst h9
              rw [Nat.zero_add]
              refine ⟨?_, by simp [World.frozen?, g2]⟩
              rw [cell?_eq, rd_of_heap g2, hg4 j hj']
              simp [List.getD_eq_getElem?_getD, List.getElem?_eq_getElem hj']
            refine (callsIn_wide.2 (hS b off cap xs w hH hbw hlen)).mono ?_
            rintro ex w' ⟨rfl, n', os, hw'⟩
            have hsl : (sortI xs).length = xs.length := sortI_len xs
            obtain ⟨arr', harr, hsz', hget⟩ : ∃ arr', w'.heap[b]? = some (.cells arr' e (0, 0)) ∧ arr'.size = arr.size ∧ ∀ j, j < xs.length → arr'[j]? = some (.int .i64 ((sortI xs).getD j 0)) := by
              refine ⟨putCells (Value.int .i64) off (sortI xs).toArray arr, ?_, by simp [putCells], fun j hj => ?_⟩
              · rw [hw', heap_grow_old _ _ (by simpa [Sort.ahead] using hbw)]
                show (mapBlock (Sort.ahead w n') b _).heap[b]? = _
                simp only [mapBlock, Sort.ahead, Array.getElem?_modify, if_true, g2, Option.map_some, onCells]
                rfl
              · have h9 : off = 0 := by rcases ho with h | h; exact h; omega
                subst h9
                have h8 : j < arr.size := Nat.lt_of_lt_of_le hj g3
                simp only [putCells, Array.getElem?_mapIdx, Array.getElem?_eq_getElem h8, Option.map_some, Nat.zero_le, Nat.zero_add, true_and, List.size_toArray, hsl, if_pos hj, Nat.sub_zero]
                simp [List.getD_eq_getElem?_getD, List.getElem?_eq_getElem (by omega : j < (sortI xs).length), hsl, hj]
            have hoth : ∀ b', b' < w.heap.size → b' ≠ b → w'.heap[b']? = w.heap[b']? := fun b' h1 h2 => by
              rw [hw', heap_grow_old _ _ (by simpa [Sort.ahead] using h1)]
              show (mapBlock (Sort.ahead w n') b _).heap[b']? = _
              simp only [mapBlock, Sort.ahead, Array.getElem?_modify, if_neg (Ne.symm h2)]
            have hbel : Bel w w' := by
              have hlen0 : ∀ b0, b0 < w.heap.size → bsz w' b0 = bsz w b0 := fun b0 hb0 => by
                by_cases e0 : b0 = b
                · subst e0; unfold bsz; rw [harr, g2]; simp [hsz']
                · exact bsz_congr (hoth b0 hb0 e0)
              rw [hw'] at hlen0 ⊢
              exact ⟨rfl, rfl, rfl, by simp [Sort.ahead], fun a hal => by rw [frozen?_grow _ _ _ (by simpa [Sort.ahead] using hal), Sort.frozen?_putRow, Sort.frozen?_ahead], hlen0⟩
            obtain ⟨M', K', T'⟩ := M.write' (c' := .ints .i64 (sortI xs)) hob' g1 g2 hbel hoth harr (by omega) (by simp only [CL.ncell, hsl]; simp only [CL.ncell] at g3; omega) (fun j hj => by
              simp only [CL.ncell, hsl] at hj
              rw [Array.getD_eq_getD_getElem?, hget j hj]
              exact .int _ _ _)
            exact ⟨_, S, ι, rfl, M', .refl _, K', .tup _ _ _ rfl (fun i hi => by simp at hi), T'⟩
          · exact hk.elim
      · exact hk.elim
    · exact hk.elim
  · exact hk.elim
end Go.Eng
namespace Go.Eng
open Go.RowKit
set_option linter.unusedVariables false
set_option linter.unusedSimpArgs false
section
variable {P : Program} {r : Option Nat} {B : Imm → World → Prop} {p : Nat}
theorem At.freeze {S0 : Imm} {w0 : World} {ι0 : Ix} {H0 H : Hp} {env : Env} {a : Act} {w : World} (h : At B p S0 w0 ι0 H0 env H a w) (hB : BOK B) {k : Nat} {x d : CL} (hx : Hget H k = some (.cells x false)) (hn : d.ncell = x.ncell)
    (hc : ∀ j, j < x.ncell → ∀ {S : Imm} {w : World} {ι : Ix} {v : Value}, Rep S w ι (x.get j) v → Rep S w noI (d.get j) v) : At B p S0 w0 ι0 H0 env (Hput H k (.cells d true)) a w := by
  obtain ⟨S, ι, hb, M, R, D, D', T⟩ := h.ex
  obtain ⟨S', M', K', T', _⟩ := M.freeze hx hn hc
  exact ⟨S', ι, hB _ _ _ _ K' (.refl _) hb, M', R.mono K' (.refl _), D.tr (T' p), D', T.trans (T' p)⟩
def frzNow (H : Hp) (k : Nat) (K : Hp → Prop) : Prop := getHK H k fun o => match o with
  | .cells x fz => match fz with
    | true => False
    | false => typedK x fun d => putsHK [(k, .cells d true)] H K
  | _ => False
theorem lp_freeze (hB : BOK B) {md rf CP YP} {c : Code} {n : Nat} {Q : Exit → Env → Hp → Prop} {env : Env} {H : Hp} (k : Nat) (h : frzNow H k fun H1 => Lp md rf CP YP n (AW P r B p c Q env H1)) : Lp md rf CP YP n (AW P r B p c Q env H) := by
  unfold frzNow at h
  rw [getHK_iff] at h
  obtain ⟨o, ho, h⟩ := h
  split at h
  · split at h
    · exact h.elim
    · obtain ⟨d, h, d1, d2, d3⟩ := typedK_sound h
      rw [putsHK_eq] at h
      exact ⟨fun S0 w0 ι0 H0 a w hA => h.get S0 w0 ι0 H0 a w (hA.freeze hB ho d2 (fun j hj => by intro S w ι v hr; exact d3 j hj hr))⟩
  · exact h.elim
end
end Go.Eng
namespace Go.Eng
open Go.RowKit
set_option linter.unusedVariables false
set_option linter.unusedSimpArgs false
theorem rd_lt1 {w : World} {b j : Nat} (hs : (rd w b j).isSome) : b < w.heap.size := by
  rcases Nat.lt_or_ge b w.heap.size with h | h
  · exact h
  · unfold rd at hs; rw [Array.getElem?_eq_none h] at hs; simp at hs
theorem pout_below {S : Imm} {w w' : World} {v : PV} {val : Value} (himm : ∀ b j, S b j → (rd w b j).isSome) (hB : Below w.heap.size w w') (hr : Rep S w noI v val) : POut S w v val S w' := by
  have hk : Keeps S w S w' := ⟨fun b j hs => ⟨hs, rd_congr (hB.block b (rd_lt1 (himm b j hs))) j⟩, fun b j hs => by rw [rd_congr (hB.block b (rd_lt1 hs)) j]; exact hs⟩
  refine ⟨fun b j hs => by rw [(hk.imm b j hs).2]; exact himm b j hs, hk, hr.mono hk _ (.refl _), ⟨hB.os, hB.tape, hB.output, hB.size, fun a ha => by unfold World.frozen?; rw [hB.block _ ha], fun b hb => bsz_congr (hB.block b hb)⟩, hB.block, fun b j _ hs => hs⟩
/-- the same, where the tables of the program are known to lie -/
theorem pspec_of_belowG {P : Program} {g : FuncId} {xs : List PV} {u : PV} (hent : Enters P g)
    (h : ∀ (S : Imm) (w : World) (vs : Array Value), gB S w → (∀ b j, S b j → (rd w b j).isSome) → RepA S w noI xs vs → ∃ val, Rep S w noI u val ∧ Calls P g vs w fun e w' => e = .returned val ∧ Below w.heap.size w w') : PSpec P g xs u := by
  refine ⟨hent, fun S w vs hg himm hA => ?_⟩
  obtain ⟨val, hr, hc⟩ := h S w vs hg himm hA
  refine (callsIn_wide.2 hc).mono ?_
  rintro e w' ⟨rfl, hB⟩
  exact ⟨val, S, rfl, pout_below himm hB hr⟩
theorem pspec_of_below {P : Program} {g : FuncId} {xs : List PV} {u : PV} (hent : Enters P g)
    (h : ∀ (S : Imm) (w : World) (vs : Array Value), (∀ b j, S b j → (rd w b j).isSome) → RepA S w noI xs vs → ∃ val, Rep S w noI u val ∧ Calls P g vs w fun e w' => e = .returned val ∧ Below w.heap.size w w') : PSpec P g xs u :=
  pspec_of_belowG hent fun S w vs _ => h S w vs
/-- one argument, a list of strings that nobody writes -/
theorem strs_open {S : Imm} {w : World} {ι : Ix} {xs : List ByteArray} {t : Tok} {v : Value} (himm : ∀ b j, S b j → (rd w b j).isSome) (h : Rep S w ι (.isl (.strs xs) t) v) :
    (v = .slice none 0 0 ∧ xs = []) ∨ ∃ b off cap, v = .slice (some ⟨b, off, none⟩) xs.length cap ∧ xs.length ≤ cap ∧ (∀ (j : Nat) x, xs[j]? = some x → w.cell? ⟨b, off + j, none⟩ = some (.string x)) ∧ (0 < xs.length → b < w.heap.size) := by
  cases h with
  | islnil _ _ _ h => exact .inl ⟨rfl, List.eq_nil_of_length_eq_zero h⟩
  | isl _ _ _ b off cap hc hs h hf ho =>
    refine .inr ⟨b, off, cap, rfl, hc, fun j x hx => ?_, fun h0 => rd_lt1 (himm b (off + 0) (hs 0 h0))⟩
    have hj : j < xs.length := (List.getElem?_eq_some_iff.1 hx).1
    have h1 := h j hj
    have h2 := himm b (off + j) (hs j hj)
    rw [cell?_eq]
    obtain ⟨y, hy⟩ := Option.isSome_iff_exists.1 h2
    have h3 : rdv w b (off + j) = y := by unfold rdv; rw [hy]; rfl
    rw [h3] at h1
    rw [hy]
    have h4 : (CL.strs xs).get j = .str x := by simp only [CL.get]; rw [List.getD_eq_getElem?_getD, hx]; rfl
    rw [h4] at h1
    cases h1; rfl
end Go.Eng
namespace Go.Eng
open Go.RowKit
set_option linter.unusedVariables false
set_option linter.unusedSimpArgs false
/-- a call with slices of the caller's own, which are written no more -/
def giveAll (C : PSp) : CT := fun args n H K => frzF H args fun us sets => C us fun v => K v sets (keys sets) []
theorem giveAll_ok {P : Program} {g : FuncId} {C : PSp} (h : POK P g C) : COK P g (giveAll C) := by
  intro args n H K hk
  unfold giveAll at hk
  obtain ⟨us, sets, hk, hl, hs⟩ := frzF_sound hk
  obtain ⟨v, hk, hent, hv⟩ := h _ _ hk
  refine ⟨v, _, _, [], hk, hent, fun S w ι H' vs hgb M hr ha _ => ?_⟩
  obtain ⟨S1, M1, K1, T1, R1⟩ := hs (fun i => vs.getD i undef) M (fun j hj => ha j hj) (fun i hi => hr.2 i hi)
  have hA : RepA S1 w noI us vs := ⟨hl.trans hr.1, fun i hi => R1 i hi⟩
  refine (hv S1 w vs (gB_mono K1 (.refl _) hgb) M1.imm hA).mono ?_
  rintro ex w' ⟨val, S', rfl, o⟩
  have hno : ∀ k' ob b, Hget (Hputs H' sets) k' = some ob → ob.has ι k' b → b < w.heap.size := fun k' ob b ho hb => (M1.obj k' ob ho).lt hb
  have T3 : ∀ p, Tr p S1 w ι (Hputs H' sets) S' w' ι (Hputs H' sets) := fun p =>
    ⟨o.below, fun b hb _ => o.same b hb, o.keeps, fun b j hb hs => .inl (o.immN b j hb hs), fun b h => .inl h, fun _ _ _ h => h, fun _ _ b n h => ⟨b, n, h, .inl ⟨rfl, Nat.le_refl _⟩⟩⟩
  exact ⟨val, S', ι, rfl, ⟨fun k' ob ho => (M1.obj k' ob ho).mono o.keeps (.refl _) o.below (fun b hb => o.same b (hno k' ob b ho hb)) (fun _ => rfl) rfl (fun b j hb hs => o.immN b j (hno k' ob b ho hb) hs), M1.liveO, M1.liveT, M1.dist, o.imm⟩,
    .refl _, K1.trans o.keeps, o.rep.up ι, fun p => (T1 p).trans (T3 p)⟩
end Go.Eng
namespace Go.Eng
open Go.RowKit
set_option linter.unusedVariables false
set_option linter.unusedSimpArgs false
theorem callSound_raw {P : Program} {g : FuncId} {args as : List PV} {H : Hp} {v : PV} (ha : pureEs args = some as) (h : PSpec P g as v) : CallSound P g args H v [] [] [] := by
  obtain ⟨hent, h⟩ := h
  refine ⟨hent, fun S w ι H' vs hgb M hr _ _ => ?_⟩
  obtain ⟨h1, h2⟩ := pureEs_sound ha
  refine (h S w vs hgb M.imm ⟨h1.trans hr.1, fun i hi => h2 i (by omega) (hr.2 i (by omega))⟩).mono ?_
  rintro e w' ⟨val, S', rfl, o⟩
  have hno : ∀ k ob b, Hget H' k = some ob → ob.has ι k b → b < w.heap.size := fun k ob b ho hb => (M.obj k ob ho).lt hb
  refine ⟨val, S', ι, rfl, ⟨fun k ob ho => (M.obj k ob ho).mono o.keeps (.refl _) o.below (fun b hb => o.same b (hno k ob b ho hb)) (fun _ => rfl) rfl (fun b j hb hs => o.immN b j (hno k ob b ho hb) hs), M.liveO, M.liveT, M.dist, o.imm⟩,
    .refl _, o.keeps, o.rep.up ι, fun p => ⟨o.below, fun b hb _ => o.same b hb, o.keeps, fun b j hb hs => .inl (o.immN b j hb hs), fun b h => .inl h, fun _ _ _ h => h, fun _ _ b n h => ⟨b, n, h, .inl ⟨rfl, Nat.le_refl _⟩⟩⟩⟩
def rawCC (C : PSp) : CT := fun args n H K => match pureEs args with | some xs => forceL xs fun as => C as fun v => K v [] [] [] | none => False
theorem rawCC_ok {P : Program} {g : FuncId} {C : PSp} (h : POK P g C) : COK P g (rawCC C) := by
  intro args n H K hk
  unfold rawCC at hk
  split at hk
  · rename_i as ha
    rw [forceL_eq] at hk
    obtain ⟨v, hK, hs⟩ := h _ _ hk
    exact ⟨v, [], [], [], hK, callSound_raw ha hs⟩
  · exact hk.elim
end Go.Eng
