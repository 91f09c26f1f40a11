/-
  An engine that walks through a function of the program with symbolic values, and the proofs that it is sound. No condition.
-/
import Derived.MapKept
import Derived.OrdersIn
import Derived.LoopNIn
import Derived.RangeFuncLeaves
import Derived.Test.YtppflbccfdbogaaEa
namespace Go.Eng
open Go.RowKit
set_option linter.unusedVariables false
set_option linter.unusedSimpArgs false
variable {P : Program} {r : Option Nat} {τ : TypeId → Option TE}
theorem Hget_ext_owned {ι : Ix} {H H' : Hp} (h : ∀ k, Hget H k = Hget H' k) (b : Nat) : owned ι H b ↔ owned ι H' b := by
  simp only [owned, h]
theorem Mem.congr {S : Imm} {w : World} {ι : Ix} {H H' : Hp} (h : ∀ k, Hget H k = Hget H' k) (M : Mem S w ι H) : Mem S w ι H' :=
  ⟨fun k o ho => M.obj k o ((h k).trans ho), fun k b hb => by obtain ⟨o, h1, h2⟩ := M.liveO k b hb; exact ⟨o, (h k).symm.trans h1, h2⟩,
   fun k b hb => by obtain ⟨o, h1, h2⟩ := M.liveT k b hb; exact ⟨o, (h k).symm.trans h1, h2⟩,
   fun k k' o o' b h1 h2 => M.dist k k' o o' b ((h k).trans h1) ((h k').trans h2), M.imm⟩
theorem Tr.congr {p : Nat} {S S' : Imm} {w w' : World} {ι ι' : Ix} {H H' H1 : Hp} (h : ∀ k, Hget H k = Hget H1 k) (t : Tr p S w ι H S' w' ι' H') : Tr p S w ι H1 S' w' ι' H' :=
  ⟨t.below, fun b hb ho => t.same b hb (fun h' => ho ((Hget_ext_owned h b).1 h')), t.keeps, fun b j hb hs => Or.imp id (fun h' => (Hget_ext_owned h b).1 h') (t.immN b j hb hs),
   fun b ho => Or.imp (fun h' => (Hget_ext_owned h b).1 h') id (t.own b ho), t.protO, t.protT⟩
theorem Tr.congr' {p : Nat} {S S' : Imm} {w w' : World} {ι ι' : Ix} {H H' H1 : Hp} (h : ∀ k, Hget H' k = Hget H1 k) (t : Tr p S w ι H S' w' ι' H') : Tr p S w ι H S' w' ι' H1 :=
  ⟨t.below, t.same, t.keeps, t.immN, fun b ho => t.own b ((Hget_ext_owned h b).2 ho), t.protO, t.protT⟩
theorem Hput_same {H : Hp} {k : Nat} {o : AO} (h : Hget H k = some o) (k' : Nat) : Hget H k' = Hget (Hput H k o) k' := by
  rw [Hget_put]
  by_cases e : k' = k
  · subst e; simp [h]
  · simp [e]
/-- an outcome of append -/
def AppOK (P : Program) (S : Imm) (w : World) (ι : Ix) (H : Hp) (s : Sem Value) (v : PV) (sets : List (Nat × AO)) : Prop :=
  ∃ val S' w' ι', s.run P w = .ok val w' ∧ Mem S' w' ι' (Hputs H sets) ∧ ι.le ι' ∧ Keeps S w S' w' ∧ Rep S' w' ι' v val ∧ ∀ p, Tr p S w ι H S' w' ι' (Hputs H sets)
theorem AppOK.same {S : Imm} {w : World} {ι : Ix} {H : Hp} {s : Sem Value} {v : PV} {val : Value} (M : Mem S w ι H) (h : s.run P w = .ok val w) (hr : Rep S w ι v val) : AppOK P S w ι H s v [] :=
  ⟨val, S, w, ι, h, M, .refl _, .refl _ _, hr, fun p => .refl _ _ _ _ _⟩
theorem AppOK.again {S : Imm} {w : World} {ι : Ix} {H : Hp} {s : Sem Value} {v : PV} {val : Value} {k : Nat} {ob : AO} (hk : Hget H k = some ob) (M : Mem S w ι H) (h : s.run P w = .ok val w) (hr : Rep S w ι v val) : AppOK P S w ι H s v [(k, ob)] :=
  ⟨val, S, w, ι, h, M.congr (Hput_same hk), .refl _, .refl _ _, hr, fun p => (Tr.refl _ _ _ _ _).congr' (Hput_same hk)⟩
theorem AppOK.virgin {S : Imm} {w : World} {ι : Ix} {H : Hp} {s : Sem Value} {v : PV} {val : Value} {k : Nat} (hk : Hget H k = none) (esz : Nat) (M : Mem S w ι H) (h : s.run P w = .ok val w) (hr : Rep S w ι v val) : AppOK P S w ι H s v [(k, .tok esz 0)] :=
  ⟨val, S, w, ι, h, (M.virgin hk esz).1, .refl _, .refl _ _, hr, (M.virgin hk esz).2⟩
/-- the cells of a slice -/
structure Row (S : Imm) (w : World) (esz : Nat) (n : Nat) (g : Nat → PV) (vs : Value) (vals : Array Value) : Prop where
  size : vals.size = n * esz
  rep : ∀ j, j < n * esz → Rep S w noI (g j) (vals.getD j undef)
  run : ∀ (P : Program) (w' : World), w'.heap = w.heap → (Builtin.firstCells esz n vs).run P w' = .ok vals w'
theorem app_grow (hτ : TabOK P τ) {t u ty e : TypeId} {tt tu te : TE} (ht : τ t = some tt) (hu : τ u = some tu) (he : τ e = some te) (hd : tt.und = .slice e) {e' : TypeId} (hd' : tu.und = .slice e')
    {S : Imm} {w : World} {ι : Ix} {H : Hp} (M : Mem S w ι H) {k : Nat} (hk : Hget H k = none ∨ ∃ hw, Hget H k = some (.tok te.size hw)) {base xb : Option Addr} {cn sCap dn xc : Nat}
    (hlt : ∀ b0 hw, ι.t k = some (b0, hw) → hw < cn + dn) (hgrow : sCap < cn + dn) (hbd : cn + dn ≤ 1073741824) (hby : te.bytes ≤ 65536) {E : CL} (hE : E.cnt = cn + dn) (hEs : E.esz = te.size)
    {old new : Array Value} (ho : Row S w te.size cn E.get (.slice base cn sCap) old) (hn : Row S w te.size dn (fun j => E.get (cn * te.size + j)) (.slice xb dn xc) new) :
    AppOK P S w ι H (Builtin.append_ #[t, u] ty #[.slice base cn sCap, .slice xb dn xc]) (.isl E (.own k)) [(k, .tok te.size (cn + dn))] := by
  obtain ⟨cap', hcap, hrun⟩ := run_append_grow (ty := ty) hτ ht hu he hd hd' hgrow hbd hby (ho.run P { w with drawn := w.drawn + 1 } rfl) (hn.run P { w with drawn := w.drawn + 1 } rfl)
  have hEn : E.ncell = (cn + dn) * te.size := by rw [ncell_eq, hE, hEs]
  have hzc : te.zero.cells.size = te.size := hτ.zsz _ _ he
  have e1 : ∀ {arr : Array Value} {e0 : TypeId}, ({ ({ w with drawn := w.drawn + 1 } : World) with heap := w.heap.push (.cells arr e0) } : World).heap = w.heap.push (.cells arr e0) := rfl
  generalize hzz : Builtin.zeroCells te.zero.cells (cap' - (cn + dn)) = zz at hrun
  have hzs : zz.size = (cap' - (cn + dn)) * te.size := by
    rw [← hzz]; simp [Builtin.zeroCells, hzc]
  have hsz : (old ++ new ++ zz).size = cap' * te.size := by
    simp only [Array.size_append, ho.size, hn.size, hzs, ← Nat.add_mul]
    congr 1; omega
  have hle : (cn + dn) * te.size ≤ cap' * te.size := Nat.mul_le_mul_right _ hcap
  generalize hw' : ({ ({ w with drawn := w.drawn + 1 } : World) with heap := w.heap.push (.cells (old ++ new ++ zz) e) } : World) = w' at hrun
  have hheap : w'.heap = w.heap.push (.cells (old ++ new ++ zz) e) := by rw [← hw']
  have hbelow : Bel w w' := by
    refine .block w.heap.size (by rw [← hw']) (by rw [← hw']) (by rw [← hw']) (by rw [← hw']; simp) (fun b' hb' => by rw [hheap, Array.getElem?_push, if_neg hb']) (by rw [Array.getElem?_eq_none (Nat.le_refl _)]; exact unf_none) (by rw [hheap]; simp; exact unf_cells _ _)
  have hnew : w'.heap[w.heap.size]? = some (.cells (old ++ new ++ zz) e (0, 0)) := by rw [hheap]; simp
  obtain ⟨S', M', K', L', hS, T⟩ := M.tokStep (k := k) (b := w.heap.size) (esz := te.size) (hw' := cn + dn) hbelow (fun b' hb' _ => by rw [hheap, Array.getElem?_push]; rw [if_neg (by omega)]) hnew (by omega) (by omega) hk
    (fun b0 hw h => .inr (hlt b0 hw h)) (.inl (Nat.le_refl _))
  refine ⟨_, S', w', _, hrun, M', L', K', ?_, T⟩
  have hval : ∀ j, j < (cn + dn) * te.size → Rep S w noI (E.get j) (rdv w' w.heap.size j) := by
    intro j hj
    rw [rdv, rd_of_heap hnew]
    by_cases h : j < cn * te.size
    · have := ho.rep j h
      rw [Array.getD_eq_getD_getElem?] at this
      rw [Array.getElem?_append_left (by simp only [Array.size_append, ho.size]; omega), Array.getElem?_append_left (by rw [ho.size]; omega)]
      exact this
    · have h2 : j - cn * te.size < dn * te.size := by rw [Nat.add_mul] at hj; omega
      have := hn.rep (j - cn * te.size) h2
      rw [Array.getD_eq_getD_getElem?, show cn * te.size + (j - cn * te.size) = j by omega] at this
      rw [Array.getElem?_append_left (by simp only [Array.size_append, ho.size, hn.size]; omega), Array.getElem?_append_right (by rw [ho.size]; omega), ho.size]
      exact this
  have := Rep.isl (S := S') (w := w') (ι.sett k w.heap.size (cn + dn)) E (.own k) w.heap.size 0 cap' (by omega) (fun j hj => by rw [Nat.zero_add]; exact hS j (by omega))
    (fun j hj => by rw [Nat.zero_add]; exact (hval j (by omega)).mono K' _ (.refl _)) (fun h => by cases h)
    (fun k' h => by
      cases h
      exact .inr ⟨w.heap.size, cn + dn, by simp [Ix.sett], by omega, .inl ⟨rfl, rfl, fun j hj => by
        rw [rd_of_heap hnew, Array.getElem?_eq_getElem (by rw [hsz, ← hEs]; exact hj)]; rfl⟩⟩)
  rw [hE] at this
  exact this
theorem Src.row {S : Imm} {w : World} {d : CL} {vx : Value} (h : Src S w d vx) : ∃ ad cap vals, vx = .slice ad d.cnt cap ∧ Row S w d.esz d.cnt d.get (.slice ad d.cnt cap) vals := by
  obtain ⟨ad, cap, rfl, vals, h1, h2, h3⟩ := h
  exact ⟨ad, cap, vals, rfl, ⟨by rw [h1, ncell_eq], fun j hj => h2 j (by rw [ncell_eq]; exact hj), h3⟩⟩
theorem src_of_isl {S : Imm} {w : World} {ι : Ix} {H : Hp} (M : Mem S w ι H) {c : CL} {t : Tok} {v : Value} (h : Rep S w ι (.isl c t) v) : Src S w c v := by
  cases h with
  | islnil _ _ _ hc => exact src_nil hc
  | isl _ _ _ b off cap hc hs hh hf ho => exact src_of_lies (fun j hj => M.imm _ _ (hs j hj)) hh
theorem allRecs_get {m : Nat} : ∀ (rs : List (List PV)), allRecs m rs → ∀ i, i < rs.length → allOne (rs.getD i []) = true ∧ (rs.getD i []).length = m := by
  intro rs
  induction rs with
  | nil => intro _ i hi; simp at hi
  | cons r rs ih =>
    intro h i hi
    cases i with
    | zero => have := h.1; rw [Bool.and_eq_true] at this; exact ⟨this.2, Nat.eq_of_beq_eq_true this.1⟩
    | succ i => simpa using ih h.2 i (by simpa using hi)
theorem oneK_iff {d : CL} {K : Prop} (h : oneK d K) : K ∧ ∀ j, j < d.ncell → one (d.get j) = true := by
  unfold oneK at h
  split at h
  · rw [ifK_iff] at h
    exact ⟨h.2, fun j hj => allOne_get _ h.1 j hj⟩
  · exact ⟨h, fun j _ => rfl⟩
  · exact ⟨h, fun j _ => rfl⟩
  · exact ⟨h, fun j _ => rfl⟩
  · exact ⟨h, fun j _ => rfl⟩
  · rename_i m rs
    refine ⟨h.2, fun j hj => ?_⟩
    simp only [CL.ncell] at hj
    have hm : 0 < m := by rcases Nat.eq_zero_or_pos m with h | h; (subst h; simp at hj); exact h
    have h1 : j / m < rs.length := by rw [Nat.div_lt_iff_lt_mul hm]; exact hj
    obtain ⟨g1, g2⟩ := allRecs_get rs h.1 _ h1
    exact allOne_get _ g1 _ (by rw [g2]; exact Nat.mod_lt _ hm)
  · exact h.elim
/-- append in place -/
theorem app_fit (hτ : TabOK P τ) {t u ty e : TypeId} {tt tu te : TE} (ht : τ t = some tt) (hu : τ u = some tu) (he : τ e = some te) (hd : tt.und = .slice e) {e' : TypeId} (hd' : tu.und = .slice e')
    {S : Imm} {w : World} {ι : Ix} {H : Hp} (M : Mem S w ι H) {k hw b : Nat} (hk : Hget H k = some (.tok te.size hw)) (hb : ι.t k = some (b, hw)) {xb : Option Addr} {cap dn xc : Nat}
    (hfit : hw + dn ≤ cap) (hcells : ∀ j, j < cap * te.size → (rd w b j).isSome) (hpos : 0 < hw) {E : CL} (hE : E.cnt = hw + dn) (hEs : E.esz = te.size)
    (hold : ∀ j, j < hw * te.size → S b j ∧ Rep S w noI (E.get j) (rdv w b j)) {new : Array Value} (hone : ∀ j, j < dn * te.size → one (E.get (hw * te.size + j)) = true)
    (hn : Row S w te.size dn (fun j => E.get (hw * te.size + j)) (.slice xb dn xc) new) :
    AppOK P S w ι H (Builtin.append_ #[t, u] ty #[.slice (some ⟨b, 0, none⟩) hw cap, .slice xb dn xc]) (.isl E (.own k)) [(k, .tok te.size (hw + dn))] := by
  have hEn : E.ncell = (hw + dn) * te.size := by rw [ncell_eq, hE, hEs]
  obtain ⟨_, g⟩ := M.obj k _ hk
  obtain ⟨b', arr, e0, g1, g2, g3⟩ := g hpos
  rw [hb] at g1; cases g1
  have hsz : cap * te.size ≤ arr.size := by
    rcases Nat.eq_zero_or_pos (cap * te.size) with h | h
    · omega
    · have := hcells (cap * te.size - 1) (by omega)
      rw [rd_of_heap g2] at this
      rcases Nat.lt_or_ge (cap * te.size - 1) arr.size with h1 | h1
      · omega
      · rw [Array.getElem?_eq_none h1] at this; simp at this
  have hle : (hw + dn) * te.size ≤ cap * te.size := Nat.mul_le_mul_right _ hfit
  have hadd : (hw + dn) * te.size = hw * te.size + dn * te.size := Nat.add_mul _ _ _
  have honeV : ∀ v ∈ new.toList, v.oneCell' = true := by
    intro v hv
    obtain ⟨i, hi, rfl⟩ := List.getElem_of_mem hv
    have hi' : i < dn * te.size := by rw [← hn.size]; simpa using hi
    have := (hn.rep i hi').oneCell (hone i hi')
    simpa [Array.getD_eq_getD_getElem?, Array.getElem?_eq_getElem (show i < new.size by simpa using hi)] using this
  obtain ⟨w', r1, uu⟩ := run_storeCells P new.toList (o := hw * te.size) (i := 0) g2 honeV (by simp [hn.size]; omega)
  have hput : ∀ j, (putRow arr (hw * te.size + 0) new.toList).getD j undef = if hw * te.size ≤ j ∧ j < hw * te.size + dn * te.size then new.getD (j - hw * te.size) undef else arr.getD j undef := by
    intro j
    rw [putRow_get _ _ _ _ (by simp [hn.size]; omega)]
    simp only [Nat.add_zero, Array.length_toList, hn.size]
    congr 1
    simp [Array.getD_eq_getD_getElem?]
  have hsz' : (putRow arr (hw * te.size + 0) new.toList).size = arr.size := putRow_size _ _ _
  obtain ⟨S', M', K', L', hS, T⟩ := M.tokStep (k := k) (b := b) (esz := te.size) (hw' := hw + dn) uu.below (fun b' _ hb' => uu.other b' hb') uu.here (by omega) (by omega) (.inr ⟨hw, hk⟩)
    (fun b0 hw0 h => by rw [hb] at h; cases h; exact .inl ⟨rfl, by omega⟩) (.inr ⟨hw, arr, e0, hk, hb, g2, by omega, fun j hj => by
      have := hput j
      rw [if_neg (by omega)] at this
      have hj1 : j < arr.size := by omega
      simp only [Array.getD_eq_getD_getElem?, Array.getElem?_eq_getElem hj1, Array.getElem?_eq_getElem (show j < (putRow arr (hw * te.size + 0) new.toList).size by omega), Option.getD_some] at this
      rw [Array.getElem?_eq_getElem hj1, Array.getElem?_eq_getElem (by omega), this]⟩)
  have hrun := run_append_fit (ty := ty) (w' := w') hτ ht hu he hd hd' (base := some ⟨b, 0, none⟩) (sLen := hw) (sCap := cap) hfit (hn.run P w rfl) (by simpa [add_none] using r1)
  refine ⟨_, S', w', _, hrun, M', L', K', ?_, T⟩
  have := Rep.isl (S := S') (w := w') (ι.sett k b (hw + dn)) E (.own k) b 0 cap (by omega) (fun j hj => by rw [Nat.zero_add]; exact hS j (by omega))
    (fun j hj => by
      rw [Nat.zero_add]
      by_cases h : j < hw * te.size
      · obtain ⟨h1, h2⟩ := hold j h
        have := h2.mono K' _ (.refl _)
        rw [rdv, (K'.imm b j h1).2]; exact this
      · have h2 : j - hw * te.size < dn * te.size := by omega
        have := (hn.rep _ h2).mono K' _ (.refl _)
        rw [show hw * te.size + (j - hw * te.size) = j by omega] at this
        have h3 := hput j
        rw [if_pos (by omega)] at h3
        rw [rdv, rd_of_heap uu.here, ← Array.getD_eq_getD_getElem?, h3]; exact this) (fun h => by cases h)
    (fun k' h => by
      cases h
      exact .inr ⟨b, hw + dn, by simp [Ix.sett], by omega, .inl ⟨rfl, rfl, fun j hj => K'.cells _ _ (hcells j (by rw [← hEs]; exact hj))⟩⟩)
  rw [hE] at this
  exact this
theorem appK_cells {c d e : CL} (he : e.esz = c.esz) (hd : d.esz = c.esz) (hn : e.cnt = c.cnt + d.cnt) : e.ncell = c.ncell + d.ncell := by
  rw [ncell_eq, ncell_eq, ncell_eq, he, hd, hn, Nat.add_mul]
theorem Rep.islSlice {S : Imm} {w : World} {ι : Ix} {c : CL} {t : Tok} {v : Value} (h : Rep S w ι (.isl c t) v) : ∃ ad cap, v = .slice ad c.cnt cap := by
  cases h with
  | islnil _ _ _ hc => exact ⟨none, 0, by rw [hc]⟩
  | isl _ _ _ b off cap => exact ⟨_, _, rfl⟩
theorem Rep.islCap {S : Imm} {w : World} {ι : Ix} {c : CL} {t : Tok} {v : Value} (h : Rep S w ι (.isl c t) v) : ∃ ad cap, v = .slice ad c.cnt cap ∧ c.cnt ≤ cap := by
  cases h with
  | islnil _ _ _ hc => exact ⟨none, 0, by rw [hc], by omega⟩
  | isl _ _ _ b off cap hc => exact ⟨_, _, rfl, hc⟩
theorem Rep.rslSlice {S : Imm} {w : World} {ι : Ix} {k off n : Nat} {v : Value} (h : Rep S w ι (.rsl k off n) v) : ∃ ad cap, v = .slice ad n cap := by
  cases h <;> exact ⟨_, _, rfl⟩
/-- append, whatever comes -/
theorem sound_app (hτ : TabOK P τ) {t u ty e : TypeId} {tt tu te : TE} (ht : τ t = some tt) (hu : τ u = some tu) (he : τ e = some te) (hd : tt.und = .slice e) {e' : TypeId} (hd' : tu.und = .slice e') (hby : te.bytes ≤ 65536)
    {H : Hp} {n : Nat} {s x : PV} {K : KR} (h : appendI te H n s x K) :
    ∃ v sets accs news, K v sets accs news ∧ ∀ {S : Imm} {w : World} {ι : Ix} {H' : Hp} {vs vx : Value}, Mem S w ι H' → Rep S w ι s vs → Rep S w ι x vx → (∀ k ∈ accs, Hget H' k = Hget H k) → (∀ k ∈ news, Hget H' k = none) →
      AppOK P S w ι H' (Builtin.append_ #[t, u] ty #[vs, vx]) v sets := by
  -- nothing is appended
  have nil0 : ∀ {base : Option Addr} {sLen sCap : Nat} (w : World), sLen ≤ sCap → ∀ {xb : Option Addr} {xc : Nat}, (Builtin.firstCells te.size 0 (.slice xb 0 xc)).run P w = .ok #[] w →
      (Builtin.append_ #[t, u] ty #[.slice base sLen sCap, .slice xb 0 xc]).run P w = .ok (.slice base sLen sCap) w := by
    intro base sLen sCap w hle xb xc hf
    have := run_append_fit (ty := ty) (w' := w) hτ ht hu he hd hd' (base := base) (sLen := sLen) (sCap := sCap) (n := 0) (xb := xb) (xc := xc) (by omega) hf (by cases base <;> rfl)
    simpa using this
  have row0 : ∀ {S : Imm} {w : World} {esz : Nat} {g : Nat → PV} {vx : Value} {vals : Array Value}, Row S w esz 0 g vx vals → (Builtin.firstCells esz 0 vx).run P w = .ok #[] w := by
    intro S w esz g vx vals h
    have := h.run P w rfl
    have hs := h.size
    rw [Nat.zero_mul] at hs
    rw [Array.eq_empty_of_size_eq_zero hs] at this; exact this
  unfold appendI appendK at h
  split at h
  · -- nil slice
    split at h
    · refine ⟨_, _, _, _, h, fun M hs hx ha hn => ?_⟩
      cases hs; cases hx
      exact .same M (nil0 _ (Nat.le_refl _) rfl) (.nils _)
    · obtain ⟨d, acc, h, hd0⟩ := srcK_sound h
      simp only [cntK_eq, eszK_eq, freshK_iff, ifK_iff] at h
      obtain ⟨hfr, hbd, hez, hK⟩ := h
      have hez := Nat.eq_of_beq_eq_true hez
      refine ⟨_, _, _, _, hK, fun M hs hx ha hn => ?_⟩
      rename_i S w ι H' vs vx
      have hno := hn n (by simp)
      have hsrc := hd0 M ha hx
      obtain ⟨ad, cap, vals, rfl, hrow⟩ := hsrc.row
      cases hs
      by_cases h0 : d.cnt = 0
      · rw [h0] at hrow ⊢
        rw [hez]
        rw [hez] at hrow
        exact .virgin hno _ M (nil0 _ (Nat.le_refl _) (row0 hrow)) (.islnil _ _ _ h0)
      · have := app_grow (ty := ty) hτ ht hu he hd hd' M (k := n) (.inl hno) (base := none) (xb := ad) (cn := 0) (sCap := 0) (dn := d.cnt) (xc := cap) (fun b0 hw hh => by rw [M.none_t hno] at hh; cases hh) (by omega) (by omega) hby
          (E := d) (by omega) hez (old := #[]) ⟨by simp, fun j hj => by simp at hj, fun P w' hw => rfl⟩ (new := vals) (by
            rw [hez] at hrow
            refine ⟨hrow.size, fun j hj => ?_, hrow.run⟩
            rw [Nat.zero_mul, Nat.zero_add]; exact hrow.rep j hj)
        rw [Nat.zero_add] at this
        rw [hez]; exact this
  · rename_i c tk
    split at h
    · -- nil is appended
      simp only [cntK_eq, eszK_eq, ifK_iff] at h
      obtain ⟨hbd, hez, hK⟩ := h
      refine ⟨_, _, _, _, hK, fun M hs hx ha hn => ?_⟩
      cases hx
      obtain ⟨ad, cap, e1, hcap⟩ := hs.islCap
      subst e1
      exact .same M (nil0 _ hcap rfl) hs.drop
    · have h' := srcK_sound h
      clear h
      obtain ⟨d, acc, h, hd0⟩ := h'
      split at h
      · -- a slice that has grown
        rename_i k
        rw [getHK_iff] at h
        obtain ⟨ob, hob, h⟩ := h
        split at h
        · rename_i m hw
          simp only [cntK_eq, eszK_eq, ifK_iff] at h
          obtain ⟨hhw, hm, h⟩ := h
          have hm := Nat.eq_of_beq_eq_true hm
          obtain ⟨h, hone⟩ := oneK_iff h
          obtain ⟨E, h, a1, a2, a3, a4, a5⟩ := appK_sound h
          try simp only [cntK_eq, eszK_eq, ifK_iff] at h
          obtain ⟨hbd, hez, hK⟩ := h
          have hez := Nat.eq_of_beq_eq_true hez
          refine ⟨_, _, _, _, hK, fun M hs hx ha hn => ?_⟩
          rename_i S w ι H' vs vx
          have hobj := (ha k (by simp)).trans hob
          have hsrc := hd0 M (fun k' hk' => ha k' (by simp [hk'])) hx
          obtain ⟨ad, xcap, vals, rfl, hrow⟩ := hsrc.row
          have hde : d.esz = te.size := by omega
          have hce : c.esz = te.size := by omega
          rw [hde] at hrow
          have hm' : m = te.size := by omega
          subst hm'
          obtain ⟨o1, o2⟩ := M.obj k _ hobj
          have hcn : c.ncell = c.cnt * te.size := by rw [ncell_eq, hce]
          have hdn : d.ncell = d.cnt * te.size := by rw [ncell_eq, hde]
          have hrow' : Row S w te.size d.cnt (fun j => E.get (c.cnt * te.size + j)) (.slice ad d.cnt xcap) vals :=
            ⟨hrow.size, fun j hj => by rw [← hcn, a5 j (by omega)]; exact hrow.rep j hj, hrow.run⟩
          have hold : ∀ {base cap}, Row S w te.size c.cnt c.get (.slice base c.cnt cap) (vals) ∨ True → True := fun _ => trivial
          have grow : ∀ {base : Option Addr} {cap : Nat}, Rep S w ι (.isl c (.own k)) (.slice base c.cnt cap) → cap < c.cnt + d.cnt → 0 < d.cnt →
              AppOK P S w ι H' (Builtin.append_ #[t, u] ty #[.slice base c.cnt cap, .slice ad d.cnt xcap]) (.isl E (.own k)) [(k, .tok te.size (hw + d.cnt))] := by
            intro base cap hr hlt hpos
            obtain ⟨ad2, cap2, vals2, e1, hrow2⟩ := (src_of_isl M hr).row
            cases e1
            rw [hce] at hrow2
            have := app_grow (ty := ty) hτ ht hu he hd hd' M (k := k) (.inr ⟨hw, hobj⟩) (base := base) (xb := ad) (cn := c.cnt) (sCap := cap) (dn := d.cnt) (xc := xcap) (fun b0 hw0 hh => by
                rcases Nat.eq_zero_or_pos hw with hz | hz
                · rw [o1 hz] at hh; cases hh
                · obtain ⟨b', arr, e0, g1, g2, g3⟩ := o2 hz
                  rw [hh] at g1; cases g1; omega) hlt (by omega) hby (E := E) a3 hez (old := vals2)
                ⟨hrow2.size, fun j hj => by rw [a4 j (by omega)]; exact hrow2.rep j hj, hrow2.run⟩ hrow'
            rw [← hhw] at this ⊢; exact this
          cases hs with
          | islnil _ _ _ hc =>
            by_cases h0 : d.cnt = 0
            · rw [h0] at hrow ⊢
              refine .again hobj M (nil0 _ (Nat.le_refl _) (row0 hrow)) (.islnil _ _ _ (by omega))
            · have := grow (base := none) (cap := 0) (by rw [hc]; exact .islnil _ _ _ hc) (by omega) (by omega)
              rw [hc] at this; exact this
          | isl _ _ _ b off cap hc hss hh hf ho =>
            have hr := Rep.isl (S := S) (w := w) ι c (.own k) b off cap hc hss hh hf ho
            by_cases hfit : c.cnt + d.cnt ≤ cap
            · by_cases h0 : d.cnt = 0
              · rw [h0] at hrow ⊢
                refine .again hobj M (nil0 _ hc (row0 hrow)) ?_
                have hEc : E.cnt = c.cnt := by omega
                have hEn : E.ncell = c.ncell := by rw [ncell_eq, ncell_eq, hEc, a1]
                have := Rep.isl (S := S) (w := w) ι E (.own k) b off cap (by omega) (fun j hj => hss j (by omega)) (fun j hj => by rw [a4 j (by omega)]; exact hh j (by omega)) (fun h => by cases h)
                  (fun k' hk' => by rw [hEc, a1]; exact ho k' hk')
                rw [hEc] at this; exact this
              · rcases ho k rfl with hz | ⟨b1, n1, g1, g2, g3⟩
                · omega
                · rcases Nat.eq_zero_or_pos hw with hz | hz
                  · rw [o1 hz] at g1; cases g1
                  · obtain ⟨b', arr, e0, q1, q2, q3⟩ := o2 hz
                    rw [g1] at q1; cases q1
                    rcases g3 with ⟨rfl, rfl, g3⟩ | g3
                    · subst hhw
                      refine app_fit (ty := ty) hτ ht hu he hd hd' M hobj g1 hfit (fun j hj => g3 j (by rw [hce]; exact hj)) hz a3 hez (fun j hj => ?_) (fun j hj => ?_) hrow'
                      · rw [a4 j (by omega)]
                        have h1 := hss j (by omega)
                        have h2 := hh j (by omega)
                        rw [Nat.zero_add] at h1 h2
                        exact ⟨h1, h2⟩
                      · rw [← hcn, a5 j (by omega)]; exact hone j (by omega)
                    · omega
            · exact grow hr (by omega) (by omega)
        · exact h.elim
      · -- a full slice
        simp only [cntK_eq, eszK_eq] at h
        obtain ⟨hor, h⟩ := h
        obtain ⟨E, h, a1, a2, a3, a4, a5⟩ := appK_sound h
        simp only [cntK_eq, eszK_eq, ifK_iff, freshK_iff] at h
        obtain ⟨hfr, hbd, hez, hK⟩ := h
        have hez := Nat.eq_of_beq_eq_true hez
        refine ⟨_, _, _, _, hK, fun M hs hx ha hn => ?_⟩
        rename_i S w ι H' vs vx
        have hno := hn n (by simp)
        have hsrc := hd0 M ha hx
        obtain ⟨ad, xcap, vals, rfl, hrow⟩ := hsrc.row
        have hde : d.esz = te.size := by omega
        have hce : c.esz = te.size := by omega
        rw [hde] at hrow
        have hcn : c.ncell = c.cnt * te.size := by rw [ncell_eq, hce]
        have hdn : d.ncell = d.cnt * te.size := by rw [ncell_eq, hde]
        have hrow' : Row S w te.size d.cnt (fun j => E.get (c.cnt * te.size + j)) (.slice ad d.cnt xcap) vals :=
          ⟨hrow.size, fun j hj => by rw [← hcn, a5 j (by omega)]; exact hrow.rep j hj, hrow.run⟩
        have hcap : ∃ base, vs = .slice base c.cnt c.cnt := by
          cases hs with
          | islnil _ _ _ hc => exact ⟨none, by rw [hc]⟩
          | isl _ _ _ b off cap hc hss hh hf ho => exact ⟨_, by rw [hf rfl]⟩
        obtain ⟨base, rfl⟩ := hcap
        obtain ⟨ad2, cap2, vals2, e1, hrow2⟩ := (src_of_isl M hs).row
        cases e1
        rw [hce] at hrow2
        rw [hez, a3]
        by_cases h0 : d.cnt = 0
        · have hc0 : c.cnt = 0 := by omega
          have hE0 : E.cnt = 0 := by omega
          rw [h0] at hrow ⊢
          rw [show c.cnt + 0 = 0 by omega]
          refine .virgin hno _ M (nil0 _ (Nat.le_refl _) (row0 hrow)) ?_
          have key : ∀ vs : Value, Rep S w ι (.isl c .full) vs → Rep S w ι (.isl E (.own n)) vs := by
            intro vs hs
            cases hs with
            | islnil _ _ _ hc => exact .islnil _ _ _ hE0
            | isl _ _ _ b off cap hc hss hh hf ho =>
              have := Rep.isl (S := S) (w := w) ι E (.own n) b off 0 (by omega) (fun j hj => by rw [ncell_eq, hE0] at hj; omega) (fun j hj => by rw [ncell_eq, hE0] at hj; omega) (fun h => by cases h) (fun _ _ => .inl rfl)
              rw [hE0] at this
              rw [hf rfl, hc0]; exact this
          exact key _ hs
        · exact app_grow (ty := ty) hτ ht hu he hd hd' M (k := n) (.inl hno) (base := base) (xb := ad) (cn := c.cnt) (sCap := c.cnt) (dn := d.cnt) (xc := xcap) (fun b0 hw hh => by rw [M.none_t hno] at hh; cases hh) (by omega) (by omega) hby
            (E := E) a3 hez (old := vals2) ⟨hrow2.size, fun j hj => by rw [a4 j (by omega)]; exact hrow2.rep j hj, hrow2.run⟩ hrow'
      · exact h.elim
  · exact h.elim
end Go.Eng
namespace Go.Eng
open Go.RowKit
set_option linter.unusedVariables false
set_option linter.unusedSimpArgs false
variable {P : Program} {r : Option Nat} {τ : TypeId → Option TE}
/-- an object of which nothing is known any more -/
abbrev dead : AO := .cells (.pv []) true
theorem Mem.cells_t {S : Imm} {w : World} {ι : Ix} {H : Hp} (M : Mem S w ι H) {k : Nat} {o : AO} (h : Hget H k = some o) (ho : o.isTok = false) : ι.t k = none := by
  cases et : ι.t k with
  | none => rfl
  | some x => obtain ⟨o', g1, g2⟩ := M.liveT k x et; rw [h] at g1; cases g1; rw [ho] at g2; cases g2
/-- the block of an object goes to another name -/
theorem Mem.move {S : Imm} {w : World} {ι : Ix} {H : Hp} (M : Mem S w ι H) {k n b : Nat} {c : CL} (hk : Hget H k = some (.cells c false)) (hn : Hget H n = none) (hb : ι.o k = some b) :
    Mem S w (ι.seto n b) (Hput (Hput H k dead) n (.cells c false)) ∧ ι.le (ι.seto n b) ∧ ∀ p, Tr p S w ι H S w (ι.seto n b) (Hput (Hput H k dead) n (.cells c false)) := by
  have hno := M.none_o hn
  have hle : ι.le (ι.seto n b) := seto_le hno
  have hkn : k ≠ n := fun e => by subst e; rw [hk] at hn; cases hn
  have get : ∀ k', Hget (Hput (Hput H k dead) n (.cells c false)) k' = if k' = n then some (.cells c false) else if k' = k then some dead else Hget H k' := fun k' => by rw [Hget_put, Hget_put]
  have so : ∀ k', k' ≠ n → (ι.seto n b).o k' = ι.o k' := fun k' e => by simp [Ix.seto, e]
  have sn : (ι.seto n b).o n = some b := by simp [Ix.seto]
  have hhas : ∀ k' o b', k' ≠ n → (AO.has (ι.seto n b) k' o b' ↔ AO.has ι k' o b') := by
    intro k' o b' e
    have et : (ι.seto n b).t k' = ι.t k' := rfl
    have ex : (ι.seto n b).x k' = ι.x k' := rfl
    cases o <;> simp only [AO.has, so k' e, et, ex]
  refine ⟨⟨fun k' o ho => ?_, fun k' b' h => ?_, fun k' x h => ?_, fun k1 k2 o1 o2 b' h1 h2 b1 b2 => ?_, M.imm⟩, hle, fun p => ⟨.refl _, fun _ _ _ => rfl, .refl _ _, fun _ _ _ h => .inl h, ?_, fun k' _ b' h => hle.o k' b' h, fun k' _ b' n' h => hle.t k' b' n' h⟩⟩
  · rw [get] at ho
    split at ho
    · rename_i e; subst e; cases ho
      obtain ⟨b0, arr, e0, g1, g2, g3, g4, g5⟩ := M.obj k _ hk
      rw [hb] at g1; cases g1
      exact ⟨b, arr, e0, sn, g2, g3, fun j hj => (g4 j hj).mono (.refl _ _) _ hle, g5⟩
    · rename_i e
      split at ho
      · rename_i e2; subst e2; cases ho
        exact ⟨b, by rw [so _ e]; exact hb, fun j hj => by simp [CL.ncell] at hj⟩
      · exact (M.obj k' o ho).mono (.refl _ _) hle (.refl _) (fun _ _ => rfl) (fun _ => rfl) rfl (fun _ _ _ h => h)
  · rw [get]
    by_cases e : k' = n
    · rw [if_pos e]; exact ⟨_, rfl, rfl⟩
    · rw [if_neg e]
      rw [so _ e] at h
      by_cases e2 : k' = k
      · rw [if_pos e2]; exact ⟨_, rfl, rfl⟩
      · rw [if_neg e2]; exact M.liveO k' b' h
  · rw [get]
    have h : ι.t k' = some x := h
    by_cases e : k' = n
    · subst e; have h2 : ι.t k' = some x := h; rw [M.none_t hn] at h2; cases h2
    · rw [if_neg e]
      by_cases e2 : k' = k
      · subst e2; have h2 : ι.t k' = some x := h; rw [M.cells_t hk rfl] at h2; cases h2
      · rw [if_neg e2]; exact M.liveT k' x h
  · rw [get] at h1 h2
    have main : ∀ k2 o2, k2 ≠ n → (if k2 = k then some dead else Hget H k2) = some o2 → AO.has (ι.seto n b) k2 o2 b → False := by
      intro k2 o2 e h2 b2
      split at h2
      · cases h2; exact b2.elim
      · rename_i e2
        rw [hhas _ _ _ e] at b2
        exact e2 (M.dist k2 k o2 _ b h2 hk b2 hb)
    by_cases e1 : k1 = n
    · subst e1
      rw [if_pos rfl] at h1; cases h1
      simp only [AO.has, sn] at b1; cases b1
      by_cases e2 : k2 = k1
      · exact e2.symm
      · rw [if_neg e2] at h2; exact (main k2 o2 e2 h2 b2).elim
    · rw [if_neg e1] at h1
      by_cases e2 : k2 = n
      · subst e2
        rw [if_pos rfl] at h2; cases h2
        simp only [AO.has, sn] at b2; cases b2
        exact (main k1 o1 e1 h1 b1).elim
      · rw [if_neg e2] at h2
        rw [hhas _ _ _ e1] at b1
        rw [hhas _ _ _ e2] at b2
        split at h1
        · cases h1; exact b1.elim
        · split at h2
          · cases h2; exact b2.elim
          · exact M.dist k1 k2 o1 o2 b' h1 h2 b1 b2
  · rintro b' ⟨k', o, h1, h2, h3⟩
    rw [get] at h1
    split at h1
    · rename_i e; subst e; cases h1
      simp only [AO.has, sn] at h3; cases h3
      exact .inl ⟨k, _, hk, rfl, hb⟩
    · rename_i e
      rw [hhas _ _ _ e] at h3
      split at h1
      · cases h1; exact h3.elim
      · exact .inl ⟨k', o, h1, h2, h3⟩
/-- an object is let go -/
theorem Mem.drop {S : Imm} {w : World} {ι : Ix} {H : Hp} (M : Mem S w ι H) {k : Nat} {c : CL} (hk : Hget H k = some (.cells c false)) :
    Mem S w ι (Hput H k dead) ∧ ∀ p, Tr p S w ι H S w ι (Hput H k dead) := by
  obtain ⟨b, arr, e, h1, h2, h3, h4, h5⟩ := M.obj k _ hk
  exact M.step1 (b := b) (.refl _) (fun _ _ _ => rfl) (.refl _ _) (fun b' j h => .inl h) (fun j hs => absurd hs (h5 j)) (.refl _) (fun _ _ => rfl) (fun _ _ => rfl) rfl
    (.inr ⟨_, hk, rfl, h1⟩) (fun b' h => h.elim) (by simp [AO.isTok]) (fun _ => M.cells_t hk rfl) ⟨b, h1, fun j hj => by simp [CL.ncell] at hj⟩
/-- a new object in a world that has grown by a row -/
theorem Mem.new' {S : Imm} {w w' : World} {ι : Ix} {H : Hp} (M : Mem S w ι H) {k : Nat} (hk : Hget H k = none) {c : CL} {arr : Array Value} {e : TypeId} (hheap : w'.heap = w.heap.push (.cells arr e)) (hbelow : Bel w w')
    (hn : c.ncell ≤ arr.size) (hc : ∀ j, j < c.ncell → Rep S w ι (c.get j) (arr.getD j undef)) :
    Mem S w' (ι.seto k w.heap.size) (Hput H k (.cells c false)) ∧ Keeps S w S w' ∧ ∀ p, Tr p S w ι H S w' (ι.seto k w.heap.size) (Hput H k (.cells c false)) := by
  have ho := M.none_o hk
  have old : ∀ b', b' < w.heap.size → w'.heap[b']? = w.heap[b']? := fun b' hb' => by rw [hheap, Array.getElem?_push, if_neg (by omega)]
  have hkeep : Keeps S w S w' := by
    have : ∀ b j, (rd w b j).isSome → rd w' b j = rd w b j := fun b j h => rd_congr (old b (rd_lt h)) j
    exact ⟨fun b j h => ⟨h, this b j (M.imm b j h)⟩, fun b j h => by rw [this b j h]; exact h⟩
  have hnoS : ∀ j, ¬ S w.heap.size j := fun j hs => by have := rd_lt (M.imm _ _ hs); omega
  have := M.step (b := w.heap.size) (w' := w') (S' := S) (k := k) (o' := .cells c false) (ι' := ι.seto k w.heap.size) hbelow (fun b' hb' _ => old b' hb') hkeep (fun b' j h => .inl h) (fun j h => absurd h (hnoS j))
    (seto_le ho) (fun k' h => by simp [Ix.seto, h]) (fun _ _ => rfl) rfl (.inl (Nat.le_refl _)) (fun b' => by simp [AO.has, Ix.seto, eq_comm]) (by simp [AO.isTok]) (fun _ => M.none_t hk)
    ⟨w.heap.size, arr, e, by simp [Ix.seto], by rw [hheap]; simp, hn, fun j hj => (hc j hj).mono hkeep _ (seto_le ho), hnoS⟩
  exact ⟨this.1, hkeep, this.2⟩
/-- append that lays a new row, as a new object -/
theorem app_growG (hτ : TabOK P τ) {t u ty e : TypeId} {tt tu te : TE} (ht : τ t = some tt) (hu : τ u = some tu) (he : τ e = some te) (hd : tt.und = .slice e) {e' : TypeId} (hd' : tu.und = .slice e')
    {S : Imm} {w : World} {ι : Ix} {H : Hp} (M : Mem S w ι H) {n : Nat} (hno : Hget H n = none) {base xb : Option Addr} {cn sCap dn xc : Nat}
    (hgrow : sCap < cn + dn) (hbd : cn + dn ≤ 1073741824) (hby : te.bytes ≤ 65536) (h1 : te.size = 1) {E : CL} (hE : E.cnt = cn + dn) (hEs : E.esz = 1)
    {old new : Array Value} (ho : Row S w te.size cn E.get (.slice base cn sCap) old) (hn : Row S w te.size dn (fun j => E.get (cn * te.size + j)) (.slice xb dn xc) new) :
    AppOK P S w ι H (Builtin.append_ #[t, u] ty #[.slice base cn sCap, .slice xb dn xc]) (.rsl n 0 (cn + dn)) [(n, .cells E false)] := by
  obtain ⟨cap', hcap, hrun⟩ := run_append_grow (ty := ty) hτ ht hu he hd hd' hgrow hbd hby (ho.run P { w with drawn := w.drawn + 1 } rfl) (hn.run P { w with drawn := w.drawn + 1 } rfl)
  have hEn : E.ncell = cn + dn := by rw [ncell_eq, hE, hEs, Nat.mul_one]
  have hzc : te.zero.cells.size = te.size := hτ.zsz _ _ he
  generalize hzz : Builtin.zeroCells te.zero.cells (cap' - (cn + dn)) = zz at hrun
  have hzs : zz.size = cap' - (cn + dn) := by
    rw [← hzz]; simp [Builtin.zeroCells, hzc, h1]
  have os := ho.size
  have ns := hn.size
  rw [h1, Nat.mul_one] at os ns
  have hsz : (old ++ new ++ zz).size = cap' := by
    simp only [Array.size_append, os, ns, hzs]; omega
  generalize hw' : ({ ({ w with drawn := w.drawn + 1 } : World) with heap := w.heap.push (.cells (old ++ new ++ zz) e) } : World) = w' at hrun
  have hheap : w'.heap = w.heap.push (.cells (old ++ new ++ zz) e) := by rw [← hw']
  have hbelow : Bel w w' := by
    refine .block w.heap.size (by rw [← hw']) (by rw [← hw']) (by rw [← hw']) (by rw [← hw']; simp) (fun b' hb' => by rw [hheap, Array.getElem?_push, if_neg hb']) (by rw [Array.getElem?_eq_none (Nat.le_refl _)]; exact unf_none) (by rw [hheap]; simp; exact unf_cells _ _)
  obtain ⟨M', K', T⟩ := M.new' hno (c := E) hheap hbelow (by omega) (fun j hj => by
    rw [hEn] at hj
    by_cases h : j < cn
    · have := ho.rep j (by rw [h1]; omega)
      rw [Array.getD_eq_getD_getElem?] at this ⊢
      rw [Array.getElem?_append_left (by simp only [Array.size_append, os]; omega), Array.getElem?_append_left (by omega)]
      exact this.up ι
    · have := hn.rep (j - cn) (by rw [h1]; omega)
      rw [h1, Nat.mul_one, Array.getD_eq_getD_getElem?, show cn + (j - cn) = j by omega] at this
      rw [Array.getD_eq_getD_getElem?, Array.getElem?_append_left (by simp only [Array.size_append, os, ns]; omega), Array.getElem?_append_right (by omega), os]
      exact this.up ι)
  refine ⟨_, S, w', _, hrun, M', seto_le (M.none_o hno), K', ?_, T⟩
  exact .rsl _ _ _ _ _ _ (by simp [Ix.seto]) hcap (fun _ j hj => by
    rw [rd_of_heap (arr := old ++ new ++ zz) (e := e) (f := (0, 0)) (by rw [hheap]; simp), Array.getElem?_eq_getElem (by rw [hsz]; exact hj)]; rfl)
theorem sound_appN (hτ : TabOK P τ) {t u ty e : TypeId} {tt tu te : TE} (ht : τ t = some tt) (hu : τ u = some tu) (he : τ e = some te) (hd : tt.und = .slice e) {e' : TypeId} (hd' : tu.und = .slice e') (hby : te.bytes ≤ 65536)
    {H : Hp} {n : Nat} {x : PV} {K : KR} (h : appendN te H n x K) :
    ∃ v sets accs news, K v sets accs news ∧ ∀ {S : Imm} {w : World} {ι : Ix} {H' : Hp} {vs vx : Value}, Mem S w ι H' → Rep S w ι .nils vs → Rep S w ι x vx → (∀ k ∈ accs, Hget H' k = Hget H k) → (∀ k ∈ news, Hget H' k = none) →
      AppOK P S w ι H' (Builtin.append_ #[t, u] ty #[vs, vx]) v sets := by
  unfold appendN at h
  obtain ⟨d, acc, h, hd0⟩ := srcK_sound h
  simp only [cntK_eq, eszK_eq, freshK_iff, ifK_iff, Bool.and_eq_true] at h
  obtain ⟨⟨hpos, hbd⟩, ⟨e1, e2⟩, hfr, hK⟩ := h
  have e1 := Nat.eq_of_beq_eq_true e1
  have e2 := Nat.eq_of_beq_eq_true e2
  refine ⟨_, _, _, _, hK, fun M hs hx ha hn => ?_⟩
  have hno := hn n (by simp)
  have hsrc := hd0 M ha hx
  obtain ⟨ad, cap, vals, rfl, hrow⟩ := hsrc.row
  cases hs
  have h1 : te.size = 1 := by omega
  have := app_growG (ty := ty) hτ ht hu he hd hd' M (n := n) hno (base := none) (xb := ad) (cn := 0) (sCap := 0) (dn := d.cnt) (xc := cap) (by omega) (by omega) hby h1
    (E := d) (by omega) e2 (old := #[]) ⟨by simp, fun j hj => by simp at hj, fun P w' hw => rfl⟩ (new := vals) (by
      rw [e1] at hrow
      refine ⟨hrow.size, fun j hj => ?_, hrow.run⟩
      rw [Nat.zero_mul, Nat.zero_add]; exact hrow.rep j hj)
  rw [Nat.zero_add] at this
  exact this
theorem sound_appR (hτ : TabOK P τ) {t u ty e : TypeId} {tt tu te : TE} (ht : τ t = some tt) (hu : τ u = some tu) (he : τ e = some te) (hd : tt.und = .slice e) {e' : TypeId} (hd' : tu.und = .slice e') (hby : te.bytes ≤ 65536)
    {H : Hp} {n k off m : Nat} {x : PV} {K : KR} (h : appendR te H n k off m x K) :
    ∃ v sets accs news, K v sets accs news ∧ ∀ {S : Imm} {w : World} {ι : Ix} {H' : Hp} {vs vx : Value}, Mem S w ι H' → Rep S w ι (.rsl k off m) vs → Rep S w ι x vx → (∀ k ∈ accs, Hget H' k = Hget H k) → (∀ k ∈ news, Hget H' k = none) →
      AppOK P S w ι H' (Builtin.append_ #[t, u] ty #[vs, vx]) v sets := by
  unfold appendR at h
  obtain ⟨c, acc, hA, hc0⟩ := srcK_sound h
  clear h
  obtain ⟨d, acc', hB, hd0⟩ := srcK_sound hA
  clear hA
  rw [getHK_iff] at hB
  obtain ⟨ob, hob, hC⟩ := hB
  split at hC
  · rename_i c1
    simp only [cntK_eq, eszK_eq, ifK_iff, Bool.and_eq_true] at hC
    obtain ⟨⟨hpos, hbd⟩, ⟨⟨e0, e1⟩, e2⟩, hD⟩ := hC
    have e0 := Nat.eq_of_beq_eq_true e0
    have e1 := Nat.eq_of_beq_eq_true e1
    have e2 := Nat.eq_of_beq_eq_true e2
    subst e0
    obtain ⟨hE, hone⟩ := oneK_iff hD
    obtain ⟨E, hF, a1, a2, a3, a4, a5⟩ := appK_sound hE
    rw [freshK_iff] at hF
    obtain ⟨hfr, hK⟩ := hF
    refine ⟨_, _, _, _, hK, fun M hs hx ha hn => ?_⟩
    rename_i S w ι H' vs vx
    have hno := hn n (by simp)
    have hobj := (ha k (by simp)).trans hob
    have hsrc := hd0 M (fun k' hk' => ha k' (by simp [hk'])) hx
    obtain ⟨ad, xcap, vals, rfl, hrow⟩ := hsrc.row
    have hsrc2 := hc0 M (fun k' hk' => ha k' (by simp [hk'])) hs
    obtain ⟨ad2, cap, vals2, e3, hrow2⟩ := hsrc2.row
    have h1 : te.size = 1 := by omega
    have hcm : c.cnt = m := by
      obtain ⟨ad', cap', e5⟩ := hs.rslSlice
      rw [e3] at e5
      cases e5; rfl
    have hcn : c.ncell = m := by rw [ncell_eq, e2, Nat.mul_one, hcm]
    have hdn : d.ncell = d.cnt := by rw [ncell_eq, a2, e2, Nat.mul_one]
    have hEn : E.ncell = m + d.cnt := by rw [ncell_eq, a3, a1, e2, Nat.mul_one, hcm]
    have hkn : n ≠ k := fun e => by subst e; rw [hobj] at hno; cases hno
    rw [a2, e2] at hrow
    rw [e2] at hrow2
    subst e3
    rw [hcm] at hs hrow2 ⊢
    have rowD : Row S w te.size d.cnt (fun j => E.get (m * te.size + j)) (.slice ad d.cnt xcap) vals :=
      ⟨by rw [h1]; exact hrow.size, fun j hj => by rw [h1] at hj; rw [h1, Nat.mul_one, ← hcn, a5 j (by omega)]; exact hrow.rep j hj, by rw [h1]; exact hrow.run⟩
    have rowC : Row S w te.size m E.get (.slice ad2 m cap) vals2 :=
      ⟨by rw [h1]; exact hrow2.size, fun j hj => by rw [h1] at hj; rw [a4 j (by omega)]; exact hrow2.rep j hj, by rw [h1]; exact hrow2.run⟩
    by_cases hfit : m + d.cnt ≤ cap
    · -- in place
      have hin : ∃ b, ad2 = some ⟨b, 0, none⟩ ∧ ι.o k = some b ∧ ∀ j, j < cap → (rd w b j).isSome := by
        cases hs with
        | rsl _ _ _ _ b cap hk hc hr => exact ⟨b, rfl, hk, hr rfl⟩
        | rslz _ _ _ b o hk => omega
      obtain ⟨b, rfl, hkb, hrd⟩ := hin
      obtain ⟨M1, L1, T1⟩ := M.move hobj hno hkb
      have hob1 : Hget (Hput (Hput H' k dead) n (.cells c1 false)) n = some (.cells c1 false) := by rw [Hget_put]; simp
      have hb1 : (ι.seto n b).o n = some b := by simp [Ix.seto]
      obtain ⟨b', arr, e4, g1, g2, g3, g4, g5⟩ := M.obj k _ hobj
      rw [hkb] at g1; cases g1
      have hcap : cap ≤ arr.size := by
        have := hrd (cap - 1) (by omega)
        rw [rd_of_heap g2] at this
        rcases Nat.lt_or_ge (cap - 1) arr.size with h1 | h1
        · omega
        · rw [Array.getElem?_eq_none h1] at this; simp at this
      have vs := hrow.size
      rw [Nat.mul_one] at vs
      have honeV : ∀ v ∈ vals.toList, v.oneCell' = true := by
        intro v hv
        obtain ⟨i, hi, rfl⟩ := List.getElem_of_mem hv
        have hi' : i < d.cnt := by rw [← vs]; simpa using hi
        have := (hrow.rep i (by omega)).oneCell (hone i (by omega))
        simpa [Array.getD_eq_getD_getElem?, Array.getElem?_eq_getElem (show i < vals.size by simpa using hi)] using this
      obtain ⟨w', r1, uu⟩ := run_storeCells P vals.toList (o := m) (i := 0) g2 honeV (by simp [vs]; omega)
      have hput : ∀ j, (putRow arr (m + 0) vals.toList).getD j undef = if m ≤ j ∧ j < m + d.cnt then vals.getD (j - m) undef else arr.getD j undef := by
        intro j
        rw [putRow_get _ _ _ _ (by simp [vs]; omega)]
        simp only [Nat.add_zero, Array.length_toList, vs]
        congr 1
        simp [Array.getD_eq_getD_getElem?]
      have hsz' : (putRow arr (m + 0) vals.toList).size = arr.size := putRow_size _ _ _
      have hrun := run_append_fit (ty := ty) (w' := w') hτ ht hu he hd hd' (base := some ⟨b, 0, none⟩) (sLen := m) (sCap := cap) hfit (rowD.run P w rfl) (by rw [h1]; simpa [add_none] using r1)
      have old : ∀ j, j < m → Rep S w noI (E.get j) (arr.getD j undef) := by
        intro j hj
        have hr2 := rowC.rep j (by rw [h1]; omega)
        have hh := rowC.run P w rfl
        rw [h1, run_firstCells (P := P) (w := w) (b := b) (off := 0) (n := m) (size := 1) (len := m) (cap := cap) (fun j hj => by rw [Nat.zero_add]; exact hrd j (by omega))] at hh
        cases hh
        rw [Array.getD_eq_getD_getElem?] at hr2 ⊢
        simp only [Nat.mul_one, List.getElem?_toArray, List.getElem?_map, List.getElem?_range hj, Option.map_some, Option.getD_some, Nat.zero_add] at hr2
        rw [rdv, rd_of_heap g2] at hr2; exact hr2
      obtain ⟨M2, T2⟩ := M1.write (c' := E) hob1 hb1 g2 uu (by omega) (by omega) (fun j hj => by
        rw [hput]
        by_cases hj' : j < m
        · rw [if_neg (by omega)]; exact (old j hj').up _
        · rw [if_pos (by omega)]
          have := rowD.rep (j - m) (by rw [h1]; omega)
          rw [h1, Nat.mul_one, show m + (j - m) = j by omega] at this
          exact this.up _)
      have hg : ∀ k', Hget (Hput (Hput (Hput H' k dead) n (.cells c1 false)) n (.cells E false)) k' = Hget (Hput (Hput H' k dead) n (.cells E false)) k' := fun k' => by
        simp only [Hget_put]; split <;> rfl
      have hK2 : Keeps S w S w' := (T2 0).keeps
      refine ⟨_, S, w', _, hrun, M2.congr hg, L1, hK2, ?_, fun p => ((T1 p).trans (T2 p)).congr' hg⟩
      exact .rsl _ _ _ _ _ _ hb1 hfit (fun _ j hj => hK2.cells _ _ (hrd j hj))
    · obtain ⟨M1, T1⟩ := M.drop hobj
      have hno1 : Hget (Hput H' k dead) n = none := by rw [Hget_put, if_neg hkn]; exact hno
      obtain ⟨val, S', w', ι', r1, M2, L2, K2, R2, T2⟩ := app_growG (ty := ty) hτ ht hu he hd hd' M1 (n := n) hno1 (base := ad2) (xb := ad) (cn := m) (sCap := cap) (dn := d.cnt) (xc := xcap) (by omega) hbd hby h1
        (E := E) (by omega) (by omega) rowC rowD
      exact ⟨val, S', w', ι', r1, M2, L2, K2, R2, fun p => (T1 p).trans (T2 p)⟩
  · exact hC.elim
theorem sound_appM (hτ : TabOK P τ) {t u ty e : TypeId} {tt tu te : TE} (ht : τ t = some tt) (hu : τ u = some tu) (he : τ e = some te) (hd : tt.und = .slice e) {e' : TypeId} (hd' : tu.und = .slice e') (hby : te.bytes ≤ 65536)
    {H : Hp} {n : Nat} {mu : Bool} {s x : PV} {K : KR} (h : appendM mu te H n s x K) :
    ∃ v sets accs news, K v sets accs news ∧ ∀ {S : Imm} {w : World} {ι : Ix} {H' : Hp} {vs vx : Value}, Mem S w ι H' → Rep S w ι s vs → Rep S w ι x vx → (∀ k ∈ accs, Hget H' k = Hget H k) → (∀ k ∈ news, Hget H' k = none) →
      AppOK P S w ι H' (Builtin.append_ #[t, u] ty #[vs, vx]) v sets := by
  unfold appendM at h
  split at h
  · exact sound_appR hτ ht hu he hd hd' hby h
  · split at h
    · exact sound_appN hτ ht hu he hd hd' hby h
    · exact sound_app hτ ht hu he hd hd' hby h
  · exact sound_app hτ ht hu he hd hd' hby h
end Go.Eng
namespace Go.Eng
open Go.RowKit
set_option linter.unusedVariables false
set_option linter.unusedSimpArgs false
variable {P : Program} {r : Option Nat} {τ : TypeId → Option TE}
theorem run_builtin {o : Oper} {a : Act} {b : Builtin} {args : Array Operand} {ats : Array TypeId} (ho : o.op = .call ⟨.builtin b, args, ats⟩) {w w' : World} {val : Value} {s : Sem Value}
    (hb : ∀ cs, builtin b ats o.type cs (args.map a.eval) = (do pure (.value (← s)) : Sem Next)) (h : s.run P w = .ok val w') : (execOp a.eval o).run P w = .ok (.value val) w' := by
  simp only [execOp, ho, resolve, Sem.run_bind, Sem.run_pure, Result.andThen, invoke]
  rw [hb]; exact run_v h
theorem minmax_sound (b : Bool) : ∀ (r : List PV) (x : PV) {K : PV → Prop}, intsMax 0 b x r K → ∃ v, K v ∧ ∀ {S : Imm} {w : World} {ι : Ix} {vx : Value} {vs : List Value}, Rep S w ι x vx → vs.length = r.length → (∀ i, i < r.length → Rep S w ι (getL r i) (vs.getD i undef)) →
    ∃ val, (vs.foldlM (if b then Builtin.max2 else Builtin.min2) vx : Sem Value).run P w = .ok val w ∧ Rep S w ι v val := by
  intro r
  induction r with
  | nil => intro x K h; exact ⟨x, h, fun hx hl _ => by simp at hl; subst hl; exact ⟨_, rfl, hx⟩⟩
  | cons y r ih =>
    intro x K h
    cases x <;> (try exact h.elim) <;> cases y <;> (try exact h.elim)
    · rename_i k p k' q
      simp only [intsMax] at h
      rw [ifK_iff] at h
      have hk := of_decide_eq_true h.1; subst hk
      have step : ∃ m, intsMax 0 b (.int k m) r K ∧ ∀ w, ((if b then Builtin.max2 else Builtin.min2) (.int k p) (.int k q) : Sem Value).run P w = .ok (.int k m) w := by
        cases b with
        | true =>
          refine ⟨_, h.2, fun w => ?_⟩
          simp only [if_true, Builtin.max2, Sem.run_pure]
          congr 2
          split <;> omega
        | false =>
          refine ⟨_, h.2, fun w => ?_⟩
          simp only [Bool.false_eq_true, if_false, Builtin.min2, Sem.run_pure]
          congr 2
          split <;> omega
      obtain ⟨m, hm, hrun⟩ := step
      obtain ⟨v, hK, hs⟩ := ih _ hm
      refine ⟨v, hK, fun hx hl hr => ?_⟩
      rename_i S w ι vx vs
      cases vs with
      | nil => simp at hl
      | cons vy vs =>
        have hy := hr 0 (by simp)
        simp only [getL, List.getD_cons_zero] at hy
        cases hx; cases hy
        obtain ⟨val, h1, h2⟩ := hs (S := S) (w := w) (ι := ι) (.int _ _ _) (by simpa using hl) (fun i hi => by simpa [getL] using hr (i + 1) (by simpa using hi))
        refine ⟨val, ?_, h2⟩
        rw [List.foldlM_cons, Sem.run_bind, hrun]
        exact h1
theorem sound_builtin (hτ : TabOK P τ) {md rf CP YP} {o : Oper} {ρ : Operand → PV} {H : Hp} {n : Nat} {c : Call} {b : Builtin} (ho : o.op = .call c) (hc : c.callee = .builtin b) {K : KR}
    (h : opK τ md rf CP YP ρ H n o.dst o.op K) : ∃ v sets accs news, K v sets accs news ∧ SoundOp P r o ρ H v sets accs news := by
  obtain ⟨callee, args, ats⟩ := c
  simp only at hc; subst hc
  rw [ho] at h
  simp only [opK] at h
  have hd : ∀ c, o.op ≠ .defer c := fun c e => by rw [ho] at e; cases e
  have hargs : ∀ {S : Imm} {w : World} {ι : Ix} {a : Act}, (∀ x ∈ o.op.operands.toList, Rep S w ι (ρ x) (a.eval x)) → RepA S w ι (mapρ ρ args.toList) (args.map a.eval) := by
    intro S w ι a hr
    exact mapρ_rep args (fun x hx => hr x (by simp [ho, Op.operands, Call.operands]; simpa using hx))
  unfold callBK at h
  split at h
  · -- len
    rename_i hb'
    split at h
    · rename_i t hats
      rw [teK_iff] at h
      obtain ⟨te, ht, h⟩ := h
      have hats' : ats = #[t] := by rw [← Array.toList_inj]; simpa using hats
      subst hats'
      split at h
      · rename_i x hx
        have one' : ∀ {S : Imm} {w : World} {ι : Ix} {a : Act}, (∀ x ∈ o.op.operands.toList, Rep S w ι (ρ x) (a.eval x)) → ∃ vx, args.map a.eval = #[vx] ∧ Rep S w ι x vx := by
          intro S w ι a hr
          obtain ⟨h1, h2⟩ := hargs hr
          rw [hx] at h1 h2
          have h0 := h2 0 (by simp)
          refine ⟨(args.map a.eval).getD 0 undef, ?_, h0⟩
          have hsz : (args.map a.eval).size = 1 := h1.symm
          apply Array.ext
          · simp [hsz]
          · intro i hi1 hi2
            have : i = 0 := by omega
            subst this
            simp [Array.getD_eq_getD_getElem?, Array.getElem?_eq_getElem hi1]
        have key : ∀ {m : Nat}, K (.int .i64 m) [] [] [] → (∀ {S : Imm} {w : World} {ι : Ix} {vx : Value}, Rep S w ι x vx → (Builtin.len_ #[t] o.type #[vx]).run P w = .ok (goInt m) w) →
            ∃ v sets accs news, K v sets accs news ∧ SoundOp P r o ρ H v sets accs news := by
          intro m hK hrun
          refine ⟨_, _, _, _, hK, sound_val hd fun S w ι H' a M hr ha => ?_⟩
          obtain ⟨vx, e1, e2⟩ := one' hr
          exact ⟨_, run_builtin ho (fun _ => rfl) (by rw [e1]; exact hrun e2), .int _ _ _⟩
        split at h
        · rename_i e hu
          have sl : ∀ (m : Nat) (vx : Value) (w : World), (∃ ad cap, vx = .slice ad m cap) → (Builtin.len_ #[t] o.type #[vx]).run P w = .ok (goInt m) w := by
            rintro m vx w ⟨ad, cap, rfl⟩
            simp [Builtin.len_, run_underlying (hτ.und _ _ ht), hu, Result.andThen]
          split at h
          · rw [cntK_eq] at h
            exact key h fun hr => sl _ _ _ hr.islSlice
          · exact key h fun hr => sl _ _ _ hr.rslSlice
          · exact key (m := 0) h fun hr => sl _ _ _ (by cases hr; exact ⟨_, _, rfl⟩)
          · exact h.elim
        · rename_i hu
          split at h
          · exact key h fun hr => by cases hr; simp [Builtin.len_, run_underlying (hτ.und _ _ ht), hu, Result.andThen]
          · exact h.elim
        · rename_i m e hu
          exact key h fun hr => by simp [Builtin.len_, run_underlying (hτ.und _ _ ht), hu, Result.andThen]
        · exact h.elim
      · exact h.elim
    · exact h.elim
  · split at h
    · rename_i s x hx
      split at h
      · rename_i t u hats
        have hats' : ats = #[t, u] := by rw [← Array.toList_inj]; simpa using hats
        subst hats'
        rw [teK_iff] at h
        obtain ⟨tt, ht, h⟩ := h
        split at h
        · rename_i e hue
          simp only [teK_iff] at h
          obtain ⟨te', he, tu, hu, h⟩ := h
          split at h
          · rename_i e' hue'
            rw [ifK_iff, Bool.and_eq_true] at h
            obtain ⟨⟨h1, h2⟩, h⟩ := h
            obtain ⟨v, sets, accs, news, hK, hs⟩ := sound_appM (P := P) (ty := o.type) hτ ht hu he hue hue' (Nat.le_of_ble_eq_true h2) h
            refine ⟨v, sets, accs, news, hK, fun S w ι H' a next Q M hr ha hn hk => ?_⟩
            obtain ⟨g1, g2⟩ := hargs hr
            rw [hx] at g1 g2
            have e1 : args.map a.eval = #[(args.map a.eval).getD 0 undef, (args.map a.eval).getD 1 undef] := by
              have hsz : (args.map a.eval).size = 2 := g1.symm
              apply Array.ext
              · simp [hsz]
              · intro i hi1 hi2
                have : i = 0 ∨ i = 1 := by omega
                rcases this with rfl | rfl <;> simp only [Array.getD_eq_getD_getElem?, Array.getElem?_eq_getElem (show _ < (args.map a.eval).size by omega)] <;> rfl
            obtain ⟨val, S', w', ι', r1, M', L', K', R', T⟩ := hs M (g2 0 (by simp)) (g2 1 (by simp)) ha hn
            exact wpIn_value hd (run_builtin ho (fun _ => rfl) (by rw [e1]; exact r1)) (hk val S' w' ι' M' L' K' R' T)
          · exact h.elim
        · exact h.elim
      · exact h.elim
    · exact h.elim
  · split at h
    · rename_i x rr hx
      obtain ⟨v, hK, hs⟩ := minmax_sound (P := P) true _ _ h
      refine ⟨v, _, _, _, hK, sound_val hd fun S w ι H' a M hr ha => ?_⟩
      obtain ⟨h1, h2⟩ := hargs hr
      rw [hx] at h1 h2
      obtain ⟨vx, vs, hvs⟩ : ∃ vx vs, (args.map a.eval).toList = vx :: vs := by
        cases e : (args.map a.eval).toList with
        | nil => rw [← Array.length_toList, e] at h1; simp at h1
        | cons vx vs => exact ⟨vx, vs, rfl⟩
      have hget : ∀ i, (args.map a.eval).getD i undef = (vx :: vs).getD i undef := fun i => by rw [← hvs]; simp [Array.getD_eq_getD_getElem?]
      have hlen : vs.length = rr.length := by rw [← Array.length_toList, hvs] at h1; simpa using h1.symm
      obtain ⟨val, g1, g2⟩ := hs (S := S) (w := w) (ι := ι) (vx := vx) (vs := vs) (by have := h2 0 (by simp); rw [hget] at this; simpa [getL] using this) hlen
        (fun i hi => by have := h2 (i + 1) (by simp; omega); rw [hget] at this; simpa [getL] using this)
      refine ⟨val, run_builtin ho (fun _ => rfl) ?_, g2⟩
      simp only [Builtin.max_, hvs]; exact g1
    · exact h.elim
  · split at h
    · rename_i x rr hx
      obtain ⟨v, hK, hs⟩ := minmax_sound (P := P) false _ _ h
      refine ⟨v, _, _, _, hK, sound_val hd fun S w ι H' a M hr ha => ?_⟩
      obtain ⟨h1, h2⟩ := hargs hr
      rw [hx] at h1 h2
      obtain ⟨vx, vs, hvs⟩ : ∃ vx vs, (args.map a.eval).toList = vx :: vs := by
        cases e : (args.map a.eval).toList with
        | nil => rw [← Array.length_toList, e] at h1; simp at h1
        | cons vx vs => exact ⟨vx, vs, rfl⟩
      have hget : ∀ i, (args.map a.eval).getD i undef = (vx :: vs).getD i undef := fun i => by rw [← hvs]; simp [Array.getD_eq_getD_getElem?]
      have hlen : vs.length = rr.length := by rw [← Array.length_toList, hvs] at h1; simpa using h1.symm
      obtain ⟨val, g1, g2⟩ := hs (S := S) (w := w) (ι := ι) (vx := vx) (vs := vs) (by have := h2 0 (by simp); rw [hget] at this; simpa [getL] using this) hlen
        (fun i hi => by have := h2 (i + 1) (by simp; omega); rw [hget] at this; simpa [getL] using this)
      refine ⟨val, run_builtin ho (fun _ => rfl) ?_, g2⟩
      simp only [Builtin.min_, hvs]; exact g1
    · exact h.elim
  · exact h.elim
end Go.Eng
namespace Go.Eng
open Go.RowKit
set_option linter.unusedVariables false
set_option linter.unusedSimpArgs false
variable {P : Program} {r : Option Nat} {τ : TypeId → Option TE}
def Obj.plain : Obj → Bool
  | .cells _ _ _ => false
  | _ => true
theorem rd_plain {w : World} {b : Nat} {o : Obj} (h : w.heap[b]? = some o) (hp : Obj.plain o = true) (j : Nat) : rd w b j = none := by
  unfold rd; rw [h]; cases o <;> simp_all [Obj.plain]
theorem has_obj {ι : Ix} {k b : Nat} {o : AO} (hT : o.isTok = false) (hE : o.isExt = false) (hX : o.excl = true) (hb : ι.o k = some b) (b' : Nat) : o.has ι k b' ↔ b' = b := by
  have e : o.has ι k b' ↔ ι.o k = some b' := by
    cases o with
    | cells c fz => cases fz with
      | true => simp [AO.excl] at hX
      | false => exact Iff.rfl
    | _ => first | exact Iff.rfl | (simp [AO.isTok] at hT; done) | (simp [AO.isExt] at hE; done)
  rw [e, hb]
  exact ⟨fun h => (Option.some.inj h).symm, fun h => by rw [h]⟩
theorem has_excl {ι : Ix} {k b : Nat} {o : AO} (h : o.has ι k b) : o.excl = true := by
  cases o with
  | cells c fz => cases fz with
    | true => exact h.elim
    | false => rfl
  | _ => rfl
theorem has_congr {ι ι1 : Ix} {k k1 : Nat} {o o1 : AO} (eo : ι1.o k1 = ι.o k) (et : ι1.t k1 = ι.t k) (ex : ι1.x k1 = ι.x k) (hT : o1.isTok = o.isTok) (hE : o1.isExt = o.isExt) (hX : o1.excl = o.excl) (b : Nat) : o1.has ι1 k1 b ↔ o.has ι k b := by
  have key : ∀ {ι : Ix} {k : Nat} {o : AO}, o.has ι k b ↔ (match o.isTok with | true => ∃ n, ι.t k = some (b, n) | false => match o.isExt with | true => ι.x k b | false => match o.excl with | true => ι.o k = some b | false => False) := by
    intro ι k o
    cases o with
    | cells c fz => cases fz <;> exact Iff.rfl
    | _ => exact Iff.rfl
  rw [key, key, hT, hE, hX, eo, et, ex]
theorem has_objI {ι : Ix} {k b : Nat} {o : AO} (hT : o.isTok = false) (hE : o.isExt = false) (hb : ι.o k = some b) (b' : Nat) (h : o.has ι k b') : b' = b := by
  cases hX : o.excl with
  | true => exact (has_obj hT hE hX hb b').1 h
  | false => cases o with
    | cells c fz => cases fz with
      | true => exact h.elim
      | false => simp [AO.excl] at hX
    | _ => simp [AO.excl] at hX
theorem unf_plain {o : Obj} (h : Obj.plain o = true) : Unf (some o) := by cases o <;> first | (simp [Obj.plain] at h; done) | exact fun _ => rfl
/-- an object other than cells is written -/
theorem Mem.putObj {S : Imm} {w w' : World} {ι : Ix} {H : Hp} (M : Mem S w ι H) {k b : Nat} {o o' : AO} {x y : Obj} (ho : Hget H k = some o) (hx : o.excl = true) (hoT : o.isTok = false) (hoT' : o'.isTok = false) (hoE : o.isExt = false) (hoE' : o'.isExt = false)
    (hb : ι.o k = some b) (hw : w.heap[b]? = some x) (hpx : Obj.plain x = true) (hpy : Obj.plain y = true) (below : Bel w w') (here : w'.heap[b]? = some y) (other : ∀ b', b' ≠ b → w'.heap[b']? = w.heap[b']?)
    (hobj : ∀ S' , Keeps S w S' w' → ObjR S' w' ι k o') : Mem S w' ι (Hput H k o') ∧ Keeps S w S w' ∧ ∀ p, Tr p S w ι H S w' ι (Hput H k o') := by
  have hbl : o.has ι k b := (has_obj hoT hoE hx hb b).2 rfl
  have hbl' : ∀ b', o'.has ι k b' → b' = b := has_objI hoT' hoE' hb
  have hnS : ∀ j, ¬ S b j := fun j hs => by have := M.imm b j hs; rw [rd_plain hw hpx] at this; simp at this
  have hkeep : Keeps S w S w' := by
    refine ⟨fun b' j hs => ⟨hs, ?_⟩, fun b' j hs => ?_⟩
    · by_cases e : b' = b
      · subst e; exact absurd hs (hnS j)
      · exact rd_congr (other b' e) j
    · by_cases e : b' = b
      · subst e; rw [rd_plain hw hpx] at hs; simp at hs
      · rw [rd_congr (other b' e) j]; exact hs
  have ht : ι.t k = none := by
    cases et : ι.t k with
    | none => rfl
    | some x => obtain ⟨o, g1, g2⟩ := M.liveT k x et; rw [ho] at g1; cases g1; rw [hoT] at g2; cases g2
  obtain ⟨m, t⟩ := M.step1 (b := b) (k := k) (o' := o') below (fun b' _ hb' => other b' hb') hkeep (fun b' j h => .inl h) (fun j hs => absurd hs (hnS j)) (.refl _) (fun _ _ => rfl) (fun _ _ => rfl) rfl
    (.inr ⟨o, ho, hx, hbl⟩) hbl' (fun h => by rw [hoT'] at h; cases h) (fun _ => ht) (hobj S hkeep)
  exact ⟨m, hkeep, t⟩
/-- a new object other than cells -/
theorem Mem.newObj {S : Imm} {w : World} {ι : Ix} {H : Hp} (M : Mem S w ι H) {k : Nat} (hk : Hget H k = none) {o' : AO} {y : Obj} (hoT : o'.isTok = false) (hoE : o'.isExt = false) (hy : Obj.plain y = true)
    (hobj : ∀ w', Keeps S w S w' → w'.heap[w.heap.size]? = some y → ObjR S w' (ι.seto k w.heap.size) k o') :
    Mem S { w with heap := w.heap.push y } (ι.seto k w.heap.size) (Hput H k o') ∧ ∀ p, Tr p S w ι H S { w with heap := w.heap.push y } (ι.seto k w.heap.size) (Hput H k o') := by
  have ho := M.none_o hk
  have hkeep := push_keeps M.imm (w := w) y
  have hnoS : ∀ j, ¬ S w.heap.size j := fun j hs => by have := rd_lt (M.imm _ _ hs); omega
  refine M.step1 (b := w.heap.size) (push_below _ _ (unf_plain hy)) (fun b' hb' _ => heap_push_old hb') hkeep (fun b' j h => .inl h) (fun j h => absurd h (hnoS j))
    (seto_le ho) (fun k' h => by simp [Ix.seto, h]) (fun _ _ => rfl) rfl (.inl (Nat.le_refl _)) (has_objI hoT hoE (by simp [Ix.seto])) (fun h => by rw [hoT] at h; cases h) (fun _ => M.none_t hk) (hobj _ hkeep (heap_push_new _ _))
theorem sound_makeMap {md rf CP YP} {o : Oper} {ρ : Operand → PV} {H : Hp} {n : Nat} {t : TypeId} {x : Option Operand} (ho : o.op = .makeMap t x) {K : KR}
    (h : opK τ md rf CP YP ρ H n o.dst o.op K) : ∃ v sets accs news, K v sets accs news ∧ SoundOp P r o ρ H v sets accs news := by
  have hd : ∀ c, o.op ≠ .defer c := fun c e => by rw [ho] at e; cases e
  rw [ho] at h
  cases x with
  | some x => exact h.elim
  | none =>
    simp only [opK, freshK_iff] at h
    refine ⟨_, _, _, _, h.2, fun S w ι H' a next Q M hr ha hn hk => ?_⟩
    have hno := hn n (by simp)
    obtain ⟨M', T⟩ := M.newObj (y := .map #[] 0) (o' := .map []) hno rfl rfl rfl (fun w' hk' hh => ⟨w.heap.size, #[], 0, by simp [Ix.seto], hh, rfl, fun i h => by simp at h⟩)
    refine wpIn_value hd (w' := { w with heap := w.heap.push (.map #[] 0) }) (val := .map (some w.heap.size)) ?_ (hk _ S _ _ M' (seto_le (M.none_o hno)) (push_keeps M.imm _) (.rm _ _ _ (by simp [Ix.seto])) T)
    simp only [execOp, ho]
    refine run_v ?_
    simp [Instr.makeMap, Result.andThen]
theorem mkK_sound {z : Value} {n : Nat} {K : CL → Prop} (h : mkK z n K) : z.cells = #[z] ∧ ∃ d, K d ∧ d.cnt = n ∧ d.esz = 1 ∧ ∀ j, j < n → ∀ {S : Imm} {w : World} {ι : Ix}, Rep S w ι (d.get j) z := by
  unfold mkK at h
  split at h
  · exact ⟨rfl, _, h, by simp [CL.cnt], rfl, fun j hj S w ι => by simp only [CL.get, List.getD_eq_getElem?_getD, List.getElem?_replicate, if_pos hj, Option.getD_some]; constructor⟩
  · exact ⟨rfl, _, h, by simp [CL.cnt], rfl, fun j hj S w ι => by simp only [CL.get, List.getD_eq_getElem?_getD, List.getElem?_replicate, if_pos hj, Option.getD_some]; constructor⟩
  · exact ⟨rfl, _, h, by simp [CL.cnt], rfl, fun j hj S w ι => by simp only [CL.get, List.getD_eq_getElem?_getD, List.getElem?_replicate, if_pos hj, Option.getD_some]; constructor⟩
  · exact ⟨rfl, _, h, by simp [CL.cnt], rfl, fun j hj S w ι => by simp only [CL.get, List.getD_eq_getElem?_getD, List.getElem?_replicate, if_pos hj, Option.getD_some]; exact .islnil _ _ _ rfl⟩
  · exact h.elim
theorem sound_makeSlice (hτ : TabOK P τ) {md rf CP YP} {o : Oper} {ρ : Operand → PV} {H : Hp} {n : Nat} {t : TypeId} {l c : Operand} (ho : o.op = .makeSlice t l c) {K : KR}
    (h : opK τ md rf CP YP ρ H n o.dst o.op K) : ∃ v sets accs news, K v sets accs news ∧ SoundOp P r o ρ H v sets accs news := by
  have hd : ∀ c, o.op ≠ .defer c := fun c e => by rw [ho] at e; cases e
  rw [ho] at h
  simp only [opK, teK_iff] at h
  obtain ⟨te, ht, h⟩ := h
  split at h
  · rename_i e hu
    obtain ⟨te', he, h⟩ := h
    split at h
    · rename_i x0 hl
      split at h
      · rename_i x hc
        obtain ⟨⟨h1, h2, h3, rfl⟩, h⟩ := h
        rw [freshK_iff] at h
        obtain ⟨hfr, h⟩ := h
        have hrun : ∀ {S : Imm} {w : World} {ι : Ix} {a : Act}, (∀ x ∈ o.op.operands.toList, Rep S w ι (ρ x) (a.eval x)) →
            ∃ arr, (execOp a.eval o).run P w = .ok (.value (.slice (some ⟨w.heap.size, 0, none⟩) x.toNat x.toNat)) { w with heap := w.heap.push (.cells arr e) } ∧
              arr = (Array.range (x.toNat * te'.size)).map (te'.zero.cells[· % te'.zero.cells.size]!) := by
          intro S w ι a hr
          have r1 := hr l (by simp [ho, Op.operands])
          have r2 := hr c (by simp [ho, Op.operands])
          rw [hl] at r1; rw [hc] at r2
          cases e1 : a.eval l <;> rw [e1] at r1 <;> cases r1
          cases e2 : a.eval c <;> rw [e2] at r2 <;> cases r2
          obtain ⟨i, hi, hz, hs, hb⟩ := run_typeInfo' hτ he w
          refine ⟨_, ?_, rfl⟩
          simp only [execOp, ho]
          refine run_v ?_
          simp only [Instr.makeSlice, Sem.run_bind, run_underlying (hτ.und _ _ ht), hu, Result.andThen, e1, e2, asInt, asIntOf, Sem.run_pure, hi, wrap_in h3, hb]
          have hmul : (te'.bytes : Int) * x ≤ 281474976710656 := by rw [Int.mul_comm]; exact h2
          rw [if_neg (by
            simp only [Bool.or_eq_true, decide_eq_true_eq]
            have : (2 : Int) ^ 48 = 281474976710656 := by decide
            rw [this]; omega)]
          simp only [Sem.run_bind, run_askRoom, Result.andThen, run_sizeOf' hτ he]
          by_cases h0 : x.toNat * te'.size = 0
          · rw [if_pos h0]
            have e0 : ∀ f g : Nat → Value, (Array.range 0).map f = (Array.range 0).map g := fun f g => by apply Array.ext <;> simp
            simp [h0, Result.andThen, newRow]
            rw [e0]
          · rw [if_neg h0]
            simp [run_zeroValue' hτ he, Result.andThen, newRow]
        have hget : ∀ {j : Nat}, j < x.toNat * te'.size → ((Array.range (x.toNat * te'.size)).map (te'.zero.cells[· % te'.zero.cells.size]!)).getD j undef = te'.zero.cells.getD (j % te'.size) undef := by
          intro j hj
          have hz := hτ.zsz _ _ he
          have hpos : 0 < te'.size := by rcases Nat.eq_zero_or_pos te'.size with h | h; (rw [h] at hj; simp at hj); exact h
          have hm : j % te'.size < te'.zero.cells.size := by rw [hz]; exact Nat.mod_lt _ hpos
          simp [Array.getD_eq_getD_getElem?, hj, hz, getElem!_pos, hm, Nat.mod_lt _ hpos]
        split at h
        · rw [forceL_eq, ifK_iff, Bool.and_eq_true] at h
          obtain ⟨⟨g1, g2⟩, h⟩ := h
          have g1 := Nat.eq_of_beq_eq_true g1
          have g2 := Nat.le_of_ble_eq_true g2
          refine ⟨_, _, _, _, h, sound_new hd fun S w ι H' a M hr ha => ?_⟩
          obtain ⟨arr, r1, r2⟩ := hrun hr
          refine ⟨_, arr, e, r1, by rw [r2]; simp [CL.ncell], fun j hj => ?_, fun S' w' ι' hi hw => .rsl _ _ _ _ _ _ hi (Nat.le_refl _) (fun _ j hj => by
            have := Nat.le_mul_of_pos_right x.toNat g2
            have hs : arr.size = x.toNat * te'.size := by rw [r2]; simp
            rw [rd_of_heap hw, Array.getElem?_eq_getElem (by omega)]; rfl)⟩
          simp only [CL.ncell, List.length_replicate] at hj
          rw [r2, hget hj]
          have hd' : j / te'.size < x.toNat := by rw [Nat.div_lt_iff_lt_mul g2]; exact hj
          have hm : j % te'.size < te'.zero.cells.toList.length := by simp [hτ.zsz _ _ he]; exact Nat.mod_lt _ g2
          simp only [CL.get, List.getD_eq_getElem?_getD, List.getElem?_replicate, if_pos hd', Option.getD_some]
          have := rep_ofVs (S := S) (w := w) (ι := ι) te'.zero.cells.toList (j % te'.size) hm
          simpa [Array.getD_eq_getD_getElem?] using this
        · rw [ifK_iff] at h
          obtain ⟨g1, h⟩ := h
          have g1 := Nat.eq_of_beq_eq_true g1
          obtain ⟨zc, d, h, d1, d2, d3⟩ := mkK_sound h
          refine ⟨_, _, _, _, h, sound_new hd fun S w ι H' a M hr ha => ?_⟩
          obtain ⟨arr, r1, r2⟩ := hrun hr
          have hnc : d.ncell = x.toNat := by rw [ncell_eq, d1, d2, Nat.mul_one]
          refine ⟨_, arr, e, r1, by rw [r2, hnc]; simp [g1], fun j hj => ?_, fun S' w' ι' hi hw => .rsl _ _ _ _ _ _ hi (Nat.le_refl _) (fun _ j hj => by
            have hs : arr.size = x.toNat := by rw [r2]; simp [g1]
            rw [rd_of_heap hw, Array.getElem?_eq_getElem (by omega)]; rfl)⟩
          rw [hnc] at hj
          rw [r2, hget (by rw [g1]; omega), g1, Nat.mod_one, zc]
          exact d3 j hj
      · exact h.elim
    · exact h.elim
  · exact h.elim
/-- entries of a map -/
def Ents (S : Imm) (w : World) (ι : Ix) (es : List (PV × PV)) (ents : List MapEntry) : Prop :=
  ents.length = es.length ∧ ∀ i (h : i < es.length) (h' : i < ents.length), Rep S w ι es[i].1 ents[i].key ∧ Rep S w ι es[i].2 ents[i].val
theorem Ents.cons {S : Imm} {w : World} {ι : Ix} {k v : PV} {es : List (PV × PV)} {ents : List MapEntry} (h : Ents S w ι ((k, v) :: es) ents) :
    ∃ e ents', ents = e :: ents' ∧ Rep S w ι k e.key ∧ Rep S w ι v e.val ∧ Ents S w ι es ents' := by
  obtain ⟨h1, h2⟩ := h
  cases ents with
  | nil => simp at h1
  | cons e ents =>
    have h0 := h2 0 (by simp) (by simp)
    exact ⟨e, ents, rfl, h0.1, h0.2, by simpa using h1, fun i hi hi' => h2 (i + 1) (by simpa using hi) (by simpa using hi')⟩
theorem sameNow_str (s t : ByteArray) : Instr.sameNow .string (.string s) (.string t) = some (decide (s = t)) := by
  simp only [Instr.sameNow, Option.some.injEq]
  by_cases h : s = t
  · rw [decide_eq_true h]; exact (MapKept.bytes_beq s t).2 h
  · rw [decide_eq_false h]
    cases e : (s == t) with
    | false => rfl
    | true => exact absurd ((MapKept.bytes_beq s t).1 e) h
theorem newKey_sound {S : Imm} {w : World} {ι : Ix} {s : ByteArray} : ∀ (es : List (PV × PV)) (ents : List MapEntry) (i : Nat), newKey s es → Ents S w ι es ents → Instr.findNow .string (.string s) ents i = some none := by
  intro es
  induction es with
  | nil =>
    intro ents i h he
    have : ents = [] := List.length_eq_zero_iff.1 he.1
    subst this; rfl
  | cons x es ih =>
    intro ents i h he
    obtain ⟨k, v⟩ := x
    obtain ⟨e, ents', rfl, h1, h2, h3⟩ := he.cons
    cases k <;> first | exact h.elim | skip
    obtain ⟨hne, h⟩ := h
    generalize hkk : e.key = kk at h1
    cases h1
    simp only [Instr.findNow, hkk, sameNow_str, decide_eq_false hne]
    exact ih ents' (i + 1) h h3
theorem lookK_sound {s : ByteArray} {z : PV} {ok : Bool} {K : PV → Prop} : ∀ (es : List (PV × PV)), lookK s z ok es K → ∃ v, K v ∧ ∀ {S : Imm} {w : World} {ι : Ix} {ents : List MapEntry} {zv : Value}, Ents S w ι es ents → Rep S w ι z zv →
    ∃ res : Option Value, (∀ i, ∃ j, Instr.findNow .string (.string s) ents i = some (res.map fun v => (j, v))) ∧ Rep S w ι v (if ok then .tuple #[res.getD zv, .bool res.isSome] else res.getD zv) := by
  have fin : ∀ (p : PV) (b : Bool), K (match ok with | true => .tup [p, .bool b] | false => p) → ∃ v, K v ∧ ∀ {S : Imm} {w : World} {ι : Ix} {val : Value}, Rep S w ι p val → Rep S w ι v (if ok then .tuple #[val, .bool b] else val) := by
    intro p b h
    refine ⟨_, h, fun hr => ?_⟩
    cases ok with
    | false => exact hr
    | true =>
      refine .tup _ _ _ rfl (fun i hi => ?_)
      simp at hi
      have : i = 0 ∨ i = 1 := by omega
      rcases this with rfl | rfl
      · exact hr
      · exact .bool _ _
  intro es
  induction es with
  | nil =>
    intro h
    simp only [lookK, forceK_eq] at h
    obtain ⟨v, hK, hv⟩ := fin _ _ h
    refine ⟨v, hK, fun he hz => ⟨none, fun i => ⟨0, ?_⟩, hv hz⟩⟩
    have := List.length_eq_zero_iff.1 he.1
    subst this; rfl
  | cons x es ih =>
    intro h
    obtain ⟨k, u⟩ := x
    cases k <;> first | exact h.elim | skip
    rename_i t
    obtain ⟨ha, hb⟩ := h
    by_cases e : s = t
    · have ha := ha e
      rw [forceK_eq] at ha
      obtain ⟨v, hK, hv⟩ := fin _ _ ha
      refine ⟨v, hK, fun he hz => ?_⟩
      obtain ⟨en, ents', rfl, h1, h2, h3⟩ := he.cons
      refine ⟨some en.val, fun i => ⟨i, ?_⟩, hv h2⟩
      generalize hkk : en.key = kk at h1
      cases h1
      simp [Instr.findNow, hkk, sameNow_str, e]
    · obtain ⟨v, hK, hv⟩ := ih (hb e)
      refine ⟨v, hK, fun he hz => ?_⟩
      obtain ⟨en, ents', rfl, h1, h2, h3⟩ := he.cons
      obtain ⟨res, g1, g2⟩ := hv h3 hz
      refine ⟨res, fun i => ?_, g2⟩
      obtain ⟨j, hj⟩ := g1 (i + 1)
      refine ⟨j, ?_⟩
      generalize hkk : en.key = kk at h1
      cases h1
      simp only [Instr.findNow, hkk, sameNow_str, decide_eq_false e]
      exact hj
theorem Mem.map {S : Imm} {w : World} {ι : Ix} {H : Hp} (M : Mem S w ι H) {k b : Nat} {es : List (PV × PV)} (h : Hget H k = some (.map es)) (hb : ι.o k = some b) :
    ∃ ents clock, w.heap[b]? = some (.map ents clock) ∧ Ents S w ι es ents.toList := by
  obtain ⟨b', ents, clock, h1, h2, h3, h4⟩ := M.obj k _ h
  rw [hb] at h1; cases h1
  exact ⟨ents, clock, h2, by simpa using h3, fun i hi hi' => by simpa using h4 i hi (by simpa using hi')⟩
theorem zeroK_sound {te : TE} {K : PV → Prop} (h : zeroK te K) : ∃ z, K z ∧ ∀ S w ι, Rep S w ι z te.zero := by
  unfold zeroK at h
  split at h
  · rename_i cs hz
    rw [forceL_eq] at h
    refine ⟨_, h, fun S w ι => ?_⟩
    rw [hz]
    refine .agg _ _ _ (by simp [ofVs_len]) (fun i hi => ?_)
    rw [ofVs_len] at hi
    have := rep_ofVs (S := S) (w := w) (ι := ι) cs.toList i hi
    simpa [Array.getD_eq_getD_getElem?] using this
  · rw [forceK_eq] at h
    exact ⟨_, h, fun S w ι => rep_ofV _⟩
theorem sound_lookup (hτ : TabOK P τ) {md rf CP YP} {o : Oper} {ρ : Operand → PV} {H : Hp} {n : Nat} {t : TypeId} {m k : Operand} {ok : Bool} (ho : o.op = .lookup t m k ok) {K : KR}
    (h : opK τ md rf CP YP ρ H n o.dst o.op K) : ∃ v sets accs news, K v sets accs news ∧ SoundOp P r o ρ H v sets accs news := by
  have hd : ∀ c, o.op ≠ .defer c := fun c e => by rw [ho] at e; cases e
  rw [ho] at h
  simp only [opK, teK_iff] at h
  obtain ⟨te, ht, h⟩ := h
  split at h
  · rename_i kt et hu
    obtain ⟨tk, hk, h⟩ := h
    split at h
    · rename_i huk
      obtain ⟨tz, hz, h⟩ := h
      split at h
      · rename_i i hm
        split at h
        · rename_i s hs
          rw [getHK_iff] at h
          obtain ⟨ob, hob, h⟩ := h
          split at h
          · rename_i es
            obtain ⟨z, h, hz'⟩ := zeroK_sound h
            obtain ⟨v, hK, hv⟩ := lookK_sound _ h
            refine ⟨v, _, _, _, hK, sound_val hd fun S w ι H' a M hr ha => ?_⟩
            have r1 := hr m (by simp [ho, Op.operands])
            have r2 := hr k (by simp [ho, Op.operands])
            rw [hm] at r1; rw [hs] at r2
            cases e1 : a.eval m <;> rw [e1] at r1 <;> cases r1
            cases e2 : a.eval k <;> rw [e2] at r2 <;> cases r2
            rename_i b hb
            obtain ⟨ents, clock, g1, g2⟩ := M.map ((ha i (by simp)).trans hob) hb
            obtain ⟨res, q1, q2⟩ := hv g2 (hz' S w ι)
            obtain ⟨j, hj⟩ := q1 0
            refine ⟨_, ?_, q2⟩
            simp only [execOp, ho]
            refine run_v ?_
            have hu' : P.underlying kt = some .string := by rw [hτ.und _ _ hk, huk]
            simp only [Instr.lookup, Sem.run_bind, run_underlying (hτ.und _ _ ht), hu, Result.andThen, e1, e2, MapKept.run_getObj_map g1, Sem.run_pure,
              MapKept.run_checkKey (w := w) (k := .string s) hu' trivial _ 9999, MapKept.run_findKey hu' hj]
            cases res with
            | none => simp [run_zeroValue' hτ hz, Result.andThen]
            | some x => simp [Result.andThen]
          · exact h.elim
        · exact h.elim
      · exact h.elim
    · exact h.elim
  · exact h.elim
theorem sound_insert (hτ : TabOK P τ) {md rf CP YP} {o : Oper} {ρ : Operand → PV} {H : Hp} {n : Nat} {t : TypeId} {m k u : Operand} (ho : o.op = .insert t m k u) {K : KR}
    (h : opK τ md rf CP YP ρ H n o.dst o.op K) : ∃ v sets accs news, K v sets accs news ∧ SoundOp P r o ρ H v sets accs news := by
  have hd : ∀ c, o.op ≠ .defer c := fun c e => by rw [ho] at e; cases e
  rw [ho] at h
  simp only [opK, teK_iff] at h
  obtain ⟨te, ht, h⟩ := h
  split at h
  · rename_i kt et hu
    obtain ⟨tk, hk, h⟩ := h
    split at h
    · rename_i huk
      split at h
      · rename_i i hm
        split at h
        · rename_i s hs
          rw [forceK_eq, getHK_iff] at h
          obtain ⟨ob, hob, h⟩ := h
          split at h
          · rename_i es
            obtain ⟨hnk, hK⟩ := h
            refine ⟨_, _, _, _, hK, fun S w ι H' a next Q M hr ha hn hkk => ?_⟩
            have r1 := hr m (by simp [ho, Op.operands])
            have r2 := hr k (by simp [ho, Op.operands])
            have r3 := hr u (by simp [ho, Op.operands])
            rw [hm] at r1; rw [hs] at r2
            cases e1 : a.eval m <;> rw [e1] at r1 <;> cases r1
            cases e2 : a.eval k <;> rw [e2] at r2 <;> cases r2
            rename_i b hb
            have hob' := (ha i (by simp)).trans hob
            obtain ⟨ents, clock, g1, g2⟩ := M.map hob' hb
            have hu' : P.underlying kt = some .string := by rw [hτ.und _ _ hk, huk]
            have hf := newKey_sound es ents.toList 0 hnk g2
            have hnew := MapKept.heap_set (o' := .map (ents.push { key := .string s, val := a.eval u, born := clock }) (clock + 1)) g1
            obtain ⟨M', K', T⟩ := M.putObj (o' := .map (es ++ [(.str s, ρ u)])) (y := .map (ents.push { key := .string s, val := a.eval u, born := clock }) (clock + 1)) (w' := { w with heap := w.heap.setIfInBounds b (.map (ents.push { key := .string s, val := a.eval u, born := clock }) (clock + 1)) })
              hob' rfl rfl rfl rfl rfl hb g1 rfl rfl (.block b rfl rfl rfl (by simp) hnew.2 (by rw [g1]; exact unf_plain rfl) (by rw [hnew.1]; exact unf_plain rfl)) hnew.1 hnew.2 (fun S' hk' => by
                refine ⟨b, _, _, hb, hnew.1, by simp [g2.1, ← Array.length_toList], fun i hi hi' => ?_⟩
                have hl : ents.size = es.length := by simpa using g2.1
                simp only [List.length_append, List.length_cons, List.length_nil, Nat.zero_add] at hi
                by_cases hlt : i < es.length
                · have := g2.2 i hlt (by simpa [hl] using hlt)
                  rw [List.getElem_append_left hlt, Array.getElem_push_lt (by omega)]
                  exact ⟨this.1.mono hk' _ (.refl _), this.2.mono hk' _ (.refl _)⟩
                · have : i = es.length := by omega
                  subst this
                  rw [List.getElem_append_right (Nat.le_refl _)]
                  simp only [← hl, Array.getElem_push_eq, Nat.sub_self, List.getElem_cons_zero]
                  exact ⟨.str _ _, r3.mono hk' _ (.refl _)⟩)
            refine wpIn_skip' hd ?_ (hkk undef S _ ι M' (.refl _) K' (.any _ _) T)
            simp only [execOp, ho]
            refine run_u ?_
            simp only [Instr.mapUpdate, Sem.run_bind, run_underlying (hτ.und _ _ ht), hu, Result.andThen, e1, e2, MapKept.run_getObj_map g1,
              MapKept.run_checkKey (w := w) (k := .string s) hu' trivial _ 9999, MapKept.run_findKey hu' hf, MapKept.run_setObj_map _ g1]
          · exact h.elim
        · exact h.elim
      · exact h.elim
    · exact h.elim
  · exact h.elim
end Go.Eng
namespace Go.Eng
open Go.RowKit
set_option linter.unusedVariables false
set_option linter.unusedSimpArgs false
variable {P : Program} {r : Option Nat} {τ : TypeId → Option TE}
/-- an object is written no more -/
theorem Mem.freeze {S : Imm} {w : World} {ι : Ix} {H : Hp} (M : Mem S w ι H) {k : Nat} {c c' : CL} (h : Hget H k = some (.cells c false)) (hn : c'.ncell = c.ncell)
    (hc : ∀ j, j < c.ncell → ∀ {S : Imm} {w : World} {ι : Ix} {v : Value}, Rep S w ι (c.get j) v → Rep S w noI (c'.get j) v) :
    ∃ S', Mem S' w ι (Hput H k (.cells c' true)) ∧ Keeps S w S' w ∧ (∀ p, Tr p S w ι H S' w ι (Hput H k (.cells c' true))) ∧
      ∀ b, ι.o k = some b → ∀ j, j < c'.ncell → S' b j ∧ Rep S' w noI (c'.get j) (rdv w b j) := by
  obtain ⟨b, arr, e, h1, h2, h3, h4, h5⟩ := M.obj k _ h
  let S' : Imm := fun b' j => S b' j ∨ (b' = b ∧ j < c'.ncell)
  have hk : Keeps S w S' w := ⟨fun b' j hs => ⟨.inl hs, rfl⟩, fun b' j hs => hs⟩
  have hrep : ∀ j, j < c'.ncell → Rep S' w noI (c'.get j) (arr.getD j undef) := fun j hj => by
    have := h4 j (by omega)
    exact (hc j (by omega) this).mono hk _ (.refl _)
  have ht : ι.t k = none := by
    cases et : ι.t k with
    | none => rfl
    | some x => obtain ⟨o, g1, g2⟩ := M.liveT k x et; rw [h] at g1; cases g1; simp [AO.isTok] at g2
  obtain ⟨M', T⟩ := M.step1 (S' := S') (w' := w) (ι' := ι) (k := k) (o' := .cells c' true) (b := b) (Bel.refl _) (fun _ _ _ => rfl) hk (fun b' j hs => by rcases hs with h | ⟨h, _⟩; exact .inl h; exact .inr h)
    (fun j hs => by
      rcases hs with h | ⟨_, h⟩
      · exact absurd h (h5 j)
      · rw [rd_of_heap h2, Array.getElem?_eq_getElem (by omega)]; rfl) (.refl _) (fun _ _ => rfl) (fun _ _ => rfl) rfl (.inr ⟨_, h, rfl, h1⟩) (fun b' h => h.elim) (by simp [AO.isTok]) (fun _ => ht)
    ⟨b, h1, fun j hj => ⟨.inr ⟨rfl, hj⟩, by have := hrep j hj; rw [Array.getD_eq_getD_getElem?] at this; rw [rdv, rd_of_heap h2]; exact this⟩⟩
  refine ⟨S', M', hk, T, fun b' hb' j hj => ?_⟩
  rw [h1] at hb'; cases hb'
  refine ⟨.inr ⟨rfl, hj⟩, ?_⟩
  have := hrep j hj
  rw [rdv, rd_of_heap h2]
  rw [Array.getD_eq_getD_getElem?] at this; exact this
theorem Mem.frozen {S : Imm} {w : World} {ι : Ix} {H : Hp} (M : Mem S w ι H) {k b : Nat} {c : CL} (h : Hget H k = some (.cells c true)) (hb : ι.o k = some b) :
    ∀ j, j < c.ncell → S b j ∧ Rep S w noI (c.get j) (rdv w b j) := by
  obtain ⟨b', h1, h2⟩ := M.obj k _ h
  rw [hb] at h1; cases h1
  exact h2
theorem capK_sound : ∀ (ps : List PV) {H : Hp} {K : List PV → List (Nat × AO) → List Nat → Prop}, capK H ps K → ∃ cs sets acc, K cs sets acc ∧
    ∀ {S : Imm} {w : World} {ι : Ix} {H' : Hp} {vs : List Value}, Mem S w ι H' → (∀ k ∈ acc, Hget H' k = Hget H k) → ps.length = vs.length → (∀ i, i < ps.length → Rep S w ι (getL ps i) (vs.getD i undef)) →
      ∃ S', Mem S' w ι (Hputs H' sets) ∧ Keeps S w S' w ∧ (∀ p, Tr p S w ι H' S' w ι (Hputs H' sets)) ∧ cs.length = vs.length ∧ ∀ i, i < cs.length → Rep S' w ι (getL cs i) (vs.getD i undef) := by
  intro ps
  induction ps with
  | nil =>
    intro H K h
    exact ⟨_, _, _, h, fun M ha hl hr => ⟨_, M, .refl _ _, fun p => .refl _ _ _ _ _, hl, fun i hi => by simp at hi⟩⟩
  | cons p ps ih =>
    intro H K h
    -- a value kept as it is
    have keep : ∀ {H : Hp} {K : List PV → List (Nat × AO) → List Nat → Prop}, (capK H ps fun cs sets acc => K (p :: cs) sets acc) → ∃ cs sets acc, K cs sets acc ∧
        ∀ {S : Imm} {w : World} {ι : Ix} {H' : Hp} {vs : List Value}, Mem S w ι H' → (∀ k ∈ acc, Hget H' k = Hget H k) → (p :: ps).length = vs.length → (∀ i, i < (p :: ps).length → Rep S w ι (getL (p :: ps) i) (vs.getD i undef)) →
          ∃ S', Mem S' w ι (Hputs H' sets) ∧ Keeps S w S' w ∧ (∀ p, Tr p S w ι H' S' w ι (Hputs H' sets)) ∧ cs.length = vs.length ∧ ∀ i, i < cs.length → Rep S' w ι (getL cs i) (vs.getD i undef) := by
      intro H K h
      obtain ⟨cs, sets, acc, hK, hs⟩ := ih h
      refine ⟨_, _, _, hK, fun M ha hl hr => ?_⟩
      rename_i S w ι H' vs
      cases vs with
      | nil => simp at hl
      | cons v vs =>
        obtain ⟨S', M', k', T, hl', hr'⟩ := hs (vs := vs) M ha (by simpa using hl) (fun i hi => by simpa [getL] using hr (i + 1) (by simpa using hi))
        refine ⟨S', M', k', T, by simp [hl'], fun i hi => ?_⟩
        cases i with
        | zero => exact (hr 0 (by simp)).mono k' _ (.refl _)
        | succ i => simpa [getL] using hr' i (by simpa using hi)
    unfold capK at h
    split at h
    · rename_i k off
      rw [getHK_iff] at h
      obtain ⟨ob, hob, h⟩ := h
      split at h
      · rename_i ds fz
        split at h
        · obtain ⟨cs, sets, acc, hK, hs⟩ := ih h
          refine ⟨_, _, _, hK, fun M ha hl hr => ?_⟩
          rename_i S w ι H' vs
          cases vs with
          | nil => simp at hl
          | cons v vs =>
            have hob' := (ha k (by simp)).trans hob
            obtain ⟨S', M', k', T, hl', hr'⟩ := hs (vs := vs) M (fun k' hk' => ha k' (by simp [hk'])) (by simpa using hl) (fun i hi => by simpa [getL] using hr (i + 1) (by simpa using hi))
            refine ⟨S', M', k', T, by simp [hl'], fun i hi => ?_⟩
            cases i with
            | zero =>
              have h0 := hr 0 (by simp)
              simp only [getL, List.getD_cons_zero] at h0 ⊢
              cases h0 with
              | rp _ _ _ b hb =>
                have hf := M.frozen hob' hb
                have := Rep.ip (S := S) (w := w) ι (.pv ds) off b 0 (fun j hj => by rw [Nat.zero_add]; exact (hf j hj).1) (fun j hj => by rw [Nat.zero_add]; exact (hf j hj).2)
                rw [Nat.zero_add] at this
                exact this.mono k' _ (.refl _)
            | succ i => simpa [getL] using hr' i (by simpa using hi)
        · split at h
          · rename_i es hes
            rw [forceL_eq, putHK_eq] at h
            obtain ⟨cs, sets, acc, hK, hs⟩ := ih h
            refine ⟨_, _, _, hK, fun M ha hl hr => ?_⟩
            rename_i S w ι H' vs
            cases vs with
            | nil => simp at hl
            | cons v vs =>
              have hob' := (ha k (by simp)).trans hob
              obtain ⟨q1, q2⟩ := inlEs_sound hes
              obtain ⟨S1, M1, k1, T1, F1⟩ := M.freeze (c' := .pv es) hob' q1 (fun j hj => by intro S w ι v hr; exact q2 j hj hr)
              obtain ⟨S', M', k', T, hl', hr'⟩ := hs (vs := vs) M1 (fun k' hk' => by
                  rw [Hget_put, Hget_put]
                  by_cases e : k' = k
                  · simp [e]
                  · rw [if_neg e, if_neg e]; exact ha k' (by simp [hk'])) (by simpa using hl)
                (fun i hi => by have := (hr (i + 1) (by simpa using hi)).mono k1 _ (.refl _); simpa [getL] using this)
              refine ⟨S', M', k1.trans k', fun p => (T1 p).trans (T p), by simp [hl'], fun i hi => ?_⟩
              cases i with
              | zero =>
                have h0 := hr 0 (by simp)
                simp only [getL, List.getD_cons_zero] at h0 ⊢
                cases h0 with
                | rp _ _ _ b hb =>
                  have hf := F1 b hb
                  have := Rep.ip (S := S1) (w := w) ι (.pv es) off b 0 (fun j hj => by rw [Nat.zero_add]; exact (hf j hj).1) (fun j hj => by rw [Nat.zero_add]; exact (hf j hj).2)
                  rw [Nat.zero_add] at this
                  exact this.mono k' _ (.refl _)
              | succ i => simpa [getL] using hr' i (by simpa using hi)
          · exact keep h
      · exact keep h
    · rw [forceK_eq] at h; exact keep h
theorem sound_makeFunc {md rf CP YP} {o : Oper} {ρ : Operand → PV} {H : Hp} {n : Nat} {fn : Fn} {fs cs : Array Operand} (ho : o.op = .makeFunc fn fs cs) {K : KR}
    (h : opK τ md rf CP YP ρ H n o.dst o.op K) : ∃ v sets accs news, K v sets accs news ∧ SoundOp P r o ρ H v sets accs news := by
  rw [ho] at h
  have hd : ∀ c, o.op ≠ .defer c := fun c e => by rw [ho] at e; cases e
  simp only [opK, forceL_eq] at h
  split at h
  · refine ⟨_, _, _, _, h, sound_val hd fun S w ι H' a M hr ha => ?_⟩
    have h1 := mapρ_rep (a := a) fs (fun x hx => hr x (by simp [ho, Op.operands] at hx ⊢; exact .inl hx))
    have h2 := mapρ_rep (a := a) cs (fun x hx => hr x (by simp [ho, Op.operands] at hx ⊢; exact .inr hx))
    exact ⟨.func fn (fs.map a.eval) (cs.map a.eval), by simp only [execOp, ho]; exact run_v rfl, .fn _ _ _ _ _ _ h1.1 h2.1 h1.2 h2.2⟩
  · obtain ⟨ds, sets, acc, hK, hs⟩ := capK_sound _ h
    refine ⟨_, _, _, _, hK, fun S w ι H' a next Q M hr ha hn hk => ?_⟩
    have h1 := mapρ_rep (a := a) fs (fun x hx => hr x (by simp [ho, Op.operands] at hx ⊢; exact .inl hx))
    have h2 := mapρ_rep (a := a) cs (fun x hx => hr x (by simp [ho, Op.operands] at hx ⊢; exact .inr hx))
    obtain ⟨S', M', k', T, hl, hr'⟩ := hs (vs := (cs.map a.eval).toList) M ha (by simpa using h2.1) (fun i hi => by have := h2.2 i hi; simpa [Array.getD_eq_getD_getElem?] using this)
    refine wpIn_value hd (w' := w) (val := .func fn (fs.map a.eval) (cs.map a.eval)) (by simp only [execOp, ho]; exact run_v rfl) (hk _ S' w ι M' (.refl _) k' ?_ T)
    exact .fn _ _ _ _ _ _ h1.1 (by simpa using hl) (fun i hi => (h1.2 i hi).mono k' _ (.refl _)) (fun i hi => by have := hr' i hi; simpa [Array.getD_eq_getD_getElem?] using this)
/-! calls -/
/-- what a call of a function does -/
def CallSoundB (P : Program) (B : Imm → World → Prop) (g : FuncId) (args : List PV) (H0 : Hp) (v : PV) (sets : List (Nat × AO)) (accs news : List Nat) : Prop :=
  (∀ vs w, (callFunc g vs).run P w = .ok (.enter g vs) w) ∧
  ∀ (S : Imm) (w : World) (ι : Ix) (H : Hp) (vs : Array Value), B S w → Mem S w ι H → RepA S w ι args vs → (∀ k ∈ accs, Hget H k = Hget H0 k) → (∀ k ∈ news, Hget H k = none) →
    CallsIn (Fw none) 0 P g vs w fun e w' => ∃ val S' ι', e = .returned val ∧ Mem S' w' ι' (Hputs H sets) ∧ ι.le ι' ∧ Keeps S w S' w' ∧ Rep S' w' ι' v val ∧ ∀ p, Tr p S w ι H S' w' ι' (Hputs H sets)
def anyB : Imm → World → Prop := fun _ _ => True
def CallSound (P : Program) (g : FuncId) (args : List PV) (H0 : Hp) (v : PV) (sets : List (Nat × AO)) (accs news : List Nat) : Prop := CallSoundB P anyB g args H0 v sets accs news
theorem CallSound.up {P : Program} {g : FuncId} {args : List PV} {H0 : Hp} {v : PV} {sets : List (Nat × AO)} {accs news : List Nat} (h : CallSound P g args H0 v sets accs news) (B : Imm → World → Prop) : CallSoundB P B g args H0 v sets accs news :=
  ⟨h.1, fun S w ι H vs _ => h.2 S w ι H vs trivial⟩
/-- a table of contracts that hold in the worlds of B -/
def CPOKB (P : Program) (B : Imm → World → Prop) (CP : CPT) : Prop := ∀ g args n H K, CP g args n H K → ∃ v sets accs news, K v sets accs news ∧ CallSoundB P B g args H v sets accs news
def CPOK (P : Program) (CP : CPT) : Prop := CPOKB P anyB CP
theorem CPOK.up {P : Program} {CP : CPT} (h : CPOK P CP) (B : Imm → World → Prop) : CPOKB P B CP := fun g args n H K hk => by
  obtain ⟨v, sets, accs, news, h1, h2⟩ := h g args n H K hk
  exact ⟨v, sets, accs, news, h1, CallSound.up h2 B⟩
abbrev YPT := Fn → Array Value → Array Value → List PV → Nat → Hp → KR → Prop
/-- what a call of a function's value does, in the worlds of B -/
def ValSound (P : Program) (r : Option Nat) (B : Imm → World → Prop) (f : Fn) (us vs : Array Value) (args : List PV) (H0 : Hp) (v : PV) (sets : List (Nat × AO)) (accs news : List Nat) : Prop :=
  ∀ (S : Imm) (w : World) (ι : Ix) (H : Hp) (o : Oper) (c : Call) (a : Act) (next : Act → World → Prop) (Q : Exit → Act → World → Prop) (vals : Array Value), o.op = .call c →
    B S w → Mem S w ι H → RepA S w ι args vals → (∀ k ∈ accs, Hget H k = Hget H0 k) → (∀ k ∈ news, Hget H k = none) →
    (∀ (val : Value) (S' : Imm) (w' : World) (ι' : Ix), Mem S' w' ι' (Hputs H sets) → ι.le ι' → Keeps S w S' w' → Rep S' w' ι' v val → (∀ p, Tr p S w ι H S' w' ι' (Hputs H sets)) → next (a.put o.dst val) w') →
    o.uponIn (Fw r) 0 P a next Q ((invoke (.fn f vs) (us ++ vals)).run P w)
def YPOK (P : Program) (r : Option Nat) (B : Imm → World → Prop) (YP : YPT) : Prop :=
  ∀ f us vs args n H K, YP f us vs args n H K → ∃ v sets accs news, K v sets accs news ∧ ValSound P r B f us vs args H v sets accs news
/-- 'SoundOp' in the worlds of B -/
def SoundB (P : Program) (r : Option Nat) (B : Imm → World → Prop) (o : Oper) (ρ : Operand → PV) (H0 : Hp) (v : PV) (sets : List (Nat × AO)) (accs news : List Nat) : Prop :=
  ∀ (S : Imm) (w : World) (ι : Ix) (H : Hp) (a : Act) (next : Act → World → Prop) (Q : Exit → Act → World → Prop),
    B S w → Mem S w ι H → (∀ x ∈ o.op.operands.toList, Rep S w ι (ρ x) (a.eval x)) → (∀ k ∈ accs, Hget H k = Hget H0 k) → (∀ k ∈ news, Hget H k = none) →
    (∀ (val : Value) (S' : Imm) (w' : World) (ι' : Ix), Mem S' w' ι' (Hputs H sets) → ι.le ι' → Keeps S w S' w' → Rep S' w' ι' v val → (∀ p, Tr p S w ι H S' w' ι' (Hputs H sets)) → next (a.put o.dst val) w') →
    o.wpIn (Fw r) 0 P a w next Q
theorem SoundOp.toB {B : Imm → World → Prop} {o : Oper} {ρ : Operand → PV} {H0 : Hp} {v : PV} {sets : List (Nat × AO)} {accs news : List Nat} (h : SoundOp P r o ρ H0 v sets accs news) : SoundB P r B o ρ H0 v sets accs news :=
  fun S w ι H a next Q _ => h S w ι H a next Q
theorem callsIn_Fw {n : Nat} {f : FuncId} {args : Array Value} {w : World} {R : Ending → World → Prop} (h : CallsIn (Fw none) n P f args w R) : CallsIn (Fw r) n P f args w R := h
theorem repA_append {S : Imm} {w : World} {ι : Ix} {ps qs : List PV} {us vs : Array Value} (h : RepA S w ι ps us) (g : RepA S w ι qs vs) : RepA S w ι (ps ++ qs) (us ++ vs) := by
  refine ⟨by simp [h.1, g.1], fun i hi => ?_⟩
  rw [Array.getD_eq_getD_getElem?]
  by_cases e : i < ps.length
  · rw [(getL_append ps qs i).1 e, Array.getElem?_append_left (by rw [← h.1]; exact e), ← Array.getD_eq_getD_getElem?]
    exact h.2 i e
  · obtain ⟨d, rfl⟩ : ∃ d, i = ps.length + d := ⟨i - ps.length, by omega⟩
    rw [(getL_append ps qs d).2, Array.getElem?_append_right (by rw [← h.1]; omega), ← h.1, Nat.add_sub_cancel_left, ← Array.getD_eq_getD_getElem?]
    exact g.2 d (by simp at hi; omega)
theorem sound_callValue {md rf CP YP} {B : Imm → World → Prop} (hC : CPOKB P B CP) (hY : YPOK P r B YP) {o : Oper} {ρ : Operand → PV} {H : Hp} {n : Nat} {f : Operand} {args : Array Operand} {ats : Array TypeId} (ho : o.op = .call ⟨.value f, args, ats⟩) {K : KR}
    (h : opK τ md rf CP YP ρ H n o.dst o.op K) : ∃ v sets accs news, K v sets accs news ∧ SoundB P r B o ρ H v sets accs news := by
  rw [ho] at h
  simp only [opK] at h
  have hd : ∀ c, o.op ≠ .defer c := fun c e => by rw [ho] at e; cases e
  have hargs : ∀ {S : Imm} {w : World} {ι : Ix} {a : Act}, (∀ x ∈ o.op.operands.toList, Rep S w ι (ρ x) (a.eval x)) → RepA S w ι (mapρ ρ args.toList) (args.map a.eval) := by
    intro S w ι a hr
    exact mapρ_rep args (fun x hx => hr x (by simp [ho, Op.operands, Call.operands] at hx ⊢; exact .inr hx))
  have hf : ∀ {S : Imm} {w : World} {ι : Ix} {a : Act}, (∀ x ∈ o.op.operands.toList, Rep S w ι (ρ x) (a.eval x)) → Rep S w ι (ρ f) (a.eval f) := fun hr => hr f (by simp [ho, Op.operands, Call.operands])
  split at h
  · rename_i g fs cs hρ
    rw [forceL_eq] at h
    obtain ⟨v, sets, accs, news, hK, hent, hs⟩ := hC _ _ _ _ _ h
    refine ⟨v, sets, accs, news, hK, fun S w ι H' a next Q hBw M hr ha hn hk => ?_⟩
    have h1 := hargs hr
    have h2 := hf hr
    rw [hρ] at h2
    generalize hv : a.eval f = fv at h2
    cases h2 with
    | fn _ _ _ _ us vs hkk hl hu hvs =>
      have hres : (execOp a.eval o).run P w = .ok (.enter g (us ++ args.map a.eval ++ vs)) w := by
        simp only [execOp, ho, resolve, hv, Deferred.ofValue, Sem.run_bind, Sem.run_pure, Result.andThen, invoke, hent]
      refine ⟨fun _ _ => trivial, ?_⟩
      rw [Oper.semAt_eq _ _ _ hd, hres, Oper.uponIn_enter]
      refine ⟨fun h => by simp [Fw, Fence.wide] at h, callsIn_Fw ((hs S w ι H' _ hBw M (repA_append (repA_append ⟨hkk, hu⟩ h1) ⟨hl, hvs⟩) ha hn).mono ?_)⟩
      rintro e w' ⟨val, S', ι', rfl, M', L', K', R', T'⟩
      exact hk val S' w' ι' M' L' K' R' T'
  · rename_i g us vs hρ
    rw [forceL_eq] at h
    obtain ⟨v, sets, accs, news, hK, hs⟩ := hY _ _ _ _ _ _ _ h
    refine ⟨v, sets, accs, news, hK, fun S w ι H' a next Q hB M hr ha hn hk => ?_⟩
    have h1 := hargs hr
    have h2 := hf hr
    rw [hρ] at h2
    generalize hv : a.eval f = fv at h2
    cases h2
    have hres : (execOp a.eval o).run P w = (invoke (.fn g vs) (us ++ args.map a.eval)).run P w := by
      simp only [execOp, ho, resolve, hv, Deferred.ofValue, Sem.run_bind, Sem.run_pure, Result.andThen]
    refine ⟨fun _ _ => trivial, ?_⟩
    rw [Oper.semAt_eq _ _ _ hd, hres]
    exact hs S w ι H' o _ a next Q _ ho hB M h1 ha hn hk
  · exact h.elim
/-- whatever operation -/
theorem opK_sound (hτ : TabOK P τ) {md rf CP YP} {B : Imm → World → Prop} (hC : CPOKB P B CP) (hY : YPOK P r B YP) {o : Oper} {ρ : Operand → PV} {H : Hp} {n : Nat} {K : KR}
    (h : opK τ md rf CP YP ρ H n o.dst o.op K) : ∃ v sets accs news, K v sets accs news ∧ SoundB P r B o ρ H v sets accs news := by
  have up : (∃ v sets accs news, K v sets accs news ∧ SoundOp P r o ρ H v sets accs news) → ∃ v sets accs news, K v sets accs news ∧ SoundB P r B o ρ H v sets accs news :=
    fun ⟨v, sets, accs, news, h1, h2⟩ => ⟨v, sets, accs, news, h1, h2.toB⟩
  cases ho : o.op with
  | move x => exact up (sound_move (.inl ho) h)
  | assign x => exact up (sound_move (.inr ho) h)
  | pick c x y => exact up (sound_pick ho h)
  | alloc t => exact up (sound_alloc hτ ho h)
  | box t x => exact up (sound_box hτ ho h)
  | build t ps => exact up (sound_build hτ ho h)
  | buildSlice t l ps => exact up (sound_buildSlice hτ ho h)
  | insert t m k u => exact up (sound_insert hτ ho h)
  | load t x => exact up (sound_load hτ ho h)
  | store t x y => exact up (sound_store hτ ho h)
  | nilCheck x => exact up (sound_nilCheck ho h)
  | binOp op t x y u => exact up (sound_bin hτ ho h)
  | unOp op t x => exact up (sound_un hτ ho h)
  | convert s d x => exact up (sound_conv hτ ho h)
  | makeFunc f fs cs => exact up (sound_makeFunc ho h)
  | makeMap t x => exact up (sound_makeMap ho h)
  | makeSlice t l c => exact up (sound_makeSlice hτ ho h)
  | slice t x lo hi mx => exact up (sound_slice hτ ho h)
  | fieldAddr t x f => exact up (sound_fieldAddr hτ ho h)
  | field t x f => exact up (sound_field hτ ho h)
  | indexAddr t x i => exact up (sound_indexAddr hτ ho h)
  | index t x i => exact up (sound_index hτ ho h)
  | lookup t m k ok => exact up (sound_lookup hτ ho h)
  | extract x i => exact up (sound_extract ho h)
  | call c =>
    obtain ⟨cal, args, ats⟩ := c
    cases cal with
    | value f => exact sound_callValue hC hY ho h
    | invoke x m => rw [ho] at h; exact h.elim
    | builtin b => exact up (sound_builtin hτ ho rfl h)
  | _ => rw [ho] at h; exact h.elim
end Go.Eng
namespace Go.Eng
open Go.RowKit
set_option linter.unusedVariables false
set_option linter.unusedSimpArgs false
variable {P : Program} {r : Option Nat} {τ : TypeId → Option TE} {B : Imm → World → Prop}
structure Ent where
  run : Bool
  v : PV
  sets : List (Nat × AO)
  accs : List Nat
  news : List Nat
instance : Inhabited Ent := ⟨⟨true, .any, [], [], []⟩⟩
def putE (env : Env) (dst : Option Nat) (v : PV) : Env := match dst with | none => env | some d => env.set d v
def keys : List (Nat × AO) → List Nat
  | [] => []
  | (k, _) :: r => k :: keys r
theorem getL_any_len (l : List PV) (i : Nat) (h : ¬ i < l.length) : getL l i = .any := by
  induction l generalizing i with
  | nil => rfl
  | cons x xs ih => cases i with
    | zero => simp at h
    | succ i => exact ih i (by simpa using h)
theorem getD_set_ne' {a : Array Bool} {i j : Nat} {v d : Bool} (h : j ≠ i) : (a.setIfInBounds i v).getD j d = a.getD j d := by
  simp [Array.getD_eq_getD_getElem?, Array.getElem?_setIfInBounds, Ne.symm h]
theorem eo_rep {S : Imm} {w : World} {ι : Ix} {env : Env} {a : Act} (h : RepA S w ι env a.tmps) (x : Operand) : Rep S w ι (eo env x) (a.eval x) := by
  cases x with
  | tmp t =>
    simp only [eo, Act.eval]
    by_cases ht : t < env.length
    · exact h.2 t ht
    · rw [getL_any_len _ _ ht]; exact .any _ _
  | const v => exact rep_ofV v
  | global g => exact .any _ _
  | func f => exact .fn _ _ _ _ _ _ rfl rfl (fun i hi => by simp at hi) (fun i hi => by simp at hi)
theorem put_repA {S : Imm} {w : World} {ι : Ix} {env : Env} {a : Act} (h : RepA S w ι env a.tmps) (dst : Option Nat) {v : PV} {val : Value} (hv : Rep S w ι v val) : RepA S w ι (putE env dst v) (a.put dst val).tmps := by
  cases dst with
  | none => exact h
  | some d =>
    refine ⟨by simp [putE, Act.put, h.1], fun i hi => ?_⟩
    simp only [putE, List.length_set] at hi
    simp only [putE, Act.put, getL_set, Array.getD_eq_getD_getElem?, Array.getElem?_setIfInBounds]
    by_cases e : i = d
    · subst e
      rw [if_pos ⟨rfl, hi⟩, if_pos rfl]
      simp only [← h.1, hi, if_true, Option.getD_some]; exact hv
    · rw [if_neg (fun hh => e hh.1), if_neg (Ne.symm e), ← Array.getD_eq_getD_getElem?]
      exact h.2 i hi
theorem put_defers (a : Act) (dst : Option Nat) (v : Value) : (a.put dst v).defers = a.defers := by cases dst <;> rfl
/-- whether an operation with a condition runs -/
def GOK (ops : Array Oper) (env : Env) (o : Oper) (b : Bool) : Prop :=
  match o.guard with
  | none => b = true
  | some (j, want) => ∃ d t, (ops[j]?).bind (·.dst) = some d ∧ (getL env d = .bp t ∨ getL env d = .bool t ∨ (getL env d = .tup [] ∧ t = !want)) ∧ b = (t == want)
theorem GOK.wanted {ops : Array Oper} {env : Env} {o : Oper} {b : Bool} (h : GOK ops env o b) {S : Imm} {w : World} {ι : Ix} {a : Act} (hr : RepA S w ι env a.tmps) : Region.wanted o (yielded ops a.tmps) = b := by
  unfold GOK at h
  unfold Region.wanted
  cases hg : o.guard with
  | none => rw [hg] at h; exact h.symm
  | some jw =>
    obtain ⟨j, want⟩ := jw
    rw [hg] at h
    obtain ⟨d, t, h1, h2, h3⟩ := h
    have hlt : d < env.length := by
      by_cases hd : d < env.length
      · exact hd
      · rw [getL_any_len _ _ hd] at h2; rcases h2 with h2 | h2 | ⟨h2, _⟩ <;> cases h2
    have hd := hr.2 d hlt
    rw [Array.getD_eq_getD_getElem?, Array.getElem?_eq_getElem (by rw [← hr.1]; exact hlt), Option.getD_some] at hd
    have he : a.tmps[d]? = some (a.tmps[d]'(by rw [← hr.1]; exact hlt)) := Array.getElem?_eq_getElem _
    rcases h2 with h2 | h2 | ⟨h2, ht⟩
    · have hv : a.tmps[d]? = some (.bool t) := by rw [he]; rw [h2] at hd; generalize a.tmps[d]'(by rw [← hr.1]; exact hlt) = x at hd; cases hd; rfl
      simp only [yielded, h1, Option.bind_some, hv]
      rw [h3]
      cases t <;> cases want <;> rfl
    · have hv : a.tmps[d]? = some (.bool t) := by rw [he]; rw [h2] at hd; generalize a.tmps[d]'(by rw [← hr.1]; exact hlt) = x at hd; cases hd; rfl
      simp only [yielded, h1, Option.bind_some, hv]
      rw [h3]
      cases t <;> cases want <;> rfl
    · have hv : ∃ vs, a.tmps[d]? = some (.tuple vs) := by rw [he]; rw [h2] at hd; generalize a.tmps[d]'(by rw [← hr.1]; exact hlt) = x at hd; cases hd; exact ⟨_, rfl⟩
      obtain ⟨vs, hv⟩ := hv
      simp only [yielded, h1, Option.bind_some, hv]
      rw [h3, ht]
      cases want <;> rfl
def EntOK (P : Program) (r : Option Nat) (B : Imm → World → Prop) (ops : Array Oper) (env : Env) (H : Hp) (o : Oper) (e : Ent) : Prop :=
  GOK ops env o e.run ∧ (e.run = true → SoundB P r B o (eo env) H e.v e.sets e.accs e.news) ∧ (∀ k ∈ e.news, Hget H k = none) ∧
  (e.run = false → e.v = .tup [] ∧ e.sets = [] ∧ e.accs = [] ∧ e.news = [])
def Chain (P : Program) (r : Option Nat) (B : Imm → World → Prop) (ops : Array Oper) (es : Nat → Ent) : List Nat → Env → Hp → (Env → Hp → Prop) → Prop
  | [], env, H, K => K env H
  | i :: R, env, H, K => ∃ o, ops[i]? = some o ∧ EntOK P r B ops env H o (es i) ∧ Chain P r B ops es R (putE env o.dst (es i).v) (Hputs H (es i).sets) K
/-! operations that do not meet -/
def looks (ops : Array Oper) (o : Oper) : List Nat :=
  (o.op.operands.toList.filterMap fun | .tmp t => some t | _ => none) ++ (match o.guard with | some (j, _) => ((ops[j]?).bind (·.dst)).toList | none => [])
structure Apart (ops : Array Oper) (p o : Oper) : Prop where
  po : ∀ d, p.dst = some d → d ∉ looks ops o
  op : ∀ d, o.dst = some d → d ∉ looks ops p
  dd : ∀ d, p.dst = some d → o.dst ≠ some d
structure DApart (e f : Ent) : Prop where
  ef : ∀ k ∈ keys e.sets, k ∉ f.accs ∧ k ∉ keys f.sets
  fe : ∀ k ∈ keys f.sets, k ∉ e.accs ∧ k ∉ e.news
theorem Hget_puts {sets : List (Nat × AO)} : ∀ {H : Hp} {k : Nat}, k ∉ keys sets → Hget (Hputs H sets) k = Hget H k := by
  induction sets with
  | nil => intro H k h; rfl
  | cons x xs ih =>
    intro H k h
    obtain ⟨i, a⟩ := x
    simp only [keys, List.mem_cons, not_or] at h
    simp only [Hputs]
    rw [ih h.2, Hget_put, if_neg h.1]
theorem Hputs_none {sets : List (Nat × AO)} : ∀ {H : Hp} {k : Nat}, Hget (Hputs H sets) k = none → Hget H k = none := by
  induction sets with
  | nil => intro H k h; exact h
  | cons x xs ih =>
    intro H k h
    obtain ⟨i, a⟩ := x
    have := ih (H := Hput H i a) h
    rw [Hget_put] at this
    split at this
    · cases this
    · exact this
theorem Hputs_put {sets : List (Nat × AO)} : ∀ {H : Hp} {i : Nat} {a : AO}, i ∉ keys sets → Hputs (Hput H i a) sets = Hput (Hputs H sets) i a := by
  induction sets with
  | nil => intro H i a h; rfl
  | cons x xs ih =>
    intro H i a h
    obtain ⟨j, c⟩ := x
    simp only [keys, List.mem_cons, not_or] at h
    simp only [Hputs]
    rw [Hput_comm _ _ _ _ _ h.1, ih h.2]
theorem Hputs_comm {A C : List (Nat × AO)} : ∀ {H : Hp}, (∀ k ∈ keys A, k ∉ keys C) → Hputs (Hputs H A) C = Hputs (Hputs H C) A := by
  induction A with
  | nil => intro H h; rfl
  | cons x xs ih =>
    intro H h
    obtain ⟨i, a⟩ := x
    simp only [keys, List.mem_cons] at h
    simp only [Hputs]
    rw [ih (fun k hk => h k (.inr hk)), Hputs_put (h i (.inl rfl))]
theorem looks_op {ops : Array Oper} {o : Oper} {t : Nat} (h : Operand.tmp t ∈ o.op.operands.toList) : t ∈ looks ops o := by
  unfold looks
  exact List.mem_append_left _ (List.mem_filterMap.2 ⟨_, h, rfl⟩)
theorem getL_putE {env : Env} {dst : Option Nat} {v : PV} {t : Nat} (h : ∀ d, dst = some d → t ≠ d) : getL (putE env dst v) t = getL env t := by
  cases dst with
  | none => rfl
  | some d => rw [putE, getL_set, if_neg (fun hh => h d rfl hh.1)]
theorem eo_putE {ops : Array Oper} {o : Oper} {env : Env} {dst : Option Nat} {v : PV} (h : ∀ d, dst = some d → d ∉ looks ops o) {x : Operand} (hx : x ∈ o.op.operands.toList) : eo (putE env dst v) x = eo env x := by
  cases x with
  | tmp t => exact getL_putE fun d hd e => h d hd (by subst e; exact looks_op hx)
  | const v => rfl
  | global g => rfl
  | func f => rfl
theorem GOK_putE {ops : Array Oper} {o : Oper} {env : Env} {dst : Option Nat} {v : PV} {b : Bool} (h : ∀ d, dst = some d → d ∉ looks ops o) : GOK ops (putE env dst v) o b ↔ GOK ops env o b := by
  unfold GOK
  cases hg : o.guard with
  | none => exact Iff.rfl
  | some jw =>
    obtain ⟨j, want⟩ := jw
    simp only
    have : ∀ d', (ops[j]?).bind (·.dst) = some d' → getL (putE env dst v) d' = getL env d' := fun d' hd' => getL_putE fun d hd e => h d hd (by
      subst e; unfold looks; rw [hg]; exact List.mem_append_right _ (by simp [hd']))
    constructor
    · rintro ⟨d, t, h1, h2, h3⟩; exact ⟨d, t, h1, by rwa [this d h1] at h2, h3⟩
    · rintro ⟨d, t, h1, h2, h3⟩; exact ⟨d, t, h1, by rwa [this d h1], h3⟩
theorem SoundB.congr {o : Oper} {ρ ρ' : Operand → PV} {H H' : Hp} {v : PV} {sets : List (Nat × AO)} {accs news : List Nat} (h : SoundB P r B o ρ H v sets accs news)
    (hρ : ∀ x ∈ o.op.operands.toList, ∀ S w ι val, Rep S w ι (ρ' x) val → Rep S w ι (ρ x) val) (hH : ∀ k ∈ accs, Hget H' k = Hget H k) : SoundB P r B o ρ' H' v sets accs news :=
  fun S w ι H1 a next Q hB M hr ha hn hk => h S w ι H1 a next Q hB M (fun x hx => hρ x hx _ _ _ _ (hr x hx)) (fun k hk' => (ha k hk').trans (hH k hk')) hn hk
theorem putE_comm {env : Env} {d d' : Option Nat} {v v' : PV} (h : ∀ x, d = some x → d' ≠ some x) : putE (putE env d v) d' v' = putE (putE env d' v') d v := by
  cases d with
  | none => rfl
  | some x => cases d' with
    | none => rfl
    | some y => simp only [putE]; exact List.set_comm _ _ (fun e => h x rfl (by rw [e]))
theorem EntOK.back {ops : Array Oper} {p o : Oper} {e f : Ent} {env : Env} {H : Hp} (hs : Apart ops p o) (hd : DApart e f) (h : EntOK P r B ops (putE env p.dst e.v) (Hputs H e.sets) o f) : EntOK P r B ops env H o f := by
  obtain ⟨h1, h2, h3, h4⟩ := h
  refine ⟨(GOK_putE hs.po).1 h1, fun hr => (h2 hr).congr (fun x hx S w ι val hh => by rw [eo_putE hs.po hx]; exact hh) (fun k hk => (Hget_puts (fun hk' => (hd.ef k hk').1 hk)).symm), fun k hk => Hputs_none (h3 k hk), h4⟩
theorem EntOK.forth {ops : Array Oper} {p o : Oper} {e f : Ent} {env : Env} {H : Hp} (hs : Apart ops p o) (hd : DApart e f) (h : EntOK P r B ops env H p e) : EntOK P r B ops (putE env o.dst f.v) (Hputs H f.sets) p e := by
  obtain ⟨h1, h2, h3, h4⟩ := h
  refine ⟨(GOK_putE hs.op).2 h1, fun hr => (h2 hr).congr (fun x hx S w ι val hh => by rw [eo_putE hs.op hx] at hh; exact hh) (fun k hk => Hget_puts (fun hk' => (hd.fe k hk').1 hk)), fun k hk => ?_, h4⟩
  rw [Hget_puts (fun hk' => (hd.fe k hk').2 hk)]; exact h3 k hk
theorem Chain.pull {ops : Array Oper} {es : Nat → Ent} {K : Env → Hp → Prop} {i : Nat} {post : List Nat} : ∀ (pre : List Nat) {env : Env} {H : Hp}, Chain P r B ops es (pre ++ i :: post) env H K →
    (∀ p ∈ pre, ∀ op oi, ops[p]? = some op → ops[i]? = some oi → Apart ops op oi ∧ DApart (es p) (es i)) →
    ∃ o, ops[i]? = some o ∧ EntOK P r B ops env H o (es i) ∧ Chain P r B ops es (pre ++ post) (putE env o.dst (es i).v) (Hputs H (es i).sets) K := by
  intro pre
  induction pre with
  | nil => intro env H h _; exact h
  | cons p pre ih =>
    intro env H h hi
    obtain ⟨op, ho, he, hc⟩ := h
    obtain ⟨oi, hoi, hei, hci⟩ := ih hc (fun q hq => hi q (by simp [hq]))
    obtain ⟨a, d⟩ := hi p (by simp) op oi ho hoi
    refine ⟨oi, hoi, hei.back a d, op, ho, he.forth a d, ?_⟩
    rw [putE_comm (fun x hx hx' => a.dd x hx' hx), Hputs_comm (fun k hk hk' => (d.ef k hk').2 hk)]
    exact hci
/-! where the walk stands -/
structure At (B : Imm → World → Prop) (p : Nat) (S0 : Imm) (w0 : World) (ι0 : Ix) (H0 : Hp) (env : Env) (H : Hp) (a : Act) (w : World) : Prop where
  ex : ∃ S ι, B S w ∧ Mem S w ι H ∧ RepA S w ι env a.tmps ∧ DefOK w ι H a.defers ∧ (∀ d ∈ a.defers, ∀ b, d.target = .collected b → w0.heap.size ≤ b) ∧ Tr p S0 w0 ι0 H0 S w ι H
/-- B is kept -/
def BOK (B : Imm → World → Prop) : Prop := ∀ S w S' w', Keeps S w S' w' → Bel w w' → B S w → B S' w'
/-- one operation -/
theorem ent_step (hB : BOK B) {ops : Array Oper} {o : Oper} {e : Ent} {env : Env} {H : Hp} (he : EntOK P r B ops env H o e) {p : Nat} {S0 : Imm} {w0 : World} {ι0 : Ix} {H0 : Hp} {a : Act} {w : World}
    (h : At B p S0 w0 ι0 H0 env H a w) {i : Nat} (hi : ops[i]? = some o) {Q : Exit → Act → World → Prop} {K : Act → World → Prop}
    (hk : ∀ a' w', At B p S0 w0 ι0 H0 (putE env o.dst e.v) (Hputs H e.sets) a' w' → K a' w') : wpOpIn (Fw r) 0 P ops Q i K a w := by
  obtain ⟨S, ι, hb, M, R, hds, hdn, T⟩ := h.ex
  obtain ⟨h1, h2, h3, h4⟩ := he
  unfold wpOpIn
  simp only [hi]
  rw [h1.wanted R]
  cases hrun : e.run with
  | true =>
    simp only [if_true]
    refine h2 hrun S w ι H a K Q hb M (fun x hx => eo_rep R x) (fun _ _ => rfl) h3 (fun val S' w' ι' M' L' K' R' T' => hk _ _ ⟨S', ι', hB _ _ _ _ K' (T' 0).below hb, M', ?_, by rw [put_defers]; exact hds.tr (T' 0), by rw [put_defers]; exact hdn, T.trans (T' p)⟩)
    exact put_repA (R.mono K' L') _ R'
  | false =>
    obtain ⟨g1, g2, g3, g4⟩ := h4 hrun
    simp only [Bool.false_eq_true, if_false]
    refine ⟨fun _ _ => trivial, hk _ _ ⟨S, ι, hb, by rw [g2]; exact M, ?_, by rw [put_defers, g2]; exact hds, by rw [put_defers]; exact hdn, by rw [g2]; exact T⟩⟩
    rw [g1]; exact put_repA R _ (.tup _ _ _ rfl (fun i hi => by simp at hi))
/-- in the order of the text -/
theorem chain_text (hB : BOK B) {ops : Array Oper} {es : Nat → Ent} {K : Env → Hp → Prop} {p : Nat} {S0 : Imm} {w0 : World} {ι0 : Ix} {H0 : Hp} {Q : Exit → Act → World → Prop}
    (hQ : ∀ env H a w, K env H → At B p S0 w0 ι0 H0 env H a w → Q .normal a w) : ∀ (R : List Nat) (env : Env) (H : Hp) (a : Act) (w : World), Chain P r B ops es R env H K → At B p S0 w0 ι0 H0 env H a w →
      wpOpsIn (Fw r) 0 P ops Q R a w := by
  intro R
  induction R with
  | nil => intro env H a w h hA; exact hQ _ _ _ _ h hA
  | cons i R ih =>
    intro env H a w h hA
    obtain ⟨o, ho, he, hc⟩ := h
    rw [wpOpsIn_cons]
    exact ent_step hB he hA ho fun a' w' hA' => ih _ _ a' w' hc hA'
/-! any order -/
inductive Bef (ops : Array Oper) : Nat → Nat → Prop where
  | edge {i j : Nat} {o : Oper} {e : Edge} (h : ops[j]? = some o) (he : e ∈ o.after) (hb : Region.binds .any e = true) (hi : e.on = i) : Bef ops i j
  | trans {i j k : Nat} : Bef ops i j → Bef ops j k → Bef ops i k
theorem chain_any (hB : BOK B) {ops : Array Oper} {es : Nat → Ent} {K : Env → Hp → Prop} {p : Nat} {S0 : Imm} {w0 : World} {ι0 : Ix} {H0 : Hp} {Q : Exit → Act → World → Prop}
    (hQ : ∀ env H a w, K env H → At B p S0 w0 ι0 H0 env H a w → Q .normal a w)
    (hback : ∀ (j : Nat) (o : Oper) (e : Edge), ops[j]? = some o → e ∈ o.after → Region.binds .any e = true → e.on < j)
    (hind : ∀ i j op oj, i < j → ops[i]? = some op → ops[j]? = some oj → ¬ Bef ops i j → Apart ops op oj ∧ DApart (es i) (es j)) :
    ∀ (fuel : Nat) (listed : Array Bool) (R : List Nat) (env : Env) (H : Hp) (a : Act) (w : World), R.Pairwise (· < ·) → (∀ i, i ∈ R ↔ listed.getD i true = false) → listed.size = ops.size →
      (∀ i j, Bef ops i j → listed.getD j false = true → listed.getD i false = true) → R.length ≤ fuel →
      Chain P r B ops es R env H K → At B p S0 w0 ι0 H0 env H a w → wpAnyIn (Fw r) 0 P .any ops Q fuel listed a w := by
  have hready : ∀ (listed : Array Bool) (j : Nat), j ∈ Region.ready .any ops listed → (∀ i j, Bef ops i j → listed.getD j false = true → listed.getD i false = true) → ∀ i, Bef ops i j → listed.getD i false = true := by
    intro listed j hj hcl i hb
    induction hb with
    | edge h he hb hi =>
      obtain ⟨_, o, ho, hall⟩ := mem_ready.1 hj
      rw [h] at ho; cases ho
      rw [← hi]; exact hall _ he hb
    | trans h1 h2 ih1 ih2 => exact hcl _ _ h1 (ih2 hj)
  intro fuel
  induction fuel with
  | zero =>
    intro listed R env H a w hs hm hsz hcl hle hc hA
    have hR : R = [] := List.length_eq_zero_iff.1 (by omega)
    subst hR
    refine ⟨?_, hQ _ _ _ _ hc hA⟩
    rw [List.eq_nil_iff_forall_not_mem]
    intro j hj
    have := (hm j).2 (mem_ready.1 hj).1
    simp at this
  | succ fuel ih =>
    intro listed R env H a w hs hm hsz hcl hle hc hA
    refine ⟨fun hnil => ?_, fun i hi => ?_⟩
    · -- nothing is ready: nothing is left (the first of the rest would be ready)
      cases R with
      | nil => exact hQ _ _ _ _ hc hA
      | cons i R =>
        have hi := (hm i).1 (by simp)
        have hlt : i < listed.size := by
          rcases Nat.lt_or_ge i listed.size with h | h
          · exact h
          · rw [Array.getD_eq_getD_getElem?, Array.getElem?_eq_none h] at hi; simp at hi
        have : i ∈ Region.ready .any ops listed := by
          refine mem_ready.2 ⟨hi, ops[i]'(by omega), Array.getElem?_eq_getElem (by omega), fun e he hb => ?_⟩
          have hb' := hback i _ e (Array.getElem?_eq_getElem (by omega)) he hb
          have hnot : ¬ e.on ∈ i :: R := by
            intro hmem
            rcases List.mem_cons.1 hmem with h | h
            · omega
            · have := (List.pairwise_cons.1 hs).1 _ h; omega
          have h2 : ¬ listed.getD e.on true = false := fun h => hnot ((hm e.on).2 h)
          have hlt' : e.on < listed.size := by omega
          simp [Array.getD_eq_getD_getElem?, hlt'] at h2 ⊢
          exact h2
        rw [hnil] at this; cases this
    · have hiR := (hm i).2 (mem_ready.1 hi).1
      obtain ⟨pre, post, rfl⟩ := List.append_of_mem hiR
      have hlt : ∀ q ∈ pre, q < i := fun q hq => (List.pairwise_append.1 hs).2.2 q hq i (by simp)
      obtain ⟨o, ho, he, hc'⟩ := hc.pull pre (fun q hq op oi hop hoi => hind q i op oi (hlt q hq) hop hoi (fun hb => by
        have h1 := hready listed i hi hcl q hb
        have h2 := (hm q).1 (by simp [hq])
        rw [Array.getD_eq_getD_getElem?] at h1 h2
        cases hq' : listed[q]? with
        | none => rw [hq'] at h2; simp at h2
        | some x => rw [hq'] at h1 h2; simp at h1 h2; rw [h1] at h2; cases h2))
      refine ent_step hB he hA ho fun a' w' hA' => ih (listed.setIfInBounds i true) (pre ++ post) _ _ a' w' ?_ ?_ (by simpa using hsz) ?_ (by simp at hle ⊢; omega) hc' hA'
      · exact List.Pairwise.sublist (List.Sublist.append_left (List.sublist_cons_self i post) pre) hs
      · intro j
        have hnd : i ∉ pre ++ post := by
          intro hmem
          have hp := hs
          rw [List.pairwise_append] at hp
          rcases List.mem_append.1 hmem with h | h
          · have := hp.2.2 i h i (by simp); omega
          · have := (List.pairwise_cons.1 hp.2.1).1 i h; omega
        by_cases e : j = i
        · subst e
          have hlt' : j < listed.size := by
            have := (hm j).1 (by simp)
            rcases Nat.lt_or_ge j listed.size with h | h
            · exact h
            · rw [Array.getD_eq_getD_getElem?, Array.getElem?_eq_none h] at this; simp at this
          simp only [hnd, false_iff]
          simp [Array.getD_eq_getD_getElem?, hlt']
        · have := hm j
          rw [getD_set_ne true (Ne.symm e)]
          rw [← this]
          simp [e]
      · intro x y hb hy
        by_cases e : y = i
        · subst e
          exact getD_set_true (hready listed y hi hcl x hb)
        · rw [getD_set_ne' e] at hy
          exact getD_set_true (hcl x y hb hy)
end Go.Eng
namespace Go.Eng
open Go.RowKit
set_option linter.unusedVariables false
set_option linter.unusedSimpArgs false
/-! what is asked of a region's text -/
def maskE (acc : List Nat) : List Edge → Nat
  | [] => 0
  | e :: r => match Region.binds .any e with
    | true => (2 ^ e.on ||| acc.getD e.on 0) ||| maskE acc r
    | false => maskE acc r
def masks : List Oper → List Nat → List Nat
  | [], acc => acc
  | o :: r, acc => masks r (acc ++ [maskE acc o.after.toList])
def disj (a b : List Nat) : Bool :=
  match a with
  | [] => true
  | x :: r => match memN x b with | true => false | false => disj r b
def optL : Option Nat → List Nat | none => [] | some d => [d]
def apartB (ops : Array Oper) (p o : Oper) : Bool :=
  disj (optL p.dst) (looks ops o) && disj (optL o.dst) (looks ops p) && disj (optL p.dst) (optL o.dst)
def backB (j : Nat) (es : List Edge) : Bool := es.all fun e => !Region.binds .any e || Nat.blt e.on j
def regOK (ops : Array Oper) : Bool :=
  (List.range ops.size).all fun j => match ops[j]? with
    | none => true
    | some oj => backB j oj.after.toList && (List.range j).all fun i => match ops[i]? with
      | none => true
      | some oi => Nat.testBit ((masks ops.toList []).getD j 0) i || apartB ops oi oj
theorem memN_iff {n : Nat} {l : List Nat} : memN n l = true ↔ n ∈ l := by
  induction l with
  | nil => simp [memN]
  | cons m l ih =>
    unfold memN
    cases h : Nat.beq n m with
    | true => simp [Nat.eq_of_beq_eq_true h]
    | false =>
      have : n ≠ m := Nat.ne_of_beq_eq_false h
      simp [ih, this]
theorem disj_iff {a b : List Nat} : disj a b = true ↔ ∀ x ∈ a, x ∉ b := by
  induction a with
  | nil => simp [disj]
  | cons x r ih =>
    unfold disj
    cases h : memN x b with
    | true => simp [memN_iff.1 h]
    | false =>
      have : x ∉ b := fun hx => by rw [memN_iff.2 hx] at h; cases h
      simp [ih, this]
theorem apartB_sound {ops : Array Oper} {p o : Oper} (h : apartB ops p o = true) : Apart ops p o := by
  unfold apartB at h
  simp only [Bool.and_eq_true, disj_iff] at h
  exact ⟨fun d hd => h.1.1 d (by simp [hd, optL]), fun d hd => h.1.2 d (by simp [hd, optL]), fun d hd hd' => h.2 d (by simp [hd, optL]) (by simp [hd', optL])⟩
theorem maskE_sound {ops : Array Oper} {j : Nat} {o : Oper} (ho : ops[j]? = some o) {acc : List Nat} (hacc : ∀ k i, (acc.getD k 0).testBit i = true → Bef ops i k) :
    ∀ (es : List Edge), (∀ e ∈ es, e ∈ o.after) → ∀ i, (maskE acc es).testBit i = true → Bef ops i j := by
  intro es
  induction es with
  | nil => intro _ i h; simp [maskE] at h
  | cons e es ih =>
    intro hes i h
    have ih := ih (fun x hx => hes x (by simp [hx])) i
    unfold maskE at h
    cases hb : Region.binds .any e with
    | false => rw [hb] at h; exact ih h
    | true =>
      rw [hb] at h
      simp only [Nat.testBit_or, Bool.or_eq_true, Nat.testBit_two_pow, decide_eq_true_eq] at h
      have he := Bef.edge (i := e.on) ho (hes e (by simp)) hb rfl
      rcases h with (h | h) | h
      · subst h; exact he
      · exact (hacc _ _ h).trans he
      · exact ih h
theorem masks_sound {ops : Array Oper} : ∀ (r pre : List Oper) (acc : List Nat), ops.toList = pre ++ r → acc.length = pre.length → (∀ k i, (acc.getD k 0).testBit i = true → Bef ops i k) →
    ∀ k i, ((masks r acc).getD k 0).testBit i = true → Bef ops i k := by
  intro r
  induction r with
  | nil => intro pre acc _ _ h; exact h
  | cons o r ih =>
    intro pre acc hops hl h
    refine ih (pre ++ [o]) (acc ++ [maskE acc o.after.toList]) (by simp [hops]) (by simp [hl]) (fun k i hk => ?_)
    rw [List.getD_eq_getElem?_getD] at hk
    by_cases e : k < acc.length
    · rw [List.getElem?_append_left e, ← List.getD_eq_getElem?_getD] at hk
      exact h k i hk
    · rw [List.getElem?_append_right (by omega)] at hk
      by_cases e' : k = acc.length
      · subst e'
        simp at hk
        have ho : ops[acc.length]? = some o := by
          rw [← Array.getElem?_toList, hops, hl, List.getElem?_append_right (Nat.le_refl _)]; simp
        exact maskE_sound ho h _ (fun e he => by simpa using he) i hk
      · rw [List.getElem?_eq_none (by simp; omega)] at hk; simp at hk
/-! what is asked of what the operations touch -/
structure Lg where
  i : Nat
  ws : List Nat
  as : List Nat
  ns : List Nat
def logAdd (i : Nat) (sets : List (Nat × AO)) (acc news : List Nat) (log : List Lg) : List Lg :=
  match sets, acc, news with
  | [], [], [] => log
  | _, _, _ => ⟨i, keys sets, acc, news⟩ :: log
/-- e is ahead of f -/
def dynOne (mj : Nat) (fw fa : List Nat) : List Lg → Bool
  | [] => true
  | ⟨i, ew, ea, en⟩ :: r => match Nat.testBit mj i with
    | true => dynOne mj fw fa r
    | false => match disj ew fa && disj ew fw && disj fw ea && disj fw en with
      | true => dynOne mj fw fa r
      | false => false
def dynAll (ms : List Nat) : List Lg → Bool
  | [] => true
  | ⟨i, fw, fa, _⟩ :: r => match dynOne (ms.getD i 0) fw fa r with
    | true => dynAll ms r
    | false => false
def logF (es : Nat → Ent) : List Nat → List Lg → List Lg
  | [], log => log
  | i :: R, log => logF es R (logAdd i (es i).sets (es i).accs (es i).news log)
def nontriv (e : Ent) : Bool := match e.sets, e.accs, e.news with | [], [], [] => false | _, _, _ => true
theorem logAdd_eq (i : Nat) (e : Ent) (log : List Lg) : logAdd i e.sets e.accs e.news log = if nontriv e then ⟨i, keys e.sets, e.accs, e.news⟩ :: log else log := by
  obtain ⟨run, v, sets, accs, news⟩ := e
  cases sets <;> cases accs <;> cases news <;> rfl
theorem logF_eq (es : Nat → Ent) : ∀ (R : List Nat) (log : List Lg), logF es R log = ((R.filter fun i => nontriv (es i)).reverse.map fun i => ⟨i, keys (es i).sets, (es i).accs, (es i).news⟩) ++ log := by
  intro R
  induction R with
  | nil => intro log; rfl
  | cons i R ih =>
    intro log
    simp only [logF, ih, logAdd_eq]
    cases h : nontriv (es i) <;> simp [h]
theorem dynOne_iff {mj : Nat} {f : Lg} {l : List Lg} : dynOne mj f.ws f.as l = true ↔ ∀ e ∈ l, mj.testBit e.i = true ∨ (disj e.ws f.as && disj e.ws f.ws && disj f.ws e.as && disj f.ws e.ns) = true := by
  induction l with
  | nil => simp [dynOne]
  | cons e l ih =>
    unfold dynOne
    cases h1 : Nat.testBit mj e.i with
    | true => simp [h1, ih]
    | false =>
      simp only [List.mem_cons, forall_eq_or_imp, h1, Bool.false_eq_true, false_or]
      split
      · rename_i h; simp only [h, true_and, ih]
      · rename_i h; simp [h]
theorem dynAll_iff {ms : List Nat} {l : List Lg} : dynAll ms l = true ↔ l.Pairwise fun f e => (ms.getD f.i 0).testBit e.i = true ∨ (disj e.ws f.as && disj e.ws f.ws && disj f.ws e.as && disj f.ws e.ns) = true := by
  induction l with
  | nil => simp [dynAll]
  | cons f l ih =>
    unfold dynAll
    cases h : dynOne (ms.getD f.i 0) f.ws f.as l with
    | true => simp only [List.pairwise_cons, ih]; exact ⟨fun h' => ⟨dynOne_iff.1 h, h'⟩, fun h' => h'.2⟩
    | false =>
      simp only [List.pairwise_cons]
      refine ⟨fun h' => absurd h' (by simp), fun h' => ?_⟩
      rw [dynOne_iff.2 h'.1] at h; cases h
theorem dyn_sound {ops : Array Oper} {es : Nat → Ent} {n : Nat} (h : dynAll (masks ops.toList []) (logF es (List.range n) []) = true) {i j : Nat} (hij : i < j) (hj : j < n) (hb : ¬ Bef ops i j) : DApart (es i) (es j) := by
  rw [logF_eq, List.append_nil, dynAll_iff, List.pairwise_map, List.pairwise_reverse, List.pairwise_filter] at h
  have hp := (List.pairwise_iff_getElem.1 h) i j (by simpa using (by omega : i < n)) (by simpa using hj) hij
  simp only [List.getElem_range] at hp
  have htriv : ∀ e : Ent, nontriv e = false → e.sets = [] ∧ e.accs = [] ∧ e.news = [] := by
    intro e he
    obtain ⟨run, v, sets, accs, news⟩ := e
    cases sets <;> cases accs <;> cases news <;> simp_all [nontriv]
  cases hi' : nontriv (es i) with
  | false =>
    obtain ⟨e1, e2, e3⟩ := htriv _ hi'
    exact ⟨fun k hk => by rw [e1] at hk; simp [keys] at hk, fun k hk => by rw [e2, e3]; simp⟩
  | true =>
    cases hj' : nontriv (es j) with
    | false =>
      obtain ⟨e1, e2, e3⟩ := htriv _ hj'
      exact ⟨fun k hk => by rw [e1, e2]; simp [keys], fun k hk => by rw [e1] at hk; simp [keys] at hk⟩
    | true =>
      rcases hp hi' hj' with hp | hp
      · exact absurd (masks_sound ops.toList [] [] rfl rfl (fun k i hk => by simp at hk) j i hp) hb
      · simp only [Bool.and_eq_true, disj_iff] at hp
        exact ⟨fun k hk => ⟨hp.1.1.1 k hk, hp.1.1.2 k hk⟩, fun k hk => ⟨hp.1.2 k hk, hp.2 k hk⟩⟩
theorem regOK_back {ops : Array Oper} (h : regOK ops = true) (j : Nat) (o : Oper) (e : Edge) (ho : ops[j]? = some o) (he : e ∈ o.after) (hb : Region.binds .any e = true) : e.on < j := by
  have hj : j < ops.size := (Array.getElem?_eq_some_iff.1 ho).1
  unfold regOK at h
  have := (List.all_eq_true.1 h) j (by simpa using hj)
  rw [ho] at this
  simp only [Bool.and_eq_true] at this
  have h2 := (List.all_eq_true.1 this.1) e (by simpa using he)
  rw [hb] at h2
  simpa [Nat.blt_eq] using h2
theorem regOK_apart {ops : Array Oper} (h : regOK ops = true) {i j : Nat} {p o : Oper} (hij : i < j) (hi : ops[i]? = some p) (ho : ops[j]? = some o) (hb : ¬ Bef ops i j) : Apart ops p o := by
  have hj : j < ops.size := (Array.getElem?_eq_some_iff.1 ho).1
  unfold regOK at h
  have := (List.all_eq_true.1 h) j (by simpa using hj)
  rw [ho] at this
  simp only [Bool.and_eq_true] at this
  have h2 := (List.all_eq_true.1 this.2) i (by simpa using hij)
  rw [hi] at h2
  simp only [Bool.or_eq_true] at h2
  rcases h2 with h2 | h2
  · exact absurd (masks_sound ops.toList [] [] rfl rfl (fun k i hk => by simp at hk) j i h2) hb
  · exact apartB_sound h2
/-! a region reckoned -/
def freshL (H : Hp) : List Nat → Prop → Prop
  | [], k => k
  | n :: r, k => freshK H n (freshL H r k)
theorem freshL_iff {H : Hp} {l : List Nat} {k : Prop} : freshL H l k ↔ (∀ n ∈ l, Hget H n = none) ∧ k := by
  induction l with
  | nil => simp [freshL]
  | cons n l ih => simp only [freshL, freshK_iff, ih, List.mem_cons, forall_eq_or_imp, and_assoc]
def idN : Op → Nat
  | .alloc _ => 1
  | .box _ _ => 1
  | .buildSlice _ _ _ => 1
  | .makeMap _ _ => 1
  | .makeSlice _ _ _ => 1
  | .call c => match c.callee with
    | .builtin .append => 1
    | .value _ => 4
    | _ => 0
  | _ => 0
def slotOf (ops : List Oper) (j : Nat) : Option Nat := match ops, j with
  | [], _ => none
  | o :: _, 0 => o.dst
  | _ :: r, j + 1 => slotOf r j
def putTK (env : Env) (dst : Option Nat) (v : PV) (k : Env → Prop) : Prop := match dst with | none => k env | some d => setK env d v k
theorem putTK_eq (env : Env) (dst : Option Nat) (v : PV) (k : Env → Prop) : putTK env dst v k = k (putE env dst v) := by
  cases dst with
  | none => rfl
  | some d => exact setK_eq _ _ _ _
section
variable (τ : TypeId → Option TE) (md : Nat) (rf : List Nat) (CP : CPT) (YP : YPT)
def runK (n : Nat) (env : Env) (H : Hp) (o : Oper) (i : Nat) (log : List Lg) (K : Env → Hp → List Lg → Prop) : Prop :=
  opK τ md rf CP YP (eo env) H n o.dst o.op fun v sets acc news => freshL H news (putTK env o.dst v fun env' => putsHK sets H fun H' => K env' H' (logAdd i sets acc news log))
/-- one operation, and what is behind it. (By the recursor itself: what is left open in a walk then reads alike wherever it is reckoned.) -/
def regS (all : List Oper) (o : Oper) (ih : Nat → Nat → Env → Hp → List Lg → (Env → Hp → Nat → List Lg → Prop) → Prop) (i n : Nat) (env : Env) (H : Hp) (log : List Lg) (K : Env → Hp → Nat → List Lg → Prop) : Prop :=
    natK (n + idN o.op) fun n' => natK (i + 1) fun i' =>
    match o.guard with
    | none => runK τ md rf CP YP n env H o i log fun env' H' log' => ih i' n' env' H' log' K
    | some (j, want) => match slotOf all j with
      | none => False
      | some d => match getL env d with
        | .bool t => match Bool.xor t want with
          | false => runK τ md rf CP YP n env H o i log fun env' H' log' => ih i' n' env' H' log' K
          | true => putTK env o.dst (.tup []) fun env' => ih i' n' env' H log K
        | .bp t => (t = want → setK env d (.bool want) fun env1 => runK τ md rf CP YP n env1 H o i log fun env' H' log' => ih i' n' env' H' log' K) ∧
            (t = Bool.not want → setK env d (.bool (Bool.not want)) fun env1 => putTK env1 o.dst (.tup []) fun env' => ih i' n' env' H log K)
        | .tup vs => match vs with
          | [] => putTK env o.dst (.tup []) fun env' => ih i' n' env' H log K
          | _ => False
        | _ => False
noncomputable def regK (all : List Oper) (l : List Oper) : Nat → Nat → Env → Hp → List Lg → (Env → Hp → Nat → List Lg → Prop) → Prop :=
  List.rec (motive := fun _ => Nat → Nat → Env → Hp → List Lg → (Env → Hp → Nat → List Lg → Prop) → Prop) (fun i n env H log K => K env H n log) (fun o _ ih => regS τ md rf CP YP all o ih) l
theorem regK_cons (all : List Oper) (o : Oper) (r : List Oper) : regK τ md rf CP YP all (o :: r) = regS τ md rf CP YP all o (regK τ md rf CP YP all r) := rfl
end
/-- the same temporaries; a truth value once a letter and once a word -/
def EqE (env env1 : Env) : Prop := env.length = env1.length ∧ ∀ i, getL env i = getL env1 i ∨ ∃ b, getL env i = .bp b ∧ getL env1 i = .bool b
theorem EqE.refl (env : Env) : EqE env env := ⟨rfl, fun _ => .inl rfl⟩
theorem EqE.rep {env env1 : Env} (h : EqE env env1) {S : Imm} {w : World} {ι : Ix} {vs : Array Value} (hr : RepA S w ι env vs) : RepA S w ι env1 vs := by
  refine ⟨h.1 ▸ hr.1, fun i hi => ?_⟩
  have := hr.2 i (by rw [h.1]; exact hi)
  rcases h.2 i with e | ⟨b, e1, e2⟩
  · rw [← e]; exact this
  · rw [e1] at this
    rw [e2]
    generalize vs.getD i undef = x at this
    cases this; exact .bool _ _
theorem EqE.eo {env env1 : Env} (h : EqE env env1) (x : Operand) {S : Imm} {w : World} {ι : Ix} {v : Value} (hr : Rep S w ι (eo env x) v) : Rep S w ι (eo env1 x) v := by
  cases x with
  | tmp t =>
    simp only [Eng.eo] at hr ⊢
    rcases h.2 t with e | ⟨b, e1, e2⟩
    · rw [← e]; exact hr
    · rw [e1] at hr; rw [e2]; cases hr; exact .bool _ _
  | const v => exact hr
  | global g => exact hr
  | func f => exact hr
theorem EqE.put {env env1 : Env} (h : EqE env env1) (dst : Option Nat) (v : PV) : EqE (putE env dst v) (putE env1 dst v) := by
  cases dst with
  | none => exact h
  | some d =>
    refine ⟨by simp [putE, h.1], fun i => ?_⟩
    simp only [putE, getL_set, h.1]
    split
    · exact .inl rfl
    · exact h.2 i
theorem EqE.bool {env : Env} {d : Nat} {t : Bool} (h : getL env d = .bp t) : EqE env (env.set d (.bool t)) := by
  refine ⟨by simp, fun i => ?_⟩
  rw [getL_set]
  by_cases e : i = d ∧ d < env.length
  · rw [if_pos e]; exact .inr ⟨t, by rw [e.1]; exact h, rfl⟩
  · rw [if_neg e]; exact .inl rfl
section
variable {P : Program} {r : Option Nat} {τ : TypeId → Option TE} {B : Imm → World → Prop}
theorem EntOK.eqE {ops : Array Oper} {env env1 : Env} {H : Hp} {o : Oper} {e : Ent} (h : EqE env env1) (he : EntOK P r B ops env1 H o e) : EntOK P r B ops env H o e := by
  obtain ⟨h1, h2, h3, h4⟩ := he
  refine ⟨?_, fun hr => (h2 hr).congr (fun x hx S w ι val hh => h.eo x hh) (fun _ _ => rfl), h3, h4⟩
  unfold GOK at h1 ⊢
  cases hg : o.guard with
  | none => rw [hg] at h1; exact h1
  | some jw =>
    obtain ⟨j, want⟩ := jw
    rw [hg] at h1
    obtain ⟨d, t, g1, g2, g3⟩ := h1
    refine ⟨d, t, g1, ?_, g3⟩
    rcases h.2 d with e | ⟨b, e1, e2⟩
    · rw [e]; exact g2
    · rw [e2] at g2
      rcases g2 with g2 | g2 | ⟨g2, _⟩
      · cases g2
      · cases g2; exact .inl e1
      · cases g2
theorem Chain.eqE {ops : Array Oper} {es : Nat → Ent} {K : Env → Hp → Prop} (hK : ∀ env env1 H, EqE env env1 → K env1 H → K env H) : ∀ (R : List Nat) {env env1 : Env} {H : Hp}, EqE env env1 → Chain P r B ops es R env1 H K → Chain P r B ops es R env H K := by
  intro R
  induction R with
  | nil => intro env env1 H h hc; exact hK _ _ _ h hc
  | cons i R ih =>
    intro env env1 H h hc
    obtain ⟨o, ho, he, hc⟩ := hc
    exact ⟨o, ho, he.eqE h, ih (h.put _ _) hc⟩
theorem Chain.congrEs {ops : Array Oper} {es es' : Nat → Ent} {K : Env → Hp → Prop} : ∀ (R : List Nat) {env : Env} {H : Hp}, (∀ i ∈ R, es i = es' i) → Chain P r B ops es R env H K → Chain P r B ops es' R env H K := by
  intro R
  induction R with
  | nil => intro env H _ h; exact h
  | cons i R ih =>
    intro env H he h
    obtain ⟨o, ho, h1, h2⟩ := h
    have e := he i (by simp)
    exact ⟨o, ho, e ▸ h1, e ▸ ih (fun j hj => he j (by simp [hj])) h2⟩
theorem Chain.imp {ops : Array Oper} {es : Nat → Ent} {K K' : Env → Hp → Prop} (hK : ∀ env H, K env H → K' env H) : ∀ (R : List Nat) {env : Env} {H : Hp}, Chain P r B ops es R env H K → Chain P r B ops es R env H K' := by
  intro R
  induction R with
  | nil => intro env H h; exact hK _ _ h
  | cons i R ih => intro env H h; obtain ⟨o, ho, h1, h2⟩ := h; exact ⟨o, ho, h1, ih h2⟩
theorem Chain.fact {ops : Array Oper} {es : Nat → Ent} {K : Env → Hp → Prop} {A : Prop} (hK : ∀ env H, K env H → A) : ∀ (R : List Nat) {env : Env} {H : Hp}, Chain P r B ops es R env H K → A := by
  intro R
  induction R with
  | nil => intro env H h; exact hK _ _ h
  | cons i R ih => intro env H h; obtain ⟨o, ho, h1, h2⟩ := h; exact ih h2
theorem logF_congr {es es' : Nat → Ent} : ∀ (R : List Nat) (log : List Lg), (∀ i ∈ R, es i = es' i) → logF es R log = logF es' R log := by
  intro R
  induction R with
  | nil => intro log _; rfl
  | cons i R ih => intro log h; simp only [logF]; rw [h i (by simp), ih _ fun j hj => h j (by simp [hj])]
theorem slotOf_eq : ∀ (l : List Oper) (j : Nat), slotOf l j = (l[j]?).bind (·.dst) := by
  intro l
  induction l with
  | nil => intro j; rfl
  | cons o l ih => intro j; cases j with
    | zero => rfl
    | succ j => simpa [slotOf] using ih j
def idsN : List Oper → Nat
  | [] => 0
  | o :: r => idN o.op + idsN r
theorem regK_sound (hτ : TabOK P τ) {md rf CP YP} (hC : CPOKB P B CP) (hY : YPOK P r B YP) {ops : Array Oper} {K : Env → Hp → Nat → List Lg → Prop} {K' : List Lg → Env → Hp → Prop}
    (hK : ∀ env H n log, K env H n log → K' log env H) (hK' : ∀ log env env1 H, EqE env env1 → K' log env1 H → K' log env H) :
    ∀ (l : List Oper) (i n : Nat) (env : Env) (H : Hp) (log : List Lg), ops.toList.drop i = l → regK τ md rf CP YP ops.toList l i n env H log K →
      ∃ es : Nat → Ent, Chain P r B ops es (List.range' i l.length) env H (K' (logF es (List.range' i l.length) log)) := by
  intro l
  induction l with
  | nil => intro i n env H log _ h; exact ⟨fun _ => default, hK _ _ _ _ h⟩
  | cons o l ih =>
    intro i n env H log hl h
    have ho : ops[i]? = some o := by
      have : (ops.toList.drop i)[0]? = some o := by rw [hl]; rfl
      rw [List.getElem?_drop] at this
      simpa using this
    have hl' : ops.toList.drop (i + 1) = l := by
      have : (ops.toList.drop i).drop 1 = l := by rw [hl]; rfl
      rw [List.drop_drop] at this; exact this
    rw [regK_cons] at h
    simp only [regS, natK_eq] at h
    have glue : ∀ {env : Env} {H : Hp} (e : Ent) (es : Nat → Ent), EntOK P r B ops env H o e → Chain P r B ops es (List.range' (i + 1) l.length) (putE env o.dst e.v) (Hputs H e.sets) (K' (logF es (List.range' (i + 1) l.length) (logAdd i e.sets e.accs e.news log))) →
        ∃ es : Nat → Ent, Chain P r B ops es (List.range' i (o :: l).length) env H (K' (logF es (List.range' i (o :: l).length) log)) := by
      intro env H e es he hc
      have hne : ∀ j ∈ List.range' (i + 1) l.length, es j = (if j = i then e else es j) := by
        intro j hj
        rw [List.mem_range'_1] at hj
        rw [if_neg (by omega)]
      refine ⟨fun j => if j = i then e else es j, ?_⟩
      rw [List.length_cons, List.range'_succ]
      refine ⟨o, ho, by simpa using he, ?_⟩
      simp only [if_true, logF]
      rw [← logF_congr _ _ hne]
      exact Chain.congrEs _ hne hc
    have run : ∀ {env : Env} {H : Hp}, GOK ops env o true → runK τ md rf CP YP n env H o i log (fun env' H' log' => regK τ md rf CP YP ops.toList l (i + 1) (n + idN o.op) env' H' log' K) →
        ∃ es : Nat → Ent, Chain P r B ops es (List.range' i (o :: l).length) env H (K' (logF es (List.range' i (o :: l).length) log)) := by
      intro env H hg h
      obtain ⟨v, sets, accs, news, h, hs⟩ := opK_sound (B := B) hτ hC hY h
      simp only [freshL_iff, putTK_eq, putsHK_eq] at h
      obtain ⟨hn, h⟩ := h
      obtain ⟨es, hc⟩ := ih _ _ _ _ _ hl' h
      exact glue ⟨true, v, sets, accs, news⟩ es ⟨hg, fun _ => hs, hn, fun hh => by cases hh⟩ hc
    have skip : ∀ {env : Env} {H : Hp}, GOK ops env o false → regK τ md rf CP YP ops.toList l (i + 1) (n + idN o.op) (putE env o.dst (.tup [])) H log K →
        ∃ es : Nat → Ent, Chain P r B ops es (List.range' i (o :: l).length) env H (K' (logF es (List.range' i (o :: l).length) log)) := by
      intro env H hg h
      obtain ⟨es, hc⟩ := ih _ _ _ _ _ hl' h
      refine glue ⟨false, .tup [], [], [], []⟩ es ?_ hc
      refine ⟨hg, fun hh => ?_, fun k hk => ?_, fun _ => ⟨rfl, rfl, rfl, rfl⟩⟩
      · exact absurd hh (by simp)
      · exact absurd hk (by simp)
    have lift : ∀ {env env1 : Env} {H : Hp}, EqE env env1 → (∃ es : Nat → Ent, Chain P r B ops es (List.range' i (o :: l).length) env1 H (K' (logF es (List.range' i (o :: l).length) log))) →
        ∃ es : Nat → Ent, Chain P r B ops es (List.range' i (o :: l).length) env H (K' (logF es (List.range' i (o :: l).length) log)) :=
      fun he ⟨es, hc⟩ => ⟨es, Chain.eqE (hK' _) _ he hc⟩
    split at h
    · rename_i hg
      exact run (by unfold GOK; rw [hg]) h
    · rename_i j want hg
      split at h
      · exact h.elim
      · rename_i d hd
        rw [slotOf_eq, Array.getElem?_toList] at hd
        have gk : ∀ {env : Env} {t b : Bool}, (getL env d = .bp t ∨ getL env d = .bool t) → b = (t == want) → GOK ops env o b := by
          intro env t b h1 h2
          unfold GOK; rw [hg]; exact ⟨d, t, hd, h1.imp id .inl, h2⟩
        split at h
        · rename_i t ht
          split at h
          · rename_i hx
            exact run (gk (.inr ht) (by cases t <;> cases want <;> simp_all)) h
          · rename_i hx
            rw [putTK_eq] at h
            exact skip (gk (.inr ht) (by cases t <;> cases want <;> simp_all)) h
        · rename_i t ht
          obtain ⟨ha, hb⟩ := h
          rw [setK_eq] at hb
          simp only [setK_eq] at ha
          by_cases e : t = want
          · subst e
            have hq := EqE.bool ht
            refine lift hq (run (gk (t := t) ?_ (by simp)) (ha rfl))
            have := hq.2 d
            rw [ht] at this
            rcases this with this | ⟨b, e1, e2⟩
            · exact .inl this.symm
            · cases e1; exact .inr e2
          · have e' : t = Bool.not want := by cases t <;> cases want <;> simp_all
            have hq := EqE.bool ht
            rw [e'] at hq
            have hb := hb e'
            rw [putTK_eq] at hb
            refine lift hq (skip (gk (t := Bool.not want) ?_ (by cases want <;> rfl)) hb)
            have := hq.2 d
            rw [ht] at this
            rcases this with this | ⟨b, e1, e2⟩
            · rw [e'] at this; exact .inl this.symm
            · cases e1; rw [e'] at e2; exact .inr e2
        · rename_i vs ht
          split at h
          · rw [putTK_eq] at h
            refine skip ?_ h
            unfold GOK; rw [hg]; exact ⟨d, !want, hd, .inr (.inr ⟨ht, rfl⟩), by cases want <;> rfl⟩
          · exact h.elim
        · exact h.elim
end
end Go.Eng
namespace Go.Eng
open Go.RowKit
set_option linter.unusedVariables false
set_option linter.unusedSimpArgs false
/-- code from a state: each way out with its states -/
def AW (P : Program) (r : Option Nat) (B : Imm → World → Prop) (p : Nat) (c : Code) (Q : Exit → Env → Hp → Prop) (env : Env) (H : Hp) : Prop :=
  ∀ (S0 : Imm) (w0 : World) (ι0 : Ix) (H0 : Hp) (a : Act) (w : World), At B p S0 w0 ι0 H0 env H a w →
    c.wpIn (Fw r) 0 P (fun e a' w' => ∃ env' H', Q e env' H' ∧ At B p S0 w0 ι0 H0 env' H' a' w') a w
section
variable {P : Program} {r : Option Nat} {τ : TypeId → Option TE} {B : Imm → World → Prop} {p : Nat}
theorem At.drawn {S0 : Imm} {w0 : World} {ι0 : Ix} {H0 H : Hp} {env : Env} {a : Act} {w : World} (h : At B p S0 w0 ι0 H0 env H a w) (hB : BOK B) : At B p S0 w0 ι0 H0 env H a { w with drawn := w.drawn + 1 } := by
  obtain ⟨S, ι, hb, M, R, D, D', T⟩ := h.ex
  have hk : Keeps S w S { w with drawn := w.drawn + 1 } := ⟨fun b j h => ⟨h, rfl⟩, fun b j h => h⟩
  have hbel : Bel w { w with drawn := w.drawn + 1 } := ⟨rfl, rfl, rfl, Nat.le_refl _, fun _ => rfl⟩
  refine ⟨S, ι, hB _ _ _ _ hk hbel hb, ⟨fun k o ho => (M.obj k o ho).mono hk (.refl _) hbel (fun _ _ => rfl) (fun _ => rfl) rfl (fun _ _ _ h => h), M.liveO, M.liveT, M.dist, M.imm⟩, R.mono hk (.refl _), ⟨D.all, D.nodup⟩, D',
    T.trans ⟨hbel, fun _ _ _ => rfl, hk, fun _ _ _ h => .inl h, fun _ h => .inl h, fun _ _ _ h => h, fun _ _ b n h => ⟨b, n, h, .inl ⟨rfl, Nat.le_refl _⟩⟩⟩⟩
theorem AW.eqE {c : Code} {Q : Exit → Env → Hp → Prop} {env env1 : Env} {H : Hp} (h : EqE env env1) (ha : AW P r B p c Q env1 H) : AW P r B p c Q env H := by
  intro S0 w0 ι0 H0 a w hA
  obtain ⟨S, ι, hb, M, R, D, D', T⟩ := hA.ex
  exact ha S0 w0 ι0 H0 a w ⟨S, ι, hb, M, h.rep R, D, D', T⟩
theorem AW.mono {c : Code} {Q Q' : Exit → Env → Hp → Prop} {env : Env} {H : Hp} (h : AW P r B p c Q env H) (hq : ∀ e env H, Q e env H → Q' e env H) : AW P r B p c Q' env H := by
  intro S0 w0 ι0 H0 a w hA
  refine wpIn_mono (h S0 w0 ι0 H0 a w hA) ?_
  rintro e a w ⟨env', H', q, hA⟩
  exact ⟨env', H', hq _ _ _ q, hA⟩
/-- states that the walk may pass to without a step -/
def AK (P : Program) (B : Imm → World → Prop) (p : Nat) (Q : Env → Hp → Prop) (env : Env) (H : Hp) : Prop :=
  ∀ (S0 : Imm) (w0 : World) (ι0 : Ix) (H0 : Hp) (a : Act) (w : World), At B p S0 w0 ι0 H0 env H a w → ∃ env' H', Q env' H' ∧ At B p S0 w0 ι0 H0 env' H' a w
theorem AK.of {Q : Env → Hp → Prop} {env : Env} {H : Hp} (h : Q env H) : AK P B p Q env H := fun S0 w0 ι0 H0 a w hA => ⟨env, H, h, hA⟩
theorem AK.eqE {Q : Env → Hp → Prop} {env env1 : Env} {H : Hp} (h : EqE env env1) (ha : AK P B p Q env1 H) : AK P B p Q env H := by
  intro S0 w0 ι0 H0 a w hA
  obtain ⟨S, ι, hb, M, R, D, D', T⟩ := hA.ex
  exact ha S0 w0 ι0 H0 a w ⟨S, ι, hb, M, h.rep R, D, D', T⟩
theorem aw_region_text (hB : BOK B) (hτ : TabOK P τ) {md rf CP YP} (hC : CPOKB P B CP) (hY : YPOK P r B YP) {id : Nat} {ops : Array Oper} {K : Env → Hp → Nat → List Lg → Prop} {Q : Exit → Env → Hp → Prop} {n : Nat} {env : Env} {H : Hp}
    (hK : ∀ env H n log, K env H n log → Q .normal env H) (h : regK τ md rf CP YP ops.toList ops.toList 0 n env H [] K) : AW P r B p (.region id ops false) Q env H := by
  intro S0 w0 ι0 H0 a w hA
  obtain ⟨es, hc⟩ := regK_sound (K' := fun _ env H => AK P B p (Q .normal) env H) hτ hC hY (fun env H n log h => AK.of (hK _ _ _ _ h)) (fun log env env1 H he h => AK.eqE he h) ops.toList 0 n env H [] rfl h
  refine wpIn_region ?_
  rw [List.range_eq_range', ← Array.length_toList]
  exact chain_text hB (fun env H a w hk hA => by obtain ⟨env', H', q, hA'⟩ := hk S0 w0 ι0 H0 a w hA; exact ⟨env', H', q, hA'⟩) _ _ _ a w hc hA
theorem aw_region_any (hB : BOK B) (hm : P.follows .mixedOrders = true) (hτ : TabOK P τ) {md rf CP YP} (hC : CPOKB P B CP) (hY : YPOK P r B YP) {id : Nat} {ops : Array Oper} {K : Env → Hp → Nat → List Lg → Prop} {Q : Exit → Env → Hp → Prop} {n : Nat} {env : Env} {H : Hp}
    (hok : regOK ops = true) (hK : ∀ env H n log, K env H n log → Q .normal env H) (h : regK τ md rf CP YP ops.toList ops.toList 0 n env H [] fun env H n log => ifK (dynAll (masks ops.toList []) log) (K env H n log)) : AW P r B p (.region id ops true) Q env H := by
  intro S0 w0 ι0 H0 a w hA
  obtain ⟨es, hc⟩ := regK_sound (K' := fun log env H => dynAll (masks ops.toList []) log = true ∧ AK P B p (Q .normal) env H) hτ hC hY (fun env H n log h => by rw [ifK_iff] at h; exact ⟨h.1, AK.of (hK _ _ _ _ h.2)⟩) (fun log env env1 H he h => ⟨h.1, AK.eqE he h.2⟩) ops.toList 0 n env H [] rfl h
  have hd := Chain.fact (fun _ _ h => h.1) _ hc
  have hc' := Chain.imp (K' := AK P B p (Q .normal)) (fun _ _ h => h.2) _ hc
  rw [← List.range_eq_range', Array.length_toList] at hd hc'
  refine wpIn_region_any hm ?_
  refine chain_any hB (K := AK P B p (Q .normal)) (fun env H a w hk hA => by obtain ⟨env', H', q, hA'⟩ := hk S0 w0 ι0 H0 a w hA; exact ⟨env', H', q, hA'⟩) (fun j o e ho he hb => regOK_back hok j o e ho he hb)
    (fun i j op oj hij hi hj hb => ⟨regOK_apart hok hij hi hj hb, dyn_sound hd hij ((Array.getElem?_eq_some_iff.1 hj).1) hb⟩) _ _ (List.range ops.size) env H a _ ?_ ?_ (by simp) ?_ (by simp) hc' (hA.drawn hB)
  · exact List.pairwise_lt_range
  · intro i
    rw [List.mem_range, Array.getD_eq_getD_getElem?, Array.getElem?_replicate]
    by_cases e : i < ops.size
    · simp [e]
    · simp [e]
  · intro i j _ hj
    rw [Array.getD_eq_getD_getElem?, Array.getElem?_replicate] at hj
    by_cases e : j < ops.size
    · simp [e] at hj
    · simp [e] at hj
theorem aw_seq {x y : Code} {Q : Exit → Env → Hp → Prop} {env : Env} {H : Hp} (h : AW P r B p x (fun e env H => match e with | .normal => AW P r B p y Q env H | e => Q e env H) env H) : AW P r B p (.seq x y) Q env H := by
  intro S0 w0 ι0 H0 a w hA
  refine wpIn_seq (wpIn_mono (h S0 w0 ι0 H0 a w hA) ?_)
  rintro e a w ⟨env', H', q, hA⟩
  cases e with
  | normal => exact q S0 w0 ι0 H0 a w hA
  | _ => exact ⟨env', H', q, hA⟩
theorem aw_cond {c : Operand} {x y : Code} {t : Bool} {Q : Exit → Env → Hp → Prop} {env : Env} {H : Hp} (hc : eo env c = .bool t ∨ eo env c = .bp t) (h : AW P r B p (if t then x else y) Q env H) : AW P r B p (.cond c x y) Q env H := by
  intro S0 w0 ι0 H0 a w hA
  obtain ⟨S, ι, hb, M, R, D, D', T⟩ := hA.ex
  refine wpIn_cond (t := t) ?_ (h S0 w0 ι0 H0 a w hA)
  have := eo_rep R c
  rcases hc with hc | hc <;> rw [hc] at this <;> generalize a.eval c = v at this <;> cases this <;> rfl
theorem aw_block {id : Nat} {c : Code} {Q : Exit → Env → Hp → Prop} {env : Env} {H : Hp} (h : AW P r B p c (fun e env H => match e with | .exit i => (match Nat.beq i id with | true => Q .normal env H | false => Q (.exit i) env H) | e => Q e env H) env H) : AW P r B p (.block id c) Q env H := by
  intro S0 w0 ι0 H0 a w hA
  refine wpIn_block (wpIn_mono (h S0 w0 ι0 H0 a w hA) ?_)
  rintro e a w ⟨env', H', q, hA⟩
  cases e with
  | exit i =>
    simp only [Exit.inBlock] at q ⊢
    cases hb : Nat.beq i id with
    | true => rw [hb] at q; rw [if_pos (Nat.eq_of_beq_eq_true hb)]; exact ⟨env', H', q, hA⟩
    | false => rw [hb] at q; rw [if_neg (Nat.ne_of_beq_eq_false hb)]; exact ⟨env', H', q, hA⟩
  | _ => exact ⟨env', H', q, hA⟩
theorem stepR_scope {P : Program} {b : Frame} {a : Act} {k : List Item} {cs : List Frame} {w : World} {c : Code} : step P (lone (b.atR a (.code (.scope c) :: k)) cs w) = .next (lone (b.atR a (.code c :: .inScope c :: k)) cs w) :=
  step_lone_go (by simp [stepG, stepG.exec, Frame.atR])
theorem stepR_inScope {P : Program} {b : Frame} {a : Act} {k : List Item} {cs : List Frame} {w : World} {c : Code} : step P (lone (b.atR a (.inScope c :: k)) cs w) = .next (lone (b.atR a k) cs w) :=
  step_lone_go (by simp [stepG, stepG.exec, Frame.atR])
theorem wpIn_scope {F : Fence} {n : Nat} {P : Program} {c : Code} {Q : Exit → Act → World → Prop} {a : Act} {w : World} (h : c.wpIn F n P (fun e a w => (∀ l, e ≠ .goto l) ∧ Q e a w) a w) : (Code.scope c).wpIn F n P Q a w := by
  intro b k cs hro hb hr
  have h0 : (lone (b.atR a (.code (.scope c) :: k)) cs w).fenced P F := fenced_calm hb hr rfl
  obtain ⟨e, a₁, w₁, hq, harr⟩ := h b (.inScope c :: k) cs hro hb hr
  cases e with
  | normal => exact ⟨.normal, a₁, w₁, hq.2, .head h0 stepR_scope (StepsIn.trans harr (.one (fenced_calm hb hr rfl) stepR_inScope))⟩
  | exit id' =>
    have hx : exitTo id' (.inScope c :: k) = exitTo id' k := by simp [exitTo]
    exact ⟨.exit id', a₁, w₁, hq.2, fun k' hk => .head h0 stepR_scope (harr.1 k' (by rw [hx]; exact hk)),
      fun hr' hk => let ⟨k₁, h1, h2⟩ := harr.2 hr' (by rw [hx]; exact hk); ⟨k₁, h1, .head h0 stepR_scope h2⟩⟩
  | goto l => exact (hq.1 l rfl).elim
  | ret => exact ⟨_, a₁, w₁, hq.2, .of_steps (.one h0 stepR_scope) harr⟩
  | panic ch => exact ⟨_, a₁, w₁, hq.2, .of_steps (.one h0 stepR_scope) harr⟩
  | outgrown => exact ⟨_, a₁, w₁, hq.2, .of_steps (.one h0 stepR_scope) harr⟩
theorem aw_scope {c : Code} {Q : Exit → Env → Hp → Prop} {env : Env} {H : Hp} (h : AW P r B p c (fun e env H => match e with | .goto _ => False | e => Q e env H) env H) : AW P r B p (.scope c) Q env H := by
  intro S0 w0 ι0 H0 a w hA
  refine wpIn_scope (wpIn_mono (h S0 w0 ι0 H0 a w hA) ?_)
  rintro e a w ⟨env', H', q, hA⟩
  cases e with
  | goto l => exact q.elim
  | _ => exact ⟨fun l e => (by cases e), env', H', q, hA⟩
theorem aw_label {l : Nat} {Q : Exit → Env → Hp → Prop} {env : Env} {H : Hp} (h : Q .normal env H) : AW P r B p (.label l) Q env H := fun S0 w0 ι0 H0 a w hA => wpIn_label ⟨env, H, h, hA⟩
theorem aw_skip {Q : Exit → Env → Hp → Prop} {env : Env} {H : Hp} (h : Q .normal env H) : AW P r B p .skip Q env H := fun S0 w0 ι0 H0 a w hA => wpIn_skip ⟨env, H, h, hA⟩
theorem aw_exit {id : Nat} {Q : Exit → Env → Hp → Prop} {env : Env} {H : Hp} (h : Q (.exit id) env H) : AW P r B p (.exit id) Q env H := fun S0 w0 ι0 H0 a w hA => wpIn_exit ⟨env, H, h, hA⟩
theorem aw_ret {Q : Exit → Env → Hp → Prop} {env : Env} {H : Hp} (h : Q .ret env H) : AW P r B p .ret Q env H := fun S0 w0 ι0 H0 a w hA => wpIn_ret ⟨env, H, h, hA⟩
/-- one state may be taken for another -/
def Sub (B : Imm → World → Prop) (p : Nat) (env : Env) (H : Hp) (env1 : Env) (H1 : Hp) : Prop :=
  ∀ (S0 : Imm) (w0 : World) (ι0 : Ix) (H0 : Hp) (a : Act) (w : World), At B p S0 w0 ι0 H0 env H a w → At B p S0 w0 ι0 H0 env1 H1 a w
theorem roundsIn_mono {F : Fence} {n : Nat} {c : Code} {Q : Exit → Act → World → Prop} : ∀ (m m' : Nat), m ≤ m' → ∀ (a : Act) (w : World), Code.roundsIn F n P c Q m a w → Code.roundsIn F n P c Q m' a w := by
  intro m
  induction m with
  | zero => intro m' _ a w h; exact h.elim
  | succ m ih =>
    intro m' hm a w h
    obtain ⟨k, rfl⟩ : ∃ k, m' = k + 1 := ⟨m' - 1, by omega⟩
    rw [roundsIn_succ] at h ⊢
    refine wpIn_mono h fun e a w he => ?_
    cases e with
    | normal => exact ih k (by omega) a w he
    | _ => exact he
/-- a loop -/
theorem aw_loop {X : Type} (st : X → Env × Hp) (μ : X → Nat) {c : Code} {Q : Exit → Env → Hp → Prop} {env : Env} {H : Hp} (x0 : X) (h0 : Sub B p env H (st x0).1 (st x0).2)
    (hb : ∀ x, AW P r B p c (fun e env H => match e with | .normal => ∃ x', μ x' < μ x ∧ Sub B p env H (st x').1 (st x').2 | e => Q e env H) (st x).1 (st x).2) : AW P r B p (.loop c) Q env H := by
  intro S0 w0 ι0 H0 a w hA
  have key : ∀ m x, μ x = m → ∀ a w, At B p S0 w0 ι0 H0 (st x).1 (st x).2 a w → Code.roundsIn (Fw r) 0 P c (fun e a' w' => ∃ env' H', Q e env' H' ∧ At B p S0 w0 ι0 H0 env' H' a' w') (m + 1) a w := by
    intro m
    induction m using Nat.strongRecOn with
    | _ m ih =>
      intro x hx a w hA
      rw [roundsIn_succ]
      refine wpIn_mono (hb x S0 w0 ι0 H0 a w hA) ?_
      rintro e a' w' ⟨env', H', q, hA'⟩
      cases e with
      | normal =>
        obtain ⟨x', hlt, hs⟩ := q
        exact roundsIn_mono (μ x' + 1) m (by omega) _ _ (ih (μ x') (by omega) x' rfl a' w' (hs _ _ _ _ _ _ hA'))
      | _ => exact ⟨env', H', q, hA'⟩
  exact wpIn_loop_rounds _ (key _ x0 rfl a w (h0 _ _ _ _ _ _ hA))
end
/-! the walk reckoned -/
def forceNL (l : List Nat) (K : List Nat → Prop) : Prop :=
  match l with
  | [] => K []
  | x :: xs => forceNL xs fun ys => K (x :: ys)
theorem forceNL_eq (l : List Nat) : ∀ K, forceNL l K = K l := by
  induction l with
  | nil => intro K; rfl
  | cons x xs ih => intro K; simp only [forceNL, ih]
def masksK : List Oper → List Nat → (List Nat → Prop) → Prop
  | [], acc, K => K acc
  | o :: r, acc, K => natK (maskE acc o.after.toList) fun m => forceNL (acc ++ [m]) fun acc => masksK r acc K
theorem masksK_eq (l : List Oper) : ∀ acc K, masksK l acc K = K (masks l acc) := by
  induction l with
  | nil => intro acc K; rfl
  | cons o r ih => intro acc K; simp only [masksK, masks, natK_eq, forceNL_eq, ih]
/-- here the walk stands before a loop -/
structure Lp (md : Nat) (rf : List Nat) (CP : CPT) (YP : YPT) (n : Nat) (q : Prop) : Prop where
  get : q
def codeN : Code → Nat
  | .region _ ops _ => idsN ops.toList
  | .seq a b => codeN a + codeN b
  | .cond _ a b => codeN a + codeN b
  | .block _ c => codeN c
  | .loop c => codeN c
  | .rangeFunc _ _ a b => codeN a + codeN b
  | .scope c => codeN c
  | _ => 0
def codeOK : Code → Bool
  | .region _ ops d => match d with | true => regOK ops | false => true
  | .seq a b => codeOK a && codeOK b
  | .cond _ a b => codeOK a && codeOK b
  | .block _ c => codeOK c
  | .loop c => codeOK c
  | .rangeFunc _ _ a b => codeOK a && codeOK b
  | .scope c => codeOK c
  | _ => true
/-- a branch -/
def condK (x : PV) (c : Operand) (env : Env) (A B : Env → Prop) : Prop :=
  match x with
  | .bool t => match t with
    | true => A env
    | false => B env
  | .bp t => (t = true → match c with | .tmp d => setK env d (.bool true) A | _ => A env) ∧
      (t = false → match c with | .tmp d => setK env d (.bool false) B | _ => B env)
  | _ => False
section
variable (P : Program) (r : Option Nat) (B : Imm → World → Prop) (p : Nat) (τ : TypeId → Option TE) (md : Nat) (rf : List Nat) (CP : CPT) (YP : YPT)
noncomputable def ev (c : Code) : Nat → Env → Hp → (Exit → Env → Hp → Nat → Prop) → Prop :=
  Code.rec (motive := fun _ => Nat → Env → Hp → (Exit → Env → Hp → Nat → Prop) → Prop)
    (fun n env H K => K .normal env H n)
    (fun id ops d n env H K => match d with
      | true => masksK ops.toList [] fun ms => regK τ md rf CP YP ops.toList ops.toList 0 n env H [] fun env H n log => ifK (dynAll ms log) (K .normal env H n)
      | false => regK τ md rf CP YP ops.toList ops.toList 0 n env H [] fun env H n log => K .normal env H n)
    (fun a b iha ihb n env H K => iha n env H fun e env H n => match e with | .normal => ihb n env H K | e => K e env H n)
    (fun c a b iha ihb n env H K => condK (eo env c) c env (fun env => iha n env H K) (fun env => ihb n env H K))
    (fun id c ih n env H K => ih n env H fun e env H n => match e with
      | .exit i => (match Nat.beq i id with | true => K .normal env H n | false => K (.exit i) env H n)
      | e => K e env H n)
    (fun c _ n env H K => natK (n + codeN c) fun n' => Lp md rf CP YP n (AW P r B p (.loop c) (fun e env H => K e env H n') env H))
    (fun g ps x y _ _ n env H K => natK (n + codeN x + codeN y + 4) fun n' => Lp md rf CP YP n (AW P r B p (.rangeFunc g ps x y) (fun e env H => K e env H n') env H))
    (fun id n env H K => K (.exit id) env H n)
    (fun _ ih n env H K => ih n env H fun e env H n => match e with | .goto _ => False | e => K e env H n)
    (fun _ n env H K => K .normal env H n)
    (fun _ _ _ _ _ => False)
    (fun n env H K => K .ret env H n)
    (fun _ _ _ _ _ => False) c
end
theorem ev_sound {P : Program} {r : Option Nat} {τ : TypeId → Option TE} {B : Imm → World → Prop} {p : Nat} (hB : BOK B) (hm : P.follows .mixedOrders = true) (hτ : TabOK P τ) {md rf CP YP} (hC : CPOKB P B CP) (hY : YPOK P r B YP) :
    ∀ (c : Code) (hok : codeOK c = true) (n : Nat) (env : Env) (H : Hp) (K : Exit → Env → Hp → Nat → Prop), ev P r B p τ md rf CP YP c n env H K → AW P r B p c (fun e env H => ∃ n, K e env H n) env H := by
  intro c
  induction c with
  | skip => intro _ n env H K h; exact aw_skip ⟨n, h⟩
  | exit id => intro _ n env H K h; exact aw_exit ⟨n, h⟩
  | ret => intro _ n env H K h; exact aw_ret ⟨n, h⟩
  | region id ops d =>
    intro hok n env H K h
    cases d with
    | true =>
      have h : masksK ops.toList [] fun ms => regK τ md rf CP YP ops.toList ops.toList 0 n env H [] fun env H n log => ifK (dynAll ms log) (K .normal env H n) := h
      rw [masksK_eq] at h
      exact aw_region_any hB hm hτ hC hY hok (K := fun env H n log => K .normal env H n) (fun env H n log h => ⟨n, h⟩) h
    | false => exact aw_region_text hB hτ hC hY (K := fun env H n log => K .normal env H n) (fun env H n log h => ⟨n, h⟩) h
  | seq a b iha ihb =>
    intro hok n env H K h
    simp only [codeOK, Bool.and_eq_true] at hok
    refine aw_seq ((iha hok.1 n env H _ h).mono ?_)
    rintro e env H ⟨n, h⟩
    cases e with
    | normal => exact ihb hok.2 n env H K h
    | _ => exact ⟨n, h⟩
  | cond c a b iha ihb =>
    intro hok n env H K h
    simp only [codeOK, Bool.and_eq_true] at hok
    have h : condK (eo env c) c env (fun env => ev P r B p τ md rf CP YP a n env H K) (fun env => ev P r B p τ md rf CP YP b n env H K) := h
    unfold condK at h
    split at h
    · rename_i t hc
      split at h
      · exact aw_cond (t := true) (.inl hc) (iha hok.1 n env H K h)
      · exact aw_cond (t := false) (.inl hc) (ihb hok.2 n env H K h)
    · rename_i t hc
      cases t with
      | true =>
        have h1 := h.1 rfl
        refine aw_cond (t := true) (.inr hc) ?_
        simp only [if_true]
        split at h1
        · rename_i d
          rw [setK_eq] at h1
          exact (iha hok.1 n _ H K h1).eqE (EqE.bool hc)
        · exact iha hok.1 n _ H K h1
      | false =>
        have h1 := h.2 rfl
        refine aw_cond (t := false) (.inr hc) ?_
        simp only [Bool.false_eq_true, if_false]
        split at h1
        · rename_i d
          rw [setK_eq] at h1
          exact (ihb hok.2 n _ H K h1).eqE (EqE.bool hc)
        · exact ihb hok.2 n _ H K h1
    · exact h.elim
  | block id c ih =>
    intro hok n env H K h
    refine aw_block ((ih hok n env H _ h).mono ?_)
    rintro e env H ⟨n, h⟩
    cases e with
    | exit i =>
      simp only at h ⊢
      cases hb : Nat.beq i id <;> rw [hb] at h <;> exact ⟨n, h⟩
    | _ => exact ⟨n, h⟩
  | loop c ih =>
    intro hok n env H K h
    have h : natK (n + codeN c) fun n' => Lp md rf CP YP n (AW P r B p (.loop c) (fun e env H => K e env H n') env H) := h
    rw [natK_eq] at h
    exact h.get.mono fun e env H h => ⟨_, h⟩
  | rangeFunc g ps x y _ _ =>
    intro hok n env H K h
    have h : natK (n + codeN x + codeN y + 4) fun n' => Lp md rf CP YP n (AW P r B p (.rangeFunc g ps x y) (fun e env H => K e env H n') env H) := h
    rw [natK_eq] at h
    exact h.get.mono fun e env H h => ⟨_, h⟩
  | scope c ih =>
    intro hok n env H K h
    refine aw_scope ((ih hok n env H _ h).mono ?_)
    rintro e env H ⟨n, h⟩
    cases e with
    | goto l => exact h.elim
    | _ => exact ⟨n, h⟩
  | label l => intro _ n env H K h; exact aw_label ⟨n, h⟩
  | _ => intro _ n env H K h; exact h.elim
end Go.Eng
namespace Go.Eng
open Go.RowKit
set_option linter.unusedVariables false
set_option linter.unusedSimpArgs false
/-- a value that holds no address of an object of the call's own -/
def pureE : PV → Option PV
  | .agg cs => match inlEs cs with | some ds => some (.agg ds) | none => none
  | .any => some .any
  | p => inlE p
def pureEs : List PV → Option (List PV)
  | [] => some []
  | x :: xs => match pureE x with
    | some y => match pureEs xs with
      | some ys => some (y :: ys)
      | none => none
    | none => none
theorem pureE_sound {p q : PV} (h : pureE p = some q) {S : Imm} {w : World} {ι : Ix} {v : Value} (hr : Rep S w ι p v) : Rep S w noI q v := by
  unfold pureE at h
  split at h
  · rename_i cs
    split at h
    · rename_i ds hds
      cases h
      obtain ⟨h1, h2⟩ := inlEs_sound hds
      cases hr with
      | agg _ _ vs hl hh => exact .agg _ _ _ (h1.trans hl) (fun i hi => h2 i (by omega) (hh i (by omega)))
    · cases h
  · cases h; exact .any _ _
  · exact inlE_sound h hr
theorem pureEs_sound : ∀ {ps qs : List PV}, pureEs ps = some qs → qs.length = ps.length ∧ ∀ i, i < ps.length → ∀ {S : Imm} {w : World} {ι : Ix} {v : Value}, Rep S w ι (getL ps i) v → Rep S w noI (getL qs i) v := by
  intro ps
  induction ps with
  | nil => intro qs h; simp [pureEs] at h; subst h; exact ⟨rfl, fun i hi => by simp at hi⟩
  | cons p ps ih =>
    intro qs h
    unfold pureEs at h
    split at h
    · rename_i y hy
      split at h
      · rename_i ys hys
        cases h
        obtain ⟨h1, h2⟩ := ih hys
        refine ⟨by simp [h1], fun i hi => ?_⟩
        cases i with
        | zero => intro S w ι v hr; exact pureE_sound hy hr
        | succ i => exact h2 i (by simpa using hi)
      · cases h
    · cases h
/-- slices of objects of the call's own are written no more -/
def frzK (v : PV) (H : Hp) (K : PV → Hp → Prop) : Prop :=
  match v with
  | .rsl k off n => getHK H k fun o => match o with
    | .cells c fz => typedK c fun d => eszK d fun ce => cntK d fun cn => match Nat.beq off 0 with
      | true => n ≤ cn ∧ (match fz with
        | true => K (.isl (d.sub 0 n) .none) H
        | false => putHK H k (.cells d true) fun H => K (.isl (d.sub 0 n) .none) H)
      | false => False
    | _ => False
  | v => match pureE v with
    | some v => forceK v fun v => K v H
    | none => False
def frzsK : List PV → Hp → (List PV → Hp → Prop) → Prop
  | [], H, K => K [] H
  | v :: vs, H, K => frzK v H fun u H => frzsK vs H fun us H => K (u :: us) H
def frzaK (v : PV) (H : Hp) (K : PV → Hp → Prop) : Prop :=
  match v with
  | .agg vs => frzsK vs H fun us H => K (.agg us) H
  | v => frzK v H K
def frzasK : List PV → Hp → (List PV → Hp → Prop) → Prop
  | [], H, K => K [] H
  | v :: vs, H, K => frzaK v H fun u H => frzasK vs H fun us H => K (u :: us) H
section
variable {P : Program} {τ : TypeId → Option TE} {B : Imm → World → Prop} {p : Nat}
def Frz (P : Program) (H H' : Hp) (R R' : Imm → World → Ix → Prop) : Prop :=
  ∀ {S : Imm} {w : World} {ι : Ix}, Mem S w ι H → R S w ι → ∃ S', Mem S' w ι H' ∧ Keeps S w S' w ∧ (∀ p, Tr p S w ι H S' w ι H') ∧ R' S' w ι
theorem frzK_sound {v : PV} {H : Hp} {K : PV → Hp → Prop} (h : frzK v H K) : ∃ u H', K u H' ∧ ∀ val, Frz P H H' (fun S w ι => Rep S w ι v val) (fun S w ι => Rep S w noI u val) := by
  unfold frzK at h
  split at h
  · rename_i k off n
    rw [getHK_iff] at h
    obtain ⟨ob, hob, h⟩ := h
    split at h
    · rename_i c fz
      have h' := typedK_sound h
      clear h
      obtain ⟨d, h, d1, d2, d3⟩ := h'
      simp only [eszK_eq, cntK_eq] at h
      split at h
      · rename_i hoff
        have hoff := Nat.eq_of_beq_eq_true hoff
        subst hoff
        obtain ⟨hn, h⟩ := h
        have fin : ∀ {S : Imm} {w : World} {ι : Ix} {c : CL} {val : Value}, n ≤ c.cnt → (∀ b, ι.o k = some b → ∀ j, j < c.ncell → S b j ∧ Rep S w noI (c.get j) (rdv w b j)) → Rep S w ι (.rsl k 0 n) val → Rep S w noI (.isl (c.sub 0 n) .none) val := by
          intro S w ι c val hn hs hr
          cases hr with
          | rsl _ _ _ _ b cap hk hc _ =>
            have := sub_rep (S := S) (w := w) (c := c) (b := b) (off := 0) (fun j hj => by rw [Nat.zero_add]; exact (hs b hk j hj).1) (fun j hj => by rw [Nat.zero_add]; exact (hs b hk j hj).2) (x := 0) (y := n) (by omega) hn (cap := cap) (by omega) noI
            simpa using this
          | rslz _ _ _ b o hk =>
            exact empty_rep _ (by rw [sub_cnt _ (by omega)]) (.inr ⟨b, o, rfl⟩) noI
        split at h
        · refine ⟨_, _, h, fun val S w ι M hr => ⟨S, M, .refl _ _, fun p => .refl _ _ _ _ _, ?_⟩⟩
          exact fin hn (fun b hb j hj => ⟨(M.frozen hob hb j (by omega)).1, d3 j (by omega) (M.frozen hob hb j (by omega)).2⟩) hr
        · rw [putHK_eq] at h
          refine ⟨_, _, h, fun val S w ι M hr => ?_⟩
          obtain ⟨S', M', K', T, F⟩ := M.freeze (c' := d) hob d2 (fun j hj => by intro S w ι v hr; exact d3 j hj hr)
          exact ⟨S', M', K', T, fin hn (fun b hb => F b hb) (hr.mono K' _ (.refl _))⟩
      · exact h.elim
    · exact h.elim
  · split at h
    · rename_i u hu
      rw [forceK_eq] at h
      exact ⟨u, H, h, fun val S w ι M hr => ⟨S, M, .refl _ _, fun p => .refl _ _ _ _ _, pureE_sound hu hr⟩⟩
    · exact h.elim
theorem frzsK_sound : ∀ (vs : List PV) {H : Hp} {K : List PV → Hp → Prop}, frzsK vs H K → ∃ us H', K us H' ∧ us.length = vs.length ∧
    ∀ (val : Nat → Value), Frz P H H' (fun S w ι => ∀ i, i < vs.length → Rep S w ι (getL vs i) (val i)) (fun S w ι => ∀ i, i < us.length → Rep S w noI (getL us i) (val i)) := by
  intro vs
  induction vs with
  | nil => intro H K h; exact ⟨_, _, h, rfl, fun val S w ι M hr => ⟨S, M, .refl _ _, fun p => .refl _ _ _ _ _, fun i hi => by simp at hi⟩⟩
  | cons v vs ih =>
    intro H K h
    obtain ⟨u, H1, h, h1⟩ := frzK_sound (P := P) h
    obtain ⟨us, H2, h, hl, h2⟩ := ih h
    refine ⟨_, _, h, by simp [hl], fun val S w ι M hr => ?_⟩
    obtain ⟨S1, M1, K1, T1, R1⟩ := h1 (val 0) M (hr 0 (by simp))
    obtain ⟨S2, M2, K2, T2, R2⟩ := h2 (fun i => val (i + 1)) M1 (fun i hi => by have := (hr (i + 1) (by simpa using hi)).mono K1 _ (.refl _); simpa [getL] using this)
    refine ⟨S2, M2, K1.trans K2, fun p => (T1 p).trans (T2 p), fun i hi => ?_⟩
    cases i with
    | zero => exact R1.mono K2 _ (.refl _)
    | succ i => simpa [getL] using R2 i (by simpa using hi)
theorem frzaK_sound {v : PV} {H : Hp} {K : PV → Hp → Prop} (h : frzaK v H K) : ∃ u H', K u H' ∧ ∀ val, Frz P H H' (fun S w ι => Rep S w ι v val) (fun S w ι => Rep S w noI u val) := by
  unfold frzaK at h
  split at h
  · rename_i vs
    obtain ⟨us, H', h, hl, hs⟩ := frzsK_sound (P := P) _ h
    refine ⟨_, _, h, fun val S w ι M hr => ?_⟩
    cases hr with
    | agg _ _ ws hw hh =>
      obtain ⟨S', M', K', T', R'⟩ := hs (fun i => ws.getD i undef) M hh
      exact ⟨S', M', K', T', .agg _ _ _ (hl.trans hw) R'⟩
  · exact frzK_sound h
theorem frzasK_sound : ∀ (vs : List PV) {H : Hp} {K : List PV → Hp → Prop}, frzasK vs H K → ∃ us H', K us H' ∧ us.length = vs.length ∧
    ∀ (val : Nat → Value), Frz P H H' (fun S w ι => ∀ i, i < vs.length → Rep S w ι (getL vs i) (val i)) (fun S w ι => ∀ i, i < us.length → Rep S w noI (getL us i) (val i)) := by
  intro vs
  induction vs with
  | nil => intro H K h; exact ⟨_, _, h, rfl, fun val S w ι M hr => ⟨S, M, .refl _ _, fun p => .refl _ _ _ _ _, fun i hi => by simp at hi⟩⟩
  | cons v vs ih =>
    intro H K h
    obtain ⟨u, H1, h, h1⟩ := frzaK_sound (P := P) h
    obtain ⟨us, H2, h, hl, h2⟩ := ih h
    refine ⟨_, _, h, by simp [hl], fun val S w ι M hr => ?_⟩
    obtain ⟨S1, M1, K1, T1, R1⟩ := h1 (val 0) M (hr 0 (by simp))
    obtain ⟨S2, M2, K2, T2, R2⟩ := h2 (fun i => val (i + 1)) M1 (fun i hi => by have := (hr (i + 1) (by simpa using hi)).mono K1 _ (.refl _); simpa [getL] using this)
    refine ⟨S2, M2, K1.trans K2, fun p => (T1 p).trans (T2 p), fun i hi => ?_⟩
    cases i with
    | zero => exact R1.mono K2 _ (.refl _)
    | succ i => simpa [getL] using R2 i (by simpa using hi)
end
/-! results -/
def resK (τ : TypeId → Option TE) : List ResultVar → Env → Hp → (List PV → Prop) → Prop
  | [], env, H, K => K []
  | r :: rs, env, H, K => match r with
    | .tmp t => forceK (getL env t) fun v => resK τ rs env H fun vs => K (v :: vs)
    | .cell a ty => teK τ ty fun te => match getL env a with
      | .rp k off => getHK H k fun o => match o with
        | .cells c _ => rdK te c off fun v => resK τ rs env H fun vs => K (v :: vs)
        | _ => False
      | .ip c off => rdK te c off fun v => resK τ rs env H fun vs => K (v :: vs)
      | _ => False
def resOf (vs : List PV) : PV := match vs with | [v] => v | vs => .tup vs
section
variable {P : Program} {τ : TypeId → Option TE}
theorem resK_sound (hτ : TabOK P τ) {env : Env} {H : Hp} : ∀ (rs : List ResultVar) {K : List PV → Prop}, resK τ rs env H K → ∃ vs, K vs ∧ ∀ {S : Imm} {w : World} {ι : Ix} {tmps : Array Value}, Mem S w ι H → RepA S w ι env tmps →
    ∃ vals : List Value, (rs.mapM fun (x : ResultVar) => (match x with | .tmp t => pure (tmps.getD t undef) | .cell a t => do loadVar t (← asAddr (tmps.getD a undef)) : Sem Value)).run P w = .ok vals w ∧ vals.length = vs.length ∧
      ∀ i, i < vs.length → Rep S w ι (getL vs i) (vals.getD i undef) := by
  intro rs
  induction rs with
  | nil => intro K h; exact ⟨_, h, fun M R => ⟨[], rfl, rfl, fun i hi => by simp at hi⟩⟩
  | cons x rs ih =>
    intro K h
    have cons : ∀ {v : PV} {K : List PV → Prop}, (resK τ rs env H fun vs => K (v :: vs)) →
        (∀ {S : Imm} {w : World} {ι : Ix} {tmps : Array Value}, Mem S w ι H → RepA S w ι env tmps → ∃ val, ((match x with | .tmp t => pure (tmps.getD t undef) | .cell a t => do loadVar t (← asAddr (tmps.getD a undef)) : Sem Value)).run P w = .ok val w ∧ Rep S w ι v val) →
        ∃ vs, K vs ∧ ∀ {S : Imm} {w : World} {ι : Ix} {tmps : Array Value}, Mem S w ι H → RepA S w ι env tmps →
          ∃ vals : List Value, ((x :: rs).mapM fun (x : ResultVar) => (match x with | .tmp t => pure (tmps.getD t undef) | .cell a t => do loadVar t (← asAddr (tmps.getD a undef)) : Sem Value)).run P w = .ok vals w ∧ vals.length = vs.length ∧
            ∀ i, i < vs.length → Rep S w ι (getL vs i) (vals.getD i undef) := by
      intro v K h hx
      obtain ⟨vs, hK, hs⟩ := ih h
      refine ⟨_, hK, fun M R => ?_⟩
      rename_i S w ι tmps
      obtain ⟨val, r1, r2⟩ := hx M R
      obtain ⟨vals, q1, q2, q3⟩ := hs M R
      refine ⟨val :: vals, ?_, by simp [q2], fun i hi => ?_⟩
      · rw [List.mapM_cons, Sem.run_bind, r1]
        simp only [Result.andThen, Sem.run_bind, q1, Sem.run_pure]
      · cases i with
        | zero => simpa [getL] using r2
        | succ i => simpa [getL] using q3 i (by simpa using hi)
    unfold resK at h
    split at h
    · rename_i t
      rw [forceK_eq] at h
      refine cons h fun M R => ⟨_, rfl, ?_⟩
      rename_i S w ι tmps
      exact eo_rep (a := { tmps := tmps, defers := [] }) R (.tmp t)
    · rename_i a ty
      rw [teK_iff] at h
      obtain ⟨te, ht, h⟩ := h
      split at h
      · rename_i k off hk
        rw [getHK_iff] at h
        obtain ⟨o, ho, h⟩ := h
        split at h
        · obtain ⟨v, h, hv⟩ := rdK_sound hτ ht h
          refine cons h fun M R => ?_
          rename_i S w ι tmps
          have h1 := eo_rep (a := { tmps := tmps, defers := [] }) R (.tmp a)
          simp only [eo, Act.eval, hk] at h1
          generalize he : tmps.getD a undef = x at h1
          cases h1 with
          | rp _ _ _ b hb =>
            obtain ⟨val, r1, r2⟩ := hv (M.lies ho hb)
            refine ⟨val, ?_, r2⟩
            rw [Nat.zero_add] at r1
            simp only [asAddr, he, Sem.run_bind, Sem.run_pure, Result.andThen]
            exact r1
        · exact h.elim
      · rename_i c off hk
        obtain ⟨v, h, hv⟩ := rdK_sound hτ ht h
        refine cons h fun M R => ?_
        rename_i S w ι tmps
        have h1 := eo_rep (a := { tmps := tmps, defers := [] }) R (.tmp a)
        simp only [eo, Act.eval, hk] at h1
        generalize he : tmps.getD a undef = x at h1
        cases h1 with
        | ip _ _ _ b o hs hh =>
          obtain ⟨val, r1, r2⟩ := hv (Lies.of_imm (ι := ι) M.imm hs hh)
          refine ⟨val, ?_, r2⟩
          simp only [asAddr, he, Sem.run_bind, Sem.run_pure, Result.andThen]
          exact r1
      · exact h.elim
end
end Go.Eng
namespace Go.Eng
open Go.RowKit
set_option linter.unusedVariables false
set_option linter.unusedSimpArgs false
variable {P : Program} {τ : TypeId → Option TE} {B : Imm → World → Prop} {p : Nat}
theorem run_takeDeferred {w : World} {b : Nat} (h : w.heap[b]? = some (.deferred (some []))) : (Instr.takeDeferred b).run P w = .ok [] { w with heap := w.heap.setIfInBounds b (.deferred none) } := by
  simp [Instr.takeDeferred, getObj, setObj, Sem.run_bind, Sem.run, h, Result.andThen, Sem.bind]
/-- a state at the end of a body, its marks taken -/
theorem At.leave {S0 : Imm} {w0 : World} {ι0 : Ix} {H0 H : Hp} {env : Env} {tmps : Array Value} {fn : Func} {R : Ending → World → Prop} (hB : BOK B) : ∀ (ds : List Deferred) (w : World),
    At B p S0 w0 ι0 H0 env H { tmps := tmps, defers := ds } w → (∀ w', At B p S0 w0 ι0 H0 env H { tmps := tmps, defers := [] } w' → LeavesIn (Fw none) 0 P fn tmps R [] .returning w') →
      LeavesInM (Fw none) 0 P fn tmps R ds .returning w := by
  intro ds
  induction ds with
  | nil => intro w hA h; exact h w hA
  | cons d ds ih =>
    intro w hA h
    obtain ⟨S, ι, hb, M, RA, D, D', T⟩ := hA.ex
    obtain ⟨b, h1, h2, h3⟩ := D.all d (by simp)
    have hge := D' d (by simp) b h1
    have hlt := lt_of_heap h2
    have hset := MapKept.heap_set (o' := .deferred none) h2
    let w' : World := { w with heap := w.heap.setIfInBounds b (.deferred none) }
    have hnS : ∀ j, ¬ S b j := fun j hs => by have := M.imm b j hs; rw [rd_plain h2 rfl] at this; simp at this
    have hk : Keeps S w S w' := by
      refine ⟨fun b' j hs => ⟨hs, ?_⟩, fun b' j hs => ?_⟩
      · by_cases e : b' = b
        · subst e; exact absurd hs (hnS j)
        · exact rd_congr (hset.2 b' e) j
      · by_cases e : b' = b
        · subst e; rw [rd_plain h2 rfl] at hs; simp at hs
        · rw [rd_congr (hset.2 b' e) j]; exact hs
    have hbel : Bel w w' := .block b rfl rfl rfl (by simp [w']) hset.2 (by rw [h2]; exact unf_plain rfl) (by rw [hset.1]; exact unf_plain rfl)
    have hne : ∀ k o b', Hget H k = some o → o.has ι k b' → b' ≠ b := by
      intro k o b' ho hb' e
      subst e
      exact h3 ⟨k, o, ho, has_excl hb', hb'⟩
    refine ⟨by simp, .inl ⟨b, w', h1, run_takeDeferred h2, ih w' ⟨S, ι, hB _ _ _ _ hk hbel hb, ?_, RA.mono hk (.refl _), ?_, fun d' hd' => D' d' (by simp [hd']), ?_⟩ h⟩⟩
    · exact ⟨fun k o ho => (M.obj k o ho).mono hk (.refl _) hbel (fun b' hb' => hset.2 b' (hne k o b' ho hb')) (fun _ => rfl) rfl (fun _ _ _ h => h), M.liveO, M.liveT, M.dist, fun b' j hs => by rw [(hk.imm b' j hs).2]; exact M.imm b' j hs⟩
    · refine ⟨fun d' hd' => ?_, (List.pairwise_cons.1 D.nodup).2⟩
      obtain ⟨b', g1, g2, g3⟩ := D.all d' (by simp [hd'])
      have := (List.pairwise_cons.1 D.nodup).1 d' hd' b b' h1 g1
      exact ⟨b', g1, (hset.2 b' (Ne.symm this)).trans g2, g3⟩
    · exact ⟨T.below.trans hbel, fun b' hb' ho => (hset.2 b' (by omega)).trans (T.same b' hb' ho), T.keeps.trans hk, T.immN, T.own, T.protO, T.protT⟩
/-- a contract: values that hold no address of an object of anybody's own -/
structure POut (S : Imm) (w : World) (v : PV) (val : Value) (S' : Imm) (w' : World) : Prop where
  imm : ∀ b j, S' b j → (rd w' b j).isSome
  keeps : Keeps S w S' w'
  rep : Rep S' w' noI v val
  below : Bel w w'
  same : ∀ b, b < w.heap.size → w'.heap[b]? = w.heap[b]?
  immN : ∀ b j, b < w.heap.size → S' b j → S b j
def Enters (P : Program) (g : FuncId) : Prop := ∀ vs w, (callFunc g vs).run P w = .ok (.enter g vs) w
/-- in the worlds of B -/
def PSpecB (P : Program) (B : Imm → World → Prop) (g : FuncId) (args : List PV) (v : PV) : Prop :=
  ∀ (S : Imm) (w : World) (vs : Array Value), B S w → (∀ b j, S b j → (rd w b j).isSome) → RepA S w noI args vs →
    CallsIn (Fw none) 0 P g vs w fun e w' => ∃ val S', e = .returned val ∧ POut S w v val S' w'
def PSpec (P : Program) (g : FuncId) (args : List PV) (v : PV) : Prop := Enters P g ∧ PSpecB P (fun _ _ => True) g args v
theorem enters {g : FuncId} {fn : Func} (hf : P.funcs[g]? = some fn) (hn : (fn.name == "runtime.NumGoroutine") = false) (hb : fn.body.isNone = false) : Enters P g := by
  intro vs w
  have h1 : ¬ fn.name = "runtime.NumGoroutine" := fun e => by rw [e] at hn; simp at hn
  have h2 : ¬ fn.body = none := fun e => by rw [e] at hb; simp at hb
  simp [callFunc, hf, h1, h2, Result.andThen]
theorem resOf_rep {S : Imm} {w : World} {us : List PV} {vals : List Value} (hlen : us.length = vals.length) (h : ∀ i, i < us.length → Rep S w noI (getL us i) (vals.getD i undef)) :
    Rep S w noI (resOf us) (if h : vals.toArray.size = 1 then vals.toArray[0] else .tuple vals.toArray) := by
  match us, vals, hlen, h with
  | [], [], _, _ => exact .tup _ _ _ rfl (fun i hi => by simp at hi)
  | [u], [x], _, h => simpa [resOf, getL] using h 0 (by simp)
  | u :: u' :: us, x :: x' :: xs, hlen, h =>
    have : ¬ (x :: x' :: xs).toArray.size = 1 := by simp
    rw [dif_neg this]
    refine .tup _ _ _ (by simpa using hlen) (fun i hi => ?_)
    have := h i hi
    rw [Array.getD_eq_getD_getElem?]
    simpa using this
theorem anys_rep {S : Imm} {w : World} {ι : Ix} {args : List PV} {vs : Array Value} (h : RepA S w ι args vs) (n : Nat) : RepA S w ι (args ++ anys n) (vs ++ Array.replicate n undef) := by
  refine repA_append h ⟨by simp [anys_len], fun i hi => ?_⟩
  rw [anys_get]; exact .any _ _
/-- one value may be taken for another -/
structure Sup (p q : PV) : Prop where
  get : ∀ {S : Imm} {w : World} {ι : Ix} {v : Value}, Rep S w ι p v → Rep S w ι q v
theorem Sup.of {p q : PV} (h : p = q) : Sup p q := ⟨fun hr => h ▸ hr⟩
/-- the last word of a walk -/
structure Fin (q : Prop) : Prop where
  get : q
def isRet : Exit → Prop
  | .normal => True
  | .ret => True
  | _ => False
/-- what is to be reckoned at the end of a body -/
def retK (τ : TypeId → Option TE) (fn : Func) (v : PV) (e : Exit) (env : Env) (H : Hp) : Prop :=
  match e with
  | .normal => resK τ fn.results.toList env H fun vs => frzasK vs H fun us _ => Fin (Sup (resOf us) v)
  | .ret => resK τ fn.results.toList env H fun vs => frzasK vs H fun us _ => Fin (Sup (resOf us) v)
  | _ => False
theorem pspec_of_aw (hB : BOK B) (hτ : TabOK P τ) {g : FuncId} {fn : Func} {c : Code} {args : List PV} {v : PV} (hf : P.funcs[g]? = some fn) (hb : fn.body = some c)
    (h : AW P none B 0 c (retK τ fn v) (args ++ anys (fn.ntmps - args.length)) []) : PSpecB P B g args v := by
  intro S w vs hBw himm hr
  have M : Mem S w noI [] := ⟨fun k o h => by simp [Hget] at h, fun k b h => by simp [noI] at h, fun k x h => by simp [noI] at h, fun k k' o o' b h => by simp [Hget] at h, himm⟩
  have hA : At B 0 S w noI [] (args ++ anys (fn.ntmps - args.length)) [] { tmps := vs ++ Array.replicate (fn.ntmps - vs.size) undef, defers := [] } w :=
    ⟨S, noI, hBw, M, by rw [hr.1]; exact anys_rep hr _, .nil _ _ _, fun d hd => by simp at hd, .refl _ _ _ _ _⟩
  refine callsIn_of_wp_marks hf hb trivial (wpIn_mono (h S w noI [] _ w hA) ?_)
  rintro e ⟨tmps, ds⟩ w1 ⟨env', H', q, hA1⟩
  have fin : (resK τ fn.results.toList env' H' fun vs => frzasK vs H' fun us _ => Fin (Sup (resOf us) v)) → LeavesInM (Fw none) 0 P fn tmps (fun e w' => ∃ val S', e = .returned val ∧ POut S w v val S' w') ds .returning w1 := by
    intro q
    refine At.leave hB ds w1 hA1 fun w2 hA2 => ?_
    obtain ⟨S2, ι2, hb2, M2, R2, _, _, T2⟩ := hA2.ex
    obtain ⟨vs1, q, hs⟩ := resK_sound (P := P) hτ _ q
    obtain ⟨us, H3, q, hl, hz⟩ := frzasK_sound (P := P) _ q
    obtain ⟨vals, r1, r2, r3⟩ := hs M2 R2
    obtain ⟨S3, M3, K3, T3, R3⟩ := hz (fun i => vals.getD i undef) M2 r3
    have hT := T2.trans (T3 0)
    have hno : ∀ b, ¬ owned noI [] b := by rintro b ⟨k, o, h1, _⟩; simp [Hget] at h1
    have hrun : (results fn tmps).run P w2 = .ok (if h : vals.toArray.size = 1 then vals.toArray[0] else .tuple vals.toArray) w2 := by
      unfold results
      rw [Sem.run_bind, Array.mapM_eq_mapM_toList, ← bind_pure_comp, Sem.run_bind]
      have : (List.mapM (fun (x : ResultVar) => (match x with | .tmp t => pure (tmps.getD t undef) | .cell a t => do loadVar t (← asAddr (tmps.getD a undef)) : Sem Value)) fn.results.toList).run P w2 = .ok vals w2 := r1
      erw [this]
      simp only [Result.andThen, Function.comp, Sem.run_pure]
    refine ⟨_, hrun, _, S3, rfl, M3.imm, hT.keeps, ?_, hT.below, fun b hb => hT.same b hb (hno b), fun b j hb hs => (hT.immN b j hb hs).resolve_right (hno b)⟩
    exact q.get.get (resOf_rep (by omega) R3)
  cases e with
  | normal => exact fin q
  | ret => exact fin q
  | _ => exact q.elim
/-! a contract within the walk -/
/-- the arguments without addresses -/
def tok0 : PV → PV
  | .isl c _ => .isl c .none
  | .bool b => .bp b
  | .nils => .isl (.ints .i64 []) .none
  | p => p
def tok0s : List PV → List PV
  | [] => []
  | x :: xs => tok0 x :: tok0s xs
def tok1 : PV → PV
  | .agg cs => .agg (tok0s cs)
  | p => tok0 p
def tok1s : List PV → List PV
  | [] => []
  | x :: xs => tok1 x :: tok1s xs
theorem tok0_rep {S : Imm} {w : World} {ι : Ix} {p : PV} {v : Value} (h : Rep S w ι p v) : Rep S w ι (tok0 p) v := by
  unfold tok0; split
  · exact h.drop
  · cases h; exact .bp _ _
  · cases h; exact .islnil _ _ _ rfl
  · exact h
theorem tok0s_rep : ∀ (ps : List PV), (tok0s ps).length = ps.length ∧ ∀ i {S : Imm} {w : World} {ι : Ix} {v : Value}, Rep S w ι (getL ps i) v → Rep S w ι (getL (tok0s ps) i) v := by
  intro ps
  induction ps with
  | nil => exact ⟨rfl, fun i _ _ _ _ h => h⟩
  | cons p ps ih => exact ⟨by simp [tok0s, ih.1], fun i _ _ _ _ h => by cases i with | zero => exact tok0_rep h | succ i => exact ih.2 i h⟩
theorem tok1_rep {S : Imm} {w : World} {ι : Ix} {p : PV} {v : Value} (h : Rep S w ι p v) : Rep S w ι (tok1 p) v := by
  unfold tok1; split
  · cases h with | agg _ _ vs hl hh => exact .agg _ _ _ ((tok0s_rep _).1.trans hl) (fun i hi => (tok0s_rep _).2 i (hh i (by rw [(tok0s_rep _).1] at hi; exact hi)))
  · exact tok0_rep h
theorem tok1s_rep : ∀ (ps : List PV), (tok1s ps).length = ps.length ∧ ∀ i {S : Imm} {w : World} {ι : Ix} {v : Value}, Rep S w ι (getL ps i) v → Rep S w ι (getL (tok1s ps) i) v := by
  intro ps
  induction ps with
  | nil => exact ⟨rfl, fun i _ _ _ _ h => h⟩
  | cons p ps ih => exact ⟨by simp [tok1s, ih.1], fun i _ _ _ _ h => by cases i with | zero => exact tok1_rep h | succ i => exact ih.2 i h⟩
def pureK (args : List PV) (K : List PV → Prop) : Prop := match pureEs args with | some xs => forceL (tok1s xs) K | none => False
theorem callSound_of_pspec {g : FuncId} {args as : List PV} {H : Hp} {v : PV} (ha : pureEs args = some as) (h : PSpec P g (tok1s as) v) : CallSound P g args H v [] [] [] := by
  obtain ⟨hent, h⟩ := h
  refine ⟨hent, fun S w ι H' vs _ M hr _ _ => ?_⟩
  obtain ⟨h1, h2⟩ := pureEs_sound ha
  refine (h S w vs trivial M.imm ⟨(tok1s_rep as).1.trans (h1.trans hr.1), fun i hi => (tok1s_rep as).2 i (h2 i (by rw [(tok1s_rep as).1] at hi; omega) (hr.2 i (by rw [(tok1s_rep as).1] at hi; omega)))⟩).mono ?_
  rintro e w' ⟨val, S', rfl, o⟩
  have hno : ∀ k ob b, Hget H' k = some ob → ob.has ι k b → b < w.heap.size := fun k ob b ho hb => (M.obj k ob ho).lt hb
  refine ⟨val, S', ι, rfl, ⟨fun k ob ho => (M.obj k ob ho).mono o.keeps (.refl _) o.below (fun b hb => o.same b (hno k ob b ho hb)) (fun _ => rfl) rfl (fun b j hb hs => o.immN b j (hno k ob b ho hb) hs), M.liveO, M.liveT, M.dist, o.imm⟩,
    .refl _, o.keeps, o.rep.up ι, fun p => ⟨o.below, fun b hb _ => o.same b hb, o.keeps, fun b j hb hs => .inl (o.immN b j hb hs), fun b h => .inl h, fun _ _ _ h => h, fun _ _ b n h => ⟨b, n, h, .inl ⟨rfl, Nat.le_refl _⟩⟩⟩⟩
end Go.Eng
namespace Go.Eng
/-! a table of types -/
inductive TT where
  | leaf (k : Nat) (te : TE)
  | node (m : Nat) (l r : TT)
def TT.get : TT → Nat → Option TE
  | .leaf k te, t => match Nat.beq t k with | true => some te | false => none
  | .node m l r, t => match Nat.blt t m with | true => l.get t | false => r.get t
def TT.All (f : Nat → TE → Prop) : TT → Prop
  | .leaf k te => f k te
  | .node _ l r => l.All f ∧ r.All f
theorem TT.get_all {f : Nat → TE → Prop} : ∀ (T : TT), T.All f → ∀ t te, T.get t = some te → f t te := by
  intro T
  induction T with
  | leaf k te' =>
    intro h t te hg
    simp only [TT.get] at hg
    cases hb : Nat.beq t k with
    | true => rw [hb] at hg; cases hg; rw [Nat.eq_of_beq_eq_true hb]; exact h
    | false => rw [hb] at hg; cases hg
  | node m l r ihl ihr =>
    intro h t te hg
    simp only [TT.get] at hg
    cases hb : Nat.blt t m with
    | true => rw [hb] at hg; exact ihl h.1 t te hg
    | false => rw [hb] at hg; exact ihr h.2 t te hg
def teOf (t u : TypeInfo) : TE := ⟨u.desc, t.zero.getD undef, t.size, t.bytes, none⟩
def teOfC (t u : TypeInfo) (ks : List CK) : TE := ⟨u.desc, t.zero.getD undef, t.size, t.bytes, some ks⟩
def LeafOK (P : Program) (k : Nat) (te : TE) : Prop :=
  P.underlying k = some te.und ∧ (∃ i, P.info? k = some i ∧ i.zero = some te.zero ∧ i.size = te.size ∧ i.bytes = te.bytes) ∧ te.zero.cells.size = te.size ∧ ∀ ks, te.cmp = some ks → CmpOK P k ks
theorem info_of_run {P : Program} {t : TypeId} {i : TypeInfo} (h : ∀ w, (typeInfo t).run P w = .ok i w) : P.info? t = some i := by
  cases hi : P.info? t with
  | none => have := h default; simp [typeInfo, hi] at this
  | some j => have := h default; simp [typeInfo, hi] at this; rw [this]
theorem leafOK {P : Program} {k : Nat} {t u : TypeInfo} {d : TypeDesc} {z : Value} (h1 : P.underlying k = some d) (h2 : ∀ w, (typeInfo k).run P w = .ok t w) (h3 : u.desc = d) (h4 : t.zero = some z) (h5 : z.cells.size = t.size) : LeafOK P k (teOf t u) :=
  ⟨by rw [h1, ← h3]; rfl, ⟨t, info_of_run h2, by simp [teOf, h4], rfl, rfl⟩, by simp [teOf, h4, h5], fun ks h => by cases h⟩
theorem EqT.mono {P : Program} {t : TypeId} {ks : List CK} {n m : Nat} (h : EqT P t ks n) (hm : n ≤ m) : EqT P t ks m := fun w d xs ys off hd => h w d xs ys off (by omega)
theorem EqFs.nil {P : Program} {n off : Nat} : EqFs P n [] off [] := rfl
theorem EqFs.cons {P : Program} {n off : Nat} {f : Field} {fs : List Field} {kf rest : List CK} (h1 : f.name ≠ "_") (h2 : f.offset = off) (h3 : EqT P f.type kf n) (h4 : EqFs P n fs (off + kf.length) rest) : EqFs P n (f :: fs) off (kf ++ rest) :=
  ⟨h1, h2, kf, rest, rfl, h3, h4⟩
theorem cells_of {P : Program} {t : TypeId} {i : TypeInfo} (h : ∀ w, (typeInfo t).run P w = .ok i w) : P.cellsOf t = i.size := by simp [Program.cellsOf, info_of_run h]
theorem leafOKC {P : Program} {k : Nat} {t u : TypeInfo} {d : TypeDesc} {z : Value} {ks : List CK} (hc : CmpOK P k ks) (h1 : P.underlying k = some d) (h2 : ∀ w, (typeInfo k).run P w = .ok t w) (h3 : u.desc = d) (h4 : t.zero = some z) (h5 : z.cells.size = t.size) : LeafOK P k (teOfC t u ks) :=
  ⟨by rw [h1, ← h3]; rfl, ⟨t, info_of_run h2, by simp [teOfC, h4], rfl, rfl⟩, by simp [teOfC, h4, h5], fun ks' h => by cases h; exact hc⟩
theorem tabOK_of {P : Program} {T : TT} (h : T.All (LeafOK P)) : TabOK P T.get :=
  ⟨fun t te ht => (TT.get_all T h t te ht).1, fun t te ht => (TT.get_all T h t te ht).2.1, fun t te ht => (TT.get_all T h t te ht).2.2.1, fun t te ks ht => (TT.get_all T h t te ht).2.2.2 ks⟩
end Go.Eng
namespace Go.Eng
theorem pspec_up {P : Program} {g : FuncId} {xs ys : List PV} {v : PV} (h : PSpec P g ys v) (hr : ∀ S w ι vs, RepA S w ι xs vs → RepA S w ι ys vs) : PSpec P g xs v :=
  ⟨h.1, fun S w vs hb himm hA => h.2 S w vs hb himm (hr _ _ _ _ hA)⟩
theorem pspec_sup {P : Program} {g : FuncId} {xs : List PV} {u v : PV} (h : PSpec P g xs u) (hs : Sup u v) : PSpec P g xs v :=
  ⟨h.1, fun S w vs hb himm hA => (h.2 S w vs hb himm hA).mono fun _ _ ⟨val, S', h1, h2⟩ => ⟨val, S', h1, ⟨h2.imm, h2.keeps, hs.get h2.rep, h2.below, h2.same, h2.immN⟩⟩⟩
end Go.Eng
namespace Go.Eng
def noC : CPT := fun _ _ _ _ _ => False
def noY : YPT := fun _ _ _ _ _ _ _ => False
theorem noC_ok {P : Program} : CPOK P noC := fun _ _ _ _ _ h => h.elim
theorem noY_ok {P : Program} {r : Option Nat} {B : Imm → World → Prop} : YPOK P r B noY := fun _ _ _ _ _ _ _ h => h.elim
theorem anyB_ok : BOK anyB := fun _ _ _ _ _ _ _ => trivial
/-- a function walked from its head to its results -/
def bodyK (P : Program) (B : Imm → World → Prop) (τ : TypeId → Option TE) (md : Nat) (rf : List Nat) (CP : CPT) (YP : YPT) (fn : Func) (args : List PV) (v : PV) : Prop :=
  ev P none B 0 τ md rf CP YP (fn.body.getD .skip) 0 (args ++ anys (fn.ntmps - args.length)) [] fun e env H _ => retK τ fn v e env H
theorem pspecB_of {P : Program} {τ : TypeId → Option TE} {B : Imm → World → Prop} (hB : BOK B) (hm : P.follows .mixedOrders = true) (hτ : TabOK P τ) {md rf CP YP} (hC : CPOKB P B CP) (hY : YPOK P none B YP) {g : FuncId} {fn : Func} {args : List PV} {v : PV}
    (hf : P.funcs[g]? = some fn) (hb : fn.body.isSome = true) (hok : codeOK (fn.body.getD .skip) = true) (h : bodyK P B τ md rf CP YP fn args v) : PSpecB P B g args v := by
  obtain ⟨c, hc⟩ := Option.isSome_iff_exists.1 hb
  unfold bodyK at h
  rw [hc] at h hok
  exact pspec_of_aw hB hτ hf hc ((ev_sound hB hm hτ hC hY c hok _ _ _ _ h).mono fun e env H ⟨n, h⟩ => h)
theorem pspec_of {P : Program} {τ : TypeId → Option TE} (hm : P.follows .mixedOrders = true) (hτ : TabOK P τ) {md rf CP} (hC : CPOK P CP) {g : FuncId} {fn : Func} {args : List PV} {v : PV}
    (hf : P.funcs[g]? = some fn) (hn : (fn.name == "runtime.NumGoroutine") = false) (hb : fn.body.isSome = true) (hok : codeOK (fn.body.getD .skip) = true) (h : bodyK P anyB τ md rf CP noY fn args v) : PSpec P g args v :=
  ⟨enters hf hn (by cases h : fn.body <;> simp_all), pspecB_of anyB_ok hm hτ hC noY_ok hf hb hok h⟩
end Go.Eng
namespace Go.Eng
open Go.RowKit
set_option linter.unusedVariables false
set_option linter.unusedSimpArgs false
abbrev Sg := List (Nat × Nat)
/-- the new name of an object -/
def sgF : Sg → Nat → Option Nat
  | [], _ => none
  | (a, b) :: r, k => match Nat.beq a k with | true => some b | false => sgF r k
/-- the old name -/
def sgB : Sg → Nat → Option Nat
  | [], _ => none
  | (a, b) :: r, k => match Nat.beq b k with | true => some a | false => sgB r k
/-- a value under new names -/
def renF (σ : Sg) : PV → Option PV
  | .rsl k o n => match sgF σ k with | some k' => some (.rsl k' o n) | none => none
  | .rp k o => match sgF σ k with | some k' => some (.rp k' o) | none => none
  | .rpe k m i j => match sgF σ k with | some k' => some (.rpe k' m i j) | none => none
  | .rm k => match sgF σ k with | some k' => some (.rm k') | none => none
  | .isl c t => match t with
    | .own k => match sgF σ k with | some k' => some (.isl c (.own k')) | none => none
    | .none => some (.isl c .none)
    | .full => some (.isl c .full)
  | .any => some .any
  | p => inlE p
def renFs (σ : Sg) : List PV → Option (List PV)
  | [] => some []
  | x :: xs => match renF σ x with
    | some y => match renFs σ xs with
      | some ys => some (y :: ys)
      | none => none
    | none => none
def renP (σ : Sg) : PV → Option PV
  | .agg cs => match renFs σ cs with | some ds => some (.agg ds) | none => none
  | .tup cs => match renFs σ cs with | some ds => some (.tup ds) | none => none
  | .fn f us vs => match renFs σ us with
    | some us => match renFs σ vs with
      | some vs => some (.fn f us vs)
      | none => none
    | none => none
  | p => renF σ p
/-- two names of what is meant to be the same -/
structure VC (q : Prop) : Prop where
  get : q
def eqT (t u : Tok) : Prop := match u with
  | .none => True
  | .full => match t with | .full => True | _ => False
  | .own k => match t with | .own k' => ifK (Nat.beq k k') True | _ => False
def eqPV (p q : PV) (K : Prop) : Prop :=
  match q with
  | .any => K
  | .int k a => match p with
    | .int k' b => ifK (decide (k' = k)) (VC (b = a) ∧ K)
    | _ => False
  | .bp a => match p with
    | .bp b => VC (b = a) ∧ K
    | .bool b => VC (b = a) ∧ K
    | _ => False
  | .str a => match p with
    | .str b => VC (b = a) ∧ K
    | _ => False
  | .isl c t => match p with
    | .isl d u => VC (d = c) ∧ eqT u t ∧ K
    | .nils => VC (c.cnt = 0) ∧ K
    | _ => False
  | .rsl k o n => match p with
    | .rsl k' o' n' => ifK (Nat.beq k k') (VC (o' = o ∧ n' = n) ∧ K)
    | _ => False
  | q => VC (p = q) ∧ K
def eqPVs : List PV → List PV → Prop → Prop
  | [], [], K => K
  | p :: ps, q :: qs, K => eqPV p q (eqPVs ps qs K)
  | _, _, _ => False
def matP (σ : Sg) (p q : PV) (K : Prop) : Prop :=
  match q with
  | .any => K
  | .agg ds => match renP σ p with
    | some (.agg cs) => eqPVs cs ds K
    | _ => False
  | .isl c t => match t with
    | .none => match p with
      | .isl d _ => VC (d = c) ∧ K
      | .nils => VC (c.cnt = 0) ∧ K
      | _ => False
    | t => match renP σ p with
      | some p' => eqPV p' (.isl c t) K
      | none => False
  | q => match renP σ p with
    | some p' => eqPV p' q K
    | none => False
def matPs (σ : Sg) : List PV → List PV → Prop → Prop
  | [], [], K => K
  | p :: ps, q :: qs, K => matP σ p q (matPs σ ps qs K)
  | _, _, _ => False
theorem sgF_sgB {σ : Sg} {k k' : Nat} (h : sgF σ k = some k') (hinj : ∀ x ∈ σ, sgB σ x.2 = some x.1) : sgB σ k' = some k := by
  have : (k, k') ∈ σ := by
    clear hinj
    induction σ with
    | nil => cases h
    | cons x r ih =>
      obtain ⟨a, b⟩ := x
      simp only [sgF] at h
      cases hb : Nat.beq a k with
      | true => rw [hb] at h; cases h; rw [Nat.eq_of_beq_eq_true hb]; simp
      | false => rw [hb] at h; exact List.mem_cons_of_mem _ (ih h)
  exact hinj _ this
/-- the blocks under the new names -/
def Ix.ren (ι : Ix) (σ : Sg) : Ix := ⟨fun k => (sgB σ k).bind ι.o, fun k => (sgB σ k).bind ι.t, fun k b => ∃ k0, sgB σ k = some k0 ∧ ι.x k0 b⟩
/-- blocks go along with new names -/
structure RenTo (σ : Sg) (ι ι1 : Ix) : Prop where
  o : ∀ k k' b, sgF σ k = some k' → ι.o k = some b → ι1.o k' = some b
  t : ∀ k k' x, sgF σ k = some k' → ι.t k = some x → ι1.t k' = some x
theorem renTo_ren {σ : Sg} (hinj : ∀ x ∈ σ, sgB σ x.2 = some x.1) (ι : Ix) : RenTo σ ι (ι.ren σ) :=
  ⟨fun k k' b h hb => by simp [Ix.ren, sgF_sgB h hinj, hb], fun k k' b h hb => by simp [Ix.ren, sgF_sgB h hinj, hb]⟩
section
variable {S : Imm} {w : World} {ι ι1 : Ix} {σ : Sg} (hinj : RenTo σ ι ι1)
include hinj
theorem renF_to {p q : PV} (h : renF σ p = some q) {v : Value} (hr : Rep S w ι p v) : Rep S w ι1 q v := by
  have key : ∀ {k k' b : Nat}, sgF σ k = some k' → ι.o k = some b → ι1.o k' = some b := fun h hb => hinj.o _ _ _ h hb
  have keyt : ∀ {k k' : Nat} {x}, sgF σ k = some k' → ι.t k = some x → ι1.t k' = some x := fun h hb => hinj.t _ _ _ h hb
  unfold renF at h
  split at h
  · split at h
    · rename_i hs; cases h
      cases hr with
      | rsl _ _ _ _ b cap hk hc hr => exact .rsl _ _ _ _ _ _ (key hs hk) hc hr
      | rslz _ _ _ b o hk => exact .rslz _ _ _ _ _ (key hs hk)
    · cases h
  · split at h
    · rename_i hs; cases h
      cases hr with | rp _ _ _ b hk => exact .rp _ _ _ _ (key hs hk)
    · cases h
  · split at h
    · rename_i hs; cases h
      cases hr with | rpe _ _ _ _ _ b hk => exact .rpe _ _ _ _ _ _ (key hs hk)
    · cases h
  · split at h
    · rename_i hs; cases h
      cases hr with | rm _ _ b hk => exact .rm _ _ _ (key hs hk)
    · cases h
  · rename_i c t
    split at h
    · rename_i k
      split at h
      · rename_i hs; cases h
        cases hr with
        | islnil _ _ _ hc => exact .islnil _ _ _ hc
        | isl _ _ _ b off cap hc hs' hh hf ho =>
          refine .isl _ _ _ _ _ _ hc hs' hh (fun e => by cases e) (fun k1 e => ?_)
          cases e
          rcases ho k rfl with h0 | ⟨b1, n, g1, g2⟩
          · exact .inl h0
          · exact .inr ⟨b1, n, keyt hs g1, g2⟩
      · cases h
    · cases h; exact (hr.toNoI).up _
    · cases h; exact (inlE_sound (p := .isl c .full) rfl hr).up _
  · cases h; exact .any _ _
  · exact (inlE_sound h hr).up _
theorem renFs_to : ∀ {ps qs : List PV}, renFs σ ps = some qs → qs.length = ps.length ∧ ∀ i, i < ps.length → ∀ {v : Value}, Rep S w ι (getL ps i) v → Rep S w ι1 (getL qs i) v := by
  intro ps
  induction ps with
  | nil => intro qs h; simp [renFs] at h; subst h; exact ⟨rfl, fun i hi => by simp at hi⟩
  | cons p ps ih =>
    intro qs h
    unfold renFs at h
    split at h
    · rename_i y hy
      split at h
      · rename_i ys hys
        cases h
        obtain ⟨h1, h2⟩ := ih hys
        refine ⟨by simp [h1], fun i hi => ?_⟩
        cases i with
        | zero => intro v hr; exact renF_to hinj hy hr
        | succ i => exact h2 i (by simpa using hi)
      · cases h
    · cases h
theorem renP_to {p q : PV} (h : renP σ p = some q) {v : Value} (hr : Rep S w ι p v) : Rep S w ι1 q v := by
  unfold renP at h
  split at h
  · split at h
    · rename_i ds hds
      cases h
      obtain ⟨h1, h2⟩ := renFs_to hinj hds (S := S) (w := w)
      cases hr with | agg _ _ vs hl hh => exact .agg _ _ _ (h1.trans hl) (fun i hi => h2 i (by omega) (hh i (by omega)))
    · cases h
  · split at h
    · rename_i ds hds
      cases h
      obtain ⟨h1, h2⟩ := renFs_to hinj hds (S := S) (w := w)
      cases hr with | tup _ _ vs hl hh => exact .tup _ _ _ (h1.trans hl) (fun i hi => h2 i (by omega) (hh i (by omega)))
    · cases h
  · split at h
    · rename_i us hus
      split at h
      · rename_i vs hvs
        cases h
        obtain ⟨h1, h2⟩ := renFs_to hinj hus (S := S) (w := w)
        obtain ⟨g1, g2⟩ := renFs_to hinj hvs (S := S) (w := w)
        cases hr with | fn _ _ _ _ us' vs' hk hl hu hv => exact .fn _ _ _ _ _ _ (h1.trans hk) (g1.trans hl) (fun i hi => h2 i (by omega) (hu i (by omega))) (fun i hi => g2 i (by omega) (hv i (by omega)))
      · cases h
    · cases h
  · exact renF_to hinj h hr
end
theorem renP_sound {σ : Sg} (hinj : ∀ x ∈ σ, sgB σ x.2 = some x.1) {S : Imm} {w : World} {ι : Ix} {p q : PV} (h : renP σ p = some q) {v : Value} (hr : Rep S w ι p v) : Rep S w (ι.ren σ) q v := renP_to (renTo_ren hinj ι) h hr
theorem eqPV_sound {p q : PV} {K : Prop} (h : eqPV p q K) : K ∧ ∀ {S : Imm} {w : World} {ι : Ix} {v : Value}, Rep S w ι p v → Rep S w ι q v := by
  unfold eqPV at h
  split at h
  · exact ⟨h, fun _ => .any _ _⟩
  · split at h
    · rw [ifK_iff] at h
      obtain ⟨h1, ⟨h2⟩, h3⟩ := h
      have h1 := of_decide_eq_true h1; subst h1; subst h2
      exact ⟨h3, fun hr => hr⟩
    · exact h.elim
  · split at h
    · obtain ⟨⟨h1⟩, h2⟩ := h; subst h1; exact ⟨h2, fun hr => hr⟩
    · obtain ⟨⟨h1⟩, h2⟩ := h; subst h1; exact ⟨h2, fun hr => by cases hr; constructor⟩
    · exact h.elim
  · split at h
    · obtain ⟨⟨h1⟩, h2⟩ := h; subst h1; exact ⟨h2, fun hr => hr⟩
    · exact h.elim
  · rename_i c t
    split at h
    · rename_i d u
      obtain ⟨⟨h1⟩, h2, h3⟩ := h
      subst h1
      refine ⟨h3, fun hr => ?_⟩
      unfold eqT at h2
      split at h2
      · exact hr.drop
      · split at h2
        · exact hr
        · exact h2.elim
      · split at h2
        · rw [ifK_iff] at h2; have := Nat.eq_of_beq_eq_true h2.1; subst this; exact hr
        · exact h2.elim
    · obtain ⟨⟨h1⟩, h2⟩ := h
      exact ⟨h2, fun hr => by cases hr; exact .islnil _ _ _ h1⟩
    · exact h.elim
  · split at h
    · rw [ifK_iff] at h
      obtain ⟨h1, ⟨h2, h3⟩, h4⟩ := h
      have h1 := Nat.eq_of_beq_eq_true h1
      subst h1; subst h2; subst h3
      exact ⟨h4, fun hr => hr⟩
    · exact h.elim
  · obtain ⟨⟨h1⟩, h2⟩ := h; subst h1; exact ⟨h2, fun hr => hr⟩
theorem eqPVs_sound : ∀ {ps qs : List PV} {K : Prop}, eqPVs ps qs K → K ∧ ps.length = qs.length ∧ ∀ i {S : Imm} {w : World} {ι : Ix} {v : Value}, Rep S w ι (getL ps i) v → Rep S w ι (getL qs i) v := by
  intro ps
  induction ps with
  | nil => intro qs K h; cases qs with
    | nil => exact ⟨h, rfl, fun i _ _ _ _ hr => hr⟩
    | cons => exact h.elim
  | cons p ps ih => intro qs K h; cases qs with
    | nil => exact h.elim
    | cons q qs =>
      obtain ⟨h, h1⟩ := eqPV_sound h
      obtain ⟨h, h2, h3⟩ := ih h
      refine ⟨h, by simp [h2], fun i _ _ _ _ hr => ?_⟩
      cases i with
      | zero => exact h1 hr
      | succ i => exact h3 i hr
theorem matP_sound {σ : Sg} (hinj : ∀ x ∈ σ, sgB σ x.2 = some x.1) {p q : PV} {K : Prop} (h : matP σ p q K) : K ∧ ∀ {S : Imm} {w : World} {ι : Ix} {v : Value}, Rep S w ι p v → Rep S w (ι.ren σ) q v := by
  unfold matP at h
  split at h
  · exact ⟨h, fun _ => .any _ _⟩
  · split at h
    · rename_i cs hcs
      obtain ⟨h, h1, h2⟩ := eqPVs_sound h
      refine ⟨h, fun hr => ?_⟩
      have := renP_sound hinj hcs hr
      cases this with | agg _ _ vs hl hh => exact .agg _ _ _ (h1.symm.trans hl) (fun i hi => h2 i (hh i (by omega)))
    · exact h.elim
  · rename_i c t
    split at h
    · split at h
      · rename_i d u
        obtain ⟨⟨e⟩, h⟩ := h
        subst e
        exact ⟨h, fun hr => by
          have := hr.drop
          cases this with
          | islnil _ _ _ hc => exact .islnil _ _ _ hc
          | isl _ _ _ b off cap hc hs hh hf ho => exact .isl _ _ _ _ _ _ hc hs hh hf (fun k e => by cases e)⟩
      · obtain ⟨⟨e⟩, h⟩ := h
        exact ⟨h, fun hr => by cases hr; exact .islnil _ _ _ e⟩
      · exact h.elim
    · split at h
      · rename_i p' hp
        obtain ⟨h, h1⟩ := eqPV_sound h
        exact ⟨h, fun hr => h1 (renP_sound hinj hp hr)⟩
      · exact h.elim
  · split at h
    · rename_i p' hp
      obtain ⟨h, h1⟩ := eqPV_sound h
      exact ⟨h, fun hr => h1 (renP_sound hinj hp hr)⟩
    · exact h.elim
theorem matPs_sound {σ : Sg} (hinj : ∀ x ∈ σ, sgB σ x.2 = some x.1) : ∀ {ps qs : List PV} {K : Prop}, matPs σ ps qs K → K ∧ ps.length = qs.length ∧ ∀ i {S : Imm} {w : World} {ι : Ix} {v : Value}, Rep S w ι (getL ps i) v → Rep S w (ι.ren σ) (getL qs i) v := by
  intro ps
  induction ps with
  | nil => intro qs K h; cases qs with
    | nil => exact ⟨h, rfl, fun i _ _ _ _ hr => .any _ _⟩
    | cons => exact h.elim
  | cons p ps ih => intro qs K h; cases qs with
    | nil => exact h.elim
    | cons q qs =>
      obtain ⟨h, h1⟩ := matP_sound hinj h
      obtain ⟨h, h2, h3⟩ := ih h
      refine ⟨h, by simp [h2], fun i _ _ _ _ hr => ?_⟩
      cases i with
      | zero => exact h1 hr
      | succ i => exact h3 i hr
/-! results compared with what is told -/
def eqR1 (p q : PV) : Prop :=
  match q with
  | .agg qs => (match p with | .agg ps => eqPVs ps qs True | _ => False)
  | q => eqPV p q True
def eqRs : List PV → List PV → Prop
  | [], [] => True
  | p :: ps, q :: qs => eqR1 p q ∧ eqRs ps qs
  | _, _ => False
def eqR (p q : PV) : Prop :=
  match q with
  | .tup qs => (match p with | .tup ps => eqRs ps qs | _ => False)
  | q => eqR1 p q
theorem eqR1_sound {p q : PV} (h : eqR1 p q) {S : Imm} {w : World} {ι : Ix} {v : Value} (hr : Rep S w ι p v) : Rep S w ι q v := by
  unfold eqR1 at h
  split at h
  · split at h
    · obtain ⟨_, h1, h2⟩ := eqPVs_sound h
      cases hr with | agg _ _ vs hl hh => exact .agg _ _ _ (h1.symm.trans hl) (fun i hi => h2 i (hh i (by omega)))
    · exact h.elim
  · exact (eqPV_sound h).2 hr
theorem eqRs_sound : ∀ {ps qs : List PV}, eqRs ps qs → ps.length = qs.length ∧ ∀ i {S : Imm} {w : World} {ι : Ix} {v : Value}, Rep S w ι (getL ps i) v → Rep S w ι (getL qs i) v := by
  intro ps
  induction ps with
  | nil => intro qs h; cases qs with
    | nil => exact ⟨rfl, fun i _ _ _ _ hr => hr⟩
    | cons => exact h.elim
  | cons p ps ih => intro qs h; cases qs with
    | nil => exact h.elim
    | cons q qs =>
      obtain ⟨h1, h2⟩ := ih h.2
      refine ⟨by simp [h1], fun i _ _ _ _ hr => ?_⟩
      cases i with
      | zero => exact eqR1_sound h.1 hr
      | succ i => exact h2 i hr
theorem Sup.via {p q : PV} (h : eqR p q) : Sup p q := ⟨fun hr => by
  unfold eqR at h
  split at h
  · split at h
    · obtain ⟨h1, h2⟩ := eqRs_sound h
      cases hr with | tup _ _ vs hl hh => exact .tup _ _ _ (h1.symm.trans hl) (fun i hi => h2 i (hh i (by omega)))
    · exact h.elim
  · exact eqR1_sound h hr⟩
end Go.Eng
namespace Go.Eng
open Go.RowKit
set_option linter.unusedVariables false
set_option linter.unusedSimpArgs false
def matC (σ : Sg) (c c1 : CL) (K : Prop) : Prop :=
  match c1 with
  | .pv qs => match c with
    | .pv ps => matPs σ ps qs K
    | _ => False
  | .ints k ys => match c with
    | .ints k' xs => ifK (decide (k' = k)) (VC (xs = ys) ∧ K)
    | _ => False
  | .bools ys => match c with
    | .bools xs => VC (xs = ys) ∧ K
    | _ => False
  | .strs ys => match c with
    | .strs xs => VC (xs = ys) ∧ K
    | _ => False
  | .rows k ys => match c with
    | .rows k' xs => ifK (decide (k' = k)) (VC (xs = ys) ∧ K)
    | _ => False
  | .recs m ys => match c with
    | .recs m' xs => ifK (Nat.beq m' m) (VC (xs = ys ∧ inlRecs xs) ∧ K)
    | _ => False
  | _ => False
def matE (σ : Sg) : List (PV × PV) → List (PV × PV) → Prop → Prop
  | [], [], K => K
  | (p, u) :: ps, (q, v) :: qs, K => matP σ p q (matP σ u v (matE σ ps qs K))
  | _, _, _ => False
def matA (σ : Sg) (o o1 : AO) (K : Prop) : Prop :=
  match o1 with
  | .cells c1 fz1 => match o with
    | .cells c fz => match fz1 with
      | true => match fz with
        | true => VC (c = c1) ∧ K
        | false => False
      | false => match fz with
        | true => False
        | false => matC σ c c1 K
    | _ => False
  | .tok m n => match o with
    | .tok m' n' => ifK (Nat.beq m' m) (VC (n' = n) ∧ K)
    | _ => False
  | .map es => match o with
    | .map ds => matE σ ds es K
    | _ => False
  | .dfr => match o with
    | .dfr => K
    | _ => False
  | .ext G pre => match o with
    | .ext G' pre' => VC (G' = G ∧ pre' = pre) ∧ K
    | _ => False
  | _ => False
def matHK (σ : Sg) (H : Hp) : Nat → Hp → Prop → Prop
  | _, [], K => K
  | k1, o :: r, K => match o with
    | none => natK (k1 + 1) fun k2 => matHK σ H k2 r K
    | some o1 => match sgB σ k1 with
      | some k => getHK H k fun o => matA σ o o1 (natK (k1 + 1) fun k2 => matHK σ H k2 r K)
      | none => match o1 with
        | .tok _ 0 => natK (k1 + 1) fun k2 => matHK σ H k2 r K
        | _ => False
def isSomeB {α : Type} : Option α → Bool | some _ => true | none => false
def eqO : Option Nat → Nat → Bool | some a, b => Nat.beq a b | none, _ => false
def sgOK1 (σ : Sg) (H H1 : Hp) : Sg → Bool
  | [] => true
  | (a, b) :: r => match eqO (sgB σ b) a && eqO (sgF σ a) b && (!isSomeB (Hget H a) || isSomeB (Hget H1 b)) with | true => sgOK1 σ H H1 r | false => false
def sgId (σ : Sg) (H : Hp) : Nat → Bool
  | 0 => true
  | k + 1 => match !isSomeB (Hget H k) || eqO (sgB σ k) k with | true => sgId σ H k | false => false
def subK (σ : Sg) (p : Nat) (env : Env) (H : Hp) (env1 : Env) (H1 : Hp) (K : Prop) : Prop :=
  ifK (sgOK1 σ H H1 σ && sgId σ H p) (matPs σ env env1 (matHK σ H 0 H1 K))
theorem eqO_iff {o : Option Nat} {a : Nat} : eqO o a = true ↔ o = some a := by
  cases o with
  | none => simp [eqO]
  | some b => simp [eqO, Nat.beq_eq]
theorem sgOK1_sound {σ : Sg} {H H1 : Hp} : ∀ {r : Sg}, sgOK1 σ H H1 r = true → ∀ x ∈ r, sgB σ x.2 = some x.1 ∧ sgF σ x.1 = some x.2 ∧ ((Hget H x.1).isSome → (Hget H1 x.2).isSome) := by
  intro r
  induction r with
  | nil => intro _ x hx; simp at hx
  | cons y r ih =>
    intro h x hx
    obtain ⟨a, b⟩ := y
    simp only [sgOK1] at h
    split at h
    · rename_i hb
      rcases List.mem_cons.1 hx with e | hx
      · subst e
        simp only [Bool.and_eq_true, eqO_iff, Bool.or_eq_true] at hb
        refine ⟨hb.1.1, hb.1.2, fun hs => ?_⟩
        rcases hb.2 with h1 | h1
        · cases e : Hget H a with
          | none => rw [e] at hs; simp at hs
          | some o => rw [e] at h1; simp [isSomeB] at h1
        · cases e : Hget H1 b with
          | none => rw [e] at h1; simp [isSomeB] at h1
          | some o => rfl
      · exact ih h x hx
    · cases h
theorem sgId_sound {σ : Sg} {H : Hp} : ∀ {p : Nat}, sgId σ H p = true → ∀ k, k < p → Hget H k ≠ none → sgB σ k = some k := by
  intro p
  induction p with
  | zero => intro _ k hk; omega
  | succ p ih =>
    intro h k hk hne
    simp only [sgId] at h
    split at h
    · rename_i hb
      by_cases e : k = p
      · subst e
        cases hg : Hget H k with
        | none => exact absurd hg hne
        | some o => rw [hg] at hb; simpa [isSomeB, eqO_iff] using hb
      · exact ih h k (by omega) hne
    · cases h
theorem sgB_mem {σ : Sg} {k k1 : Nat} (h : sgB σ k1 = some k) : (k, k1) ∈ σ := by
  induction σ with
  | nil => cases h
  | cons x r ih =>
    obtain ⟨a, b⟩ := x
    simp only [sgB] at h
    cases hb : Nat.beq b k1 with
    | true => rw [hb] at h; cases h; rw [Nat.eq_of_beq_eq_true hb]; simp
    | false => rw [hb] at h; exact List.mem_cons_of_mem _ (ih h)
section
variable {σ : Sg} (hinj : ∀ x ∈ σ, sgB σ x.2 = some x.1)
include hinj
theorem matC_sound {c c1 : CL} {K : Prop} (h : matC σ c c1 K) : K ∧ c1.ncell = c.ncell ∧ ∀ j, j < c.ncell → ∀ {S : Imm} {w : World} {ι : Ix} {v : Value}, Rep S w ι (c.get j) v → Rep S w (ι.ren σ) (c1.get j) v := by
  unfold matC at h
  split at h
  · split at h
    · obtain ⟨h, h1, h2⟩ := matPs_sound hinj h
      exact ⟨h, h1.symm, fun j _ S w ι v hr => h2 j hr⟩
    · exact h.elim
  · split at h
    · rw [ifK_iff] at h
      obtain ⟨h1, ⟨h2⟩, h3⟩ := h
      have h1 := of_decide_eq_true h1; subst h1; subst h2
      exact ⟨h3, rfl, fun j _ S w ι v hr => by cases hr; exact .int _ _ _⟩
    · exact h.elim
  · split at h
    · obtain ⟨⟨h2⟩, h3⟩ := h; subst h2
      exact ⟨h3, rfl, fun j _ S w ι v hr => by cases hr; exact .bp _ _⟩
    · exact h.elim
  · split at h
    · obtain ⟨⟨h2⟩, h3⟩ := h; subst h2
      exact ⟨h3, rfl, fun j _ S w ι v hr => by cases hr; exact .str _ _⟩
    · exact h.elim
  · split at h
    · rw [ifK_iff] at h
      obtain ⟨h1, ⟨h2⟩, h3⟩ := h
      have h1 := of_decide_eq_true h1; subst h1; subst h2
      exact ⟨h3, rfl, fun j _ S w ι v hr => hr.toNoI.up _⟩
    · exact h.elim
  · split at h
    · rename_i m' xs
      rw [ifK_iff] at h
      obtain ⟨h1, ⟨h2, h4⟩, h3⟩ := h
      have h1 := Nat.eq_of_beq_eq_true h1; subst h1; subst h2
      have ht : typedK (.recs m' xs) (fun d => d = .recs m' xs) := ⟨h4, rfl⟩
      obtain ⟨d, rfl, d1, d2, d3⟩ := typedK_sound ht
      exact ⟨h3, rfl, fun j hj S w ι v hr => (d3 j hj hr).up _⟩
    · exact h.elim
  · exact h.elim
theorem matE_sound : ∀ {ds es : List (PV × PV)} {K : Prop}, matE σ ds es K → K ∧ ds.length = es.length ∧ ∀ i (h : i < ds.length) (h' : i < es.length) {S : Imm} {w : World} {ι : Ix} {u v : Value},
    Rep S w ι ds[i].1 u → Rep S w ι ds[i].2 v → Rep S w (ι.ren σ) es[i].1 u ∧ Rep S w (ι.ren σ) es[i].2 v := by
  intro ds
  induction ds with
  | nil => intro es K h; cases es with
    | nil => exact ⟨h, rfl, fun i hi => by simp at hi⟩
    | cons => exact h.elim
  | cons d ds ih => intro es K h; cases es with
    | nil => exact h.elim
    | cons e es =>
      obtain ⟨p, u⟩ := d
      obtain ⟨q, v⟩ := e
      obtain ⟨h, h1⟩ := matP_sound hinj h
      obtain ⟨h, h2⟩ := matP_sound hinj h
      obtain ⟨h, h3, h4⟩ := ih h
      refine ⟨h, by simp [h3], fun i hi hi' S w ι a b ha hb => ?_⟩
      cases i with
      | zero => exact ⟨h1 ha, h2 hb⟩
      | succ i => exact h4 i (by simpa using hi) (by simpa using hi') ha hb
theorem matA_sound {o o1 : AO} {K : Prop} (h : matA σ o o1 K) : K ∧ o1.isTok = o.isTok ∧ o1.isExt = o.isExt ∧ o1.excl = o.excl ∧ ∀ {S : Imm} {w : World} {ι : Ix} {k k1 : Nat}, sgB σ k1 = some k → ObjR S w ι k o → ObjR S w (ι.ren σ) k1 o1 := by
  have ko : ∀ {ι : Ix} {k k1 b : Nat}, sgB σ k1 = some k → ι.o k = some b → (ι.ren σ).o k1 = some b := fun h hb => by simp [Ix.ren, h, hb]
  have kt : ∀ {ι : Ix} {k k1 : Nat}, sgB σ k1 = some k → (ι.ren σ).t k1 = ι.t k := fun h => by simp [Ix.ren, h]
  unfold matA at h
  split at h
  · split at h
    · rename_i c1 fz1 c fz
      split at h
      · split at h
        · obtain ⟨⟨h1⟩, h⟩ := h
          subst h1
          exact ⟨h, rfl, rfl, rfl, fun hk ⟨b, g1, g2⟩ => ⟨b, ko hk g1, g2⟩⟩
        · exact h.elim
      · split at h
        · exact h.elim
        · obtain ⟨h, h1, h2⟩ := matC_sound hinj h
          refine ⟨h, rfl, rfl, rfl, fun hk ⟨b, arr, e, g1, g2, g3, g4, g5⟩ => ⟨b, arr, e, ko hk g1, g2, by omega, fun j hj => ?_, g5⟩⟩
          have := g4 j (by omega)
          exact h2 j (by omega) this
    · exact h.elim
  · split at h
    · rw [ifK_iff] at h
      obtain ⟨h1, ⟨h2⟩, h⟩ := h
      have h1 := Nat.eq_of_beq_eq_true h1; subst h1; subst h2
      refine ⟨h, rfl, rfl, rfl, fun hk ⟨g1, g2⟩ => ⟨fun hz => by rw [kt hk]; exact g1 hz, fun hz => ?_⟩⟩
      obtain ⟨b, arr, e, q1, q2, q3⟩ := g2 hz
      exact ⟨b, arr, e, by rw [kt hk]; exact q1, q2, q3⟩
    · exact h.elim
  · split at h
    · obtain ⟨h, h1, h2⟩ := matE_sound hinj h
      refine ⟨h, rfl, rfl, rfl, fun hk ⟨b, ents, clock, g1, g2, g3, g4⟩ => ⟨b, ents, clock, ko hk g1, g2, by omega, fun i hi hi' => ?_⟩⟩
      obtain ⟨q1, q2⟩ := g4 i (by omega) hi'
      exact h2 i (by omega) hi q1 q2
    · exact h.elim
  · split at h
    · exact ⟨h, rfl, rfl, rfl, fun hk ⟨b, g1, g2⟩ => ⟨b, ko hk g1, g2⟩⟩
    · exact h.elim
  · split at h
    · obtain ⟨⟨h1, h2⟩, h⟩ := h
      subst h1; subst h2
      refine ⟨h, rfl, rfl, rfl, fun {S w ι k k1} hk ⟨g1, g2, g3⟩ => ?_⟩
      have hx : (ι.ren σ).x k1 = ι.x k := by funext b; simp [Ix.ren, hk]
      exact ⟨by rw [hx]; exact g1, g2, by rw [hx]; exact g3⟩
    · exact h.elim
  · exact h.elim
theorem matHK_sound {H : Hp} : ∀ {l : Hp} {k1 : Nat} {K : Prop}, matHK σ H k1 l K → K ∧ ∀ i o1, Hget l i = some o1 →
    (∃ k o, sgB σ (k1 + i) = some k ∧ Hget H k = some o ∧ o1.isTok = o.isTok ∧ o1.isExt = o.isExt ∧ o1.excl = o.excl ∧ ∀ {S : Imm} {w : World} {ι : Ix}, ObjR S w ι k o → ObjR S w (ι.ren σ) (k1 + i) o1) ∨
    (sgB σ (k1 + i) = none ∧ ∃ m, o1 = .tok m 0) := by
  intro l
  induction l with
  | nil => intro k1 K h; exact ⟨h, fun i o1 ho => by simp [Hget] at ho⟩
  | cons o l ih =>
    intro k1 K h
    unfold matHK at h
    have shift : ∀ i, k1 + 1 + i = k1 + (i + 1) := fun i => by omega
    split at h
    · rw [natK_eq] at h
      obtain ⟨h, h1⟩ := ih h
      refine ⟨h, fun i o1 ho => ?_⟩
      cases i with
      | zero => simp [Hget] at ho
      | succ i => rw [← shift]; exact h1 i o1 ho
    · rename_i o1
      split at h
      · rename_i k hk
        rw [getHK_iff] at h
        obtain ⟨ob, hob, h⟩ := h
        obtain ⟨h, a1, a2, a3, a4⟩ := matA_sound hinj h
        rw [natK_eq] at h
        obtain ⟨h, h1⟩ := ih h
        refine ⟨h, fun i o2 ho => ?_⟩
        cases i with
        | zero =>
          simp only [Hget, Option.some.injEq] at ho
          subst ho
          exact .inl ⟨k, ob, hk, hob, a1, a2, a3, fun hh => a4 hk hh⟩
        | succ i => rw [← shift]; exact h1 i o2 ho
      · rename_i hk
        split at h
        · rename_i m
          rw [natK_eq] at h
          obtain ⟨h, h1⟩ := ih h
          refine ⟨h, fun i o2 ho => ?_⟩
          cases i with
          | zero => simp only [Hget, Option.some.injEq] at ho; exact .inr ⟨hk, m, ho.symm⟩
          | succ i => rw [← shift]; exact h1 i o2 ho
        · exact h.elim
end
theorem subK_sound {B : Imm → World → Prop} {σ : Sg} {p : Nat} {env env1 : Env} {H H1 : Hp} {K : Prop} (h : subK σ p env H env1 H1 K) : K ∧ Sub B p env H env1 H1 := by
  unfold subK at h
  rw [ifK_iff, Bool.and_eq_true] at h
  obtain ⟨⟨h1, h2⟩, h⟩ := h
  have hs := sgOK1_sound h1
  have hinj : ∀ x ∈ σ, sgB σ x.2 = some x.1 := fun x hx => (hs x hx).1
  obtain ⟨h, h3, h4⟩ := matPs_sound hinj h
  obtain ⟨h, h5⟩ := matHK_sound hinj h
  simp only [Nat.zero_add] at h5
  refine ⟨h, fun S0 w0 ι0 H0 a w hA => ?_⟩
  obtain ⟨S, ι, hb, M, R, D, D', T⟩ := hA.ex
  have hfun : ∀ {k k1 k2 : Nat}, sgB σ k1 = some k → sgB σ k2 = some k → k1 = k2 := fun e1 e2 => by
    have a1 := (hs _ (sgB_mem e1)).2.1
    have a2 := (hs _ (sgB_mem e2)).2.1
    simp only at a1 a2
    rw [a1] at a2; exact Option.some.inj a2
  have hhas : ∀ {k k1 : Nat} {o o1 : AO} {b : Nat}, sgB σ k1 = some k → o1.isTok = o.isTok → o1.isExt = o.isExt → o1.excl = o.excl → (o1.has (ι.ren σ) k1 b ↔ o.has ι k b) := by
    intro k k1 o o1 b hk ht he hx
    exact has_congr (by simp [Ix.ren, hk]) (by simp [Ix.ren, hk]) (by funext b; simp [Ix.ren, hk]) ht he hx b
  have hvirg : ∀ {k1 b m : Nat}, sgB σ k1 = none → ¬ (AO.tok m 0).has (ι.ren σ) k1 b := by
    intro k1 b m hk hh
    obtain ⟨n, hh⟩ := hh
    simp [Ix.ren, hk] at hh
  have hown : ∀ b, owned (ι.ren σ) H1 b → owned ι H b := by
    rintro b ⟨k1, o1, g1, g2, g3⟩
    rcases h5 k1 o1 g1 with ⟨k, o, q1, q2, q3, q4, q5, q6⟩ | ⟨q1, m, rfl⟩
    · exact ⟨k, o, q2, q5 ▸ g2, (hhas q1 q3 q4 q5).1 g3⟩
    · exact absurd g3 (hvirg q1)
  refine ⟨S, ι.ren σ, hb, ⟨?_, ?_, ?_, ?_, M.imm⟩, ⟨h3 ▸ R.1, fun i hi => h4 i (R.2 i (by omega))⟩, ⟨fun d hd => ?_, D.nodup⟩, D', ?_⟩
  · intro k1 o1 g1
    rcases h5 k1 o1 g1 with ⟨k, o, q1, q2, q3, q4, q5, q6⟩ | ⟨q1, m, rfl⟩
    · exact q6 (M.obj k o q2)
    · exact ⟨fun _ => by simp [Ix.ren, q1], fun h => by omega⟩
  · intro k1 b g1
    cases e : sgB σ k1 with
    | none => simp [Ix.ren, e] at g1
    | some k =>
      simp only [Ix.ren, e, Option.bind_some] at g1
      obtain ⟨o, q1, q2⟩ := M.liveO k b g1
      have hsome := (hs _ (sgB_mem e)).2.2 (by simp [q1])
      obtain ⟨o1, ho1⟩ := Option.isSome_iff_exists.1 hsome
      rcases h5 k1 o1 ho1 with ⟨k', o', r1, r2, r3, _⟩ | ⟨r1, _⟩
      · rw [e] at r1; cases r1; rw [q1] at r2; cases r2; exact ⟨o1, ho1, r3.trans q2⟩
      · rw [e] at r1; cases r1
  · intro k1 b g1
    cases e : sgB σ k1 with
    | none => simp [Ix.ren, e] at g1
    | some k =>
      simp only [Ix.ren, e, Option.bind_some] at g1
      obtain ⟨o, q1, q2⟩ := M.liveT k b g1
      have hsome := (hs _ (sgB_mem e)).2.2 (by simp [q1])
      obtain ⟨o1, ho1⟩ := Option.isSome_iff_exists.1 hsome
      rcases h5 k1 o1 ho1 with ⟨k', o', r1, r2, r3, _⟩ | ⟨r1, _⟩
      · rw [e] at r1; cases r1; rw [q1] at r2; cases r2; exact ⟨o1, ho1, r3.trans q2⟩
      · rw [e] at r1; cases r1
  · intro k1 k2 o1 o2 b g1 g2 b1 b2
    rcases h5 k1 o1 g1 with ⟨ka, oa, q1, q2, q3, q4, q5, q6⟩ | ⟨q1, m, rfl⟩
    · rcases h5 k2 o2 g2 with ⟨kb, ob, r1, r2, r3, r4, r5, r6⟩ | ⟨r1, m, rfl⟩
      · have := M.dist ka kb oa ob b q2 r2 ((hhas q1 q3 q4 q5).1 b1) ((hhas r1 r3 r4 r5).1 b2)
        subst this
        exact hfun q1 r1
      · exact absurd b2 (hvirg r1)
    · exact absurd b1 (hvirg q1)
  · obtain ⟨b, q1, q2, q3⟩ := D.all d hd
    exact ⟨b, q1, q2, fun hh => q3 (hown b hh)⟩
  · refine ⟨T.below, T.same, T.keeps, T.immN, fun b hh => T.own b (hown b hh), fun k hk b hi => ?_, fun k hk b n hi => ?_⟩
    · have := T.protO k hk b hi
      obtain ⟨o, ho, _⟩ := M.liveO k b this
      simp [Ix.ren, sgId_sound h2 k hk (by rw [ho]; simp), this]
    · obtain ⟨b', n', r1, r2⟩ := T.protT k hk b n hi
      obtain ⟨o, ho, _⟩ := M.liveT k _ r1
      exact ⟨b', n', by simp [Ix.ren, sgId_sound h2 k hk (by rw [ho]; simp), r1], r2⟩
end Go.Eng
