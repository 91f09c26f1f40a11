/-
  Contracts of functions of the program: what each returns. Their conditions stand in them.
-/
import Derived.ProofKit
import Derived.OpenShut
import Derived.Test.YtppflbccfdbogaaGreatRows
import Derived.Test.YtppflbccfdbogaaGreatCb
namespace Go.Eng
open Go.RowKit Go.ChangeShapes Go.WideShapes
set_option linter.unusedVariables false
set_option linter.unusedSimpArgs false
/-- what lies there when the call begins -/
def memS (W : World) : Imm := fun b j => (rd W b j).isSome
inductive Lf where
  | int (k : IntKind)
  | str
  | ints (k : IntKind)
instance : Inhabited Lf := ⟨.str⟩
def LfOK : Lf → PV → Prop
  | .int k, p => ∃ n, p = .int k n ∧ (Lit.int k n).wf = true
  | .str, p => ∃ s, p = .str s ∧ s.size ≤ maxLen
  | .ints k, p => ∃ xs, p = .isl (.ints k xs) .none ∧ (∀ n ∈ xs, (Lit.int k n).wf = true) ∧ xs.length ≤ maxLen
def SpotOK (v : Value) : Prop := ∀ a n c, v = .slice (some a) n c → a.spot = none
theorem spot_of_cell {P : Program} {w : World} {r : Reach} {base : Nat} {t : TypeId} {v : Value} (h : Cell.okWide P w r base t v) : SpotOK v := by
  rintro a n c rfl
  unfold Cell.okWide at h
  split at h <;> try (rename_i e1 e2; cases e2)
  unfold Cell.ok at h
  split at h <;> try (rename_i e1 e2; cases e2)
  · exact h.2.2.2.1
  · exact h.elim
theorem spot_of_row {P : Program} {w : World} {r : Reach} {base : Nat} {t : TypeId} {cs : Array Value} (h : Row.okWide P w r base t cs) : ∀ i, SpotOK (cs.toList.getD i undef) := by
  obtain ⟨ts, _, _, h⟩ := h
  intro i
  rw [List.getD_eq_getElem?_getD]
  cases hv : cs.toList[i]? with
  | none => rintro a n c he; cases he
  | some v =>
    obtain ⟨u, _, hu⟩ := h i v (by simpa using hv)
    simpa using spot_of_cell hu
section
variable {H : Type} (enc : TypeId × Value → H) (P : Program) (W : World)
def OpenC (t : TypeId) (ls : List Lf) : Prop := ∀ (fuel : Nat) (cs : List Value) (x : DataW H × List MemPlace), DataW.trod enc P W 0 (fun _ => true) true fuel t cs = some x → (∀ i, SpotOK (cs.getD i undef)) →
  cs.length = ls.length ∧ ∀ i, i < ls.length → ∃ p, LfOK (ls.getD i default) p ∧ Rep (memS W) W noI p (cs.getD i undef)
def FieldsC : List Field → Nat → List (List Lf) → Prop
  | [], _, [] => True
  | f :: fs, o, l :: ls => (f.offset = o ∧ P.cellsOf f.type = l.length ∧ OpenC enc P W f.type l) ∧ FieldsC fs (o + l.length) ls
  | _, _, _ => False
end
section
variable {H : Type} {enc : TypeId × Value → H} {P : Program} {W : World}
theorem openC_int {t : TypeId} {k : IntKind} (ht : P.underlying t = some (.int k)) : OpenC enc P W t [.int k] := by
  intro fuel cs x h hs
  obtain ⟨n, rfl, _, hw⟩ := DataW.trod_int ht h
  refine ⟨rfl, fun i hi => ?_⟩
  have : i = 0 := by simp at hi; omega
  subst this
  exact ⟨.int k n, ⟨n, rfl, hw⟩, .int _ _ _⟩
theorem openC_str {t : TypeId} (ht : P.underlying t = some .string) : OpenC enc P W t [.str] := by
  intro fuel cs x h hs
  obtain ⟨s, rfl, _, hw⟩ := DataW.trod_string ht h
  refine ⟨rfl, fun i hi => ?_⟩
  have : i = 0 := by simp at hi; omega
  subst this
  exact ⟨.str s, ⟨s, rfl, hw⟩, .str _ _⟩
theorem openC_ints {t e : TypeId} {k : IntKind} (ht : P.underlying t = some (.slice e)) (he : P.underlying e = some (.int k)) (hc : P.cellsOf e = 1) : OpenC enc P W t [.ints k] := by
  intro fuel cs x h hs
  rcases open_ints ht he hc h with ⟨rfl, _⟩ | ⟨a, len, cap, zs, rfl, _, hl, hm, hz, _, hcell, hwf⟩
  · refine ⟨rfl, fun i hi => ?_⟩
    have : i = 0 := by simp at hi; omega
    subst this
    exact ⟨.isl (.ints k []) .none, ⟨[], rfl, by simp, by simp⟩, .islnil _ _ _ rfl⟩
  · refine ⟨rfl, fun i hi => ?_⟩
    have : i = 0 := by simp at hi; omega
    subst this
    have hsp : a.spot = none := hs 0 a len cap rfl
    obtain ⟨b, off, spot⟩ := a
    simp only at hsp
    subst hsp
    simp only [ite_true] at hz
    have hcell' : ∀ i, i < cap → rd W b (off + i) = some (.int k (zs.getD i 0)) := fun i hi => by
      have := hcell i (by omega)
      rw [add_none, cell?_eq] at this
      exact this
    refine ⟨.isl (.ints k (zs.take len)) .none, ⟨_, rfl, fun n hn => hwf n (List.mem_of_mem_take hn), by simp; omega⟩, ?_⟩
    have hlen : (CL.ints k (zs.take len)).cnt = len := by simp [CL.cnt]; omega
    have hrep := Rep.isl (S := memS W) (w := W) noI (.ints k (zs.take len)) .none b off cap (by rw [hlen]; exact hl)
      (fun j hj => by
        have hj' : j < len := by simp only [CL.ncell, List.length_take] at hj; omega
        show (rd W b (off + j)).isSome; rw [hcell' j (by omega)]; rfl)
      (fun j hj => by
        have hj' : j < len := by simp only [CL.ncell, List.length_take] at hj; omega
        have e1 : rdv W b (off + j) = .int k (zs.getD j 0) := by unfold rdv; rw [hcell' j (by omega)]; rfl
        have e2 : (zs.take len).getD j 0 = zs.getD j 0 := by simp only [List.getD_eq_getElem?_getD, List.getElem?_take_of_lt hj']
        rw [e1]
        show Rep (memS W) W noI (.int k ((zs.take len).getD j 0)) _
        rw [e2]; exact .int _ _ _)
      (fun e => by cases e) (fun k e => by cases e)
    rw [hlen] at hrep
    simpa using hrep
theorem getD_flat0 {l : List Lf} {ls : List (List Lf)} {i : Nat} (h : i < l.length) : (l ++ ls.flatten).getD i default = l.getD i default := by
  simp only [List.getD_eq_getElem?_getD, List.getElem?_append_left h]
theorem fieldsC_get : ∀ {fs : List Field} {o : Nat} {lss : List (List Lf)}, FieldsC enc P W fs o lss → ∀ i, i < lss.flatten.length →
    ∃ (k : Nat) (f : Field) (l : List Lf) (j : Nat), fs[k]? = some f ∧ f.offset + j = o + i ∧ P.cellsOf f.type = l.length ∧ OpenC enc P W f.type l ∧ j < l.length ∧ l.getD j default = lss.flatten.getD i default := by
  intro fs
  induction fs with
  | nil =>
    intro o lss h i hi
    cases lss with
    | nil => simp at hi
    | cons l ls => exact h.elim
  | cons f fs ih =>
    intro o lss h i hi
    cases lss with
    | nil => exact h.elim
    | cons l ls =>
      obtain ⟨⟨h1, h2, h3⟩, h4⟩ := h
      rw [List.flatten_cons, List.length_append] at hi
      by_cases hl : i < l.length
      · exact ⟨0, f, l, i, rfl, by omega, h2, h3, hl, by rw [List.flatten_cons, getD_flat0 hl]⟩
      · obtain ⟨k, f', l', j, a1, a2, a3, a4, a5, a6⟩ := ih h4 (i - l.length) (by omega)
        refine ⟨k + 1, f', l', j, a1, by omega, a3, a4, a5, ?_⟩
        rw [a6, List.flatten_cons]
        simp only [List.getD_eq_getElem?_getD, List.getElem?_append_right (by omega : l.length ≤ i)]
theorem getD_part {cs : List Value} {o n j : Nat} (h : j < n) : ((cs.drop o).take n).getD j undef = cs.getD (o + j) undef := by
  simp only [List.getD_eq_getElem?_getD, List.getElem?_take_of_lt h, List.getElem?_drop]
theorem part_spot {cs : List Value} (hs : ∀ i, SpotOK (cs.getD i undef)) (o n : Nat) : ∀ i, SpotOK (((cs.drop o).take n).getD i undef) := by
  intro i
  by_cases h : i < n
  · rw [getD_part h]; exact hs _
  · have : ((cs.drop o).take n).getD i undef = undef := by
      rw [List.getD_eq_getElem?_getD, List.getElem?_eq_none (by simp; omega)]; rfl
    rw [this]; rintro a n c he; cases he
theorem openC_struct {t : TypeId} {fs : Array Field} {lss : List (List Lf)} (ht : P.underlying t = some (.struct fs)) (hF : FieldsC enc P W fs.toList 0 lss) (hc : P.cellsOf t = lss.flatten.length) : OpenC enc P W t lss.flatten := by
  intro fuel cs x h hs
  obtain ⟨xs, n, _, _, hl, hlen, hf⟩ := DataW.trod_struct ht h
  refine ⟨by rw [hl, hc], fun i hi => ?_⟩
  obtain ⟨k, f, l, j, a1, a2, a3, a4, a5, a6⟩ := fieldsC_get hF i hi
  have hfk : fs[k]? = some f := by simpa using a1
  have hk : k < xs.length := by rw [hlen]; exact (Array.getElem?_eq_some_iff.1 hfk).1
  have h1 := hf k f hfk
  rw [List.getElem?_eq_getElem hk] at h1
  obtain ⟨_, h2⟩ := a4 _ _ _ h1 (part_spot hs _ _)
  obtain ⟨p, hp, hr⟩ := h2 j a5
  rw [getD_part (by omega)] at hr
  rw [a6] at hp
  have : f.offset + j = i := by omega
  rw [this] at hr
  exact ⟨p, hp, hr⟩
theorem flat_rep : ∀ (n : Nat) (l : List Lf) (i : Nat), i < n * l.length → ((List.replicate n l).flatten).getD i default = l.getD (i % l.length) default := by
  intro n
  induction n with
  | zero => intro l i h; simp at h
  | succ n ih =>
    intro l i h
    rw [List.replicate_succ, List.flatten_cons]
    by_cases hi : i < l.length
    · rw [getD_flat0 hi, Nat.mod_eq_of_lt hi]
    · have e1 : i - l.length < n * l.length := by rw [Nat.succ_mul] at h; omega
      rw [List.getD_eq_getElem?_getD, List.getElem?_append_right (by omega), ← List.getD_eq_getElem?_getD, ih l _ e1, Nat.mod_eq_sub_mod (a := i) (by omega)]
theorem openC_array {t e : TypeId} {n : Nat} {l : List Lf} (ht : P.underlying t = some (.array n e)) (hO : OpenC enc P W e l) (hce : P.cellsOf e = l.length) (hc : P.cellsOf t = n * l.length) : OpenC enc P W t (List.replicate n l).flatten := by
  intro fuel cs x h hs
  obtain ⟨xs, m, _, _, hl, hlen, hf⟩ := DataW.trod_array ht h
  have hfl : (List.replicate n l).flatten.length = n * l.length := by simp [List.length_flatten]
  refine ⟨by rw [hl, hc, hfl], fun i hi => ?_⟩
  rw [hfl] at hi
  have hpos : 0 < l.length := by rcases Nat.eq_zero_or_pos l.length with h | h; · (rw [h] at hi; omega)
                                 · exact h
  have hk : i / l.length < n := Nat.div_lt_of_lt_mul (by rw [Nat.mul_comm]; exact hi)
  have hj : i % l.length < l.length := Nat.mod_lt _ hpos
  have h1 := hf (i / l.length) hk
  rw [List.getElem?_eq_getElem (by omega)] at h1
  obtain ⟨_, h2⟩ := hO _ _ _ h1 (part_spot hs _ _)
  obtain ⟨p, hp, hr⟩ := h2 _ hj
  rw [getD_part (by omega), hce, Nat.mul_comm, Nat.div_add_mod] at hr
  exact ⟨p, by rw [flat_rep n l i hi]; exact hp, hr⟩
/-! an argument -/
theorem list_of {Q : Nat → PV → Prop} : ∀ (n : Nat) (Q : Nat → PV → Prop), (∀ i, i < n → ∃ p, Q i p) → ∃ ps : List PV, ps.length = n ∧ ∀ i, i < n → Q i (getL ps i) := by
  intro n
  induction n with
  | zero => intro Q _; exact ⟨[], rfl, fun i hi => by omega⟩
  | succ n ih =>
    intro Q h
    obtain ⟨p, hp⟩ := h 0 (by omega)
    obtain ⟨ps, h1, h2⟩ := ih (fun i => Q (i + 1)) (fun i hi => h (i + 1) (by omega))
    refine ⟨p :: ps, by simp [h1], fun i hi => ?_⟩
    cases i with
    | zero => exact hp
    | succ i => exact h2 i (by omega)
theorem open_agg {t : TypeId} {ls : List Lf} {v : Value} {d : DataW H} {qs : List MemPlace} {r : Reach} {base : Nat} (ht : (∃ fs, P.underlying t = some (.struct fs)) ∨ ∃ n e, P.underlying t = some (.array n e)) (hO : OpenC enc P W t ls) (hval : Value.okWide P W r base t v) (hd : DataW.Trod enc P W 0 (fun _ => true) true t v d qs) :
    ∃ ps : List PV, ps.length = ls.length ∧ (∀ i, i < ls.length → LfOK (ls.getD i default) (getL ps i)) ∧ Rep (memS W) W noI (.agg ps) v := by
  have hv : ∃ cs, v = .agg cs ∧ Row.okWide P W r base t cs := by
    unfold Value.okWide at hval
    rcases ht with ⟨fs, ht⟩ | ⟨n, e, ht⟩ <;> rw [ht] at hval <;> exact ⟨hval.choose, hval.choose_spec.1, hval.choose_spec.2.2⟩
  obtain ⟨cs, rfl, hrow⟩ := hv
  obtain ⟨fuel, hf⟩ := hd
  have hcells : (Value.agg cs).cells.toList = cs.toList := rfl
  rw [hcells] at hf
  obtain ⟨h1, h2⟩ := hO _ _ _ hf (spot_of_row hrow)
  obtain ⟨ps, p1, p2⟩ := list_of (Q := fun _ _ => True) ls.length _ h2
  refine ⟨ps, p1, fun i hi => (p2 i hi).1, .agg _ _ _ (by rw [p1, ← h1]; simp) fun i hi => ?_⟩
  have := (p2 i (by omega)).2
  simpa [Array.getD_eq_getD_getElem?, List.getD_eq_getElem?_getD] using this
theorem open_leaf {t : TypeId} {l : Lf} {v : Value} {d : DataW H} {qs : List MemPlace} {r : Reach} {base : Nat} (ht : (∃ k, P.underlying t = some (.int k)) ∨ P.underlying t = some .string ∨ ∃ e, P.underlying t = some (.slice e)) (hO : OpenC enc P W t [l]) (hval : Value.okWide P W r base t v) (hd : DataW.Trod enc P W 0 (fun _ => true) true t v d qs) :
    ∃ p : PV, LfOK l p ∧ Rep (memS W) W noI p v := by
  have hv : v.cells.toList = [v] ∧ SpotOK v := by
    rcases ht with ⟨k, ht⟩ | ht | ⟨e, ht⟩
    · obtain ⟨n, rfl⟩ := okWide_int ht hval; exact ⟨rfl, fun a n c h => by cases h⟩
    · obtain ⟨n, rfl⟩ := okWide_string ht hval; exact ⟨rfl, fun a n c h => by cases h⟩
    · have hc : Cell.okWide P W r base t v := by unfold Value.okWide at hval; rw [ht] at hval; exact hval
      obtain ⟨a, n, c, rfl⟩ := okWide_slice ht hval
      exact ⟨rfl, spot_of_cell hc⟩
  obtain ⟨fuel, hf⟩ := hd
  rw [hv.1] at hf
  obtain ⟨h1, h2⟩ := hO _ _ _ hf (fun i => by
    cases i with
    | zero => exact hv.2
    | succ i => rintro a n c he; simp at he; cases he)
  obtain ⟨p, hp, hr⟩ := h2 0 (by simp)
  exact ⟨p, hp, hr⟩
end
/-- a contract of a law as the rows want it -/
theorem below_of {P : Program} {g : FuncId} {args : List PV} {vs : Array Value} {W : World} (h : PSpec P g args (.bp true)) (hr : RepA (memS W) W noI args vs) :
    Calls P g vs W fun e w' => e = .returned (.bool true) ∧ Below W.heap.size W w' := by
  have := (h.2 (memS W) W vs trivial (fun _ _ h => h) hr)
  refine callsIn_wide.1 (CallsIn.mono (F := Fw none) this ?_)
  rintro e w' ⟨val, S', rfl, o⟩
  have hv := o.rep
  exact ⟨by cases hv; rfl, ⟨o.below.os, o.below.tape, o.below.output, o.below.size, o.same⟩⟩
section
variable {H : Type} {enc : TypeId × Value → H} {P : Program}
theorem trodAll_stays (hl : laidOutB P = true) {W W' : World} {sp : Nat → Bool} (hB : Below W.heap.size W W') : ∀ {ts : List TypeId} {vs : List Value} {ds : List (DataW H)} {ps : List MemPlace}, ts.all (fun t => P.readableRec t && decide (t < P.types.size)) = true →
    DataW.TrodAll enc P W 0 (fun _ => true) true ts vs ds ps → (∀ x ∈ ps, x.block < W.heap.size) → (∀ x ∈ ps, sp x.block = true) → DataW.TrodAll enc P W' 0 sp true ts vs ds ps := by
  intro ts
  induction ts with
  | nil =>
    intro vs ds ps _ h _ _
    cases vs <;> cases ds <;> first | exact h | exact h.elim
  | cons t ts ih =>
    intro vs ds ps ha h hlt hs
    cases vs with
    | nil => exact h.elim
    | cons v vs =>
      cases ds with
      | nil => exact h.elim
      | cons d ds =>
        obtain ⟨p, q, h1, h2, rfl⟩ := h
        simp only [List.all_cons, Bool.and_eq_true, decide_eq_true_eq] at ha
        refine ⟨p, q, WideElems.Trod_stays hl ha.1.1 ha.1.2 h1 (fun x hx => hB.same (hlt x (by simp [hx]))) (fun x hx => hs x (by simp [hx])), ih ha.2 h2 (fun x hx => hlt x (by simp [hx])) (fun x hx => hs x (by simp [hx])), rfl⟩
theorem law_post {f : Func} {s : ChangeSpec} {W W' : World} {args : Array Value} {ds gs : List (DataW H)} {before : List MemPlace} {tb : TypeId} (hl : laidOutB P = true) (hres : f.resultTypes = #[tb]) (htb : P.underlying tb = some .bool)
    (hread : f.params.toList.all (fun t => P.readableRec t && decide (t < P.types.size)) = true) (hv : s.vars = []) (hfn : s.fn H ds = { results := [.lit (.bool true)], args := ds })
    (hW : DataW.Whole enc P f.params.toList s.vars false W args.toList ds gs before) (hB : Below W.heap.size W W') : s.post enc P f false true false false W args (.bool true) W' := by
  have hW' := hW
  obtain ⟨p, q, hA, hV, rfl, hfz, hnd⟩ := hW
  rw [hv] at hV
  obtain ⟨rfl, rfl⟩ := trodVars_none hV
  have hlt : ∀ x ∈ p, x.block < W.heap.size := fun x hx => by simpa using hW'.lt x (by simp [hx])
  refine ⟨ds, [], p ++ [], [], p, [], hW', ?_, ?_, ?_, hB.frame _, fun h => by cases h⟩
  · rw [List.append_nil, hfn, hres]
    exact trodAll_mk1 (shut_bool htb true)
  · rw [List.append_nil, hfn]
    exact trodAll_stays hl hB hread hA hlt (fun x hx => by simpa using hlt x hx)
  · rw [List.append_nil, hfn, hv]
    exact rfl
end
end Go.Eng
namespace Go.Eng.YtppflbccfdbogaaGreat
open Go.Proofs Go.RowKit Go.ChangeShapes Go.WideShapes
set_option linter.unusedVariables false
theorem own : ownKnob Tryz.prog.godebug = none := by kernel_rfl
theorem laidOut : laidOutB Tryz.prog = true := by kernel_rfl
section
variable {H : Type} {enc : TypeId × Value → H} {W : World}
theorem o3 : OpenC enc Tryz.prog W 3 [.int .i64] := openC_int Tryz.underlying3
theorem o22 : OpenC enc Tryz.prog W 22 [.int .i64, .int .i64, .int .i64, .int .i64] := openC_array (n := 4) Tryz.underlying22 o3 (by kernel_rfl) (by kernel_rfl)
theorem o23 : OpenC enc Tryz.prog W 23 [.int .i64, .int .i64, .int .i64, .int .i64, .int .i64, .int .i64, .int .i64, .int .i64, .int .i64, .int .i64, .int .i64, .int .i64, .int .i64, .int .i64, .int .i64, .int .i64] := openC_array (n := 4) Tryz.underlying23 o22 (by kernel_rfl) (by kernel_rfl)
end
end Go.Eng.YtppflbccfdbogaaGreat
namespace Go.Eng.YtppflbccfdbogaaGreat
end Go.Eng.YtppflbccfdbogaaGreat
