/-
  Contracts of functions of the program: what each returns. Their conditions stand in them.
-/
import Derived.ProofKit
import Derived.OpenShut
import Derived.LaidMore
import Derived.Stop.Joined
import Derived.Stop.LaidErr
import Derived.Lib.LaidTab
import Derived.MakeChecks
import Derived.Test.YtobnbkoeocdhbaaGreatDoorCards
import Derived.Test.YtobnbkoeocdhbaaGreatDoorTie
import Derived.Test.YtobnbkoeocdhbaaGreatDoorEe
namespace Go.Eng
open Go.RowKit Go.ChangeShapes Go.WideShapes
set_option linter.unusedVariables false
set_option linter.unusedSimpArgs false
/-- what lies there when the call begins -/
def memS (W : World) : Imm := fun b j => (rd W b j).isSome
inductive Lf where
  | int (k : IntKind)
  | str
  | ints (k : IntKind)
instance : Inhabited Lf := ⟨.str⟩
def LfOK : Lf → PV → Prop
  | .int k, p => ∃ n, p = .int k n ∧ (Lit.int k n).wf = true
  | .str, p => ∃ s, p = .str s ∧ s.size ≤ maxLen
  | .ints k, p => ∃ xs, p = .isl (.ints k xs) .none ∧ (∀ n ∈ xs, (Lit.int k n).wf = true) ∧ xs.length ≤ maxLen
def SpotOK (v : Value) : Prop := ∀ a n c, v = .slice (some a) n c → a.spot = none
theorem spot_of_cell {P : Program} {w : World} {r : Reach} {base : Nat} {t : TypeId} {v : Value} (h : Cell.okWide P w r base t v) : SpotOK v := by
  rintro a n c rfl
  unfold Cell.okWide at h
  split at h <;> try (rename_i e1 e2; cases e2)
  unfold Cell.ok at h
  split at h <;> try (rename_i e1 e2; cases e2)
  · exact h.2.2.2.1
  · exact h.elim
theorem spot_of_row {P : Program} {w : World} {r : Reach} {base : Nat} {t : TypeId} {cs : Array Value} (h : Row.okWide P w r base t cs) : ∀ i, SpotOK (cs.toList.getD i undef) := by
  obtain ⟨ts, _, _, h⟩ := h
  intro i
  rw [List.getD_eq_getElem?_getD]
  cases hv : cs.toList[i]? with
  | none => rintro a n c he; cases he
  | some v =>
    obtain ⟨u, _, hu⟩ := h i v (by simpa using hv)
    simpa using spot_of_cell hu
section
variable {H : Type} (enc : TypeId × Value → H) (P : Program) (W : World)
def OpenC (t : TypeId) (ls : List Lf) : Prop := ∀ (fuel : Nat) (cs : List Value) (x : DataW H × List MemPlace), DataW.trod enc P W 0 (fun _ => true) true fuel t cs = some x → (∀ i, SpotOK (cs.getD i undef)) →
  cs.length = ls.length ∧ ∀ i, i < ls.length → ∃ p, LfOK (ls.getD i default) p ∧ Rep (memS W) W noI p (cs.getD i undef)
def FieldsC : List Field → Nat → List (List Lf) → Prop
  | [], _, [] => True
  | f :: fs, o, l :: ls => (f.offset = o ∧ P.cellsOf f.type = l.length ∧ OpenC enc P W f.type l) ∧ FieldsC fs (o + l.length) ls
  | _, _, _ => False
end
section
variable {H : Type} {enc : TypeId × Value → H} {P : Program} {W : World}
theorem openC_int {t : TypeId} {k : IntKind} (ht : P.underlying t = some (.int k)) : OpenC enc P W t [.int k] := by
  intro fuel cs x h hs
  obtain ⟨n, rfl, _, hw⟩ := DataW.trod_int ht h
  refine ⟨rfl, fun i hi => ?_⟩
  have : i = 0 := by simp at hi; omega
  subst this
  exact ⟨.int k n, ⟨n, rfl, hw⟩, .int _ _ _⟩
theorem openC_ints {t e : TypeId} {k : IntKind} (ht : P.underlying t = some (.slice e)) (he : P.underlying e = some (.int k)) (hc : P.cellsOf e = 1) : OpenC enc P W t [.ints k] := by
  intro fuel cs x h hs
  rcases open_ints ht he hc h with ⟨rfl, _⟩ | ⟨a, len, cap, zs, rfl, _, hl, hm, hz, _, hcell, hwf⟩
  · refine ⟨rfl, fun i hi => ?_⟩
    have : i = 0 := by simp at hi; omega
    subst this
    exact ⟨.isl (.ints k []) .none, ⟨[], rfl, by simp, by simp⟩, .islnil _ _ _ rfl⟩
  · refine ⟨rfl, fun i hi => ?_⟩
    have : i = 0 := by simp at hi; omega
    subst this
    have hsp : a.spot = none := hs 0 a len cap rfl
    obtain ⟨b, off, spot⟩ := a
    simp only at hsp
    subst hsp
    simp only [ite_true] at hz
    have hcell' : ∀ i, i < cap → rd W b (off + i) = some (.int k (zs.getD i 0)) := fun i hi => by
      have := hcell i (by omega)
      rw [add_none, cell?_eq] at this
      exact this
    refine ⟨.isl (.ints k (zs.take len)) .none, ⟨_, rfl, fun n hn => hwf n (List.mem_of_mem_take hn), by simp; omega⟩, ?_⟩
    have hlen : (CL.ints k (zs.take len)).cnt = len := by simp [CL.cnt]; omega
    have hrep := Rep.isl (S := memS W) (w := W) noI (.ints k (zs.take len)) .none b off cap (by rw [hlen]; exact hl)
      (fun j hj => by
        have hj' : j < len := by simp only [CL.ncell, List.length_take] at hj; omega
        show (rd W b (off + j)).isSome; rw [hcell' j (by omega)]; rfl)
      (fun j hj => by
        have hj' : j < len := by simp only [CL.ncell, List.length_take] at hj; omega
        have e1 : rdv W b (off + j) = .int k (zs.getD j 0) := by unfold rdv; rw [hcell' j (by omega)]; rfl
        have e2 : (zs.take len).getD j 0 = zs.getD j 0 := by simp only [List.getD_eq_getElem?_getD, List.getElem?_take_of_lt hj']
        rw [e1]
        show Rep (memS W) W noI (.int k ((zs.take len).getD j 0)) _
        rw [e2]; exact .int _ _ _)
      (fun e => by cases e) (fun k e => by cases e)
    rw [hlen] at hrep
    simpa using hrep
theorem getD_flat0 {l : List Lf} {ls : List (List Lf)} {i : Nat} (h : i < l.length) : (l ++ ls.flatten).getD i default = l.getD i default := by
  simp only [List.getD_eq_getElem?_getD, List.getElem?_append_left h]
theorem fieldsC_get : ∀ {fs : List Field} {o : Nat} {lss : List (List Lf)}, FieldsC enc P W fs o lss → ∀ i, i < lss.flatten.length →
    ∃ (k : Nat) (f : Field) (l : List Lf) (j : Nat), fs[k]? = some f ∧ f.offset + j = o + i ∧ P.cellsOf f.type = l.length ∧ OpenC enc P W f.type l ∧ j < l.length ∧ l.getD j default = lss.flatten.getD i default := by
  intro fs
  induction fs with
  | nil =>
    intro o lss h i hi
    cases lss with
    | nil => simp at hi
    | cons l ls => exact h.elim
  | cons f fs ih =>
    intro o lss h i hi
    cases lss with
    | nil => exact h.elim
    | cons l ls =>
      obtain ⟨⟨h1, h2, h3⟩, h4⟩ := h
      rw [List.flatten_cons, List.length_append] at hi
      by_cases hl : i < l.length
      · exact ⟨0, f, l, i, rfl, by omega, h2, h3, hl, by rw [List.flatten_cons, getD_flat0 hl]⟩
      · obtain ⟨k, f', l', j, a1, a2, a3, a4, a5, a6⟩ := ih h4 (i - l.length) (by omega)
        refine ⟨k + 1, f', l', j, a1, by omega, a3, a4, a5, ?_⟩
        rw [a6, List.flatten_cons]
        simp only [List.getD_eq_getElem?_getD, List.getElem?_append_right (by omega : l.length ≤ i)]
theorem getD_part {cs : List Value} {o n j : Nat} (h : j < n) : ((cs.drop o).take n).getD j undef = cs.getD (o + j) undef := by
  simp only [List.getD_eq_getElem?_getD, List.getElem?_take_of_lt h, List.getElem?_drop]
theorem part_spot {cs : List Value} (hs : ∀ i, SpotOK (cs.getD i undef)) (o n : Nat) : ∀ i, SpotOK (((cs.drop o).take n).getD i undef) := by
  intro i
  by_cases h : i < n
  · rw [getD_part h]; exact hs _
  · have : ((cs.drop o).take n).getD i undef = undef := by
      rw [List.getD_eq_getElem?_getD, List.getElem?_eq_none (by simp; omega)]; rfl
    rw [this]; rintro a n c he; cases he
theorem openC_struct {t : TypeId} {fs : Array Field} {lss : List (List Lf)} (ht : P.underlying t = some (.struct fs)) (hF : FieldsC enc P W fs.toList 0 lss) (hc : P.cellsOf t = lss.flatten.length) : OpenC enc P W t lss.flatten := by
  intro fuel cs x h hs
  obtain ⟨xs, n, _, _, hl, hlen, hf⟩ := DataW.trod_struct ht h
  refine ⟨by rw [hl, hc], fun i hi => ?_⟩
  obtain ⟨k, f, l, j, a1, a2, a3, a4, a5, a6⟩ := fieldsC_get hF i hi
  have hfk : fs[k]? = some f := by simpa using a1
  have hk : k < xs.length := by rw [hlen]; exact (Array.getElem?_eq_some_iff.1 hfk).1
  have h1 := hf k f hfk
  rw [List.getElem?_eq_getElem hk] at h1
  obtain ⟨_, h2⟩ := a4 _ _ _ h1 (part_spot hs _ _)
  obtain ⟨p, hp, hr⟩ := h2 j a5
  rw [getD_part (by omega)] at hr
  rw [a6] at hp
  have : f.offset + j = i := by omega
  rw [this] at hr
  exact ⟨p, hp, hr⟩
/-! an argument -/
theorem list_of {Q : Nat → PV → Prop} : ∀ (n : Nat) (Q : Nat → PV → Prop), (∀ i, i < n → ∃ p, Q i p) → ∃ ps : List PV, ps.length = n ∧ ∀ i, i < n → Q i (getL ps i) := by
  intro n
  induction n with
  | zero => intro Q _; exact ⟨[], rfl, fun i hi => by omega⟩
  | succ n ih =>
    intro Q h
    obtain ⟨p, hp⟩ := h 0 (by omega)
    obtain ⟨ps, h1, h2⟩ := ih (fun i => Q (i + 1)) (fun i hi => h (i + 1) (by omega))
    refine ⟨p :: ps, by simp [h1], fun i hi => ?_⟩
    cases i with
    | zero => exact hp
    | succ i => exact h2 i (by omega)
theorem open_agg {t : TypeId} {ls : List Lf} {v : Value} {d : DataW H} {qs : List MemPlace} {r : Reach} {base : Nat} (ht : (∃ fs, P.underlying t = some (.struct fs)) ∨ ∃ n e, P.underlying t = some (.array n e)) (hO : OpenC enc P W t ls) (hval : Value.okWide P W r base t v) (hd : DataW.Trod enc P W 0 (fun _ => true) true t v d qs) :
    ∃ ps : List PV, ps.length = ls.length ∧ (∀ i, i < ls.length → LfOK (ls.getD i default) (getL ps i)) ∧ Rep (memS W) W noI (.agg ps) v := by
  have hv : ∃ cs, v = .agg cs ∧ Row.okWide P W r base t cs := by
    unfold Value.okWide at hval
    rcases ht with ⟨fs, ht⟩ | ⟨n, e, ht⟩ <;> rw [ht] at hval <;> exact ⟨hval.choose, hval.choose_spec.1, hval.choose_spec.2.2⟩
  obtain ⟨cs, rfl, hrow⟩ := hv
  obtain ⟨fuel, hf⟩ := hd
  have hcells : (Value.agg cs).cells.toList = cs.toList := rfl
  rw [hcells] at hf
  obtain ⟨h1, h2⟩ := hO _ _ _ hf (spot_of_row hrow)
  obtain ⟨ps, p1, p2⟩ := list_of (Q := fun _ _ => True) ls.length _ h2
  refine ⟨ps, p1, fun i hi => (p2 i hi).1, .agg _ _ _ (by rw [p1, ← h1]; simp) fun i hi => ?_⟩
  have := (p2 i (by omega)).2
  simpa [Array.getD_eq_getD_getElem?, List.getD_eq_getElem?_getD] using this
end
/-- a contract of a law as the rows want it -/
theorem below_of {P : Program} {g : FuncId} {args : List PV} {vs : Array Value} {W : World} (h : PSpec P g args (.bp true)) (hr : RepA (memS W) W noI args vs) (hg : gB (memS W) W) :
    Calls P g vs W fun e w' => e = .returned (.bool true) ∧ Below W.heap.size W w' := by
  have := (h.2 (memS W) W vs hg (fun _ _ h => h) hr)
  refine callsIn_wide.1 (CallsIn.mono (F := Fw none) this ?_)
  rintro e w' ⟨val, S', rfl, o⟩
  have hv := o.rep
  exact ⟨by cases hv; rfl, ⟨o.below.os, o.below.tape, o.below.output, o.below.size, o.same⟩⟩
section
variable {H : Type} {enc : TypeId × Value → H} {P : Program}
theorem trodAll_stays (hl : laidOutB P = true) {W W' : World} {sp : Nat → Bool} (hB : Below W.heap.size W W') : ∀ {ts : List TypeId} {vs : List Value} {ds : List (DataW H)} {ps : List MemPlace}, ts.all (fun t => P.readableRec t && decide (t < P.types.size)) = true →
    DataW.TrodAll enc P W 0 (fun _ => true) true ts vs ds ps → (∀ x ∈ ps, x.block < W.heap.size) → (∀ x ∈ ps, sp x.block = true) → DataW.TrodAll enc P W' 0 sp true ts vs ds ps := by
  intro ts
  induction ts with
  | nil =>
    intro vs ds ps _ h _ _
    cases vs <;> cases ds <;> first | exact h | exact h.elim
  | cons t ts ih =>
    intro vs ds ps ha h hlt hs
    cases vs with
    | nil => exact h.elim
    | cons v vs =>
      cases ds with
      | nil => exact h.elim
      | cons d ds =>
        obtain ⟨p, q, h1, h2, rfl⟩ := h
        simp only [List.all_cons, Bool.and_eq_true, decide_eq_true_eq] at ha
        refine ⟨p, q, WideElems.Trod_stays hl ha.1.1 ha.1.2 h1 (fun x hx => hB.same (hlt x (by simp [hx]))) (fun x hx => hs x (by simp [hx])), ih ha.2 h2 (fun x hx => hlt x (by simp [hx])) (fun x hx => hs x (by simp [hx])), rfl⟩
theorem law_post {f : Func} {s : ChangeSpec} {W W' : World} {args : Array Value} {ds gs : List (DataW H)} {before : List MemPlace} {tb : TypeId} (hl : laidOutB P = true) (hres : f.resultTypes = #[tb]) (htb : P.underlying tb = some .bool)
    (hread : f.params.toList.all (fun t => P.readableRec t && decide (t < P.types.size)) = true) (hv : s.vars = []) (hfn : s.fn H ds = { results := [.lit (.bool true)], args := ds })
    (hW : DataW.Whole enc P f.params.toList s.vars false W args.toList ds gs before) (hB : Below W.heap.size W W') : s.post enc P f false true false false W args (.bool true) W' := by
  have hW' := hW
  obtain ⟨p, q, hA, hV, rfl, hfz, hnd⟩ := hW
  rw [hv] at hV
  obtain ⟨rfl, rfl⟩ := trodVars_none hV
  have hlt : ∀ x ∈ p, x.block < W.heap.size := fun x hx => by simpa using hW'.lt x (by simp [hx])
  refine ⟨ds, [], p ++ [], [], p, [], hW', ?_, ?_, ?_, hB.frame _, fun h => by cases h⟩
  · rw [List.append_nil, hfn, hres]
    exact trodAll_mk1 (shut_bool htb true)
  · rw [List.append_nil, hfn]
    exact trodAll_stays hl hB hread hA hlt (fun x hx => by simpa using hlt x hx)
  · rw [List.append_nil, hfn, hv]
    exact rfl
end
end Go.Eng
namespace Go.Eng.YtobnbkoeocdhbaaGreatDoor
open Go.Proofs Go.Proofs.YtobnbkoeocdhbaaGreatDoor Go.RowKit Go.ChangeShapes Go.WideShapes
set_option linter.unusedVariables false
theorem own : ownKnob Tryz.prog.godebug = none := by kernel_rfl
theorem laidOut : laidOutB Tryz.prog = true := by kernel_rfl
abbrev laidL : List (String × DataW Unit) := [("math/bits.deBruijn32tab", Rows.laid_math_bits_deBruijn32tab), ("math/bits.deBruijn64tab", Rows.laid_math_bits_deBruijn64tab), ("internal/strconv.uint64pow10", Rows.laid_internal_strconv_uint64pow10)]
/-- the heap that the program's own start leaves holds what is listed -/
theorem door_met (os : Os) (args : Array Value) : laidMetH Tryz.prog laidL ((World.doorLaid Tryz.prog 600 os).forCall (fun _ _ => 0) ⟨#[], args, []⟩).memory :=
  laidMetH_of_parts3 (fuel := 8) (laidMet_of_run' 8 (by kernel_rfl) (by kernel_rfl)) (by kernel_rfl) (by kernel_rfl)
theorem gB_tab {W : World} {name : String} {k : IntKind} {zs : List Int} {g : Nat} (hg : Tryz.prog.globalNamed name = some g) (h : Lib.TabIs Tryz.prog W name k zs) :
    bsz W g = some (CL.ints k zs).ncell ∧ ∀ j, j < (CL.ints k zs).ncell → memS W g j ∧ Rep (memS W) W noI ((CL.ints k zs).get j) (rdv W g j) := by
  unfold Lib.TabIs World.var? at h
  rw [hg, Option.bind_some] at h
  split at h
  · rename_i cs e f hb
    have h := Option.some.inj h
    subst h
    refine ⟨by simp [bsz, hb, CL.ncell], fun j hj => ?_⟩
    simp only [CL.ncell] at hj
    have hr : rd W g j = some (.int k (zs.getD j 0)) := by simp [rd, hb, hj]
    refine ⟨by show (rd W g j).isSome = true; rw [hr]; rfl, ?_⟩
    have : rdv W g j = .int k (zs.getD j 0) := by unfold rdv; rw [hr]; rfl
    rw [this]
    exact .int _ _ _
  · cases h
/-- what is listed lies where nobody writes -/
theorem laid_gB {W : World} (h : laidMetH Tryz.prog laidL W) : gB (memS W) W := by
  rw [Go.MakeChecks.laidMetH_plain _ _ _ (by rfl)] at h
  have t2 : Lib.TabIs Tryz.prog W "math/bits.deBruijn32tab" .u8 tabB32 := Lib.tabIs_of_head (k := .u8) (zs := tabB32) (g := 2) (t := 244) (e := 5) (n := 32) (by kernel_rfl) (by kernel_rfl) (by kernel_rfl) (by kernel_rfl) (by kernel_rfl) (by kernel_rfl) h
  have t3 : Lib.TabIs Tryz.prog W "math/bits.deBruijn64tab" .u8 tabB64 := Lib.tabIs_of_head (k := .u8) (zs := tabB64) (g := 3) (t := 245) (e := 5) (n := 64) (by kernel_rfl) (by kernel_rfl) (by kernel_rfl) (by kernel_rfl) (by kernel_rfl) (by kernel_rfl) h.tail
  have t0 : Lib.TabIs Tryz.prog W "internal/strconv.uint64pow10" .u64 tabP10 := Lib.tabIs_of_head (k := .u64) (zs := tabP10) (g := 0) (t := 242) (e := 189) (n := 20) (by kernel_rfl) (by kernel_rfl) (by kernel_rfl) (by kernel_rfl) (by kernel_rfl) (by kernel_rfl) h.tail.tail
  intro g c hc
  unfold globT at hc
  split at hc
  · cases hc; exact gB_tab (by kernel_rfl) t0
  · cases hc; exact gB_tab (by kernel_rfl) t2
  · cases hc; exact gB_tab (by kernel_rfl) t3
  · cases hc
section
variable {H : Type} {enc : TypeId × Value → H} {W : World}
theorem o3 : OpenC enc Tryz.prog W 3 [.int .i64] := openC_int Tryz.underlying3
theorem o22 : OpenC enc Tryz.prog W 22 [.ints .i64] := openC_ints Tryz.underlying22 Tryz.underlying3 (by kernel_rfl)
theorem o24 : OpenC enc Tryz.prog W 24 [.int .i64, .int .i64, .ints .i64] :=
  openC_struct (lss := [[.int .i64], [.int .i64], [.ints .i64]]) Tryz.underlying24 ⟨⟨rfl, by kernel_rfl, o3⟩, ⟨rfl, by kernel_rfl, o3⟩, ⟨rfl, by kernel_rfl, o22⟩, trivial⟩ (by kernel_rfl)
end
end Go.Eng.YtobnbkoeocdhbaaGreatDoor
namespace Go.Eng.YtobnbkoeocdhbaaGreatDoor
open Go.Proofs
set_option linter.unusedVariables false
set_option linter.unusedSimpArgs false
theorem te3b : te3.bytes = 8 := by rfl
theorem te4b : te4.bytes = 1 := by rfl
theorem te3s : te3.size = 1 := by rfl
theorem te4s : te4.size = 1 := by rfl
theorem vp : (∀ n : Nat, ((n : Int)).toNat = n) ∧ te3.bytes = 8 ∧ te4.bytes = 1 ∧ te3.size = 1 ∧ te4.size = 1 ∧ (∀ n : Nat, n * 1 = n) ∧ (∀ n : Nat, 0 + n = n) ∧ ((false = true) = False) ∧ ((true = false) = False) :=
  ⟨Int.toNat_natCast, te3b, te4b, te3s, te4s, Nat.mul_one, Nat.zero_add, by simp, by simp⟩
theorem vq : (∀ (p : Prop) [Decidable p], (decide p = true) = p) ∧ (∀ (p : Prop) [Decidable p], (decide p = false) = ¬ p) ∧ (∀ b : Bool, (¬ b = true) = (b = false)) ∧ ((!false) = true) ∧ ((!true) = false) ∧ (∀ p : Prop, (p ∧ p) = p) ∧ (∀ p : Prop, (p ∧ True) = p) ∧ (∀ p : Prop, (True ∧ p) = p) ∧ (∀ (α : Type) (a : α) (l : List α), (a :: l).length = l.length + 1) ∧ (∀ α : Type, ([] : List α).length = 0) ∧ (∀ n : Nat, ((n : Int)).toNat = n) ∧ te3.bytes = 8 ∧ te4.bytes = 1 ∧ te3.size = 1 ∧ te4.size = 1 ∧ (∀ n : Nat, n * 1 = n) ∧ (∀ n : Nat, 0 + n = n) ∧ ((false = true) = False) ∧ ((true = false) = False) :=
  ⟨fun p _ => decide_eq_true_eq, fun p _ => propext decide_eq_false_iff_not, fun b => by simp, rfl, rfl, and_self, and_true, true_and, fun _ _ _ => rfl, fun _ => rfl, vp⟩
/-! when, checkOrder, first -/
def whenP : PSp := fun xs K => match xs with
  | [.bp h, .int .i64 e] => K (.int .i64 (if h then e else 0))
  | [.bool h, .int .i64 e] => K (.int .i64 (if h then e else 0))
  | _ => False
theorem when_spec (h : Bool) (e : Int) : PSpec Tryz.prog 32 [.bp h, .int .i64 e] (.int .i64 (if h then e else 0)) := by
  refine pspec_of (md := 1) (rf := []) mixed tabOK noC_ok Tryz.func32 (by rfl) (by rfl) (by rfl) ?_
  repeat' ((conv => whnf); first | refine And.intro ?_ ?_ | with_reducible exact VC.mk rfl | exact Ok.mk | exact True.intro | refine Nx.mk ?_ | refine Fin.mk ?_ | intro _)
  all_goals (first | (refine Sup.of ?_; first | rfl | (simp [*, resOf]; done)) | (refine Sup.via ?_; repeat' ((conv => whnf); first | refine And.intro ?_ ?_ | with_reducible exact VC.mk rfl | exact Ok.mk | exact True.intro | refine Nx.mk ?_ | refine Fin.mk ?_ | intro _); all_goals ((try refine VC.mk ?_); (try simp only [CL.ncell, CL.cnt, vq] at *); (try omega)); all_goals (try (simp [CL.sub]; done))))
theorem when_spec' (h : Bool) (e : Int) : PSpec Tryz.prog 32 [.bool h, .int .i64 e] (.int .i64 (if h then e else 0)) := by
  cases h
  all_goals
  refine pspec_of (md := 1) (rf := []) mixed tabOK noC_ok Tryz.func32 (by rfl) (by rfl) (by rfl) ?_
  repeat' ((conv => whnf); first | refine And.intro ?_ ?_ | with_reducible exact VC.mk rfl | exact Ok.mk | exact True.intro | refine Nx.mk ?_ | refine Fin.mk ?_ | intro _)
  all_goals (first | (refine Sup.of ?_; first | rfl | (simp [*, resOf]; done)) | (refine Sup.via ?_; repeat' ((conv => whnf); first | refine And.intro ?_ ?_ | with_reducible exact VC.mk rfl | exact Ok.mk | exact True.intro | refine Nx.mk ?_ | refine Fin.mk ?_ | intro _); all_goals ((try refine VC.mk ?_); (try simp only [CL.ncell, CL.cnt, vq] at *); (try omega)); all_goals (try (simp [CL.sub]; done))))
theorem when_ok : POK Tryz.prog 32 whenP := by
  intro xs K h
  unfold whenP at h
  split at h
  · exact ⟨_, h, when_spec _ _⟩
  · exact ⟨_, h, when_spec' _ _⟩
  · exact h.elim
noncomputable def cp1 : CPT := cpAdd 32 (pureCC whenP) noC
theorem cp1_ok : CPOK Tryz.prog cp1 := cpAdd_ok (pureCC_ok when_ok) noC_ok
theorem checkOrder_spec (n : Int) : PSpec Tryz.prog 82 [.int .i64 n] (.int .i64 (if n < 1 ∨ 16 < n then 3 else 0)) := by
  refine pspec_of (md := 1) (rf := []) mixed tabOK cp1_ok Tryz.func82 (by rfl) (by rfl) (by rfl) ?_
  repeat' ((conv => whnf); first | refine And.intro ?_ ?_ | with_reducible exact VC.mk rfl | exact Ok.mk | exact True.intro | refine Nx.mk ?_ | refine Fin.mk ?_ | intro _)
  all_goals refine Sup.of ?_
  all_goals simp_all [resOf]
  all_goals (split <;> split <;> omega)
def checkOrderP : PSp := fun xs K => match xs with
  | [.int .i64 n] => K (.int .i64 (if n < 1 ∨ 16 < n then 3 else 0))
  | _ => False
theorem checkOrder_ok : POK Tryz.prog 82 checkOrderP := by
  intro xs K h
  unfold checkOrderP at h
  split at h
  · exact ⟨_, h, checkOrder_spec _⟩
  · exact h.elim
/-- the first number that is not 0 -/
def firstOf : List Int → Int
  | [] => 0
  | x :: r => if x = 0 then firstOf r else x
theorem firstOf_zero : ∀ (l : List Int), (∀ i, i < l.length → l.getD i 0 = 0) → firstOf l = 0 := by
  intro l
  induction l with
  | nil => intro _; rfl
  | cons x r ih =>
    intro h
    have h0 := h 0 (by simp)
    simp at h0
    subst h0
    exact ih fun i hi => by simpa using h (i + 1) (by simpa using hi)
theorem firstOf_at : ∀ (l : List Int) (k : Nat), k < l.length → (∀ i, i < k → l.getD i 0 = 0) → l.getD k 0 ≠ 0 → firstOf l = l.getD k 0 := by
  intro l
  induction l with
  | nil => intro k hk; simp at hk
  | cons x r ih =>
    intro k hk h hne
    cases k with
    | zero => simp at hne; simp [firstOf, hne]
    | succ k =>
      have h0 := h 0 (by omega)
      simp at h0
      subst h0
      have := ih k (by simpa using hk) (fun i hi => by simpa using h (i + 1) (by omega)) (by simpa using hne)
      simp [firstOf, this]
theorem first_spec (l : List Int) (hl : l.length < 1000000) : PSpec Tryz.prog 30 [.isl (.ints .i64 l) .none] (.int .i64 (firstOf l)) := by
  refine pspec_of (md := 1) (rf := []) mixed tabOK noC_ok Tryz.func30 (by rfl) (by rfl) (by rfl) ?_
  repeat' ((conv => whnf); first | refine And.intro ?_ ?_ | with_reducible exact VC.mk rfl | exact Ok.mk | exact True.intro | refine Nx.mk ?_ | refine Fin.mk ?_ | intro _)
  conv => whnf
  refine loop_of (X := Nat) (fun i => i ≤ l.length ∧ ∀ j, j < i → l.getD j 0 = 0) (fun i => [(7, .int .i64 i)]) (fun _ => []) (fun i => l.length - i) 0 ⟨anyB_ok, mixed, tabOK, noC_ok, noY_ok⟩ (by rfl) ⟨by omega, fun j hj => by omega⟩ ?_ ?_
  · repeat' ((conv => whnf); first | refine And.intro ?_ ?_ | with_reducible exact VC.mk rfl | exact Ok.mk | exact True.intro | refine Nx.mk ?_ | refine Fin.mk ?_ | intro _)
    all_goals ((try refine VC.mk ?_); (try simp only [CL.ncell, CL.cnt, vq] at *); (try omega))
  · intro i hi
    obtain ⟨hi, hz⟩ := hi
    repeat' ((conv => whnf); first | refine And.intro ?_ ?_ | with_reducible exact VC.mk rfl | exact Ok.mk | exact True.intro | refine Nx.mk ?_ | refine Fin.mk ?_ | intro _)
    all_goals ((try refine VC.mk ?_); (try simp only [CL.ncell, CL.cnt, vq] at *); (try omega))
    · rename_i hne
      have := firstOf_at l i (by omega) hz (by simpa using hne)
      rw [this]; exact Sup.of rfl
    · rename_i hne
      have hne : l.getD i 0 = 0 := by simpa using hne
      refine ⟨i + 1, [], ⟨⟨by omega, fun j hj => ?_⟩, by omega⟩, ?_⟩
      · by_cases e : j = i
        · subst e; exact hne
        · exact hz j (by omega)
      · repeat' ((conv => whnf); first | refine And.intro ?_ ?_ | with_reducible exact VC.mk rfl | exact Ok.mk | exact True.intro | refine Nx.mk ?_ | refine Fin.mk ?_ | intro _)
        all_goals ((try refine VC.mk ?_); (try simp only [CL.ncell, CL.cnt, vq] at *); (try omega))
    · have : i = l.length := by omega
      subst this
      rw [firstOf_zero l hz]; exact Sup.of rfl
def firstP : PSp := fun xs K => match xs with
  | [.isl (.ints .i64 l) .none] => VC (l.length < 1000000) ∧ K (.int .i64 (firstOf l))
  | [.nils] => K (.int .i64 0)
  | _ => False
theorem first_nil : PSpec Tryz.prog 30 [.nils] (.int .i64 0) := by
  refine pspec_of (md := 1) (rf := []) mixed tabOK noC_ok Tryz.func30 (by rfl) (by rfl) (by rfl) ?_
  repeat' ((conv => whnf); first | refine And.intro ?_ ?_ | with_reducible exact VC.mk rfl | exact Ok.mk | exact True.intro | refine Nx.mk ?_ | refine Fin.mk ?_ | intro _)
  conv => whnf
  refine loop_of (X := Unit) (fun _ => True) (fun _ => [(7, .int .i64 0)]) (fun _ => []) (fun _ => 0) () ⟨anyB_ok, mixed, tabOK, noC_ok, noY_ok⟩ (by rfl) trivial ?_ ?_
  · repeat' ((conv => whnf); first | refine And.intro ?_ ?_ | with_reducible exact VC.mk rfl | exact Ok.mk | exact True.intro | refine Nx.mk ?_ | refine Fin.mk ?_ | intro _)
    all_goals ((try refine VC.mk ?_); (try simp only [CL.ncell, CL.cnt, vq] at *); (try omega))
  · intro i hi
    repeat' ((conv => whnf); first | refine And.intro ?_ ?_ | with_reducible exact VC.mk rfl | exact Ok.mk | exact True.intro | refine Nx.mk ?_ | refine Fin.mk ?_ | intro _)
    all_goals ((try refine VC.mk ?_); (try simp only [CL.ncell, CL.cnt, vq] at *); (try omega))
    all_goals (first | (refine Sup.of ?_; first | rfl | (simp [*, resOf]; done)) | (refine Sup.via ?_; repeat' ((conv => whnf); first | refine And.intro ?_ ?_ | with_reducible exact VC.mk rfl | exact Ok.mk | exact True.intro | refine Nx.mk ?_ | refine Fin.mk ?_ | intro _); all_goals ((try refine VC.mk ?_); (try simp only [CL.ncell, CL.cnt, vq] at *); (try omega)); all_goals (try (simp [CL.sub]; done))))
theorem first_ok : POK Tryz.prog 30 firstP := by
  intro xs K h
  unfold firstP at h
  split at h
  · exact ⟨_, h.2, first_spec _ h.1.get⟩
  · exact ⟨_, h, first_nil⟩
  · exact h.elim
noncomputable def cp2 : CPT := cpAdd 30 (pureCC firstP) (cpAdd 82 (pureCC checkOrderP) cp1)
theorem cp2_ok : CPOK Tryz.prog cp2 := cpAdd_ok (pureCC_ok first_ok) (cpAdd_ok (pureCC_ok checkOrder_ok) cp1_ok)
end Go.Eng.YtobnbkoeocdhbaaGreatDoor
namespace Go.Eng.YtobnbkoeocdhbaaGreatDoor
open Go.Proofs
set_option maxRecDepth 100000
set_option linter.unusedVariables false
set_option linter.unusedSimpArgs false
theorem mod_eq (a n : Int) (hn : 0 < n) : (a.tmod n + n).tmod n = a % n := by
  have h1 : -n < a.tmod n := by have := Int.lt_tmod_of_pos a hn; omega
  have h2 : a.tmod n < n := Int.tmod_lt_of_pos a hn
  rw [Int.tmod_eq_emod_of_nonneg (by omega), Int.add_emod_right, Int.tmod_def, Int.sub_mul_emod_self_left]
theorem mod_spec (a n : Int) (ha : -4611686018427387904 ≤ a ∧ a ≤ 4611686018427387904) (hn : 0 < n ∧ n ≤ 1000000) : PSpec Tryz.prog 62 [.int .i64 a, .int .i64 n] (.int .i64 (a % n)) := by
  have h1 : -n < a.tmod n := by have := Int.lt_tmod_of_pos a hn.1; omega
  have h2 : a.tmod n < n := Int.tmod_lt_of_pos a hn.1
  refine pspec_of (md := 1) (rf := []) mixed tabOK noC_ok Tryz.func62 (by rfl) (by rfl) (by rfl) ?_
  repeat' ((conv => whnf); first | refine And.intro ?_ ?_ | with_reducible exact VC.mk rfl | exact Ok.mk | exact True.intro | refine Nx.mk ?_ | refine Fin.mk ?_ | intro _)
  all_goals ((try refine VC.mk ?_); (try simp only [CL.ncell, CL.cnt, vq] at *); (try omega))
  rw [← mod_eq a n hn.1]; exact Sup.of rfl
def modP : PSp := fun xs K => match xs with
  | [.int .i64 a, .int .i64 n] => VC ((-4611686018427387904 ≤ a ∧ a ≤ 4611686018427387904) ∧ 0 < n ∧ n ≤ 1000000) ∧ K (.int .i64 (a % n))
  | _ => False
theorem mod_ok : POK Tryz.prog 62 modP := by
  intro xs K h
  unfold modP at h
  split at h
  · exact ⟨_, h.2, mod_spec _ _ h.1.get.1 h.1.get.2⟩
  · exact h.elim
noncomputable def cp3 : CPT := cpAdd 62 (pureCC modP) cp2
theorem cp3_ok : CPOK Tryz.prog cp3 := cpAdd_ok (pureCC_ok mod_ok) cp2_ok
theorem reduced_spec (n s0 s1 x0 x1 b0 b1 : Int) (hn : 0 < n ∧ n ≤ 1000000) (h : ∀ x ∈ [s0, s1, x0, x1, b0, b1], -4611686018427387904 ≤ x ∧ x ≤ 4611686018427387904) :
    PSpec Tryz.prog 41 [.agg [.int .i64 n, .int .i64 s0, .int .i64 s1, .int .i64 x0, .int .i64 x1, .int .i64 b0, .int .i64 b1]]
      (.agg [.int .i64 n, .int .i64 (s0 % n), .int .i64 (s1 % n), .int .i64 (x0 % n), .int .i64 (x1 % n), .int .i64 (b0 % n), .int .i64 (b1 % n)]) := by
  simp only [List.mem_cons, List.not_mem_nil, or_false, forall_eq_or_imp, forall_eq] at h
  obtain ⟨h1, h2, h3, h4, h5, h6⟩ := h
  refine pspec_of (md := 1) (rf := []) mixed tabOK cp3_ok Tryz.func41 (by rfl) (by rfl) (by rfl) ?_
  repeat' ((conv => whnf); first | refine And.intro ?_ ?_ | with_reducible exact VC.mk rfl | exact Ok.mk | exact True.intro | refine Nx.mk ?_ | refine Fin.mk ?_ | intro _)
  conv => whnf
  refine loop_rounds 3 (rounds_succ ⟨anyB_ok, mixed, tabOK, cp3_ok, noY_ok⟩ (by rfl) ?_)
  repeat' ((conv => whnf); first | refine And.intro ?_ ?_ | with_reducible exact VC.mk rfl | exact Ok.mk | exact True.intro | refine Nx.mk ?_ | refine Fin.mk ?_ | intro _)
  all_goals ((try refine VC.mk ?_); (try simp only [CL.ncell, CL.cnt, vq] at *); (try omega))
  conv => whnf
  refine rounds_succ ⟨anyB_ok, mixed, tabOK, cp3_ok, noY_ok⟩ (by rfl) ?_
  repeat' ((conv => whnf); first | refine And.intro ?_ ?_ | with_reducible exact VC.mk rfl | exact Ok.mk | exact True.intro | refine Nx.mk ?_ | refine Fin.mk ?_ | intro _)
  all_goals ((try refine VC.mk ?_); (try simp only [CL.ncell, CL.cnt, vq] at *); (try omega))
  conv => whnf
  refine rounds_succ ⟨anyB_ok, mixed, tabOK, cp3_ok, noY_ok⟩ (by rfl) ?_
  repeat' ((conv => whnf); first | refine And.intro ?_ ?_ | with_reducible exact VC.mk rfl | exact Ok.mk | exact True.intro | refine Nx.mk ?_ | refine Fin.mk ?_ | intro _)
  all_goals ((try refine VC.mk ?_); (try simp only [CL.ncell, CL.cnt, vq] at *); (try omega))
  all_goals (first | (refine Sup.of ?_; first | rfl | (simp [*, resOf]; done)) | (refine Sup.via ?_; repeat' ((conv => whnf); first | refine And.intro ?_ ?_ | with_reducible exact VC.mk rfl | exact Ok.mk | exact True.intro | refine Nx.mk ?_ | refine Fin.mk ?_ | intro _); all_goals ((try refine VC.mk ?_); (try simp only [CL.ncell, CL.cnt, vq] at *); (try omega)); all_goals (try (simp [CL.sub]; done))))
def reducedP : PSp := fun xs K => match xs with
  | [.agg [.int .i64 n, .int .i64 s0, .int .i64 s1, .int .i64 x0, .int .i64 x1, .int .i64 b0, .int .i64 b1]] =>
    VC ((0 < n ∧ n ≤ 1000000) ∧ ∀ x ∈ [s0, s1, x0, x1, b0, b1], -4611686018427387904 ≤ x ∧ x ≤ 4611686018427387904) ∧
      K (.agg [.int .i64 n, .int .i64 (s0 % n), .int .i64 (s1 % n), .int .i64 (x0 % n), .int .i64 (x1 % n), .int .i64 (b0 % n), .int .i64 (b1 % n)])
  | _ => False
theorem reduced_ok : POK Tryz.prog 41 reducedP := by
  intro xs K h
  unfold reducedP at h
  split at h
  · exact ⟨_, h.2, reduced_spec _ _ _ _ _ _ _ h.1.get.1 h.1.get.2⟩
  · exact h.elim
/-- the cell of a number -/
def cellOf (n s0 s1 x0 x1 b0 b1 k : Int) : Int := ((s0 + (k - 1) % n * x0 + (k - 1) / n * b0) % n) * n + (s1 + (k - 1) % n * x1 + (k - 1) / n * b1) % n
theorem cell_spec (n s0 s1 x0 x1 b0 b1 k : Int) (hn : 0 < n ∧ n ≤ 1000) (hk : 1 ≤ k ∧ k ≤ 1000000) (h : ∀ x ∈ [s0, s1, x0, x1, b0, b1], 0 ≤ x ∧ x < n) :
    PSpec Tryz.prog 83 [.agg [.int .i64 n, .int .i64 s0, .int .i64 s1, .int .i64 x0, .int .i64 x1, .int .i64 b0, .int .i64 b1], .int .i64 k] (.int .i64 (cellOf n s0 s1 x0 x1 b0 b1 k)) := by
  simp only [List.mem_cons, List.not_mem_nil, or_false, forall_eq_or_imp, forall_eq] at h
  obtain ⟨h1, h2, h3, h4, h5, h6⟩ := h
  have ha : 0 ≤ (k - 1) % n ∧ (k - 1) % n < n := ⟨Int.emod_nonneg _ (by omega), Int.emod_lt_of_pos _ hn.1⟩
  have hb : 0 ≤ (k - 1) / n ∧ (k - 1) / n < 1000000 := ⟨Int.ediv_nonneg (by omega) (by omega), by
    have := Int.ediv_le_self (a := k - 1) n (by omega); omega⟩
  have m : ∀ x, 0 ≤ x ∧ x < n → (0 ≤ (k - 1) % n * x ∧ (k - 1) % n * x ≤ 1000000) ∧ (0 ≤ (k - 1) / n * x ∧ (k - 1) / n * x ≤ 1000000000) := fun x hx =>
    ⟨⟨Int.mul_nonneg ha.1 hx.1, by have := Int.mul_le_mul (Int.le_of_lt ha.2) (Int.le_of_lt hx.2) hx.1 (by omega); have := Int.mul_le_mul hn.2 hn.2 (by omega) (by omega); omega⟩,
     ⟨Int.mul_nonneg hb.1 hx.1, by have := Int.mul_le_mul (Int.le_of_lt hb.2) (by omega : x ≤ 1000) hx.1 (by omega); omega⟩⟩
  have q : ∀ y : Int, (0 ≤ y % n ∧ y % n < n) ∧ 0 ≤ y % n * n ∧ y % n * n ≤ 1000000 := fun y => by
    have h1 := Int.emod_nonneg y (by omega : n ≠ 0)
    have h2 := Int.emod_lt_of_pos y hn.1
    exact ⟨⟨h1, h2⟩, Int.mul_nonneg h1 (by omega), by have := Int.mul_le_mul (Int.le_of_lt h2) (Int.le_refl n) (by omega) (by omega); have := Int.mul_le_mul hn.2 hn.2 (by omega) (by omega); omega⟩
  have q1 := q (s0 + (k - 1) % n * x0 + (k - 1) / n * b0)
  have q2 := q (s1 + (k - 1) % n * x1 + (k - 1) / n * b1)
  have m3 := m x0 h3
  have m4 := m x1 h4
  have m5 := m b0 h5
  have m6 := m b1 h6
  refine pspec_of (md := 0) (rf := []) mixed tabOK noC_ok Tryz.func83 (by rfl) (by rfl) (by rfl) ?_
  repeat' ((conv => whnf); first | refine And.intro ?_ ?_ | with_reducible exact VC.mk rfl | exact Ok.mk | exact True.intro | refine Nx.mk ?_ | refine Fin.mk ?_ | intro _)
  all_goals ((try refine VC.mk ?_); (try simp only [CL.ncell, CL.cnt, vq] at *); (try omega))
  conv => whnf
  refine loop_rounds 3 (rounds_succ ⟨anyB_ok, mixed, tabOK, noC_ok, noY_ok⟩ (by rfl) ?_)
  repeat' ((conv => whnf); first | refine And.intro ?_ ?_ | with_reducible exact VC.mk rfl | exact Ok.mk | exact True.intro | refine Nx.mk ?_ | refine Fin.mk ?_ | intro _)
  all_goals ((try refine VC.mk ?_); (try simp only [CL.ncell, CL.cnt, vq] at *); (try omega))
  conv => whnf
  refine rounds_succ ⟨anyB_ok, mixed, tabOK, noC_ok, noY_ok⟩ (by rfl) ?_
  repeat' ((conv => whnf); first | refine And.intro ?_ ?_ | with_reducible exact VC.mk rfl | exact Ok.mk | exact True.intro | refine Nx.mk ?_ | refine Fin.mk ?_ | intro _)
  all_goals ((try refine VC.mk ?_); (try simp only [CL.ncell, CL.cnt, vq] at *); (try omega))
  conv => whnf
  refine rounds_succ ⟨anyB_ok, mixed, tabOK, noC_ok, noY_ok⟩ (by rfl) ?_
  repeat' ((conv => whnf); first | refine And.intro ?_ ?_ | with_reducible exact VC.mk rfl | exact Ok.mk | exact True.intro | refine Nx.mk ?_ | refine Fin.mk ?_ | intro _)
  all_goals ((try refine VC.mk ?_); (try simp only [CL.ncell, CL.cnt, vq] at *); (try omega))
  all_goals first | omega | exact Sup.of rfl
def cellP : PSp := fun xs K => match xs with
  | [.agg [.int .i64 n, .int .i64 s0, .int .i64 s1, .int .i64 x0, .int .i64 x1, .int .i64 b0, .int .i64 b1], .int .i64 k] =>
    VC ((0 < n ∧ n ≤ 1000) ∧ (1 ≤ k ∧ k ≤ 1000000) ∧ ∀ x ∈ [s0, s1, x0, x1, b0, b1], 0 ≤ x ∧ x < n) ∧ K (.int .i64 (cellOf n s0 s1 x0 x1 b0 b1 k))
  | _ => False
theorem cell_ok : POK Tryz.prog 83 cellP := by
  intro xs K h
  unfold cellP at h
  split at h
  · exact ⟨_, h.2, cell_spec _ _ _ _ _ _ _ _ h.1.get.1 h.1.get.2.1 h.1.get.2.2⟩
  · exact h.elim
end Go.Eng.YtobnbkoeocdhbaaGreatDoor
namespace Go.Eng.YtobnbkoeocdhbaaGreatDoor
open Go.Proofs
set_option maxRecDepth 100000
set_option maxHeartbeats 0
set_option linter.unusedVariables false
set_option linter.unusedSimpArgs false
/-! small closures -/
theorem c119_spec (k i : Int) : PSpec Tryz.prog 100 [.int .i64 i, .ip (.pv [.int .i64 k]) 0] (.int .i64 k) := by
  refine pspec_of (md := 1) (rf := []) mixed tabOK noC_ok Tryz.func100 (by rfl) (by rfl) (by rfl) ?_
  repeat' ((conv => whnf); first | refine And.intro ?_ ?_ | with_reducible exact VC.mk rfl | exact Ok.mk | exact True.intro | refine Nx.mk ?_ | refine Fin.mk ?_ | intro _)
  all_goals (first | (refine Sup.of ?_; first | rfl | (simp [*, resOf]; done)) | (refine Sup.via ?_; repeat' ((conv => whnf); first | refine And.intro ?_ ?_ | with_reducible exact VC.mk rfl | exact Ok.mk | exact True.intro | refine Nx.mk ?_ | refine Fin.mk ?_ | intro _); all_goals ((try refine VC.mk ?_); (try simp only [CL.ncell, CL.cnt, vq] at *); (try omega)); all_goals (try (simp [CL.sub]; done))))
theorem c120_spec (i : Int) : PSpec Tryz.prog 101 [.int .i64 i] (.int .i64 i) := by
  refine pspec_of (md := 1) (rf := []) mixed tabOK noC_ok Tryz.func101 (by rfl) (by rfl) (by rfl) ?_
  repeat' ((conv => whnf); first | refine And.intro ?_ ?_ | with_reducible exact VC.mk rfl | exact Ok.mk | exact True.intro | refine Nx.mk ?_ | refine Fin.mk ?_ | intro _)
  all_goals (first | (refine Sup.of ?_; first | rfl | (simp [*, resOf]; done)) | (refine Sup.via ?_; repeat' ((conv => whnf); first | refine And.intro ?_ ?_ | with_reducible exact VC.mk rfl | exact Ok.mk | exact True.intro | refine Nx.mk ?_ | refine Fin.mk ?_ | intro _); all_goals ((try refine VC.mk ?_); (try simp only [CL.ncell, CL.cnt, vq] at *); (try omega)); all_goals (try (simp [CL.sub]; done))))
theorem c121_spec (n i : Int) (h : (0 ≤ n ∧ n ≤ 1000) ∧ 0 ≤ i ∧ i ≤ 1000) : PSpec Tryz.prog 102 [.int .i64 i, .ip (.pv [.int .i64 n]) 0] (.int .i64 (n - 1 - i)) := by
  refine pspec_of (md := 1) (rf := []) mixed tabOK noC_ok Tryz.func102 (by rfl) (by rfl) (by rfl) ?_
  repeat' ((conv => whnf); first | refine And.intro ?_ ?_ | with_reducible exact VC.mk rfl | exact Ok.mk | exact True.intro | refine Nx.mk ?_ | refine Fin.mk ?_ | intro _)
  all_goals ((try refine VC.mk ?_); (try simp only [CL.ncell, CL.cnt, vq] at *); (try omega))
  all_goals (first | (refine Sup.of ?_; first | rfl | (simp [*, resOf]; done)) | (refine Sup.via ?_; repeat' ((conv => whnf); first | refine And.intro ?_ ?_ | with_reducible exact VC.mk rfl | exact Ok.mk | exact True.intro | refine Nx.mk ?_ | refine Fin.mk ?_ | intro _); all_goals ((try refine VC.mk ?_); (try simp only [CL.ncell, CL.cnt, vq] at *); (try omega)); all_goals (try (simp [CL.sub]; done))))
theorem c122_spec (k i : Int) (h : (0 ≤ k ∧ k ≤ 1000) ∧ 0 ≤ i ∧ i ≤ 1000) : PSpec Tryz.prog 103 [.int .i64 i, .ip (.pv [.int .i64 k]) 0] (.int .i64 (i + k)) := by
  refine pspec_of (md := 1) (rf := []) mixed tabOK noC_ok Tryz.func103 (by rfl) (by rfl) (by rfl) ?_
  repeat' ((conv => whnf); first | refine And.intro ?_ ?_ | with_reducible exact VC.mk rfl | exact Ok.mk | exact True.intro | refine Nx.mk ?_ | refine Fin.mk ?_ | intro _)
  all_goals ((try refine VC.mk ?_); (try simp only [CL.ncell, CL.cnt, vq] at *); (try omega))
  all_goals (first | (refine Sup.of ?_; first | rfl | (simp [*, resOf]; done)) | (refine Sup.via ?_; repeat' ((conv => whnf); first | refine And.intro ?_ ?_ | with_reducible exact VC.mk rfl | exact Ok.mk | exact True.intro | refine Nx.mk ?_ | refine Fin.mk ?_ | intro _); all_goals ((try refine VC.mk ?_); (try simp only [CL.ncell, CL.cnt, vq] at *); (try omega)); all_goals (try (simp [CL.sub]; done))))
theorem c123_spec (k i : Int) (h : (0 ≤ k ∧ k ≤ 1000) ∧ 0 ≤ i ∧ i ≤ 1000) : PSpec Tryz.prog 104 [.int .i64 i, .ip (.pv [.int .i64 k]) 0] (.int .i64 (k - i)) := by
  refine pspec_of (md := 1) (rf := []) mixed tabOK noC_ok Tryz.func104 (by rfl) (by rfl) (by rfl) ?_
  repeat' ((conv => whnf); first | refine And.intro ?_ ?_ | with_reducible exact VC.mk rfl | exact Ok.mk | exact True.intro | refine Nx.mk ?_ | refine Fin.mk ?_ | intro _)
  all_goals ((try refine VC.mk ?_); (try simp only [CL.ncell, CL.cnt, vq] at *); (try omega))
  all_goals (first | (refine Sup.of ?_; first | rfl | (simp [*, resOf]; done)) | (refine Sup.via ?_; repeat' ((conv => whnf); first | refine And.intro ?_ ?_ | with_reducible exact VC.mk rfl | exact Ok.mk | exact True.intro | refine Nx.mk ?_ | refine Fin.mk ?_ | intro _); all_goals ((try refine VC.mk ?_); (try simp only [CL.ncell, CL.cnt, vq] at *); (try omega)); all_goals (try (simp [CL.sub]; done))))
/-! one line -/
def colL (n : Nat) (h : Nat → Int) (m : Nat) : List Int := (List.range m).map fun i => (n : Int) * i + h i % n
theorem colL_succ (n : Nat) (h : Nat → Int) (m : Nat) : colL n h (m + 1) = colL n h m ++ [(n : Int) * m + h m % n] := by
  simp [colL, List.range_succ]
def lnY (P : Program) (b : Nat) (G : GT) (go : List PV → Bool) (L : List PV) : LSp := fun xs objs K => match xs, objs with
  | [.fn (.func f) [] cs, .ip (.pv [.int .i64 n]) 0, .ip (.pv [.fv y us vs]) 0], [.ext G' pre] =>
    VC (y = .yield b ∧ us = #[] ∧ vs = #[] ∧ G' = G ∧ inlE.inlF cs = true ∧ 1 ≤ n ∧ n ≤ 16) ∧ ∃ h : Nat → Int, (∀ i : Nat, (i : Int) < n → (-1000 ≤ h i ∧ h i ≤ 1000) ∧ PSpec P f ([.int .i64 i] ++ cs) (.int .i64 (h i))) ∧
      Nxt go L pre (.isl (.ints .i64 (colL n.toNat h n.toNat)) .none) ∧ K [.bp (go (pre ++ [.isl (.ints .i64 (colL n.toNat h n.toNat)) .none]))] [.ext G (pre ++ [.isl (.ints .i64 (colL n.toNat h n.toNat)) .none])]
  | _, _ => False
theorem c118_spec {b : Nat} {G : GT} {go : List PV → Bool} {L : List PV} (hY : Yields Tryz.prog b 1 G go L) (f : Nat) (cs : List PV) (hcs : inlE.inlF cs = true) (n : Nat) (hn : 1 ≤ n ∧ n ≤ 16) (h : Nat → Int)
    (hh : ∀ i : Nat, i < n → (-1000 ≤ h i ∧ h i ≤ 1000) ∧ PSpec Tryz.prog f ([.int .i64 i] ++ cs) (.int .i64 (h i))) (pre : List PV) (hx : Nxt go L pre (.isl (.ints .i64 (colL n h n)) .none)) :
    LSpec Tryz.prog 99 [.fn (.func f) [] cs, .ip (.pv [.int .i64 (n : Int)]) 0, .ip (.pv [.fv (.yield b) #[] #[]]) 0] [.ext G pre] [.bp (go (pre ++ [.isl (.ints .i64 (colL n h n)) .none]))] [.ext G (pre ++ [.isl (.ints .i64 (colL n h n)) .none])] := by
  refine ⟨enters' Tryz.func99 (by rfl) (by rfl), lspecB_open 0 rfl (by simp) rfl hcs fun S0 w0 us vs hu hv => ?_⟩
  have hY1 : YPOK Tryz.prog none (fun S w => anyB S w ∧ fromB S0 w0 S w) (fnY f us vs fun xs K => match xs with
      | [.int .i64 i] => VC (0 ≤ i ∧ i < n) ∧ K (.int .i64 (h i.toNat))
      | _ => False) := fnY_ok (fs := []) (cs := cs) (fun S w hb => ⟨hu.mono hb.2.1 (.refl _), hv.mono hb.2.1 (.refl _)⟩) fun xs K hk => by
    split at hk
    · rename_i i
      obtain ⟨⟨h1, h2⟩, hk⟩ := hk
      have := (hh i.toNat (by omega)).2
      rw [Int.toNat_of_nonneg h1] at this
      exact ⟨_, hk, this⟩
    · exact hk.elim
  refine lspecB_of (md := 1) (rf := []) (andB_ok anyB_ok fromB_ok) mixed tabOK (cp3_ok.up _) (funY_ok hY1 (hY none _)) 1 [] Tryz.func99 (by rfl) (by rfl) ?_
  repeat' ((conv => whnf); first | refine And.intro ?_ ?_ | with_reducible exact VC.mk rfl | exact Ok.mk | exact True.intro | refine Nx.mk ?_ | refine Fin.mk ?_ | intro _)
  conv => whnf
  refine loop_of (X := Nat) (fun i => i ≤ n) (fun i => [(8, .int .i64 i), (5, .isl (.ints .i64 (colL n h i)) (.own 1))]) (fun i => [(1, .tok 1 i)]) (fun i => n - i) 0 ⟨andB_ok anyB_ok fromB_ok, mixed, tabOK, cp3_ok.up _, funY_ok hY1 (hY none _)⟩ (by rfl) (by omega) ?_ ?_
  · repeat' ((conv => whnf); first | refine And.intro ?_ ?_ | with_reducible exact VC.mk rfl | exact Ok.mk | exact True.intro | refine Nx.mk ?_ | refine Fin.mk ?_ | intro _)
    all_goals ((try refine VC.mk ?_); (try simp only [CL.ncell, CL.cnt, vq] at *); (try omega))
  · intro i hi
    by_cases hlt : i < n
    · have hb1 := (hh i hlt).1
      have hb2 : 0 ≤ (n : Int) * i ∧ (n : Int) * i ≤ 256 := ⟨Int.mul_nonneg (by omega) (by omega), by have := Int.mul_le_mul (show (n : Int) ≤ 16 by omega) (show (i : Int) ≤ 16 by omega) (by omega) (by omega); omega⟩
      have hb3 : 0 ≤ h i % n ∧ h i % n < n := ⟨Int.emod_nonneg _ (by omega), Int.emod_lt_of_pos _ (by omega)⟩
      have hl : (colL n h i).length = i := by simp [colL]
      repeat' ((conv => whnf); first | refine And.intro ?_ ?_ | with_reducible exact VC.mk rfl | exact Ok.mk | exact True.intro | refine Nx.mk ?_ | refine Fin.mk ?_ | intro _)
      all_goals ((try refine VC.mk ?_); (try simp only [CL.ncell, CL.cnt, vq] at *); (try omega))
      · simp [hl]; omega
      · refine ⟨i + 1, [], ⟨by omega, by omega⟩, ?_⟩
        repeat' ((conv => whnf); first | refine And.intro ?_ ?_ | with_reducible exact VC.mk rfl | exact Ok.mk | exact True.intro | refine Nx.mk ?_ | refine Fin.mk ?_ | intro _)
        all_goals ((try refine VC.mk ?_); (try simp only [CL.ncell, CL.cnt, vq] at *); (try omega))
        · rw [colL_succ]
    · have : i = n := by omega
      subst this
      repeat' ((conv => whnf); first | refine And.intro ?_ ?_ | with_reducible exact VC.mk rfl | exact Ok.mk | exact True.intro | refine Nx.mk ?_ | refine Fin.mk ?_ | intro _)
      all_goals ((try refine VC.mk ?_); (try simp only [CL.ncell, CL.cnt, vq] at *); (try omega))
/-! all lines -/
def rowL (n i m : Nat) : List Int := (List.range m).map fun j : Nat => (n : Int) * (i : Int) + (j : Int)
theorem rowL_succ (n i m : Nat) : rowL n i (m + 1) = rowL n i m ++ [(n : Int) * i + m] := by simp [rowL, List.range_succ]
def lineAt (n i : Nat) : List Int :=
  if i < n then rowL n i n else if i < 2 * n then colL n (fun _ => (i : Int) - n) n else if i = 2 * n then colL n (fun j => j) n else if i = 2 * n + 1 then colL n (fun j => (n : Int) - 1 - j) n
  else if i < 3 * n + 1 then colL n (fun j => (j : Int) + ((i : Int) - 2 * n - 1)) n else colL n (fun j => (i : Int) - 3 * n - 1 - j) n
theorem lineAt_row {n k : Nat} (h : k < n) : lineAt n k = rowL n k n := by simp [lineAt, h]
theorem lineAt_col {n k : Nat} (h : k < n) : lineAt n (n + k) = colL n (fun _ => (k : Int)) n := by
  have h1 : ¬ n + k < n := by omega
  have h2 : n + k < 2 * n := by omega
  have h3 : ((n + k : Nat) : Int) - n = k := by omega
  unfold lineAt; rw [if_neg h1, if_pos h2, h3]
theorem lineAt_d1 {n : Nat} : lineAt n (2 * n) = colL n (fun j => (j : Int)) n := by
  have h1 : ¬ 2 * n < n := by omega
  have h2 : ¬ 2 * n < 2 * n := by omega
  unfold lineAt; rw [if_neg h1, if_neg h2, if_pos rfl]
theorem lineAt_d2 {n : Nat} : lineAt n (2 * n + 1) = colL n (fun j => (n : Int) - 1 - j) n := by
  have h1 : ¬ 2 * n + 1 < n := by omega
  have h2 : ¬ 2 * n + 1 < 2 * n := by omega
  have h3 : ¬ 2 * n + 1 = 2 * n := by omega
  unfold lineAt; rw [if_neg h1, if_neg h2, if_neg h3, if_pos rfl]
theorem lineAt_b1 {n k : Nat} (h : k + 1 < n) : lineAt n (2 * n + 2 + k) = colL n (fun j => (j : Int) + ((k : Int) + 1)) n := by
  have h1 : ¬ 2 * n + 2 + k < n := by omega
  have h2 : ¬ 2 * n + 2 + k < 2 * n := by omega
  have h3 : ¬ 2 * n + 2 + k = 2 * n := by omega
  have h4 : ¬ 2 * n + 2 + k = 2 * n + 1 := by omega
  have h5 : 2 * n + 2 + k < 3 * n + 1 := by omega
  have h6 : ((2 * n + 2 + k : Nat) : Int) - 2 * n - 1 = k + 1 := by omega
  unfold lineAt; rw [if_neg h1, if_neg h2, if_neg h3, if_neg h4, if_pos h5, h6]
theorem lineAt_b2 {n k : Nat} (h : 1 ≤ n) : lineAt n (3 * n + 1 + k) = colL n (fun j => (k : Int) - j) n := by
  have h1 : ¬ 3 * n + 1 + k < n := by omega
  have h2 : ¬ 3 * n + 1 + k < 2 * n := by omega
  have h3 : ¬ 3 * n + 1 + k = 2 * n := by omega
  have h4 : ¬ 3 * n + 1 + k = 2 * n + 1 := by omega
  have h5 : ¬ 3 * n + 1 + k < 3 * n + 1 := by omega
  have h6 : ((3 * n + 1 + k : Nat) : Int) - 3 * n - 1 = k := by omega
  unfold lineAt; rw [if_neg h1, if_neg h2, if_neg h3, if_neg h4, if_neg h5, h6]
def lineCnt (n : Nat) (g : Int) : Nat := if g < 1 then 0 else if g < 2 then 2 * n else if g < 3 then 2 * n + 2 else 4 * n
def linesV (n : Nat) (g : Int) : List PV := (List.range (lineCnt n g)).map fun i => .isl (.ints .i64 (lineAt n i)) .none
theorem nxt_of {go : List PV → Bool} {L : List PV} {i : Nat} {x : PV} (h : L[i]? = some x) (hg : GoTo go L i) : Nxt go L (L.take i) x := ⟨i, (List.getElem?_eq_some_iff.1 h).1, rfl, h, hg⟩
theorem lnY_ok {b : Nat} {G : GT} {go : List PV → Bool} {L : List PV} (hY : Yields Tryz.prog b 1 G go L) : LOK Tryz.prog 99 (lnY Tryz.prog b G go L) := by
  intro xs objs K h
  unfold lnY at h
  split at h
  · obtain ⟨⟨rfl, rfl, rfl, rfl, h1, h2, h3⟩, hh, h4, h5, hK⟩ := h
    rename_i f cs n _ pre
    obtain ⟨m, rfl⟩ : ∃ m : Nat, n = m := ⟨n.toNat, by omega⟩
    simp only [Int.toNat_natCast] at h5 hK
    exact ⟨_, _, hK, c118_spec hY f cs h1 m (by omega) hh (fun i hi => h4 i (by omega)) pre h5⟩
  · exact h.elim
theorem c117_spec (n : Nat) (hn : 1 ≤ n ∧ n ≤ 16) (g : Int) : ISpec Tryz.prog 98 [] [.ip (.pv [.int .i64 (n : Int)]) 0, .ip (.pv [.int .i64 g]) 0] 1 (linesV n g) := by
  refine ispec_of (md := 1) (rf := []) mixed tabOK Tryz.func98 (by rfl) (by rfl) (by rfl) fun G go b hY => ⟨_, cpAdd_ok (lendCC_ok [0] (lnY_ok hY)) noC_ok, ?_⟩
  obtain ⟨L, hL⟩ : ∃ L, L = linesV n g := ⟨_, rfl⟩
  have hlen : L.length = lineCnt n g := by simp [hL, linesV]
  have hget : ∀ i, i < lineCnt n g → L[i]? = some (.isl (.ints .i64 (lineAt n i)) .none) := fun i hi => by simp [hL, linesV, hi]
  rw [← hL] at hY ⊢
  have W : Walk Tryz.prog none anyB tab.get (cpAdd 99 (lendCC [0] (lnY Tryz.prog b G go L)) noC) (yldY b 1 G go L) := ⟨anyB_ok, mixed, tabOK, cpAdd_ok (lendCC_ok [0] (lnY_ok hY)) noC_ok, hY _ _⟩
  have hmul : ∀ i : Nat, i < n → 0 ≤ (n : Int) * i ∧ (n : Int) * i ≤ 256 := fun i h => ⟨Int.mul_nonneg (by omega) (by omega), by have := Int.mul_le_mul (show (n : Int) ≤ 16 by omega) (show (i : Int) ≤ 16 by omega) (by omega) (by omega); omega⟩
  -- what comes to the iterator's end
  have stop : ∀ i, i < lineCnt n g → GoTo go L i → go (L.take i ++ [.isl (.ints .i64 (lineAt n i)) .none]) = false → L.take i ++ [.isl (.ints .i64 (lineAt n i)) .none] = runG go [] L := fun i hi hg h => by
    rw [take_succ' (hget i hi)] at h ⊢
    rw [runG_stop (by omega) hg h]
  have cont : ∀ i, i < lineCnt n g → GoTo go L i → go (L.take i ++ [.isl (.ints .i64 (lineAt n i)) .none]) = true → GoTo go L (i + 1) := fun i hi hg h => hg.succ (by rw [← take_succ' (hget i hi)]; exact h)
  have done : GoTo go L (lineCnt n g) → L.take (lineCnt n g) = runG go [] L := fun hg => by rw [runG_all (by omega) hg, ← hlen]; simp
  have hc0 : g < 1 → lineCnt n g = 0 := fun h => by simp [lineCnt, h]
  have hc1 : 1 ≤ g → 2 * n ≤ lineCnt n g := fun h => by unfold lineCnt; split <;> (try split) <;> (try split) <;> omega
  have hc1' : 1 ≤ g → g < 2 → lineCnt n g = 2 * n := fun h h' => by unfold lineCnt; split <;> (try split) <;> (try split) <;> omega
  have hc2 : 2 ≤ g → 2 * n + 2 ≤ lineCnt n g := fun h => by unfold lineCnt; split <;> (try split) <;> (try split) <;> omega
  have hc2' : 2 ≤ g → g < 3 → lineCnt n g = 2 * n + 2 := fun h h' => by unfold lineCnt; split <;> (try split) <;> (try split) <;> omega
  have hc3 : 3 ≤ g → lineCnt n g = 4 * n := fun h => by unfold lineCnt; split <;> (try split) <;> (try split) <;> omega
  conv => whnf
  refine loop_of (X := Nat) (fun k => k ≤ n ∧ (0 < k → 1 ≤ g) ∧ GoTo go L k) (fun k => [(13, .int .i64 k)]) (fun k => [(0, .ext G (L.take k))]) (fun k => n - k) 0 W (by rfl) ⟨by omega, by omega, .zero⟩ ?_ ?_
  · repeat' ((conv => whnf); first | refine And.intro ?_ ?_ | with_reducible exact VC.mk rfl | exact Ok.mk | exact True.intro | refine Nx.mk ?_ | refine Fin.mk ?_ | intro _)
    all_goals ((try refine VC.mk ?_); (try simp only [CL.ncell, CL.cnt, vq] at *); (try omega))
    all_goals simp
  · intro k hk
    obtain ⟨hk1, hk2, hk3⟩ := hk
    by_cases hlt : k < n
    · repeat' ((conv => whnf); first | refine And.intro ?_ ?_ | with_reducible exact VC.mk rfl | exact Ok.mk | exact True.intro | refine Nx.mk ?_ | refine Fin.mk ?_ | intro _)
      all_goals ((try refine VC.mk ?_); (try simp only [CL.ncell, CL.cnt, vq] at *); (try omega))
      conv => whnf
      refine loop_of (X := Nat) (fun j => j ≤ n) (fun j => [(17, .int .i64 j), (6, .isl (.ints .i64 (rowL n k j)) (.own 2))]) (fun j => [(2, .tok 1 j)]) (fun j => n - j) 0 W (by rfl) (by omega) ?_ ?_
      · repeat' ((conv => whnf); first | refine And.intro ?_ ?_ | with_reducible exact VC.mk rfl | exact Ok.mk | exact True.intro | refine Nx.mk ?_ | refine Fin.mk ?_ | intro _)
        all_goals ((try refine VC.mk ?_); (try simp only [CL.ncell, CL.cnt, vq] at *); (try omega))
      · intro j hj
        by_cases hlj : j < n
        · have hl : (rowL n k j).length = j := by simp [rowL]
          have := hmul k hlt
          repeat' ((conv => whnf); first | refine And.intro ?_ ?_ | with_reducible exact VC.mk rfl | exact Ok.mk | exact True.intro | refine Nx.mk ?_ | refine Fin.mk ?_ | intro _)
          all_goals ((try refine VC.mk ?_); (try simp only [CL.ncell, CL.cnt, vq] at *); (try omega))
          · simp [hl]; omega
          · refine ⟨j + 1, [], ⟨by omega, by omega⟩, ?_⟩
            repeat' ((conv => whnf); first | refine And.intro ?_ ?_ | with_reducible exact VC.mk rfl | exact Ok.mk | exact True.intro | refine Nx.mk ?_ | refine Fin.mk ?_ | intro _)
            all_goals ((try refine VC.mk ?_); (try simp only [CL.ncell, CL.cnt, vq] at *); (try omega))
            · rw [rowL_succ]
        · have : n = j := by omega
          subst this
          have hat : rowL n k n = lineAt n k := (lineAt_row hlt).symm
          rw [hat]
          repeat' ((conv => whnf); first | refine And.intro ?_ ?_ | with_reducible exact VC.mk rfl | exact Ok.mk | exact True.intro | refine Nx.mk ?_ | refine Fin.mk ?_ | intro _)
          all_goals ((try refine VC.mk ?_); (try simp only [CL.ncell, CL.cnt, vq] at *); (try omega))
          · exact nxt_of (hget k (by have := hc1 (by omega); omega)) hk3
          · exact stop k (by have := hc1 (by omega); omega) hk3 (by simp_all)
          · rename_i hgo _ _
            refine ⟨k + 1, [], ⟨⟨by omega, by omega, cont k (by have := hc1 (by omega); omega) hk3 (by simpa using hgo)⟩, by omega⟩, ?_⟩
            repeat' ((conv => whnf); first | refine And.intro ?_ ?_ | with_reducible exact VC.mk rfl | exact Ok.mk | exact True.intro | refine Nx.mk ?_ | refine Fin.mk ?_ | intro _)
            all_goals ((try refine VC.mk ?_); (try simp only [CL.ncell, CL.cnt, vq] at *); (try omega))
            exact take_succ' (hget k (by have := hc1 (by omega); omega))
          · have : g < 1 := by simp_all
            have : k = 0 := by omega
            subst this
            have := hc0 ‹_›
            have h0 : L = [] := List.eq_nil_of_length_eq_zero (by omega)
            rw [h0]; simp [runG]
    · have : n = k := by omega
      subst this
      have hg1 : 1 ≤ g := hk2 (by omega)
      repeat' ((conv => whnf); first | refine And.intro ?_ ?_ | with_reducible exact VC.mk rfl | exact Ok.mk | exact True.intro | refine Nx.mk ?_ | refine Fin.mk ?_ | intro _)
      all_goals ((try refine VC.mk ?_); (try simp only [CL.ncell, CL.cnt, vq] at *); (try omega))
      conv => whnf
      refine loop_of (X := Nat) (fun k => k ≤ n ∧ GoTo go L (n + k)) (fun k => [(39, .int .i64 k)]) (fun k => [(0, .ext G (L.take (n + k)))]) (fun k => n - k) 0 W (by rfl) ⟨by omega, hk3⟩ ?_ ?_
      · repeat' ((conv => whnf); first | refine And.intro ?_ ?_ | with_reducible exact VC.mk rfl | exact Ok.mk | exact True.intro | refine Nx.mk ?_ | refine Fin.mk ?_ | intro _)
        all_goals ((try refine VC.mk ?_); (try simp only [CL.ncell, CL.cnt, vq] at *); (try omega))
        all_goals simp
      · intro k hk
        obtain ⟨hk1, hk3⟩ := hk
        by_cases hlt : k < n
        · have hat : colL n (fun _ => (k : Int)) n = lineAt n (n + k) := (lineAt_col hlt).symm
          have hlt2 : n + k < lineCnt n g := by have := hc1 hg1; omega
          repeat' ((conv => whnf); first | refine And.intro ?_ ?_ | with_reducible exact VC.mk rfl | exact Ok.mk | exact True.intro | refine Nx.mk ?_ | refine Fin.mk ?_ | intro _)
          all_goals ((try refine VC.mk ?_); (try simp only [CL.ncell, CL.cnt, vq] at *); (try omega))
          · exact ⟨rfl, by omega, by omega⟩
          · refine ⟨fun _ => k, fun i hi => ⟨by dsimp only; omega, c119_spec _ _⟩, ?_, ?_⟩
            · simp only [Int.toNat_natCast, hat]
              exact nxt_of (hget _ hlt2) hk3
            · simp only [Int.toNat_natCast, hat]
              repeat' ((conv => whnf); first | refine And.intro ?_ ?_ | with_reducible exact VC.mk rfl | exact Ok.mk | exact True.intro | refine Nx.mk ?_ | refine Fin.mk ?_ | intro _)
              all_goals ((try refine VC.mk ?_); (try simp only [CL.ncell, CL.cnt, vq] at *); (try omega))
              · exact stop _ hlt2 hk3 (by simp_all)
              · refine ⟨k + 1, [], ⟨⟨by omega, cont _ hlt2 hk3 (by simpa using ‹(!go _) = false›)⟩, by omega⟩, ?_⟩
                repeat' ((conv => whnf); first | refine And.intro ?_ ?_ | with_reducible exact VC.mk rfl | exact Ok.mk | exact True.intro | refine Nx.mk ?_ | refine Fin.mk ?_ | intro _)
                all_goals ((try refine VC.mk ?_); (try simp only [CL.ncell, CL.cnt, vq] at *); (try omega))
                exact take_succ' (hget _ hlt2)
        · have : n = k := by omega
          subst this
          have e2 : n + n = 2 * n := by omega
          rw [e2] at hk3 ⊢
          have hat : colL n (fun j => (j : Int)) n = lineAt n (2 * n) := lineAt_d1.symm
          have hat2 : colL n (fun j => (n : Int) - 1 - j) n = lineAt n (2 * n + 1) := lineAt_d2.symm
          have hl1 : 2 ≤ g → 2 * n < lineCnt n g := fun h => by have := hc2 h; omega
          have hl2 : 2 ≤ g → 2 * n + 1 < lineCnt n g := fun h => by have := hc2 h; omega
          repeat' ((conv => whnf); first | refine And.intro ?_ ?_ | with_reducible exact VC.mk rfl | exact Ok.mk | exact True.intro | refine Nx.mk ?_ | refine Fin.mk ?_ | intro _)
          all_goals ((try refine VC.mk ?_); (try simp only [CL.ncell, CL.cnt, vq] at *); (try omega))
          · exact ⟨rfl, by omega, by omega⟩
          · have hg2 : 2 ≤ g := by simp_all
            refine ⟨fun j => j, fun i hi => ⟨by dsimp only; omega, c120_spec _⟩, ?_, ?_⟩
            · simp only [Int.toNat_natCast, hat]
              exact nxt_of (hget _ (hl1 hg2)) hk3
            · simp only [Int.toNat_natCast, hat]
              repeat' ((conv => whnf); first | refine And.intro ?_ ?_ | with_reducible exact VC.mk rfl | exact Ok.mk | exact True.intro | refine Nx.mk ?_ | refine Fin.mk ?_ | intro _)
              all_goals ((try refine VC.mk ?_); (try simp only [CL.ncell, CL.cnt, vq] at *); (try omega))
              · exact ⟨rfl, by omega, by omega⟩
              · have hk4 : GoTo go L (2 * n + 1) := cont _ (hl1 hg2) hk3 (by simpa using ‹(!go _) = false›)
                refine ⟨fun j => (n : Int) - 1 - j, fun i hi => ⟨by dsimp only; omega, c121_spec _ _ (by omega)⟩, ?_, ?_⟩
                · simp only [Int.toNat_natCast, hat2]
                  rw [take_succ' (hget _ (hl1 hg2))]
                  exact nxt_of (hget _ (hl2 hg2)) hk4
                · simp only [Int.toNat_natCast, hat2]
                  rw [take_succ' (hget _ (hl1 hg2))]
                  repeat' ((conv => whnf); first | refine And.intro ?_ ?_ | with_reducible exact VC.mk rfl | exact Ok.mk | exact True.intro | refine Nx.mk ?_ | refine Fin.mk ?_ | intro _)
                  all_goals ((try refine VC.mk ?_); (try simp only [CL.ncell, CL.cnt, vq] at *); (try omega))
                  · have hg3 : lineCnt n g = 2 * n + 2 := hc2' hg2 (by simp_all)
                    rw [take_succ' (hget _ (hl2 hg2)), ← done (by rw [hg3]; exact cont _ (hl2 hg2) hk4 (by simpa using ‹(!go (L.take (2 * n + 1) ++ _)) = false›)), hg3]
                  · have hg3 : lineCnt n g = 4 * n := hc3 (by omega)
                    have hk5 : GoTo go L (2 * n + 2) := cont _ (hl2 hg2) hk4 (by simpa using ‹(!go (L.take (2 * n + 1) ++ _)) = false›)
                    rw [take_succ' (hget _ (hl2 hg2))]
                    conv => whnf
                    refine loop_of (X := Nat) (fun k => k + 1 ≤ n ∧ GoTo go L (2 * n + 2 + k)) (fun k => [(9, .rp 21 0)]) (fun k => [(0, .ext G (L.take (2 * n + 2 + k))), (21, .cells (.pv [.int .i64 ((k : Int) + 1)]) false)]) (fun k => n - k) 0 W (by rfl) ⟨by omega, hk5⟩ ?_ ?_
                    · repeat' ((conv => whnf); first | refine And.intro ?_ ?_ | with_reducible exact VC.mk rfl | exact Ok.mk | exact True.intro | refine Nx.mk ?_ | refine Fin.mk ?_ | intro _)
                      all_goals ((try refine VC.mk ?_); (try simp only [CL.ncell, CL.cnt, vq] at *); (try omega))
                    · intro k hk
                      obtain ⟨hk1, hk3⟩ := hk
                      by_cases hlt : k + 1 < n
                      · have hat : colL n (fun j => (j : Int) + ((k : Int) + 1)) n = lineAt n (2 * n + 2 + k) := (lineAt_b1 hlt).symm
                        have hlt2 : 2 * n + 2 + k < lineCnt n g := by omega
                        repeat' ((conv => whnf); first | refine And.intro ?_ ?_ | with_reducible exact VC.mk rfl | exact Ok.mk | exact True.intro | refine Nx.mk ?_ | refine Fin.mk ?_ | intro _)
                        all_goals ((try refine VC.mk ?_); (try simp only [CL.ncell, CL.cnt, vq] at *); (try omega))
                        · exact ⟨rfl, by omega, by omega⟩
                        · refine ⟨fun j => (j : Int) + ((k : Int) + 1), fun i hi => ⟨by dsimp only; omega, c122_spec _ _ (by omega)⟩, ?_, ?_⟩
                          · simp only [Int.toNat_natCast, hat]
                            exact nxt_of (hget _ hlt2) hk3
                          · simp only [Int.toNat_natCast, hat]
                            repeat' ((conv => whnf); first | refine And.intro ?_ ?_ | with_reducible exact VC.mk rfl | exact Ok.mk | exact True.intro | refine Nx.mk ?_ | refine Fin.mk ?_ | intro _)
                            all_goals ((try refine VC.mk ?_); (try simp only [CL.ncell, CL.cnt, vq] at *); (try omega))
                            · exact stop _ hlt2 hk3 (by simp_all)
                            · refine ⟨k + 1, [(26, 21)], ⟨⟨by omega, cont _ hlt2 hk3 (by simpa using ‹(!go _) = false›)⟩, by omega⟩, ?_⟩
                              repeat' ((conv => whnf); first | refine And.intro ?_ ?_ | with_reducible exact VC.mk rfl | exact Ok.mk | exact True.intro | refine Nx.mk ?_ | refine Fin.mk ?_ | intro _)
                              all_goals ((try refine VC.mk ?_); (try simp only [CL.ncell, CL.cnt, vq] at *); (try omega))
                              exact take_succ' (hget _ hlt2)
                      · have hnk : 3 * n + 1 = 2 * n + 2 + k := by omega
                        have hk6 : GoTo go L (3 * n + 1) := by rw [hnk]; exact hk3
                        rw [← hnk]
                        repeat' ((conv => whnf); first | refine And.intro ?_ ?_ | with_reducible exact VC.mk rfl | exact Ok.mk | exact True.intro | refine Nx.mk ?_ | refine Fin.mk ?_ | intro _)
                        all_goals ((try refine VC.mk ?_); (try simp only [CL.ncell, CL.cnt, vq] at *); (try omega))
                        conv => whnf
                        refine loop_of (X := Nat) (fun k => k + 1 ≤ n ∧ GoTo go L (3 * n + 1 + k)) (fun k => [(76, .int .i64 k)]) (fun k => [(0, .ext G (L.take (3 * n + 1 + k)))]) (fun k => n - k) 0 W (by rfl) ⟨by omega, hk6⟩ ?_ ?_
                        · repeat' ((conv => whnf); first | refine And.intro ?_ ?_ | with_reducible exact VC.mk rfl | exact Ok.mk | exact True.intro | refine Nx.mk ?_ | refine Fin.mk ?_ | intro _)
                          all_goals ((try refine VC.mk ?_); (try simp only [CL.ncell, CL.cnt, vq] at *); (try omega))
                          all_goals simp
                        · intro k hk
                          obtain ⟨hk1, hk3⟩ := hk
                          by_cases hlt : k + 1 < n
                          · have hat : colL n (fun j => (k : Int) - j) n = lineAt n (3 * n + 1 + k) := (lineAt_b2 hn.1).symm
                            have hlt2 : 3 * n + 1 + k < lineCnt n g := by omega
                            repeat' ((conv => whnf); first | refine And.intro ?_ ?_ | with_reducible exact VC.mk rfl | exact Ok.mk | exact True.intro | refine Nx.mk ?_ | refine Fin.mk ?_ | intro _)
                            all_goals ((try refine VC.mk ?_); (try simp only [CL.ncell, CL.cnt, vq] at *); (try omega))
                            · exact ⟨rfl, by omega, by omega⟩
                            · refine ⟨fun j => (k : Int) - j, fun i hi => ⟨by dsimp only; omega, c123_spec _ _ (by omega)⟩, ?_, ?_⟩
                              · simp only [Int.toNat_natCast, hat]
                                exact nxt_of (hget _ hlt2) hk3
                              · simp only [Int.toNat_natCast, hat]
                                repeat' ((conv => whnf); first | refine And.intro ?_ ?_ | with_reducible exact VC.mk rfl | exact Ok.mk | exact True.intro | refine Nx.mk ?_ | refine Fin.mk ?_ | intro _)
                                all_goals ((try refine VC.mk ?_); (try simp only [CL.ncell, CL.cnt, vq] at *); (try omega))
                                · exact stop _ hlt2 hk3 (by simp_all)
                                · refine ⟨k + 1, [], ⟨⟨by omega, cont _ hlt2 hk3 (by simpa using ‹(!go _) = false›)⟩, by omega⟩, ?_⟩
                                  repeat' ((conv => whnf); first | refine And.intro ?_ ?_ | with_reducible exact VC.mk rfl | exact Ok.mk | exact True.intro | refine Nx.mk ?_ | refine Fin.mk ?_ | intro _)
                                  all_goals ((try refine VC.mk ?_); (try simp only [CL.ncell, CL.cnt, vq] at *); (try omega))
                                  exact take_succ' (hget _ hlt2)
                          · have he : 3 * n + 1 + k = 4 * n := by omega
                            rw [he] at hk3 ⊢
                            repeat' ((conv => whnf); first | refine And.intro ?_ ?_ | with_reducible exact VC.mk rfl | exact Ok.mk | exact True.intro | refine Nx.mk ?_ | refine Fin.mk ?_ | intro _)
                            all_goals ((try refine VC.mk ?_); (try simp only [CL.ncell, CL.cnt, vq] at *); (try omega))
                            rw [← done (by rw [hg3]; exact hk3), hg3]
                  · exact stop _ (hl2 hg2) hk4 (by simpa using ‹(!go (L.take (2 * n + 1) ++ _)) = !false›)
              · exact stop _ (hl1 hg2) hk3 (by simp_all)
          · have hg2 : g < 2 := by simp_all
            have := hc1' hg1 hg2
            rw [← done (by rw [this]; exact hk3), this]
/-- the iterator itself: a closure -/
theorem c77_spec (n g : Int) : PSpec Tryz.prog 51 [.int .i64 n, .int .i64 g] (.fn (.func 98) [] [.ip (.pv [.int .i64 n]) 0, .ip (.pv [.int .i64 g]) 0]) := by
  refine pspec_of (md := 1) (rf := []) mixed tabOK noC_ok Tryz.func51 (by rfl) (by rfl) (by rfl) ?_
  repeat' ((conv => whnf); first | refine And.intro ?_ ?_ | with_reducible exact VC.mk rfl | exact Ok.mk | exact True.intro | refine Nx.mk ?_ | refine Fin.mk ?_ | intro _)
  all_goals (first | (refine Sup.of ?_; first | rfl | (simp [*, resOf]; done)) | (refine Sup.via ?_; repeat' ((conv => whnf); first | refine And.intro ?_ ?_ | with_reducible exact VC.mk rfl | exact Ok.mk | exact True.intro | refine Nx.mk ?_ | refine Fin.mk ?_ | intro _); all_goals ((try refine VC.mk ?_); (try simp only [CL.ncell, CL.cnt, vq] at *); (try omega)); all_goals (try (simp [CL.sub]; done))))
def linesP : PSp := fun xs K => match xs with
  | [.int .i64 n, .int .i64 g] => K (.fn (.func 98) [] [.ip (.pv [.int .i64 n]) 0, .ip (.pv [.int .i64 g]) 0])
  | _ => False
theorem lines_ok : POK Tryz.prog 51 linesP := by
  intro xs K h
  unfold linesP at h
  split at h
  · exact ⟨_, h, c77_spec _ _⟩
  · exact h.elim
end Go.Eng.YtobnbkoeocdhbaaGreatDoor
namespace Go.Eng.YtobnbkoeocdhbaaGreatDoor
open Go.Proofs
set_option maxRecDepth 100000
set_option maxHeartbeats 0
set_option linter.unusedVariables false
set_option linter.unusedSimpArgs false
theorem mul_bd {a b A B : Int} (ha : 0 ≤ a ∧ a ≤ A) (hb : 0 ≤ b ∧ b ≤ B) : 0 ≤ a * b ∧ a * b ≤ A * B :=
  ⟨Int.mul_nonneg ha.1 hb.1, Int.mul_le_mul ha.2 hb.2 hb.1 (by omega)⟩
abbrev gridV (r c : Int) (l : List Int) : PV := .agg [.int .i64 r, .int .i64 c, .isl (.ints .i64 l) .none]
/-! constants -/
def constOf (n : Int) : Int := n * (n * n + 1) / 2
theorem constant_spec (n : Int) (h : 0 ≤ n ∧ n ≤ 1000) : PSpec Tryz.prog 53 [.int .i64 n] (.int .i64 (constOf n)) := by
  have h1 := mul_bd h h
  have h2 := mul_bd h (b := n * n + 1) (B := 1000001) (by omega)
  have h3 : 0 ≤ n * (n * n + 1) / 2 ∧ n * (n * n + 1) / 2 ≤ 1000001000 := by omega
  refine pspec_of (md := 0) (rf := []) mixed tabOK noC_ok Tryz.func53 (by rfl) (by rfl) (by rfl) ?_
  repeat' ((conv => whnf); first | refine And.intro ?_ ?_ | with_reducible exact VC.mk rfl | exact Ok.mk | exact True.intro | refine Nx.mk ?_ | refine Fin.mk ?_ | intro _)
  all_goals ((try refine VC.mk ?_); (try simp only [CL.ncell, CL.cnt, vq] at *); (try omega))
  all_goals (first | (refine Sup.of ?_; first | rfl | (simp [*, resOf]; done)) | (refine Sup.via ?_; repeat' ((conv => whnf); first | refine And.intro ?_ ?_ | with_reducible exact VC.mk rfl | exact Ok.mk | exact True.intro | refine Nx.mk ?_ | refine Fin.mk ?_ | intro _); all_goals ((try refine VC.mk ?_); (try simp only [CL.ncell, CL.cnt, vq] at *); (try omega)); all_goals (try (simp [CL.sub]; done))))
def constantP : PSp := fun xs K => match xs with
  | [.int .i64 n] => VC (0 ≤ n ∧ n ≤ 1000) ∧ K (.int .i64 (constOf n))
  | _ => False
theorem constant_ok : POK Tryz.prog 53 constantP := by
  intro xs K h
  unfold constantP at h
  split at h
  · exact ⟨_, h.2, constant_spec _ h.1.get⟩
  · exact h.elim
/-! remainders -/
/-! greatest common divisors -/
/-! ranges -/
end Go.Eng.YtobnbkoeocdhbaaGreatDoor
namespace Go.Eng.YtobnbkoeocdhbaaGreatDoor
open Go.Proofs
set_option maxRecDepth 100000
set_option maxHeartbeats 0
set_option linter.unusedVariables false
set_option linter.unusedSimpArgs false
theorem all_true {p : Nat → Bool} {n : Nat} (h : ∀ i, i < n → p i = true) : (List.range n).all p = true := by simp [List.all_eq_true]; exact h
theorem all_false {p : Nat → Bool} {n i : Nat} (hi : i < n) (h : p i = false) : (List.range n).all p = false := by
  simp only [List.all_eq_false, List.mem_range]; exact ⟨i, hi, by simp [h]⟩
/-- which numbers have been seen -/
def seenAt (m : Nat) (l : List Int) (i : Nat) : List Bool := (l.take i).foldl (fun s x => s.set x.toNat true) (List.replicate m false)
theorem seenAt_succ (m : Nat) (l : List Int) (i : Nat) (h : i < l.length) : seenAt m l (i + 1) = (seenAt m l i).set (l.getD i 0).toNat true := by
  unfold seenAt
  rw [List.take_add_one, List.foldl_append]
  simp [h]
theorem seenAt_len (m : Nat) (l : List Int) (i : Nat) : (seenAt m l i).length = m := by
  unfold seenAt
  generalize l.take i = k
  suffices ∀ s : List Bool, (k.foldl (fun s x => s.set x.toNat true) s).length = s.length by rw [this]; simp
  intro s
  induction k generalizing s with
  | nil => rfl
  | cons x r ih => rw [List.foldl_cons, ih]; simp
def okAt (lo : Int) (m : Nat) (l : List Int) (i : Nat) : Bool := decide (lo ≤ l.getD i 0 ∧ l.getD i 0 < m) && !(seenAt m l i).getD (l.getD i 0).toNat false
def distinctIn (lo : Int) (m : Nat) (l : List Int) : Bool := (List.range l.length).all (okAt lo m l)
def isNorm (l : List Int) : Bool := distinctIn 1 (l.length + 1) l
theorem IsNormal_spec (l : List Int) (hl : l.length ≤ 2000000) : PSpec Tryz.prog 26 [.isl (.ints .i64 l) .none] (.bp (isNorm l)) := by
  refine pspec_of (md := 1) (rf := []) mixed tabOK noC_ok Tryz.func26 (by rfl) (by rfl) (by rfl) ?_
  repeat' ((conv => whnf); first | refine And.intro ?_ ?_ | with_reducible exact VC.mk rfl | exact Ok.mk | exact True.intro | refine Nx.mk ?_ | refine Fin.mk ?_ | intro _)
  all_goals ((try refine VC.mk ?_); (try simp only [CL.ncell, CL.cnt, vq] at *); (try omega))
  conv => whnf
  refine loop_of (X := Nat) (fun i => i ≤ l.length ∧ ∀ j, j < i → okAt 1 (l.length + 1) l j = true) (fun i => [(4, .int .i64 i)]) (fun i => [(0, .cells (.bools (seenAt (l.length + 1) l i)) false)]) (fun i => l.length - i) 0 ⟨anyB_ok, mixed, tabOK, noC_ok, noY_ok⟩ (by rfl) ⟨by omega, fun j h => by omega⟩ ?_ ?_
  · repeat' ((conv => whnf); first | refine And.intro ?_ ?_ | with_reducible exact VC.mk rfl | exact Ok.mk | exact True.intro | refine Nx.mk ?_ | refine Fin.mk ?_ | intro _)
    all_goals ((try refine VC.mk ?_); (try simp only [CL.ncell, CL.cnt, vq] at *); (try omega))
    all_goals simp [seenAt]
  · rintro i ⟨hi, hok⟩
    by_cases hlt : i < l.length
    · have e1 := seenAt_len (l.length + 1) l i
      have e2 := seenAt_succ (l.length + 1) l i hlt
      have hbad : okAt 1 (l.length + 1) l i = false → Sup (resOf [.bool false]) (.bp (isNorm l)) := fun h => by rw [show isNorm l = false from all_false hlt h]; all_goals (first | (refine Sup.of ?_; first | rfl | (simp [*, resOf]; done)) | (refine Sup.via ?_; repeat' ((conv => whnf); first | refine And.intro ?_ ?_ | with_reducible exact VC.mk rfl | exact Ok.mk | exact True.intro | refine Nx.mk ?_ | refine Fin.mk ?_ | intro _); all_goals ((try refine VC.mk ?_); (try simp only [CL.ncell, CL.cnt, vq] at *); (try omega)); all_goals (try (simp [CL.sub]; done))))
      repeat' ((conv => whnf); first | refine And.intro ?_ ?_ | with_reducible exact VC.mk rfl | exact Ok.mk | exact True.intro | refine Nx.mk ?_ | refine Fin.mk ?_ | intro _)
      all_goals ((try refine VC.mk ?_); (try simp only [CL.ncell, CL.cnt, vq] at *); (try omega))
      · refine hbad ?_; unfold okAt; simp_all
      · refine ⟨i + 1, [], ⟨⟨by omega, fun j hj => ?_⟩, by omega⟩, ?_⟩
        · by_cases e : j = i
          · subst e; unfold okAt; simp_all; omega
          · exact hok j (by omega)
        · repeat' ((conv => whnf); first | refine And.intro ?_ ?_ | with_reducible exact VC.mk rfl | exact Ok.mk | exact True.intro | refine Nx.mk ?_ | refine Fin.mk ?_ | intro _)
          all_goals ((try refine VC.mk ?_); (try simp only [CL.ncell, CL.cnt, vq] at *); (try omega))
          · exact e2.symm
      · refine hbad ?_; unfold okAt; simp_all; omega
      · refine hbad ?_; unfold okAt; simp_all; omega
    · have : i = l.length := by omega
      subst this
      have e : isNorm l = true := all_true hok
      rw [e]
      repeat' ((conv => whnf); first | refine And.intro ?_ ?_ | with_reducible exact VC.mk rfl | exact Ok.mk | exact True.intro | refine Nx.mk ?_ | refine Fin.mk ?_ | intro _)
      all_goals ((try refine VC.mk ?_); (try simp only [CL.ncell, CL.cnt, vq] at *); (try omega))
      all_goals (first | (refine Sup.of ?_; first | rfl | (simp [*, resOf]; done)) | (refine Sup.via ?_; repeat' ((conv => whnf); first | refine And.intro ?_ ?_ | with_reducible exact VC.mk rfl | exact Ok.mk | exact True.intro | refine Nx.mk ?_ | refine Fin.mk ?_ | intro _); all_goals ((try refine VC.mk ?_); (try simp only [CL.ncell, CL.cnt, vq] at *); (try omega)); all_goals (try (simp [CL.sub]; done))))
def IsNormalP : PSp := fun xs K => match xs with
  | [.isl (.ints .i64 l) .none] => VC (l.length ≤ 2000000) ∧ K (.bp (isNorm l))
  | _ => False
theorem IsNormal_ok : POK Tryz.prog 26 IsNormalP := by
  intro xs K h
  unfold IsNormalP at h
  split at h
  · exact ⟨_, h.2, IsNormal_spec _ h.1.get⟩
  · exact h.elim
/-! shapes -/
def sqErr (r c : Int) (l : List Int) : Int := if r ≠ c ∨ r < 1 ∨ 16 < r ∨ (l.length : Int) ≠ r * c then 2 else 0
theorem sq_mul {r c : Int} (h : r = c) (h1 : 1 ≤ r) (h2 : r ≤ 16) : 0 ≤ r * c ∧ r * c ≤ 256 := by subst h; exact mul_bd ⟨by omega, h2⟩ ⟨by omega, h2⟩
theorem CheckSquare_spec (r c : Int) (l : List Int) : PSpec Tryz.prog 25 [gridV r c l] (.int .i64 (sqErr r c l)) := by
  have hm := @sq_mul r c
  refine pspec_of (md := 1) (rf := []) mixed tabOK noC_ok Tryz.func25 (by rfl) (by rfl) (by rfl) ?_
  repeat' ((conv => whnf); first | refine And.intro ?_ ?_ | with_reducible exact VC.mk rfl | exact Ok.mk | exact True.intro | refine Nx.mk ?_ | refine Fin.mk ?_ | intro _)
  all_goals ((try refine VC.mk ?_); (try simp only [CL.ncell, CL.cnt, vq] at *); (try omega))
  all_goals (refine Sup.of ?_; simp_all [resOf, sqErr] <;> omega)
def CheckSquareP : PSp := fun xs K => match xs with
  | [.agg [.int .i64 r, .int .i64 c, .isl (.ints .i64 l) .none]] => VC (True) ∧ K (.int .i64 (sqErr r c l))
  | _ => False
theorem CheckSquare_ok : POK Tryz.prog 25 CheckSquareP := by
  intro xs K h
  unfold CheckSquareP at h
  split at h
  · exact ⟨_, h.2, CheckSquare_spec _ _ _⟩
  · exact h.elim
theorem checkSquare_spec (r c : Int) (l : List Int) : PSpec Tryz.prog 72 [gridV r c l] (.int .i64 (sqErr r c l)) := by
  have hm := @sq_mul r c
  refine pspec_of (md := 1) (rf := []) mixed tabOK cp1_ok Tryz.func72 (by rfl) (by rfl) (by rfl) ?_
  repeat' ((conv => whnf); first | refine And.intro ?_ ?_ | with_reducible exact VC.mk rfl | exact Ok.mk | exact True.intro | refine Nx.mk ?_ | refine Fin.mk ?_ | intro _)
  all_goals ((try refine VC.mk ?_); (try simp only [CL.ncell, CL.cnt, vq] at *); (try omega))
  all_goals (refine Sup.of ?_; simp_all [resOf, sqErr] <;> omega)
def checkSquareP : PSp := fun xs K => match xs with
  | [.agg [.int .i64 r, .int .i64 c, .isl (.ints .i64 l) .none]] => VC (True) ∧ K (.int .i64 (sqErr r c l))
  | _ => False
theorem checkSquare_ok : POK Tryz.prog 72 checkSquareP := by
  intro xs K h
  unfold checkSquareP at h
  split at h
  · exact ⟨_, h.2, checkSquare_spec _ _ _⟩
  · exact h.elim
theorem sqErr_zero {r c : Int} {l : List Int} (h : sqErr r c l = 0) : r = c ∧ 1 ≤ r ∧ r ≤ 16 ∧ (l.length : Int) = r * r ∧ l.length ≤ 256 := by
  unfold sqErr at h
  split at h
  · cases h
  · rename_i hh
    have h1 : r = c := by omega
    subst h1
    have := sq_mul (r := r) rfl (by omega) (by omega)
    omega
def normErr (r c : Int) (l : List Int) : Int := if sqErr r c l = 0 then (if isNorm l then 0 else 1) else sqErr r c l
noncomputable def cpN1 : CPT := cpAdd 25 (pureCC CheckSquareP) (cpAdd 26 (pureCC IsNormalP) noC)
theorem cpN1_ok : CPOK Tryz.prog cpN1 := cpAdd_ok (pureCC_ok CheckSquare_ok) (cpAdd_ok (pureCC_ok IsNormal_ok) noC_ok)
theorem CheckNormal_spec (r c : Int) (l : List Int) : PSpec Tryz.prog 6 [gridV r c l] (.int .i64 (normErr r c l)) := by
  have hz := @sqErr_zero r c l
  refine pspec_of (md := 1) (rf := []) mixed tabOK cpN1_ok Tryz.func6 (by rfl) (by rfl) (by rfl) ?_
  repeat' ((conv => whnf); first | refine And.intro ?_ ?_ | with_reducible exact VC.mk rfl | exact Ok.mk | exact True.intro | refine Nx.mk ?_ | refine Fin.mk ?_ | intro _)
  all_goals ((try refine VC.mk ?_); (try simp only [CL.ncell, CL.cnt, vq] at *); (try omega))
  all_goals (refine Sup.of ?_; simp_all [resOf, normErr] <;> omega)
def CheckNormalP : PSp := fun xs K => match xs with
  | [.agg [.int .i64 r, .int .i64 c, .isl (.ints .i64 l) .none]] => VC (True) ∧ K (.int .i64 (normErr r c l))
  | _ => False
theorem CheckNormal_ok : POK Tryz.prog 6 CheckNormalP := by
  intro xs K h
  unfold CheckNormalP at h
  split at h
  · exact ⟨_, h.2, CheckNormal_spec _ _ _⟩
  · exact h.elim
noncomputable def cpN2 : CPT := cpAdd 72 (pureCC checkSquareP) cp1
theorem cpN2_ok : CPOK Tryz.prog cpN2 := cpAdd_ok (pureCC_ok checkSquare_ok) cp1_ok
theorem checkNormal_spec (r c : Int) (l : List Int) : PSpec Tryz.prog 31 [gridV r c l] (.int .i64 (normErr r c l)) := by
  have hz := @sqErr_zero r c l
  refine pspec_of (md := 1) (rf := []) mixed tabOK cpN2_ok Tryz.func31 (by rfl) (by rfl) (by rfl) ?_
  repeat' ((conv => whnf); first | refine And.intro ?_ ?_ | with_reducible exact VC.mk rfl | exact Ok.mk | exact True.intro | refine Nx.mk ?_ | refine Fin.mk ?_ | intro _)
  all_goals ((try refine VC.mk ?_); (try simp only [CL.ncell, CL.cnt, vq] at *); (try omega))
  · all_goals (refine Sup.of ?_; simp_all [resOf, normErr] <;> omega)
  have hz := hz (by omega)
  have he : normErr r c l = if isNorm l then 0 else 1 := by unfold normErr; rw [if_pos (by omega)]
  rw [he]
  repeat' ((conv => whnf); first | refine And.intro ?_ ?_ | with_reducible exact VC.mk rfl | exact Ok.mk | exact True.intro | refine Nx.mk ?_ | refine Fin.mk ?_ | intro _)
  all_goals ((try refine VC.mk ?_); (try simp only [CL.ncell, CL.cnt, vq] at *); (try omega))
  conv => whnf
  refine loop_of (X := Nat) (fun i => i ≤ l.length ∧ ∀ j, j < i → okAt 1 (l.length + 1) l j = true) (fun i => [(20, .int .i64 i)]) (fun i => [(5, .cells (.bools (seenAt (l.length + 1) l i)) false)]) (fun i => l.length - i) 0 ⟨anyB_ok, mixed, tabOK, cpN2_ok, noY_ok⟩ (by rfl) ⟨by omega, fun j h => by omega⟩ ?_ ?_
  · repeat' ((conv => whnf); first | refine And.intro ?_ ?_ | with_reducible exact VC.mk rfl | exact Ok.mk | exact True.intro | refine Nx.mk ?_ | refine Fin.mk ?_ | intro _)
    all_goals ((try refine VC.mk ?_); (try simp only [CL.ncell, CL.cnt, vq] at *); (try omega))
    all_goals simp [seenAt]
  · rintro i ⟨hi, hok⟩
    by_cases hlt : i < l.length
    · have e1 := seenAt_len (l.length + 1) l i
      have e2 := seenAt_succ (l.length + 1) l i hlt
      have hbad : okAt 1 (l.length + 1) l i = false → Sup (resOf [.int .i64 1]) (.int .i64 (if isNorm l then 0 else 1)) := fun h => by rw [show isNorm l = false from all_false hlt h]; exact Sup.of rfl
      repeat' ((conv => whnf); first | refine And.intro ?_ ?_ | with_reducible exact VC.mk rfl | exact Ok.mk | exact True.intro | refine Nx.mk ?_ | refine Fin.mk ?_ | intro _)
      all_goals ((try refine VC.mk ?_); (try simp only [CL.ncell, CL.cnt, vq] at *); (try omega))
      · refine hbad ?_; unfold okAt; simp_all
      · refine ⟨i + 1, [], ⟨⟨by omega, fun j hj => ?_⟩, by omega⟩, ?_⟩
        · by_cases e : j = i
          · subst e; unfold okAt; simp_all; omega
          · exact hok j (by omega)
        · repeat' ((conv => whnf); first | refine And.intro ?_ ?_ | with_reducible exact VC.mk rfl | exact Ok.mk | exact True.intro | refine Nx.mk ?_ | refine Fin.mk ?_ | intro _)
          all_goals ((try refine VC.mk ?_); (try simp only [CL.ncell, CL.cnt, vq] at *); (try omega))
          · exact e2.symm
      · refine hbad ?_; unfold okAt; simp_all; omega
      · refine hbad ?_; unfold okAt; simp_all; omega
    · have : i = l.length := by omega
      subst this
      have e : isNorm l = true := all_true hok
      rw [e]
      repeat' ((conv => whnf); first | refine And.intro ?_ ?_ | with_reducible exact VC.mk rfl | exact Ok.mk | exact True.intro | refine Nx.mk ?_ | refine Fin.mk ?_ | intro _)
      all_goals ((try refine VC.mk ?_); (try simp only [CL.ncell, CL.cnt, vq] at *); (try omega))
      exact Sup.of rfl
def checkNormalP : PSp := fun xs K => match xs with
  | [.agg [.int .i64 r, .int .i64 c, .isl (.ints .i64 l) .none]] => VC (True) ∧ K (.int .i64 (normErr r c l))
  | _ => False
theorem checkNormal_ok : POK Tryz.prog 31 checkNormalP := by
  intro xs K h
  unfold checkNormalP at h
  split at h
  · exact ⟨_, h.2, checkNormal_spec _ _ _⟩
  · exact h.elim
/-! permutations -/
end Go.Eng.YtobnbkoeocdhbaaGreatDoor
namespace Go.Eng.YtobnbkoeocdhbaaGreatDoor
open Go.Proofs
set_option maxRecDepth 100000
set_option maxHeartbeats 0
set_option linter.unusedVariables false
set_option linter.unusedSimpArgs false
/-- a square that may be written -/
def emptyL : LSp := fun xs objs K => match xs, objs with
  | [.int .i64 n], [] => VC (0 ≤ n ∧ n ≤ 1000) ∧ K [.agg [.int .i64 n, .int .i64 n, .rsl 0 0 (n * n).toNat]] [.cells (.ints .i64 (List.replicate (n * n).toNat 0)) false]
  | _, _ => False
theorem emptyL_spec (n : Int) (h : 0 ≤ n ∧ n ≤ 1000) : LSpec Tryz.prog 73 [.int .i64 n] [] [.agg [.int .i64 n, .int .i64 n, .rsl 0 0 (n * n).toNat]] [.cells (.ints .i64 (List.replicate (n * n).toNat 0)) false] := by
  have h1 := mul_bd h h
  refine lspec_of (md := 1) (rf := []) mixed tabOK noC_ok 0 [(1, 0)] Tryz.func73 (by rfl) (by rfl) (by rfl) ?_
  repeat' ((conv => whnf); first | refine And.intro ?_ ?_ | with_reducible exact VC.mk rfl | exact Ok.mk | exact True.intro | refine Nx.mk ?_ | refine Fin.mk ?_ | intro _)
  all_goals ((try refine VC.mk ?_); (try simp only [CL.ncell, CL.cnt, vq] at *); (try omega))
theorem emptyL_ok : LOK Tryz.prog 73 emptyL := by
  intro xs objs K h
  unfold emptyL at h
  split at h
  · exact ⟨_, _, h.2, emptyL_spec _ h.1.get⟩
  · exact h.elim
/-! filled from the left -/
def fillG (f : Nat → Int) (N m : Nat) : List Int := (List.range m).map f ++ List.replicate (N - m) 0
theorem fillG_len (f : Nat → Int) (N m : Nat) (h : m ≤ N) : (fillG f N m).length = N := by simp [fillG]; omega
theorem fillG_set (f : Nat → Int) (N m : Nat) (h : m < N) : (fillG f N m).set m (f m) = fillG f N (m + 1) := by
  unfold fillG
  rw [List.set_append_right _ _ (by simp), show N - m = (N - (m + 1)) + 1 by omega, List.replicate_succ, List.range_succ]
  simp
theorem fillG_all (f : Nat → Int) (N : Nat) : fillG f N N = (List.range N).map f := by simp [fillG]
theorem fillG_zero (f : Nat → Int) (N : Nat) : fillG f N 0 = List.replicate N 0 := by simp [fillG]
def madeL (n : Nat) (h : Nat → Nat → Int) : List Int := (List.range (n * n)).map fun k => h (k / n) (k % n)
def madeP : PSp := fun xs K => match xs with
  | [.int .i64 n, .fn (.func f) fs cs] => VC (0 ≤ n ∧ n ≤ 1000) ∧ ∃ h : Nat → Nat → Int, (∀ i j : Nat, (i : Int) < n → (j : Int) < n → PSpec Tryz.prog f (fs ++ [.int .i64 i, .int .i64 j] ++ cs) (.int .i64 (h i j))) ∧ K (gridV n n (madeL n.toNat h))
  | _ => False
theorem made_spec (n : Nat) (hn : n ≤ 1000) (f : Nat) (fs cs : List PV) (h : Nat → Nat → Int) (hh : ∀ i j : Nat, i < n → j < n → PSpec Tryz.prog f (fs ++ [.int .i64 i, .int .i64 j] ++ cs) (.int .i64 (h i j))) :
    PSpec Tryz.prog 33 [.int .i64 (n : Int), .fn (.func f) fs cs] (gridV n n (madeL n h)) := by
  refine pspec_open 1 (enters' Tryz.func33 (by rfl) (by rfl)) rfl (by simp) fun S0 w0 us vs hu hv => ?_
  have hY : ∀ r, YPOK Tryz.prog r (fromB S0 w0) (fnY f us vs fun xs K => match xs with
      | [.int .i64 i, .int .i64 j] => VC ((0 ≤ i ∧ i < n) ∧ 0 ≤ j ∧ j < n) ∧ K (.int .i64 (h i.toNat j.toNat))
      | _ => False) := fun r => fnY_ok (fs := fs) (cs := cs) (fun S w hb => ⟨hu.mono hb.1 (.refl _), hv.mono hb.1 (.refl _)⟩) fun xs K hk => by
    split at hk
    · rename_i i j
      obtain ⟨⟨h1, h2⟩, hk⟩ := hk
      have := hh i.toNat j.toNat (by omega) (by omega)
      rw [Int.toNat_of_nonneg h1.1, Int.toNat_of_nonneg h2.1] at this
      exact ⟨_, hk, this⟩
    · exact hk.elim
  have hC : CPOKB Tryz.prog (fromB S0 w0) (cpAdd 73 (lendCC [] emptyL) noC) := CPOK.up (cpAdd_ok (lendCC_ok [] emptyL_ok) noC_ok) _
  have W : Walk Tryz.prog none (fromB S0 w0) tab.get _ _ := ⟨fromB_ok, mixed, tabOK, hC, hY none⟩
  refine pspecB_of fromB_ok mixed tabOK (md := 1) (rf := []) hC (hY none) Tryz.func33 (by rfl) (by rfl) ?_
  repeat' ((conv => whnf); first | refine And.intro ?_ ?_ | with_reducible exact VC.mk rfl | exact Ok.mk | exact True.intro | refine Nx.mk ?_ | refine Fin.mk ?_ | intro _)
  all_goals ((try refine VC.mk ?_); (try simp only [CL.ncell, CL.cnt, vq] at *); (try omega))
  have eN : ((n : Int) * n).toNat = n * n := by rw [← Int.natCast_mul, Int.toNat_natCast]
  simp only [eN]
  let g : Nat → Int := fun k => h (k / n) (k % n)
  have hbd : ∀ i j : Nat, i < n → j < n → n * i + j < n * n := fun i j hi hj => by
    have := Nat.mul_le_mul_left n (show i + 1 ≤ n by omega)
    rw [Nat.mul_add] at this; omega
  have hix : ∀ i j : Nat, ((n : Int) * i + j) = ((n * i + j : Nat) : Int) := fun i j => by push_cast; rfl
  have hg : ∀ i j : Nat, j < n → h i j = g (n * i + j) := fun i j hj => by
    have h1 : (n * i + j) / n = i := by rw [Nat.mul_add_div (by omega), Nat.div_eq_of_lt hj]; simp
    have h2 : (n * i + j) % n = j := by rw [Nat.mul_add_mod, Nat.mod_eq_of_lt hj]
    simp only [g, h1, h2]
  have hNN : (n : Int) * n ≤ 1000000 := (mul_bd (show 0 ≤ (n : Int) ∧ (n : Int) ≤ 1000 by omega) (show 0 ≤ (n : Int) ∧ (n : Int) ≤ 1000 by omega)).2
  have hNN' : ((n * n : Nat) : Int) ≤ 1000000 := by rw [Int.natCast_mul]; exact hNN
  conv => whnf
  refine loop_of (X := Nat) (fun i => i ≤ n) (fun i => [(11, .int .i64 i)]) (fun i => [(1, .cells (.ints .i64 (fillG g (n * n) (n * i))) false)]) (fun i => n - i) 0 W (by rfl) (by omega) ?_ ?_
  · repeat' ((conv => whnf); first | refine And.intro ?_ ?_ | with_reducible exact VC.mk rfl | exact Ok.mk | exact True.intro | refine Nx.mk ?_ | refine Fin.mk ?_ | intro _)
    all_goals ((try refine VC.mk ?_); (try simp only [CL.ncell, CL.cnt, vq] at *); (try omega))
    all_goals simp [fillG_zero]
  · intro i hi
    by_cases hlt : i < n
    · repeat' ((conv => whnf); first | refine And.intro ?_ ?_ | with_reducible exact VC.mk rfl | exact Ok.mk | exact True.intro | refine Nx.mk ?_ | refine Fin.mk ?_ | intro _)
      all_goals ((try refine VC.mk ?_); (try simp only [CL.ncell, CL.cnt, vq] at *); (try omega))
      conv => whnf
      refine loop_of (X := Nat) (fun j => j ≤ n) (fun j => [(15, .int .i64 j)]) (fun j => [(1, .cells (.ints .i64 (fillG g (n * n) (n * i + j))) false)]) (fun j => n - j) 0 W (by rfl) (by omega) ?_ ?_
      · repeat' ((conv => whnf); first | refine And.intro ?_ ?_ | with_reducible exact VC.mk rfl | exact Ok.mk | exact True.intro | refine Nx.mk ?_ | refine Fin.mk ?_ | intro _)
        all_goals ((try refine VC.mk ?_); (try simp only [CL.ncell, CL.cnt, vq] at *); (try omega))
        all_goals simp
      · intro j hj
        by_cases hlj : j < n
        · have := hbd i j hlt hlj
          have e1 := hix i j
          have e2 := fillG_len g (n * n) (n * i + j) (by omega)
          repeat' ((conv => whnf); first | refine And.intro ?_ ?_ | with_reducible exact VC.mk rfl | exact Ok.mk | exact True.intro | refine Nx.mk ?_ | refine Fin.mk ?_ | intro _)
          all_goals ((try refine VC.mk ?_); (try simp only [CL.ncell, CL.cnt, vq] at *); (try omega))
          refine ⟨j + 1, [], ⟨by omega, by omega⟩, ?_⟩
          repeat' ((conv => whnf); first | refine And.intro ?_ ?_ | with_reducible exact VC.mk rfl | exact Ok.mk | exact True.intro | refine Nx.mk ?_ | refine Fin.mk ?_ | intro _)
          all_goals ((try refine VC.mk ?_); (try simp only [CL.ncell, CL.cnt, vq] at *); (try omega))
          rw [e1, Int.toNat_natCast, hg i j hlj, fillG_set _ _ _ this]; rfl
        · have : n = j := by omega
          subst this
          repeat' ((conv => whnf); first | refine And.intro ?_ ?_ | with_reducible exact VC.mk rfl | exact Ok.mk | exact True.intro | refine Nx.mk ?_ | refine Fin.mk ?_ | intro _)
          all_goals ((try refine VC.mk ?_); (try simp only [CL.ncell, CL.cnt, vq] at *); (try omega))
          refine ⟨i + 1, [], ⟨by omega, by omega⟩, ?_⟩
          repeat' ((conv => whnf); first | refine And.intro ?_ ?_ | with_reducible exact VC.mk rfl | exact Ok.mk | exact True.intro | refine Nx.mk ?_ | refine Fin.mk ?_ | intro _)
          all_goals ((try refine VC.mk ?_); (try simp only [CL.ncell, CL.cnt, vq] at *); (try omega))
    · have : n = i := by omega
      subst this
      repeat' ((conv => whnf); first | refine And.intro ?_ ?_ | with_reducible exact VC.mk rfl | exact Ok.mk | exact True.intro | refine Nx.mk ?_ | refine Fin.mk ?_ | intro _)
      all_goals ((try refine VC.mk ?_); (try simp only [CL.ncell, CL.cnt, vq] at *); (try omega))
      · rw [fillG_len _ _ _ (Nat.le_refl _)]; exact Nat.le_refl _
      rw [fillG_all]
      refine Sup.via ?_
      repeat' ((conv => whnf); first | refine And.intro ?_ ?_ | with_reducible exact VC.mk rfl | exact Ok.mk | exact True.intro | refine Nx.mk ?_ | refine Fin.mk ?_ | intro _)
      all_goals ((try refine VC.mk ?_); (try simp only [CL.ncell, CL.cnt, vq] at *); (try omega))
      simp [CL.sub, madeL, g, List.take_of_length_le]
theorem made_ok : POK Tryz.prog 33 madeP := by
  intro xs K h
  unfold madeP at h
  split at h
  · rename_i n f fs cs
    obtain ⟨⟨h1⟩, hh, h2, hK⟩ := h
    obtain ⟨m, rfl⟩ : ∃ m : Nat, n = m := ⟨n.toNat, by omega⟩
    simp only [Int.toNat_natCast] at hK
    exact ⟨_, hK, made_spec m (by omega) f fs cs hh (fun i j hi hj => h2 i j (by omega) (by omega))⟩
  · exact h.elim
end Go.Eng.YtobnbkoeocdhbaaGreatDoor
namespace Go.Eng.YtobnbkoeocdhbaaGreatDoor
open Go.Proofs
set_option maxRecDepth 100000
set_option maxHeartbeats 0
set_option linter.unusedVariables false
set_option linter.unusedSimpArgs false
theorem find_none {p : Nat → Bool} {n : Nat} (h : ∀ i, i < n → p i = false) : (List.range n).find? p = none := by
  simp only [List.find?_eq_none, List.mem_range]; exact fun i hi => by simp [h i hi]
theorem find_some {p : Nat → Bool} {n y : Nat} (hy : y < n) (hp : p y = true) (h : ∀ i, i < y → p i = false) : (List.range n).find? p = some y := by
  have e : List.range n = List.range y ++ (y :: List.range' (y + 1) (n - y - 1)) := by
    rw [List.range_eq_range', List.range_eq_range', show n = y + (1 + (n - y - 1)) by omega, ← List.range'_append_1, ← List.range'_append_1]
    simp
  rw [e, List.find?_append, find_none h]
  simp [hp]
/-- the numbers laid so far -/
def gAt (c : Nat → Nat) (N x : Nat) : List Int := (List.range x).foldl (fun g y => g.set (c y) ((y : Int) + 1)) (List.replicate N 0)
theorem gAt_succ (c : Nat → Nat) (N x : Nat) : gAt c N (x + 1) = (gAt c N x).set (c x) ((x : Int) + 1) := by simp [gAt, List.range_succ]
theorem gAt_len (c : Nat → Nat) (N : Nat) : ∀ x, (gAt c N x).length = N := by
  intro x
  induction x with
  | zero => simp [gAt]
  | succ x ih => rw [gAt_succ, List.length_set, ih]
theorem gAt_zero (c : Nat → Nat) (N : Nat) : gAt c N 0 = List.replicate N 0 := by simp [gAt]
def meetAt (c : Nat → Nat) (N y : Nat) : Bool := decide ((gAt c N y).getD (c y) 0 ≠ 0)
def meetOf (c : Nat → Nat) (N : Nat) : Option Nat := (List.range N).find? (meetAt c N)
def rowOf (n s x b k : Int) : Int := (s + (k - 1) % n * x + (k - 1) / n * b) % n
theorem cellOf_eq (n s0 s1 x0 x1 b0 b1 k : Int) : cellOf n s0 s1 x0 x1 b0 b1 k = rowOf n s0 x0 b0 k * n + rowOf n s1 x1 b1 k := rfl
theorem rowOf_bd (n s x b k : Int) (hn : 0 < n) : 0 ≤ rowOf n s x b k ∧ rowOf n s x b k < n := ⟨Int.emod_nonneg _ (by omega), Int.emod_lt_of_pos _ hn⟩
theorem cellOf_bd (n s0 s1 x0 x1 b0 b1 k : Int) (hn : 0 < n) : 0 ≤ cellOf n s0 s1 x0 x1 b0 b1 k ∧ cellOf n s0 s1 x0 x1 b0 b1 k < n * n := by
  have h1 := rowOf_bd n s0 x0 b0 k hn
  have h2 := rowOf_bd n s1 x1 b1 k hn
  rw [cellOf_eq]
  have h3 := Int.mul_le_mul_of_nonneg_right (show rowOf n s0 x0 b0 k ≤ n - 1 by omega) (show 0 ≤ n by omega)
  have h4 := Int.mul_nonneg h1.1 (show 0 ≤ n by omega)
  rw [Int.sub_mul] at h3
  omega
/-- the cell of the y-th number, from 0 -/
def cellN (n s0 s1 x0 x1 b0 b1 : Int) (y : Nat) : Nat := (cellOf n s0 s1 x0 x1 b0 b1 ((y : Int) + 1)).toNat
def layV (n : Int) (c : Nat → Nat) (N : Nat) : PV := match meetOf c N with
  | some y => .tup [gridV 0 0 [], .agg [.int .i64 ((gAt c N y).getD (c y) 0), .int .i64 ((y : Int) + 1)], .bp false]
  | none => .tup [gridV n n (gAt c N N), .agg [.int .i64 0, .int .i64 0], .bp true]
noncomputable def cpL1 : CPT := cpAdd 73 (lendCC [] emptyL) (cpAdd 83 (pureCC cellP) noC)
theorem cpL1_ok : CPOK Tryz.prog cpL1 := cpAdd_ok (lendCC_ok [] emptyL_ok) (cpAdd_ok (pureCC_ok cell_ok) noC_ok)
theorem lay_spec (n s0 s1 x0 x1 b0 b1 : Int) (hn : 1 ≤ n ∧ n ≤ 16) (h : ∀ x ∈ [s0, s1, x0, x1, b0, b1], 0 ≤ x ∧ x < n) :
    PSpec Tryz.prog 42 [.agg [.int .i64 n, .int .i64 s0, .int .i64 s1, .int .i64 x0, .int .i64 x1, .int .i64 b0, .int .i64 b1]] (layV n (cellN n s0 s1 x0 x1 b0 b1) (n * n).toNat) := by
  have h1 := mul_bd (show 0 ≤ n ∧ n ≤ 16 by omega) (show 0 ≤ n ∧ n ≤ 16 by omega)
  refine pspec_of (md := 1) (rf := []) mixed tabOK cpL1_ok Tryz.func42 (by rfl) (by rfl) (by rfl) ?_
  repeat' ((conv => whnf); first | refine And.intro ?_ ?_ | with_reducible exact VC.mk rfl | exact Ok.mk | exact True.intro | refine Nx.mk ?_ | refine Fin.mk ?_ | intro _)
  all_goals ((try refine VC.mk ?_); (try simp only [CL.ncell, CL.cnt, vq] at *); (try omega))
  obtain ⟨N, hN⟩ : ∃ N, N = (n * n).toNat := ⟨_, rfl⟩
  have hN' : (N : Int) = n * n := by omega
  obtain ⟨c, hc⟩ : ∃ c, c = cellN n s0 s1 x0 x1 b0 b1 := ⟨_, rfl⟩
  have hcb : ∀ y, c y < N := fun y => by
    have := cellOf_bd n s0 s1 x0 x1 b0 b1 ((y : Int) + 1) (by omega)
    rw [hc]; unfold cellN; omega
  have hce : ∀ y : Nat, cellOf n s0 s1 x0 x1 b0 b1 ((y : Int) + 1) = c y := fun y => by
    have := cellOf_bd n s0 s1 x0 x1 b0 b1 ((y : Int) + 1) (by omega)
    rw [hc]; unfold cellN; omega
  rw [← hN, ← hc]
  conv => whnf
  refine loop_of (X := Nat) (fun y => y ≤ N ∧ ∀ j, j < y → meetAt c N j = false) (fun y => [(6, .int .i64 ((y : Int) + 1))]) (fun y => [(3, .cells (.ints .i64 (gAt c N y)) false)]) (fun y => N - y) 0 ⟨anyB_ok, mixed, tabOK, cpL1_ok, noY_ok⟩ (by rfl) ⟨by omega, fun j hj => by omega⟩ ?_ ?_
  · repeat' ((conv => whnf); first | refine And.intro ?_ ?_ | with_reducible exact VC.mk rfl | exact Ok.mk | exact True.intro | refine Nx.mk ?_ | refine Fin.mk ?_ | intro _)
    all_goals ((try refine VC.mk ?_); (try simp only [CL.ncell, CL.cnt, vq] at *); (try omega))
  · rintro y ⟨hy, hm⟩
    by_cases hlt : y < N
    · have e1 := hcb y
      have e2 := gAt_len c N y
      have e3 := hce y
      repeat' ((conv => whnf); first | refine And.intro ?_ ?_ | with_reducible exact VC.mk rfl | exact Ok.mk | exact True.intro | refine Nx.mk ?_ | refine Fin.mk ?_ | intro _)
      all_goals ((try refine VC.mk ?_); (try simp only [CL.ncell, CL.cnt, vq] at *); (try omega))
      all_goals (try simp only [e3, Int.toNat_natCast] at *)
      all_goals (try omega)
      · exact ⟨by omega, by omega, h⟩
      · have e : meetOf c N = some y := find_some hlt (by unfold meetAt; simpa using ‹_ ≠ _›) hm
        unfold layV
        rw [e]
        all_goals (first | (refine Sup.of ?_; first | rfl | (simp [*, resOf]; done)) | (refine Sup.via ?_; repeat' ((conv => whnf); first | refine And.intro ?_ ?_ | with_reducible exact VC.mk rfl | exact Ok.mk | exact True.intro | refine Nx.mk ?_ | refine Fin.mk ?_ | intro _); all_goals ((try refine VC.mk ?_); (try simp only [CL.ncell, CL.cnt, vq] at *); (try omega)); all_goals (try (simp [CL.sub]; done))))
      · refine ⟨y + 1, [], ⟨⟨by omega, fun j hj => ?_⟩, by omega⟩, ?_⟩
        · by_cases e : j = y
          · subst e; unfold meetAt; simp_all
          · exact hm j (by omega)
        · repeat' ((conv => whnf); first | refine And.intro ?_ ?_ | with_reducible exact VC.mk rfl | exact Ok.mk | exact True.intro | refine Nx.mk ?_ | refine Fin.mk ?_ | intro _)
          all_goals ((try refine VC.mk ?_); (try simp only [CL.ncell, CL.cnt, vq] at *); (try omega))
          rw [gAt_succ]
    · have : N = y := by omega
      subst this
      have e : meetOf c N = none := find_none hm
      unfold layV
      rw [e]
      repeat' ((conv => whnf); first | refine And.intro ?_ ?_ | with_reducible exact VC.mk rfl | exact Ok.mk | exact True.intro | refine Nx.mk ?_ | refine Fin.mk ?_ | intro _)
      all_goals ((try refine VC.mk ?_); (try simp only [CL.ncell, CL.cnt, vq] at *); (try omega))
      · rw [gAt_len]; exact Nat.le_refl _
      refine Sup.via ?_
      repeat' ((conv => whnf); first | refine And.intro ?_ ?_ | with_reducible exact VC.mk rfl | exact Ok.mk | exact True.intro | refine Nx.mk ?_ | refine Fin.mk ?_ | intro _)
      all_goals ((try refine VC.mk ?_); (try simp only [CL.ncell, CL.cnt, vq] at *); (try omega))
      simp [CL.sub, List.take_of_length_le, gAt_len]
def layP : PSp := fun xs K => match xs with
  | [.agg [.int .i64 n, .int .i64 s0, .int .i64 s1, .int .i64 x0, .int .i64 x1, .int .i64 b0, .int .i64 b1]] => VC ((1 ≤ n ∧ n ≤ 16) ∧ ∀ x ∈ [s0, s1, x0, x1, b0, b1], 0 ≤ x ∧ x < n) ∧ K (layV n (cellN n s0 s1 x0 x1 b0 b1) (n * n).toNat)
  | _ => False
theorem lay_ok : POK Tryz.prog 42 layP := by
  intro xs K h
  unfold layP at h
  split at h
  · exact ⟨_, h.2, lay_spec _ _ _ _ _ _ _ h.1.get.1 h.1.get.2⟩
  · exact h.elim
/-! the reference -/
end Go.Eng.YtobnbkoeocdhbaaGreatDoor
namespace Go.Eng.YtobnbkoeocdhbaaGreatDoor
open Go.Proofs
set_option maxRecDepth 100000
set_option maxHeartbeats 0
set_option linter.unusedVariables false
set_option linter.unusedSimpArgs false
/-- the first place at which a condition holds, or -1 -/
def firstAt (p : Nat → Bool) (n : Nat) : Int := match (List.range n).find? p with
  | some i => i
  | none => -1
theorem firstAt_none {p : Nat → Bool} {n : Nat} (h : ∀ i, i < n → p i = false) : firstAt p n = -1 := by unfold firstAt; rw [find_none h]
theorem firstAt_some {p : Nat → Bool} {n y : Nat} (hy : y < n) (hp : p y = true) (h : ∀ i, i < y → p i = false) : firstAt p n = y := by unfold firstAt; rw [find_some hy hp h]
theorem firstAt_nonneg {p : Nat → Bool} {n : Nat} : decide (0 ≤ firstAt p n) = (List.range n).any p := by
  unfold firstAt
  cases h : (List.range n).find? p with
  | some i =>
    have := List.find?_some h
    have hm := List.mem_of_find?_eq_some h
    rw [List.any_eq_true.2 ⟨i, hm, this⟩]; simp
  | none =>
    rw [List.find?_eq_none] at h
    rw [List.any_eq_false.2 (fun x hx => h x hx)]; simp
theorem any_range {α : Type} (p : α → Bool) (d : α) (l : List α) : (List.range l.length).any (fun i => p (l.getD i d)) = l.any p := by
  rw [Bool.eq_iff_iff, List.any_eq_true, List.any_eq_true]
  constructor
  · rintro ⟨i, hi, h⟩
    have hi := List.mem_range.1 hi
    rw [List.getD_eq_getElem?_getD, List.getElem?_eq_getElem hi] at h
    exact ⟨l[i], List.getElem_mem hi, h⟩
  · rintro ⟨x, hx, h⟩
    obtain ⟨i, hi, rfl⟩ := List.getElem_of_mem hx
    exact ⟨i, List.mem_range.2 hi, by rw [List.getD_eq_getElem?_getD, List.getElem?_eq_getElem hi]; exact h⟩
def idxFP : PSp := fun xs K => match xs with
  | [.isl (.ints .i64 l) .none, .fn (.func f) fs cs] => VC (l.length ≤ 2000000) ∧ ∃ p : Int → Bool, (∀ x ∈ l, PSpec Tryz.prog f (fs ++ [.int .i64 x] ++ cs) (.bp (p x))) ∧ K (.int .i64 (firstAt (fun i => p (l.getD i 0)) l.length))
  | _ => False
theorem idxF_spec (l : List Int) (hl : l.length ≤ 2000000) (f : Nat) (fs cs : List PV) (p : Int → Bool) (hp : ∀ x ∈ l, PSpec Tryz.prog f (fs ++ [.int .i64 x] ++ cs) (.bp (p x))) :
    PSpec Tryz.prog 96 [.isl (.ints .i64 l) .none, .fn (.func f) fs cs] (.int .i64 (firstAt (fun i => p (l.getD i 0)) l.length)) := by
  refine pspec_open 1 (enters' Tryz.func96 (by rfl) (by rfl)) rfl (by simp) fun S0 w0 us vs hu hv => ?_
  have hY : ∀ r, YPOK Tryz.prog r (fromB S0 w0) (fnY f us vs fun xs K => match xs with
      | [.int .i64 x] => VC (x ∈ l) ∧ K (.bp (p x))
      | _ => False) := fun r => fnY_ok (fs := fs) (cs := cs) (fun S w hb => ⟨hu.mono hb.1 (.refl _), hv.mono hb.1 (.refl _)⟩) fun xs K hk => by
    split at hk
    · exact ⟨_, hk.2, hp _ hk.1.get⟩
    · exact hk.elim
  have W : Walk Tryz.prog none (fromB S0 w0) tab.get noC _ := ⟨fromB_ok, mixed, tabOK, noC_ok.up _, hY none⟩
  refine pspecB_of fromB_ok mixed tabOK (md := 1) (rf := []) (noC_ok.up _) (hY none) Tryz.func96 (by rfl) (by rfl) ?_
  repeat' ((conv => whnf); first | refine And.intro ?_ ?_ | with_reducible exact VC.mk rfl | exact Ok.mk | exact True.intro | refine Nx.mk ?_ | refine Fin.mk ?_ | intro _)
  all_goals ((try refine VC.mk ?_); (try simp only [CL.ncell, CL.cnt, vq] at *); (try omega))
  conv => whnf
  refine loop_of (X := Nat) (fun i => i ≤ l.length ∧ ∀ j, j < i → p (l.getD j 0) = false) (fun i => [(8, .int .i64 i)]) (fun i => []) (fun i => l.length - i) 0 W (by rfl) ⟨by omega, fun j hj => by omega⟩ ?_ ?_
  · repeat' ((conv => whnf); first | refine And.intro ?_ ?_ | with_reducible exact VC.mk rfl | exact Ok.mk | exact True.intro | refine Nx.mk ?_ | refine Fin.mk ?_ | intro _)
    all_goals ((try refine VC.mk ?_); (try simp only [CL.ncell, CL.cnt, vq] at *); (try omega))
  · rintro i ⟨hi, hok⟩
    by_cases hlt : i < l.length
    · have hm : l.getD i 0 ∈ l := by rw [List.getD_eq_getElem?_getD, List.getElem?_eq_getElem hlt]; exact List.getElem_mem hlt
      repeat' ((conv => whnf); first | refine And.intro ?_ ?_ | with_reducible exact VC.mk rfl | exact Ok.mk | exact True.intro | refine Nx.mk ?_ | refine Fin.mk ?_ | intro _)
      all_goals ((try refine VC.mk ?_); (try simp only [CL.ncell, CL.cnt, vq] at *); (try omega))
      · rw [firstAt_some hlt ‹p (l.getD i 0) = true› hok]; exact Sup.of rfl
      · refine ⟨i + 1, [], ⟨⟨by omega, fun j hj => ?_⟩, by omega⟩, ?_⟩
        · by_cases e : j = i
          · subst e; assumption
          · exact hok j (by omega)
        · repeat' ((conv => whnf); first | refine And.intro ?_ ?_ | with_reducible exact VC.mk rfl | exact Ok.mk | exact True.intro | refine Nx.mk ?_ | refine Fin.mk ?_ | intro _)
          all_goals ((try refine VC.mk ?_); (try simp only [CL.ncell, CL.cnt, vq] at *); (try omega))
    · have : i = l.length := by omega
      subst this
      rw [firstAt_none hok]
      repeat' ((conv => whnf); first | refine And.intro ?_ ?_ | with_reducible exact VC.mk rfl | exact Ok.mk | exact True.intro | refine Nx.mk ?_ | refine Fin.mk ?_ | intro _)
      all_goals ((try refine VC.mk ?_); (try simp only [CL.ncell, CL.cnt, vq] at *); (try omega))
      exact Sup.of rfl
theorem idxF_ok : POK Tryz.prog 96 idxFP := by
  intro xs K h
  unfold idxFP at h
  split at h
  · obtain ⟨⟨h1⟩, p, h2, hK⟩ := h
    exact ⟨_, hK, idxF_spec _ h1 _ _ _ p h2⟩
  · exact h.elim
def hasFP : PSp := fun xs K => match xs with
  | [.isl (.ints .i64 l) .none, .fn (.func f) fs cs] => VC (l.length ≤ 2000000 ∧ inlE.inlF fs = true ∧ inlE.inlF cs = true) ∧ ∃ p : Int → Bool, (∀ x ∈ l, PSpec Tryz.prog f (fs ++ [.int .i64 x] ++ cs) (.bp (p x))) ∧ K (.bp (l.any p))
  | _ => False
theorem hasF_spec (l : List Int) (hl : l.length ≤ 2000000) (f : Nat) (fs cs : List PV) (hfs : inlE.inlF fs = true) (hcs : inlE.inlF cs = true) (p : Int → Bool) (hp : ∀ x ∈ l, PSpec Tryz.prog f (fs ++ [.int .i64 x] ++ cs) (.bp (p x))) :
    PSpec Tryz.prog 86 [.isl (.ints .i64 l) .none, .fn (.func f) fs cs] (.bp (l.any p)) := by
  have hc : CPOK Tryz.prog (cpAdd 96 (pureCC idxFP) noC) := cpAdd_ok (pureCC_ok idxF_ok) noC_ok
  refine pspec_of (md := 1) (rf := []) mixed tabOK hc Tryz.func86 (by rfl) (by rfl) (by rfl) ?_
  repeat' ((conv => whnf); first | refine And.intro ?_ ?_ | with_reducible exact VC.mk rfl | exact Ok.mk | exact True.intro | refine Nx.mk ?_ | refine Fin.mk ?_ | intro _)
  conv => whnf
  simp only [pureCC, pureK, pureEs, pureE, inlE, hfs, hcs]
  repeat' ((conv => whnf); first | refine And.intro ?_ ?_ | with_reducible exact VC.mk rfl | exact Ok.mk | exact True.intro | refine Nx.mk ?_ | refine Fin.mk ?_ | intro _)
  all_goals ((try refine VC.mk ?_); (try simp only [CL.ncell, CL.cnt, vq] at *); (try omega))
  refine ⟨p, hp, ?_⟩
  repeat' ((conv => whnf); first | refine And.intro ?_ ?_ | with_reducible exact VC.mk rfl | exact Ok.mk | exact True.intro | refine Nx.mk ?_ | refine Fin.mk ?_ | intro _)
  all_goals ((try refine VC.mk ?_); (try simp only [CL.ncell, CL.cnt, vq] at *); (try omega))
  refine Sup.via ?_
  repeat' ((conv => whnf); first | refine And.intro ?_ ?_ | with_reducible exact VC.mk rfl | exact Ok.mk | exact True.intro | refine Nx.mk ?_ | refine Fin.mk ?_ | intro _)
  refine VC.mk ?_
  rw [firstAt_nonneg, any_range]
theorem hasF_ok : POK Tryz.prog 86 hasFP := by
  intro xs K h
  unfold hasFP at h
  split at h
  · obtain ⟨⟨h1, h3, h4⟩, p, h2, hK⟩ := h
    exact ⟨_, hK, hasF_spec _ h1 _ _ _ h3 h4 p h2⟩
  · exact h.elim
end Go.Eng.YtobnbkoeocdhbaaGreatDoor
namespace Go.Eng.YtobnbkoeocdhbaaGreatDoor
set_option linter.unusedVariables false
set_option linter.unusedSimpArgs false
open Go.Proofs
def sumAt (cs l : List Int) (i : Nat) : Int := (l.take i).foldl (fun s c => s + cs.getD c.toNat 0) 0
theorem sumAt_succ (cs l : List Int) (i : Nat) (h : i < l.length) : sumAt cs l (i + 1) = sumAt cs l i + cs.getD (l.getD i 0).toNat 0 := by
  unfold sumAt
  rw [List.take_add_one, List.foldl_append]
  simp [h]
def sumP : PSp := fun xs K => match xs with
  | [.agg [.int .i64 n, .int .i64 m, .isl (.ints .i64 cs) .none], .isl (.ints .i64 l) .none] =>
    VC ((∀ c ∈ l, 0 ≤ c ∧ c < cs.length) ∧ l.length < 1000000 ∧ ∀ i, i ≤ l.length → -1000000 < sumAt cs l i ∧ sumAt cs l i < 1000000) ∧ K (.int .i64 (sumAt cs l l.length))
  | _ => False
theorem sum_spec (n m : Int) (cs l : List Int) (h : ∀ c ∈ l, 0 ≤ c ∧ c < cs.length) (hl : l.length < 1000000) (hb : ∀ i, i ≤ l.length → -1000000 < sumAt cs l i ∧ sumAt cs l i < 1000000) :
    PSpec Tryz.prog 52 [.agg [.int .i64 n, .int .i64 m, .isl (.ints .i64 cs) .none], .isl (.ints .i64 l) .none] (.int .i64 (sumAt cs l l.length)) := by
  refine pspec_of (md := 1) (rf := []) mixed tabOK noC_ok Tryz.func52 (by rfl) (by rfl) (by rfl) ?_
  repeat' ((conv => whnf); first | refine And.intro ?_ ?_ | with_reducible exact VC.mk rfl | exact Ok.mk | exact True.intro | refine Nx.mk ?_ | refine Fin.mk ?_ | intro _)
  conv => whnf
  refine loop_of (X := Nat) (fun i => i ≤ l.length) (fun i => [(5, .int .i64 (sumAt cs l i)), (10, .int .i64 i)]) (fun _ => []) (fun i => l.length - i) 0 ⟨anyB_ok, mixed, tabOK, noC_ok, noY_ok⟩ (by rfl) (by omega) ?_ ?_
  · repeat' ((conv => whnf); first | refine And.intro ?_ ?_ | with_reducible exact VC.mk rfl | exact Ok.mk | exact True.intro | refine Nx.mk ?_ | refine Fin.mk ?_ | intro _)
    all_goals ((try refine VC.mk ?_); (try simp only [CL.ncell, CL.cnt, vq] at *); (try omega))
  · intro i hi
    by_cases hlt : i < l.length
    · have key := h (l.getD i 0) (by simp [hlt])
      have hs := hb (i + 1) hlt
      have hs0 := hb i hi
      have e := sumAt_succ cs l i hlt
      repeat' ((conv => whnf); first | refine And.intro ?_ ?_ | with_reducible exact VC.mk rfl | exact Ok.mk | exact True.intro | refine Nx.mk ?_ | refine Fin.mk ?_ | intro _)
      all_goals ((try refine VC.mk ?_); (try simp only [CL.ncell, CL.cnt, vq] at *); (try omega))
      refine ⟨i + 1, [], ⟨by omega, by omega⟩, ?_⟩
      repeat' ((conv => whnf); first | refine And.intro ?_ ?_ | with_reducible exact VC.mk rfl | exact Ok.mk | exact True.intro | refine Nx.mk ?_ | refine Fin.mk ?_ | intro _)
      all_goals ((try refine VC.mk ?_); (try simp only [CL.ncell, CL.cnt, vq] at *); (try omega))
      all_goals rw [e]; exact Sup.of rfl
    · have : i = l.length := by omega
      subst this
      repeat' ((conv => whnf); first | refine And.intro ?_ ?_ | with_reducible exact VC.mk rfl | exact Ok.mk | exact True.intro | refine Nx.mk ?_ | refine Fin.mk ?_ | intro _)
      all_goals ((try refine VC.mk ?_); (try simp only [CL.ncell, CL.cnt, vq] at *); (try omega))
      all_goals (first | (refine Sup.of ?_; first | rfl | (simp [*, resOf]; done)) | (refine Sup.via ?_; repeat' ((conv => whnf); first | refine And.intro ?_ ?_ | with_reducible exact VC.mk rfl | exact Ok.mk | exact True.intro | refine Nx.mk ?_ | refine Fin.mk ?_ | intro _); all_goals ((try refine VC.mk ?_); (try simp only [CL.ncell, CL.cnt, vq] at *); (try omega)); all_goals (try (simp [CL.sub]; done))))
end Go.Eng.YtobnbkoeocdhbaaGreatDoor
namespace Go.Eng.YtobnbkoeocdhbaaGreatDoor
open Go.Proofs
set_option maxRecDepth 100000
set_option maxHeartbeats 0
set_option linter.unusedVariables false
set_option linter.unusedSimpArgs false
theorem sum_ok : POK Tryz.prog 52 sumP := by
  intro xs K h
  unfold sumP at h
  split at h
  · exact ⟨_, h.2, sum_spec _ _ _ _ h.1.get.1 h.1.get.2.1 h.1.get.2.2⟩
  · exact h.elim
theorem sumAt_bd (cs l : List Int) (hc : ∀ c ∈ l, 0 ≤ cs.getD c.toNat 0 ∧ cs.getD c.toNat 0 ≤ 1000) : ∀ i, i ≤ l.length → 0 ≤ sumAt cs l i ∧ sumAt cs l i ≤ 1000 * i := by
  intro i
  induction i with
  | zero => intro _; simp [sumAt]
  | succ i ih =>
    intro hi
    have := ih (by omega)
    have h2 := hc (l.getD i 0) (by rw [List.getD_eq_getElem?_getD, List.getElem?_eq_getElem (by omega)]; exact List.getElem_mem _)
    rw [sumAt_succ cs l i (by omega)]
    omega
theorem lineAt_len (n i : Nat) : (lineAt n i).length = n := by
  unfold lineAt
  repeat' split
  all_goals simp [rowL, colL]
theorem mul_lt_sq {n i : Nat} {j : Int} (hi : i < n) (hj : 0 ≤ j ∧ j < n) : 0 ≤ (n : Int) * i + j ∧ (n : Int) * i + j < (n : Int) * n := by
  have h1 := Int.mul_le_mul_of_nonneg_left (show (i : Int) + 1 ≤ n by omega) (show 0 ≤ (n : Int) by omega)
  have h2 := Int.mul_nonneg (show 0 ≤ (n : Int) by omega) (show 0 ≤ (i : Int) by omega)
  rw [Int.mul_add] at h1
  omega
theorem colL_mem {n : Nat} {h : Nat → Int} (c : Int) (hc : c ∈ colL n h n) : 0 ≤ c ∧ c < (n : Int) * n := by
  unfold colL at hc
  obtain ⟨i, hi, rfl⟩ := List.mem_map.1 hc
  have hi := List.mem_range.1 hi
  exact mul_lt_sq hi ⟨Int.emod_nonneg _ (by omega), Int.emod_lt_of_pos _ (by omega)⟩
theorem lineAt_mem {n i : Nat} (c : Int) (hc : c ∈ lineAt n i) : 0 ≤ c ∧ c < (n : Int) * n := by
  unfold lineAt at hc
  split at hc
  · rename_i hlt
    unfold rowL at hc
    obtain ⟨j, hj, rfl⟩ := List.mem_map.1 hc
    have hj := List.mem_range.1 hj
    exact mul_lt_sq hlt ⟨by omega, by omega⟩
  · repeat' (split at hc)
    all_goals exact colL_mem c hc
theorem linesV_get {n : Nat} {g : Int} {i : Nat} {x : PV} (h : (linesV n g)[i]? = some x) : i < lineCnt n g ∧ x = .isl (.ints .i64 (lineAt n i)) .none := by
  unfold linesV at h
  rw [List.getElem?_map] at h
  cases hr : (List.range (lineCnt n g))[i]? with
  | none => rw [hr] at h; simp at h
  | some j =>
    rw [hr] at h
    obtain ⟨h1, h2⟩ := List.getElem?_eq_some_iff.1 hr
    simp at h1 h2
    subst h2
    simp at h
    exact ⟨h1, h.symm⟩
theorem linesV_len (n : Nat) (g : Int) : (linesV n g).length = lineCnt n g := by simp [linesV]
/-- the sum of a line -/
def lineSum (n : Nat) (l : List Int) (i : Nat) : Int := sumAt l (lineAt n i) n
def lineOk (n : Nat) (l : List Int) (i : Nat) : Bool := decide (lineSum n l i = constOf n)
def linesOk (n : Nat) (g : Int) (l : List Int) : Bool := (List.range (lineCnt n g)).all (lineOk n l)
noncomputable def cpQ : CPT := cpAdd 51 (pureCC linesP) (cpAdd 52 (pureCC sumP) (cpAdd 53 (pureCC constantP) noC))
theorem cpQ_ok : CPOK Tryz.prog cpQ := cpAdd_ok (pureCC_ok lines_ok) (cpAdd_ok (pureCC_ok sum_ok) (cpAdd_ok (pureCC_ok constant_ok) noC_ok))
theorem isMagic_spec (n : Nat) (c : Int) (l : List Int) (hn : 1 ≤ n ∧ n ≤ 16) (hl : (l.length : Int) = (n : Int) * n) (hv : ∀ x ∈ l, 0 ≤ x ∧ x ≤ 1000) : PSpec Tryz.prog 36 [gridV n c l] (.bp (linesOk n 2 l)) := by
  have hg : ∀ k : Int, 0 ≤ k → k < (n : Int) * n → 0 ≤ l.getD k.toNat 0 ∧ l.getD k.toNat 0 ≤ 1000 := fun k h1 h2 => by
    rw [List.getD_eq_getElem?_getD, List.getElem?_eq_getElem (by omega)]; exact hv _ (List.getElem_mem _)
  refine pspec_of (md := 1) (rf := []) mixed tabOK cpQ_ok Tryz.func36 (by rfl) (by rfl) (by rfl) ?_
  repeat' ((conv => whnf); first | refine And.intro ?_ ?_ | with_reducible exact VC.mk rfl | exact Ok.mk | exact True.intro | refine Nx.mk ?_ | refine Fin.mk ?_ | intro _)
  all_goals ((try refine VC.mk ?_); (try simp only [CL.ncell, CL.cnt, vq] at *); (try omega))
  conv => whnf
  refine range_of anyB_ok mixed tabOK cpQ_ok (fun r => noY_ok) (fs := []) (cs := [.ip (.pv [.int .i64 (n : Int)]) 0, .ip (.pv [.int .i64 2]) 0]) (linesV n 2) (lineOk n l) (fun _ => []) (by rfl) (by rfl) (by rfl) (c117_spec n hn 2) (by rfl) (by rfl) (by rfl) (by rfl) ?_ ?_ ?_
  · repeat' ((conv => whnf); first | refine And.intro ?_ ?_ | with_reducible exact VC.mk rfl | exact Ok.mk | exact True.intro | refine Nx.mk ?_ | refine Fin.mk ?_ | intro _)
    all_goals ((try refine VC.mk ?_); (try simp only [CL.ncell, CL.cnt, vq] at *); (try omega))
  · intro hall
    repeat' ((conv => whnf); first | refine And.intro ?_ ?_ | with_reducible exact VC.mk rfl | exact Ok.mk | exact True.intro | refine Nx.mk ?_ | refine Fin.mk ?_ | intro _)
    all_goals ((try refine VC.mk ?_); (try simp only [CL.ncell, CL.cnt, vq] at *); (try omega))
    rw [show linesOk n 2 l = true from all_true (fun j hj => hall j (by rw [linesV_len]; exact hj))]
    all_goals (first | (refine Sup.of ?_; first | rfl | (simp [*, resOf]; done)) | (refine Sup.via ?_; repeat' ((conv => whnf); first | refine And.intro ?_ ?_ | with_reducible exact VC.mk rfl | exact Ok.mk | exact True.intro | refine Nx.mk ?_ | refine Fin.mk ?_ | intro _); all_goals ((try refine VC.mk ?_); (try simp only [CL.ncell, CL.cnt, vq] at *); (try omega)); all_goals (try (simp [CL.sub]; done))))
  · intro i x hx hall lp
    obtain ⟨h1, rfl⟩ := linesV_get hx
    have hm := fun c hc => lineAt_mem (n := n) (i := i) c hc
    have hb := sumAt_bd l (lineAt n i) (fun c hc => hg c (hm c hc).1 (hm c hc).2)
    have hbad : sumAt l (lineAt n i) (lineAt n i).length ≠ constOf n → lineOk n l i = false := fun h => by
      rw [lineAt_len] at h; unfold lineOk lineSum; simpa using h
    have hgood : ¬ sumAt l (lineAt n i) (lineAt n i).length ≠ constOf n → lineOk n l i = true := fun h => by
      rw [lineAt_len] at h; unfold lineOk lineSum; simpa using h
    repeat' ((conv => whnf); first | refine And.intro ?_ ?_ | with_reducible exact VC.mk rfl | exact Ok.mk | exact True.intro | refine Nx.mk ?_ | refine Fin.mk ?_ | intro _)
    all_goals ((try refine VC.mk ?_); (try simp only [CL.ncell, CL.cnt, vq] at *); (try omega))
    · refine ⟨fun c hc => by have := hm c hc; omega, by rw [lineAt_len]; omega, fun j hj => ?_⟩
      have := hb j hj
      rw [lineAt_len] at hj
      omega
    · exact hbad ‹_›
    · rw [show linesOk n 2 l = false from all_false h1 (hbad ‹_›)]
      all_goals (first | (refine Sup.of ?_; first | rfl | (simp [*, resOf]; done)) | (refine Sup.via ?_; repeat' ((conv => whnf); first | refine And.intro ?_ ?_ | with_reducible exact VC.mk rfl | exact Ok.mk | exact True.intro | refine Nx.mk ?_ | refine Fin.mk ?_ | intro _); all_goals ((try refine VC.mk ?_); (try simp only [CL.ncell, CL.cnt, vq] at *); (try omega)); all_goals (try (simp [CL.sub]; done))))
    · refine ⟨[], hgood ‹_›, ?_⟩
      repeat' ((conv => whnf); first | refine And.intro ?_ ?_ | with_reducible exact VC.mk rfl | exact Ok.mk | exact True.intro | refine Nx.mk ?_ | refine Fin.mk ?_ | intro _)
      all_goals ((try refine VC.mk ?_); (try simp only [CL.ncell, CL.cnt, vq] at *); (try omega))
def isMagicP : PSp := fun xs K => match xs with
  | [.agg [.int .i64 n, .int .i64 c, .isl (.ints .i64 l) .none]] => VC ((1 ≤ n ∧ n ≤ 16) ∧ (l.length : Int) = n * n ∧ ∀ x ∈ l, 0 ≤ x ∧ x ≤ 1000) ∧ K (.bp (linesOk n.toNat 2 l))
  | _ => False
theorem isMagic_ok : POK Tryz.prog 36 isMagicP := by
  intro xs K h
  unfold isMagicP at h
  split at h
  · rename_i n c l
    obtain ⟨⟨h1, h2, h3⟩, hK⟩ := h
    obtain ⟨m, rfl⟩ : ∃ m : Nat, n = m := ⟨n.toNat, by omega⟩
    simp only [Int.toNat_natCast] at hK
    exact ⟨_, hK, isMagic_spec m c l (by omega) h2 h3⟩
  · exact h.elim
end Go.Eng.YtobnbkoeocdhbaaGreatDoor
namespace Go.Eng.YtobnbkoeocdhbaaGreatDoor
open Go.Proofs
set_option maxRecDepth 100000
set_option maxHeartbeats 0
set_option linter.unusedVariables false
set_option linter.unusedSimpArgs false
theorem emod_all {n : Int} (hn : 1 ≤ n) (s0 s1 x0 x1 b0 b1 : Int) : ∀ x ∈ [s0 % n, s1 % n, x0 % n, x1 % n, b0 % n, b1 % n], 0 ≤ x ∧ x < n := by
  have hm : ∀ y : Int, 0 ≤ y % n ∧ y % n < n := fun y => ⟨Int.emod_nonneg _ (by omega), Int.emod_lt_of_pos _ (by omega)⟩
  intro x hx
  simp only [List.mem_cons, List.not_mem_nil, or_false] at hx
  rcases hx with rfl | rfl | rfl | rfl | rfl | rfl <;> exact hm _
/-- the cells of a rule -/
abbrev cellS (n s0 s1 x0 x1 b0 b1 : Int) : Nat → Nat := cellN n (s0 % n) (s1 % n) (x0 % n) (x1 % n) (b0 % n) (b1 % n)
/-! Uniform -/
end Go.Eng.YtobnbkoeocdhbaaGreatDoor
namespace Go.Eng.YtobnbkoeocdhbaaGreatDoor
open Go.Proofs
set_option maxRecDepth 100000
set_option maxHeartbeats 0
set_option linter.unusedVariables false
set_option linter.unusedSimpArgs false
/-! Place -/
end Go.Eng.YtobnbkoeocdhbaaGreatDoor
namespace Go.Eng.YtobnbkoeocdhbaaGreatDoor
open Go.Proofs
set_option maxRecDepth 100000
set_option maxHeartbeats 0
set_option linter.unusedVariables false
set_option linter.unusedSimpArgs false
theorem sup_b {b : Bool} : Sup (.bp b) (.bool b) := ⟨fun h => by cases h; exact .bool _ _⟩
/-- a contract at given values, under a condition -/
def atC (C : Prop) (as0 : List PV) (v : PV) : PSp := fun xs K => VC C ∧ VC (xs = as0) ∧ K v
theorem atC_ok {g : FuncId} {C : Prop} {as0 : List PV} {v : PV} (h : C → PSpec Tryz.prog g as0 v) : POK Tryz.prog g (atC C as0 v) := by
  rintro xs K ⟨⟨hc⟩, ⟨rfl⟩, hk⟩
  exact ⟨v, hk, h hc⟩
theorem sup_true : Sup (resOf [PV.bool true]) (.bp true) := ⟨fun h => by cases h; exact .bp _ _⟩
end Go.Eng.YtobnbkoeocdhbaaGreatDoor
namespace Go.Eng.YtobnbkoeocdhbaaGreatDoor
open Go.Proofs
set_option maxRecDepth 100000
set_option maxHeartbeats 0
set_option linter.unusedVariables false
set_option linter.unusedSimpArgs false
def coprime (n a : Int) : Bool := decide (Int.gcd (a % n) n = 1)
def isSq (n x0 x1 b0 b1 : Int) : Bool := coprime n (x0 * b1 - x1 * b0)
end Go.Eng.YtobnbkoeocdhbaaGreatDoor
namespace Go.Eng.YtobnbkoeocdhbaaGreatDoor
open Go.Proofs
set_option maxRecDepth 100000
set_option maxHeartbeats 0
set_option linter.unusedVariables false
set_option linter.unusedSimpArgs false
end Go.Eng.YtobnbkoeocdhbaaGreatDoor
namespace Go.Eng.YtobnbkoeocdhbaaGreatDoor
set_option linter.unusedSimpArgs false
open Go.Proofs
set_option linter.unusedVariables false
/-- what is free of earlier numbers -/
theorem gAt_free (c : Nat → Nat) (N : Nat) : ∀ (x i : Nat), (∀ j, j < x → c j ≠ i) → (gAt c N x).getD i 0 = 0 := by
  intro x
  induction x with
  | zero =>
    intro i _
    rw [gAt_zero, List.getD_eq_getElem?_getD, List.getElem?_replicate]
    split <;> rfl
  | succ x ih =>
    intro i h
    rw [gAt_succ, List.getD_eq_getElem?_getD, List.getElem?_set_ne (h x (by omega)), ← List.getD_eq_getElem?_getD]
    exact ih i fun j hj => h j (by omega)
theorem meetOf_none {c : Nat → Nat} {N : Nat} (h : ∀ i j, i < j → j < N → c i ≠ c j) : meetOf c N = none := by
  refine find_none fun y hy => ?_
  unfold meetAt
  rw [gAt_free c N y (c y) fun j hj => h j y hj hy]
  simp
theorem dvd_of_coprime {n a b : Int} (h : Int.gcd (b % n) n = 1) (hd : n ∣ a * b) : n ∣ a := by
  have h1 : n ∣ a * (b % n) := by
    obtain ⟨k, hk⟩ := hd
    have := Int.emod_add_mul_ediv b n
    exact ⟨k - a * (b / n), by grind⟩
  have h2 := Int.natAbs_dvd_natAbs.2 h1
  rw [Int.natAbs_mul] at h2
  exact Int.natAbs_dvd_natAbs.1 (Nat.Coprime.dvd_of_dvd_mul_right (Nat.Coprime.symm h) h2)
theorem emod_eq_dvd {n a b : Int} (h : a % n = b % n) : n ∣ a - b := by
  rw [Int.dvd_iff_emod_eq_zero]; exact Int.emod_eq_emod_iff_emod_sub_eq_zero.1 h
theorem small_dvd {n a : Int} (hn : 0 < n) (h : n ∣ a) (h1 : -n < a) (h2 : a < n) : a = 0 := by
  obtain ⟨k, rfl⟩ := h
  have : k = 0 := by
    rcases Int.lt_trichotomy k 0 with hk | hk | hk
    · have := Int.mul_le_mul_of_nonneg_left (show k ≤ -1 by omega) (show 0 ≤ n by omega); omega
    · exact hk
    · have := Int.mul_le_mul_of_nonneg_left (show 1 ≤ k by omega) (show 0 ≤ n by omega); omega
  rw [this]; simp
theorem cell_inj {n s0 s1 x0 x1 b0 b1 : Int} (hn : 1 ≤ n) (hs : isSq n x0 x1 b0 b1 = true) (i j : Nat) (hi : (i : Int) < n * n) (hj : (j : Int) < n * n)
    (h : cellN n s0 s1 x0 x1 b0 b1 i = cellN n s0 s1 x0 x1 b0 b1 j) : i = j := by
  have hd : Int.gcd ((x0 * b1 - x1 * b0) % n) n = 1 := by
    unfold isSq coprime at hs
    exact of_decide_eq_true hs
  have ci := cellOf_bd n s0 s1 x0 x1 b0 b1 ((i : Int) + 1) (by omega)
  have cj := cellOf_bd n s0 s1 x0 x1 b0 b1 ((j : Int) + 1) (by omega)
  have he : cellOf n s0 s1 x0 x1 b0 b1 ((i : Int) + 1) = cellOf n s0 s1 x0 x1 b0 b1 ((j : Int) + 1) := by unfold cellN at h; omega
  rw [cellOf_eq, cellOf_eq] at he
  have r1 := rowOf_bd n s0 x0 b0 ((i : Int) + 1) (by omega)
  have r2 := rowOf_bd n s0 x0 b0 ((j : Int) + 1) (by omega)
  have q1 := rowOf_bd n s1 x1 b1 ((i : Int) + 1) (by omega)
  have q2 := rowOf_bd n s1 x1 b1 ((j : Int) + 1) (by omega)
  have er : rowOf n s0 x0 b0 ((i : Int) + 1) = rowOf n s0 x0 b0 ((j : Int) + 1) := by
    have := small_dvd (n := n) (a := rowOf n s1 x1 b1 ((j : Int) + 1) - rowOf n s1 x1 b1 ((i : Int) + 1)) (by omega) ⟨rowOf n s0 x0 b0 ((i : Int) + 1) - rowOf n s0 x0 b0 ((j : Int) + 1), by rw [Int.mul_sub, Int.mul_comm n, Int.mul_comm n]; omega⟩ (by omega) (by omega)
    have h0 : (rowOf n s0 x0 b0 ((i : Int) + 1) - rowOf n s0 x0 b0 ((j : Int) + 1)) * n = 0 := by rw [Int.sub_mul]; omega
    rcases Int.mul_eq_zero.1 h0 with h0 | h0 <;> omega
  have eq : rowOf n s1 x1 b1 ((i : Int) + 1) = rowOf n s1 x1 b1 ((j : Int) + 1) := by rw [er] at he; omega
  unfold rowOf at er eq
  simp only [Int.add_sub_cancel] at er eq
  have d1 := emod_eq_dvd er
  have d2 := emod_eq_dvd eq
  obtain ⟨a, ha⟩ : ∃ a, a = (i : Int) % n := ⟨_, rfl⟩
  obtain ⟨b, hb⟩ : ∃ b, b = (i : Int) / n := ⟨_, rfl⟩
  obtain ⟨a', ha'⟩ : ∃ a, a = (j : Int) % n := ⟨_, rfl⟩
  obtain ⟨b', hb'⟩ : ∃ b, b = (j : Int) / n := ⟨_, rfl⟩
  rw [← ha, ← hb, ← ha', ← hb'] at d1 d2
  have e1 : n ∣ (a - a') * (x0 * b1 - x1 * b0) := by
    obtain ⟨k1, h1⟩ := d1
    obtain ⟨k2, h2⟩ := d2
    exact ⟨k1 * b1 - k2 * b0, by grind⟩
  have e2 : n ∣ (b - b') * (x0 * b1 - x1 * b0) := by
    obtain ⟨k1, h1⟩ := d1
    obtain ⟨k2, h2⟩ := d2
    exact ⟨k2 * x0 - k1 * x1, by grind⟩
  have f1 := small_dvd (by omega) (dvd_of_coprime hd e1) (by have := Int.emod_nonneg (i : Int) (show n ≠ 0 by omega); have := Int.emod_lt_of_pos (j : Int) (show 0 < n by omega); omega) (by have := Int.emod_nonneg (j : Int) (show n ≠ 0 by omega); have := Int.emod_lt_of_pos (i : Int) (show 0 < n by omega); omega)
  have hbi : 0 ≤ b ∧ b < n := ⟨by rw [hb]; exact Int.ediv_nonneg (by omega) (by omega), by rw [hb]; exact Int.ediv_lt_of_lt_mul (by omega) hi⟩
  have hbj : 0 ≤ b' ∧ b' < n := ⟨by rw [hb']; exact Int.ediv_nonneg (by omega) (by omega), by rw [hb']; exact Int.ediv_lt_of_lt_mul (by omega) hj⟩
  have f2 := small_dvd (by omega) (dvd_of_coprime hd e2) (by omega) (by omega)
  have g1 := Int.emod_add_mul_ediv (i : Int) n
  have g2 := Int.emod_add_mul_ediv (j : Int) n
  rw [← ha, ← hb] at g1
  rw [← ha', ← hb'] at g2
  have : b = b' := by omega
  rw [this] at g1
  omega
theorem pigeon : ∀ (N : Nat) (c : Nat → Nat), (∀ i, i < N + 1 → c i < N) → ∃ i j, i < j ∧ j < N + 1 ∧ c i = c j := by
  intro N
  induction N with
  | zero => intro c h; have := h 0 (by omega); omega
  | succ N ih =>
    intro c h
    by_cases hv : ∃ i, i < N + 1 ∧ c i = c (N + 1)
    · obtain ⟨i, h1, h2⟩ := hv; exact ⟨i, N + 1, by omega, by omega, h2⟩
    · have hne : ∀ i, i < N + 1 → c i ≠ c (N + 1) := fun i hi e => hv ⟨i, hi, e⟩
      have hl := h (N + 1) (by omega)
      obtain ⟨i, j, h1, h2, h3⟩ := ih (fun i => if c i = N then c (N + 1) else c i) (fun i hi => by
        have a := h i (by omega)
        have b := hne i hi
        by_cases e : c i = N
        · simp only [e, if_true]; omega
        · simp only [e, if_false]; omega)
      refine ⟨i, j, h1, by omega, ?_⟩
      have a := hne i (by omega)
      have b := hne j (by omega)
      by_cases e1 : c i = N
      · by_cases e2 : c j = N
        · omega
        · simp only [e1, e2, if_true, if_false] at h3; omega
      · by_cases e2 : c j = N
        · simp only [e1, e2, if_true, if_false] at h3; omega
        · simp only [e1, e2, if_false] at h3; exact h3
theorem inj_surj {c : Nat → Nat} {N : Nat} (hb : ∀ i, i < N → c i < N) (h : ∀ i j, i < j → j < N → c i ≠ c j) (y : Nat) (hy : y < N) : ∃ i, i < N ∧ c i = y := by
  rcases Classical.em (∃ i, i < N ∧ c i = y) with hh | hh
  · exact hh
  · exfalso
    have hne : ∀ i, i < N → c i ≠ y := fun i hi e => hh ⟨i, hi, e⟩
    obtain ⟨M, rfl⟩ : ∃ M, N = M + 1 := ⟨N - 1, by omega⟩
    obtain ⟨i, j, h1, h2, h3⟩ := pigeon M (fun i => if c i = M then y else c i) (fun i hi => by
      have a := hb i hi
      have b := hne i hi
      by_cases e : c i = M
      · simp only [e, if_true]; omega
      · simp only [e, if_false]; omega)
    have a := hne i (by omega)
    have b := hne j (by omega)
    have d := h i j h1 h2
    by_cases e1 : c i = M
    · by_cases e2 : c j = M
      · omega
      · simp only [e1, e2, if_true, if_false] at h3; omega
    · by_cases e2 : c j = M
      · simp only [e1, e2, if_true, if_false] at h3; omega
      · simp only [e1, e2, if_false] at h3; omega
theorem meet_none {n s0 s1 x0 x1 b0 b1 : Int} (hn : 1 ≤ n) (hs : isSq n x0 x1 b0 b1 = true) : meetOf (cellN n s0 s1 x0 x1 b0 b1) (n * n).toNat = none :=
  meetOf_none fun i j hij hj h => by
    have := cell_inj hn hs i j (by omega) (by omega) h
    omega
end Go.Eng.YtobnbkoeocdhbaaGreatDoor
namespace Go.Eng.YtobnbkoeocdhbaaGreatDoor
open Go.Proofs
set_option maxRecDepth 100000
set_option maxHeartbeats 0
set_option linter.unusedVariables false
set_option linter.unusedSimpArgs false
/-! the table of kinds -/
/-! known -/
end Go.Eng.YtobnbkoeocdhbaaGreatDoor
namespace Go.Eng.YtobnbkoeocdhbaaGreatDoor
open Go.Proofs
set_option maxRecDepth 100000
set_option maxHeartbeats 0
set_option linter.unusedVariables false
set_option linter.unusedSimpArgs false
/-! Admits -/
end Go.Eng.YtobnbkoeocdhbaaGreatDoor
namespace Go.Eng.YtobnbkoeocdhbaaGreatDoor
open Go.Proofs
set_option maxRecDepth 100000
set_option maxHeartbeats 0
set_option linter.unusedVariables false
set_option linter.unusedSimpArgs false
/-! the sum of some cells -/
/-! all lines -/
def linesTo (n m : Nat) : List (List Int) := (List.range m).map (lineAt n)
theorem emod_of_sub {a b n k : Int} (h : a - b = n * k) : a % n = b % n := by
  have : a = b + n * k := by omega
  rw [this, Int.add_mul_emod_self_left]
end Go.Eng.YtobnbkoeocdhbaaGreatDoor
namespace Go.Eng.YtobnbkoeocdhbaaGreatDoor
open Go.Proofs
set_option maxRecDepth 100000
set_option maxHeartbeats 0
set_option linter.unusedVariables false
set_option linter.unusedSimpArgs false
/-- the first line of the first groups whose sum is wrong -/
def badLine (n : Nat) (g : Int) (l : List Int) : Option Nat := (List.range (lineCnt n g)).find? (fun i => !lineOk n l i)
end Go.Eng.YtobnbkoeocdhbaaGreatDoor
namespace Go.Eng.YtobnbkoeocdhbaaGreatDoor
open Go.Proofs
set_option maxRecDepth 100000
set_option maxHeartbeats 0
set_option linter.unusedVariables false
set_option linter.unusedSimpArgs false
/-! the first line with another sum -/
/-! refusals -/
end Go.Eng.YtobnbkoeocdhbaaGreatDoor
namespace Go.Eng.YtobnbkoeocdhbaaGreatDoor
open Go.Proofs
set_option maxRecDepth 100000
set_option maxHeartbeats 0
set_option linter.unusedVariables false
set_option linter.unusedSimpArgs false
def sumF (f : Nat → Int) : Nat → Int
  | 0 => 0
  | n + 1 => sumF f n + f n
theorem sumF_congr {f g : Nat → Int} : ∀ {n : Nat}, (∀ i, i < n → f i = g i) → sumF f n = sumF g n := by
  intro n
  induction n with
  | zero => intro _; rfl
  | succ n ih => intro h; simp only [sumF]; rw [ih fun i hi => h i (by omega), h n (by omega)]
theorem sumF_add (f g : Nat → Int) : ∀ n : Nat, sumF (fun i => f i + g i) n = sumF f n + sumF g n := by
  intro n
  induction n with
  | zero => rfl
  | succ n ih => simp only [sumF, ih]; omega
theorem sumF_sub (f g : Nat → Int) : ∀ n : Nat, sumF (fun i => f i - g i) n = sumF f n - sumF g n := by
  intro n
  induction n with
  | zero => rfl
  | succ n ih => simp only [sumF, ih]; omega
theorem sumF_mul (c : Int) (f : Nat → Int) : ∀ n : Nat, sumF (fun i => c * f i) n = c * sumF f n := by
  intro n
  induction n with
  | zero => simp [sumF]
  | succ n ih => simp only [sumF, ih, Int.mul_add]
theorem sumF_const (c : Int) : ∀ n : Nat, sumF (fun _ => c) n = n * c := by
  intro n
  induction n with
  | zero => simp [sumF]
  | succ n ih => simp only [sumF, ih]; push_cast; rw [Int.add_mul]; omega
theorem sumF_shift (f : Nat → Int) : ∀ n : Nat, sumF f (n + 1) = f 0 + sumF (fun i => f (i + 1)) n := by
  intro n
  induction n with
  | zero => simp [sumF]
  | succ n ih => rw [sumF, ih]; simp only [sumF]; omega
theorem sumF_app (f : Nat → Int) (m : Nat) : ∀ n : Nat, sumF f (m + n) = sumF f m + sumF (fun i => f (m + i)) n := by
  intro n
  induction n with
  | zero => simp [sumF]
  | succ n ih => rw [← Nat.add_assoc]; simp only [sumF, ih]; omega
theorem sumF_block (f : Nat → Int) (n : Nat) : ∀ m : Nat, sumF f (m * n) = sumF (fun i => sumF (fun j => f (i * n + j)) n) m := by
  intro m
  induction m with
  | zero => simp [sumF]
  | succ m ih => rw [Nat.add_mul, Nat.one_mul, sumF_app, ih]; rfl
theorem sumF_swap (f : Nat → Nat → Int) (n : Nat) : ∀ m : Nat, sumF (fun i => sumF (f i) n) m = sumF (fun j => sumF (fun i => f i j) m) n := by
  intro m
  induction m with
  | zero => simp only [sumF]; rw [sumF_const]; simp
  | succ m ih => simp only [sumF]; rw [ih, ← sumF_add]
theorem sumF_at (g : Nat → Int) (a : Nat) : ∀ n : Nat, sumF (fun i => if i = a then g i else 0) n = if a < n then g a else 0 := by
  intro n
  induction n with
  | zero => simp [sumF]
  | succ n ih =>
    simp only [sumF, ih]
    by_cases h : n = a
    · subst h; simp
    · rw [if_neg h]
      by_cases h2 : a < n
      · rw [if_pos h2, if_pos (by omega)]; omega
      · rw [if_neg h2, if_neg (by omega)]; rfl
/-- a sum in another order -/
theorem sumF_perm {c : Nat → Nat} {N : Nat} (hb : ∀ i, i < N → c i < N) (h : ∀ i j, i < j → j < N → c i ≠ c j) (f : Nat → Int) : sumF (fun i => f (c i)) N = sumF f N := by
  have e1 : sumF (fun i => f (c i)) N = sumF (fun i => sumF (fun y => if y = c i then f y else 0) N) N :=
    sumF_congr fun i hi => by rw [sumF_at, if_pos (hb i hi)]
  rw [e1, sumF_swap]
  refine sumF_congr fun y hy => ?_
  obtain ⟨i0, h0, h1⟩ := inj_surj hb h y hy
  have e2 : sumF (fun i => if y = c i then f y else 0) N = sumF (fun i => if i = i0 then f y else 0) N := sumF_congr fun i hi => by
    by_cases e : i = i0
    · subst e; rw [if_pos h1.symm, if_pos rfl]
    · rw [if_neg e, if_neg]
      intro hc
      rcases Nat.lt_or_gt_of_ne e with hlt | hgt
      · exact h i i0 hlt h0 (by omega)
      · exact h i0 i hgt hi (by omega)
  rw [e2, sumF_at (fun _ => f y), if_pos h0]
/-! the sum of some cells -/
theorem sumAt_map (L : List Int) (c : Nat → Int) (m : Nat) : ∀ t, t ≤ m → sumAt L ((List.range m).map c) t = sumF (fun i => L.getD (c i).toNat 0) t := by
  intro t
  induction t with
  | zero => intro _; simp [sumAt, sumF]
  | succ t ih =>
    intro h
    rw [sumAt_succ _ _ _ (by simp; omega), ih (by omega), sumF]
    congr 2
    have : ((List.range m).map c).getD t 0 = c t := by
      rw [List.getD_eq_getElem?_getD, List.getElem?_map, List.getElem?_range (by omega)]; rfl
    rw [this]
theorem sumAt_colL (L : List Int) (n : Nat) (h : Nat → Int) : sumAt L (colL n h n) n = sumF (fun i => L.getD (n * i + (h i % n).toNat) 0) n := by
  unfold colL
  rw [sumAt_map _ _ _ _ (Nat.le_refl _)]
  refine sumF_congr fun i hi => ?_
  have h1 : 0 ≤ h i % n := Int.emod_nonneg _ (by omega)
  congr 1
  have : (n : Int) * i + h i % n = ((n * i + (h i % n).toNat : Nat) : Int) := by push_cast; rw [Int.toNat_of_nonneg h1]
  rw [this, Int.toNat_natCast]
theorem ls_row (n : Nat) (L : List Int) (i : Nat) (hi : i < n) : lineSum n L i = sumF (fun j => L.getD (n * i + j) 0) n := by
  unfold lineSum
  rw [lineAt_row hi]
  unfold rowL
  rw [sumAt_map _ _ _ _ (Nat.le_refl _)]
  refine sumF_congr fun j hj => ?_
  rfl
theorem ls_col (n : Nat) (L : List Int) (j : Nat) (hj : j < n) : lineSum n L (n + j) = sumF (fun i => L.getD (n * i + j) 0) n := by
  unfold lineSum
  rw [lineAt_col hj, sumAt_colL]
  refine sumF_congr fun i hi => ?_
  rw [Int.emod_eq_of_lt (by omega) (by omega), Int.toNat_natCast]
def upI (n k : Nat) : Nat := if k = 0 then 2 * n else 2 * n + 1 + k
def dnI (n k : Nat) : Nat := if k + 1 = n then 2 * n + 1 else 3 * n + 1 + k
theorem toNat_emod_cast (n : Nat) (hn : 1 ≤ n) (x : Int) (y : Nat) (k : Int) (h : x - y = n * k) : (x % n).toNat = y % n := by
  rw [emod_of_sub h, ← Int.natCast_emod, Int.toNat_natCast]
theorem ls_up (n : Nat) (L : List Int) (k : Nat) (hk : k < n) : lineSum n L (upI n k) = sumF (fun i => L.getD (n * i + (i + k) % n) 0) n := by
  unfold lineSum upI
  by_cases h : k = 0
  · subst h
    rw [if_pos rfl, lineAt_d1, sumAt_colL]
    refine sumF_congr fun i hi => ?_
    rw [toNat_emod_cast n (by omega) _ (i + 0) 0 (by simp)]
  · obtain ⟨q, rfl⟩ : ∃ q, k = q + 1 := ⟨k - 1, by omega⟩
    rw [if_neg h, show 2 * n + 1 + (q + 1) = 2 * n + 2 + q by omega, lineAt_b1 (by omega), sumAt_colL]
    refine sumF_congr fun i hi => ?_
    rw [toNat_emod_cast n (by omega) _ (i + (q + 1)) 0 (by simp)]
theorem ls_dn (n : Nat) (L : List Int) (k : Nat) (hk : k < n) : lineSum n L (dnI n k) = sumF (fun i => L.getD (n * i + (k + n - i) % n) 0) n := by
  unfold lineSum dnI
  by_cases h : k + 1 = n
  · rw [if_pos h, lineAt_d2, sumAt_colL]
    refine sumF_congr fun i hi => ?_
    rw [toNat_emod_cast n (by omega) _ (k + n - i) (-1) (by omega)]
  · rw [if_neg h, lineAt_b2 (by omega), sumAt_colL]
    refine sumF_congr fun i hi => ?_
    rw [toNat_emod_cast n (by omega) _ (k + n - i) (-1) (by omega)]
/-- the lines of the first groups have the sum -/
structure GoodK (n : Nat) (g : Int) (f : Nat → Nat → Int) (c : Int) : Prop where
  row : 1 ≤ g → ∀ i, i < n → sumF (fun j => f i j) n = c
  col : 1 ≤ g → ∀ j, j < n → sumF (fun i => f i j) n = c
  d1 : 2 ≤ g → sumF (fun i => f i i) n = c
  d2 : 2 ≤ g → sumF (fun i => f i (n - 1 - i)) n = c
  up : 3 ≤ g → ∀ k, k < n → sumF (fun i => f i ((i + k) % n)) n = c
  dn : 3 ≤ g → ∀ k, k < n → sumF (fun i => f i ((k + n - i) % n)) n = c
theorem dn_last (n : Nat) (f : Nat → Nat → Int) : sumF (fun i => f i ((n - 1 + n - i) % n)) n = sumF (fun i => f i (n - 1 - i)) n := by
  refine sumF_congr fun i hi => ?_
  congr 1
  rw [show n - 1 + n - i = (n - 1 - i) + n by omega, Nat.add_mod_right, Nat.mod_eq_of_lt (by omega)]
theorem up_first (n : Nat) (f : Nat → Nat → Int) : sumF (fun i => f i ((i + 0) % n)) n = sumF (fun i => f i i) n := by
  refine sumF_congr fun i hi => ?_
  rw [Nat.add_zero, Nat.mod_eq_of_lt hi]
def sqAt (n : Nat) (L : List Int) (i j : Nat) : Int := L.getD (n * i + j) 0
theorem badLine_iff {n : Nat} (hn : 1 ≤ n) (g : Int) (L : List Int) : badLine n g L = none ↔ ∀ i, i < lineCnt n g → lineSum n L i = constOf n := by
  unfold badLine
  rw [List.find?_eq_none]
  simp only [List.mem_range, Bool.not_eq_true', Bool.not_eq_false, lineOk, decide_eq_true_eq]
theorem line_cases {n i : Nat} (hi : i < 4 * n) : (i < n) ∨ (∃ j, j < n ∧ i = n + j) ∨ (∃ k, k < n ∧ i = upI n k) ∨ (∃ k, k < n ∧ i = dnI n k) := by
  by_cases h1 : i < n
  · exact .inl h1
  by_cases h2 : i < 2 * n
  · exact .inr (.inl ⟨i - n, by omega, by omega⟩)
  by_cases h3 : i = 2 * n
  · exact .inr (.inr (.inl ⟨0, by omega, by unfold upI; rw [if_pos rfl]; exact h3⟩))
  by_cases h4 : i = 2 * n + 1
  · exact .inr (.inr (.inr ⟨n - 1, by omega, by unfold dnI; rw [if_pos (by omega)]; exact h4⟩))
  by_cases h5 : i < 3 * n + 1
  · exact .inr (.inr (.inl ⟨i - (2 * n + 1), by omega, by unfold upI; rw [if_neg (by omega)]; omega⟩))
  · exact .inr (.inr (.inr ⟨i - (3 * n + 1), by omega, by unfold dnI; rw [if_neg (by omega)]; omega⟩))
theorem good_iff {n : Nat} (hn : 2 ≤ n ∨ n = 1) (g : Int) (L : List Int) : badLine n g L = none ↔ GoodK n g (sqAt n L) (constOf n) := by
  rw [badLine_iff (by omega)]
  have c1 : g < 1 → lineCnt n g = 0 := fun h => by unfold lineCnt; rw [if_pos h]
  have c2 : 1 ≤ g → 2 * n ≤ lineCnt n g := fun h => by unfold lineCnt; rw [if_neg (by omega)]; (repeat' split) <;> omega
  have c3 : 2 ≤ g → 2 * n + 2 ≤ lineCnt n g := fun h => by unfold lineCnt; rw [if_neg (by omega), if_neg (by omega)]; (repeat' split) <;> omega
  have c4 : 3 ≤ g → lineCnt n g = 4 * n := fun h => by unfold lineCnt; rw [if_neg (by omega), if_neg (by omega), if_neg (by omega)]
  have c5 : g < 2 → lineCnt n g ≤ 2 * n := fun h => by unfold lineCnt; (repeat' split) <;> omega
  have c6 : g < 3 → lineCnt n g ≤ 2 * n + 2 := fun h => by unfold lineCnt; (repeat' split) <;> omega
  constructor
  · intro h
    have hup : 3 ≤ g → ∀ k, k < n → sumF (fun i => sqAt n L i ((i + k) % n)) n = constOf n := fun hg k hk => by
      have := h (upI n k) (by rw [c4 hg]; unfold upI; split <;> omega)
      rwa [ls_up n L k hk] at this
    have hdn : 3 ≤ g → ∀ k, k < n → sumF (fun i => sqAt n L i ((k + n - i) % n)) n = constOf n := fun hg k hk => by
      have := h (dnI n k) (by rw [c4 hg]; unfold dnI; split <;> omega)
      rwa [ls_dn n L k hk] at this
    refine ⟨fun hg i hi => ?_, fun hg j hj => ?_, fun hg => ?_, fun hg => ?_, hup, hdn⟩
    · have := h i (by have := c2 hg; omega)
      rwa [ls_row n L i hi] at this
    · have := h (n + j) (by have := c2 hg; omega)
      rwa [ls_col n L j hj] at this
    · have := h (upI n 0) (by have := c3 hg; unfold upI; rw [if_pos rfl]; omega)
      rw [ls_up n L 0 (by omega)] at this
      rw [← up_first n (sqAt n L)]; exact this
    · have := h (dnI n (n - 1)) (by have := c3 hg; unfold dnI; rw [if_pos (by omega)]; omega)
      rw [ls_dn n L (n - 1) (by omega)] at this
      rw [← dn_last n (sqAt n L)]; exact this
  · intro h i hi
    have hg : 1 ≤ g := Classical.byContradiction fun hh => by rw [c1 (by omega)] at hi; omega
    have h4 : i < 4 * n := by
      by_cases h3 : 3 ≤ g
      · rw [c4 h3] at hi; exact hi
      · have := c6 (by omega)
        rcases hn with h2 | h2
        · omega
        · subst h2
          by_cases h22 : 2 ≤ g
          · have := c3 h22; omega
          · have := c5 (by omega); omega
    rcases line_cases h4 with h1 | ⟨j, h1, rfl⟩ | ⟨k, h1, rfl⟩ | ⟨k, h1, rfl⟩
    · rw [ls_row n L i h1]; exact h.row hg i h1
    · rw [ls_col n L j h1]; exact h.col hg j h1
    · rw [ls_up n L k h1]
      by_cases hk : k = 0
      · subst hk
        have h2 : 2 ≤ g := Classical.byContradiction fun hh => by have := c5 (by omega); unfold upI at hi; rw [if_pos rfl] at hi; omega
        have := h.d1 h2
        rw [← up_first n (sqAt n L)] at this; exact this
      · have h3 : 3 ≤ g := Classical.byContradiction fun hh => by have := c6 (by omega); unfold upI at hi; rw [if_neg hk] at hi; omega
        exact h.up h3 k h1
    · rw [ls_dn n L k h1]
      by_cases hk : k + 1 = n
      · obtain rfl : k = n - 1 := by omega
        have h2 : 2 ≤ g := Classical.byContradiction fun hh => by have := c5 (by omega); unfold dnI at hi; rw [if_pos (by omega)] at hi; omega
        have := h.d2 h2
        rw [← dn_last n (sqAt n L)] at this; exact this
      · have h3 : 3 ≤ g := Classical.byContradiction fun hh => by have := c6 (by omega); unfold dnI at hi; rw [if_neg hk] at hi; omega
        exact h.dn h3 k h1
/-! lists with each number once -/
theorem seen_iff (m : Nat) (l : List Int) (v : Nat) (hv : v < m) : ∀ i, i ≤ l.length → ((seenAt m l i).getD v false = true ↔ ∃ j, j < i ∧ (l.getD j 0).toNat = v) := by
  intro i
  induction i with
  | zero => intro _; simp only [seenAt, List.take_zero, List.foldl_nil]; rw [List.getD_eq_getElem?_getD, List.getElem?_replicate, if_pos hv]; simp
  | succ i ih =>
    intro hi
    rw [seenAt_succ m l i hi, List.getD_eq_getElem?_getD, List.getElem?_set]
    have hl := seenAt_len m l i
    by_cases e : (l.getD i 0).toNat = v
    · rw [if_pos e, if_pos (by omega)]
      simp only [Option.getD_some, true_iff]
      exact ⟨i, by omega, e⟩
    · rw [if_neg e, ← List.getD_eq_getElem?_getD, ih (by omega)]
      constructor
      · rintro ⟨j, h1, h2⟩; exact ⟨j, by omega, h2⟩
      · rintro ⟨j, h1, h2⟩
        by_cases ej : j = i
        · subst ej; exact absurd h2 e
        · exact ⟨j, by omega, h2⟩
theorem distinct_iff (lo : Int) (hlo : 0 ≤ lo) (m : Nat) (l : List Int) : distinctIn lo m l = true ↔ (∀ i, i < l.length → lo ≤ l.getD i 0 ∧ l.getD i 0 < m) ∧ ∀ i j, i < j → j < l.length → l.getD i 0 ≠ l.getD j 0 := by
  unfold distinctIn
  rw [List.all_eq_true]
  simp only [List.mem_range, okAt, Bool.and_eq_true, decide_eq_true_eq, Bool.not_eq_true']
  constructor
  · intro h
    refine ⟨fun i hi => (h i hi).1, fun i j hij hj e => ?_⟩
    have h2 := (h j hj).2
    have h3 := (h j hj).1
    have := (seen_iff m l (l.getD j 0).toNat (by omega) j (by omega)).2 ⟨i, hij, by rw [e]⟩
    rw [this] at h2; cases h2
  · rintro ⟨h1, h2⟩ i hi
    refine ⟨h1 i hi, ?_⟩
    have h3 := h1 i hi
    cases hs : (seenAt m l i).getD (l.getD i 0).toNat false with
    | false => rfl
    | true =>
      obtain ⟨j, hj, he⟩ := (seen_iff m l (l.getD i 0).toNat (by omega) i (by omega)).1 hs
      have h4 := h1 j (by omega)
      exact absurd (show l.getD j 0 = l.getD i 0 by omega) (h2 j i hj hi)
theorem isNorm_iff (l : List Int) : isNorm l = true ↔ (∀ i, i < l.length → 1 ≤ l.getD i 0 ∧ l.getD i 0 ≤ l.length) ∧ ∀ i j, i < j → j < l.length → l.getD i 0 ≠ l.getD j 0 := by
  unfold isNorm
  rw [distinct_iff 1 (by omega)]
  refine and_congr_left fun _ => ?_
  constructor
  · intro h i hi; have := h i hi; omega
  · intro h i hi; have := h i hi; omega
theorem norm_ne {l : List Int} (h : isNorm l = true) {i j : Nat} (hi : i < l.length) (hj : j < l.length) (hij : i ≠ j) : l.getD i 0 ≠ l.getD j 0 := by
  have h2 := ((isNorm_iff l).1 h).2
  rcases Nat.lt_or_gt_of_ne hij with h1 | h1
  · exact h2 i j h1 hj
  · exact fun e => h2 j i h1 hi e.symm
/-- squares made by a function -/
theorem madeL_get {n : Nat} {h : Nat → Nat → Int} {i j : Nat} (hi : i < n) (hj : j < n) : (madeL n h).getD (n * i + j) 0 = h i j := by
  have hlt : n * i + j < n * n := by
    have := Nat.mul_le_mul_left n (show i + 1 ≤ n by omega)
    rw [Nat.mul_add] at this; omega
  unfold madeL
  rw [List.getD_eq_getElem?_getD, List.getElem?_map, List.getElem?_range hlt]
  simp only [Option.map_some, Option.getD_some]
  rw [Nat.mul_add_div (by omega), Nat.div_eq_of_lt hj, Nat.mul_add_mod, Nat.mod_eq_of_lt hj, Nat.add_zero]
theorem GoodK.congr {n : Nat} {g : Int} {f f' : Nat → Nat → Int} {c : Int} (h : GoodK n g f c) (e : ∀ i j, i < n → j < n → f i j = f' i j) : GoodK n g f' c := by
  have key : ∀ p q : Nat → Nat, (∀ i, i < n → p i < n) → (∀ i, i < n → q i < n) → sumF (fun i => f (p i) (q i)) n = c → sumF (fun i => f' (p i) (q i)) n = c := fun p q hp hq h => by
    rw [← h]; exact sumF_congr fun i hi => (e _ _ (hp i hi) (hq i hi)).symm
  refine ⟨fun hg i hi => ?_, fun hg j hj => ?_, fun hg => ?_, fun hg => ?_, fun hg k hk => ?_, fun hg k hk => ?_⟩
  · exact key (fun _ => i) (fun j => j) (fun _ _ => hi) (fun j hj => hj) (h.row hg i hi)
  · exact key (fun i => i) (fun _ => j) (fun j hj => hj) (fun _ _ => hj) (h.col hg j hj)
  · exact key (fun i => i) (fun i => i) (fun j hj => hj) (fun j hj => hj) (h.d1 hg)
  · exact key (fun i => i) (fun i => n - 1 - i) (fun j hj => hj) (fun j hj => by (try simp only); omega) (h.d2 hg)
  · exact key (fun i => i) (fun i => (i + k) % n) (fun j hj => hj) (fun j hj => Nat.mod_lt _ (by omega)) (h.up hg k hk)
  · exact key (fun i => i) (fun i => (k + n - i) % n) (fun j hj => hj) (fun j hj => Nat.mod_lt _ (by omega)) (h.dn hg k hk)
end Go.Eng.YtobnbkoeocdhbaaGreatDoor
namespace Go.Eng.YtobnbkoeocdhbaaGreatDoor
open Go.Proofs
set_option maxRecDepth 100000
set_option maxHeartbeats 0
set_option linter.unusedVariables false
set_option linter.unusedSimpArgs false
end Go.Eng.YtobnbkoeocdhbaaGreatDoor
namespace Go.Eng.YtobnbkoeocdhbaaGreatDoor
open Go.Proofs
set_option maxRecDepth 100000
set_option maxHeartbeats 0
set_option linter.unusedVariables false
set_option linter.unusedSimpArgs false
/-- the frame with a stack, and without one -/
def frR (n g0 g1 : Int) (gl : List Int) (at' m : Nat) (cs : List Int) (us : List Bool) : List AO :=
  [.cells (.pv [.int .i64 n, .int .i64 g0, .int .i64 g1, .isl (.ints .i64 gl) .none, .rsl 1 0 at', .rsl 2 0 m]) false, .cells (.ints .i64 cs) false, .cells (.bools us) false]
def frN (n g0 g1 : Int) (gl : List Int) (m : Nat) (us : List Bool) : List AO :=
  [.cells (.pv [.int .i64 n, .int .i64 g0, .int .i64 g1, .isl (.ints .i64 gl) .none, .nils, .rsl 1 0 m]) false, .cells (.bools us) false]
/-- looks at a frame: the argument behind it, the number of cells, the marks; the condition and the results -/
def lookL (ex : List PV → Prop) (cond : List PV → Int → Nat → List Bool → Prop) (res : List PV → Int → List Bool → List PV) : LSp := fun xs objs K => match xs, objs with
  | .rp 0 0 :: r, [.cells (.pv [.int .i64 n, .int .i64 g0, .int .i64 g1, .isl (.ints .i64 gl) .none, .nils, .rsl 1 0 m]) false, .cells (.bools us) false] =>
    VC (cond r n m us) ∧ K (res r n us) (frN n g0 g1 gl m us)
  | .rp 0 0 :: r, [.cells (.pv [.int .i64 n, .int .i64 g0, .int .i64 g1, .isl (.ints .i64 gl) .none, .rsl 1 0 at', .rsl 2 0 m]) false, .cells (.ints .i64 cs) false, .cells (.bools us) false] =>
    VC (cond r n m us) ∧ K (res r n us) (frR n g0 g1 gl at' m cs us)
  | _, _ => False
theorem lookL_ok {f : FuncId} {ex : List PV → Prop} {cond : List PV → Int → Nat → List Bool → Prop} {res : List PV → Int → List Bool → List PV}
    (hN : ∀ r n g0 g1 gl m us, cond r n m us → LSpec Tryz.prog f (.rp 0 0 :: r) (frN n g0 g1 gl m us) (res r n us) (frN n g0 g1 gl m us))
    (hR : ∀ r n g0 g1 gl at' m cs us, cond r n m us → LSpec Tryz.prog f (.rp 0 0 :: r) (frR n g0 g1 gl at' m cs us) (res r n us) (frR n g0 g1 gl at' m cs us)) : LOK Tryz.prog f (lookL ex cond res) := by
  intro xs objs K h
  unfold lookL at h
  split at h
  · exact ⟨_, _, h.2, hN _ _ _ _ _ _ _ h.1.get⟩
  · exact ⟨_, _, h.2, hR _ _ _ _ _ _ _ _ _ h.1.get⟩
  · exact h.elim
theorem whole_pure (n g0 g1 : Int) (gl : List Int) (cv uv : PV) (hn : 0 ≤ n ∧ n ≤ 100) : PSpec Tryz.prog 76 [.ip (.pv [.int .i64 n, .int .i64 g0, .int .i64 g1, .isl (.ints .i64 gl) .none, cv, uv]) 0] (.int .i64 (n * n + 1)) := by
  have h1 := mul_bd hn hn
  refine pspec_of (md := 0) (rf := []) mixed tabOK noC_ok Tryz.func76 (by rfl) (by rfl) (by rfl) ?_
  repeat' ((conv => whnf); first | refine And.intro ?_ ?_ | with_reducible exact VC.mk rfl | exact Ok.mk | exact True.intro | refine Nx.mk ?_ | refine Fin.mk ?_ | intro _)
  all_goals ((try refine VC.mk ?_); (try simp only [CL.ncell, CL.cnt, vq] at *); (try omega))
  all_goals (first | (refine Sup.of ?_; first | rfl | (simp [*, resOf]; done)) | (refine Sup.via ?_; repeat' ((conv => whnf); first | refine And.intro ?_ ?_ | with_reducible exact VC.mk rfl | exact Ok.mk | exact True.intro | refine Nx.mk ?_ | refine Fin.mk ?_ | intro _); all_goals ((try refine VC.mk ?_); (try simp only [CL.ncell, CL.cnt, vq] at *); (try omega)); all_goals (try (simp [CL.sub]; done))))
def wholeL : LSp := lookL (fun _ => True) (fun r n _ _ => r = [] ∧ 0 ≤ n ∧ n ≤ 100) (fun _ n _ => [.int .i64 (n * n + 1)])
theorem wholeL_ok : LOK Tryz.prog 76 wholeL := by
  refine lookL_ok (fun r n g0 g1 gl m us h => ?_) (fun r n g0 g1 gl at' m cs us h => ?_)
  all_goals
    obtain ⟨rfl, hn⟩ := h
    have h1 := mul_bd hn hn
    refine lspec_of (md := 0) (rf := []) mixed tabOK noC_ok 3 [] Tryz.func76 (by rfl) (by rfl) (by rfl) ?_
    repeat' ((conv => whnf); first | refine And.intro ?_ ?_ | with_reducible exact VC.mk rfl | exact Ok.mk | exact True.intro | refine Nx.mk ?_ | refine Fin.mk ?_ | intro _)
    all_goals ((try refine VC.mk ?_); (try simp only [CL.ncell, CL.cnt, vq] at *); (try omega))
    all_goals (try rfl)
/-! the numbers that are left -/
def bordB (n : Nat) (x : Nat) : Bool := decide (x ≤ 2 * (n - 1)) || decide (n * n + 1 - 2 * (n - 1) ≤ x)
def leftB (n : Nat) (us : List Bool) (x : Nat) : Bool := bordB n x && !(us.getD x false)
def numsF (n : Nat) (us : List Bool) (t : Nat) : List Int := (((List.range' 1 t).filter (leftB n us)).map (fun (x : Nat) => (x : Int)))
theorem numsF_succ (n : Nat) (us : List Bool) (t : Nat) : numsF n us (t + 1) = if leftB n us (t + 1) then numsF n us t ++ [((t + 1 : Nat) : Int)] else numsF n us t := by
  unfold numsF
  rw [List.range'_concat, List.filter_append, List.map_append]
  simp only [Nat.one_mul, Nat.add_comm 1 t, List.filter_cons, List.filter_nil]
  split <;> simp
def numsN (n : Nat) (us : List Bool) : List Int := numsF n us (n * n)
theorem leftB_iff (n : Nat) (us : List Bool) (x : Nat) (hn : 1 ≤ n) : leftB n us x = true ↔ ((x : Int) ≤ 2 * ((n : Int) - 1) ∨ (n : Int) * n + 1 - 2 * ((n : Int) - 1) ≤ x) ∧ us.getD x false = false := by
  have h : ((n * n : Nat) : Int) = (n : Int) * n := by push_cast; rfl
  unfold leftB bordB
  simp only [Bool.and_eq_true, Bool.or_eq_true, decide_eq_true_eq, Bool.not_eq_true']
  refine and_congr_left fun _ => ?_
  omega
theorem numsF_len (n : Nat) (us : List Bool) : ∀ t, (numsF n us t).length ≤ t := by
  intro t
  simp only [numsF, List.length_map]
  exact Nat.le_trans (List.length_filter_le _ _) (by simp)
noncomputable def cpF1 : CPT := cpAdd 76 (lendCC [] wholeL) noC
theorem cpF1_ok : CPOK Tryz.prog cpF1 := cpAdd_ok (lendCC_ok [] wholeL_ok) noC_ok
def numsL : LSp := lookL (fun _ => True) (fun r n m us => r = [] ∧ (2 ≤ n ∧ n ≤ 16) ∧ us.length = m ∧ (m : Int) = n * n + 1) (fun _ n us => [.isl (.ints .i64 (numsN n.toNat us)) .none])
theorem numsL_ok : LOK Tryz.prog 77 numsL := by
  refine lookL_ok (fun r n g0 g1 gl m us h => ?_) (fun r n g0 g1 gl at' m cs us h => ?_)
  all_goals
    obtain ⟨rfl, hn, hu, hm⟩ := h
    have h1 := mul_bd (A := 16) (B := 16) (show 0 ≤ n ∧ n ≤ 16 by omega) (show 0 ≤ n ∧ n ≤ 16 by omega)
    obtain ⟨a, rfl⟩ : ∃ a : Nat, n = a := ⟨n.toNat, by omega⟩
    have haa : ((a * a : Nat) : Int) = (a : Int) * a := by push_cast; rfl
    simp only [Int.toNat_natCast]
    refine lspec_of (md := 0) (rf := []) mixed tabOK cpF1_ok 3 [] Tryz.func77 (by rfl) (by rfl) (by rfl) ?_
    repeat' ((conv => whnf); first | refine And.intro ?_ ?_ | with_reducible exact VC.mk rfl | exact Ok.mk | exact True.intro | refine Nx.mk ?_ | refine Fin.mk ?_ | intro _)
    all_goals ((try refine VC.mk ?_); (try simp only [CL.ncell, CL.cnt, vq] at *); (try omega))
    conv => whnf
    refine loop_of (X := Nat) (fun t => t ≤ a * a) (fun t => [(5, .int .i64 ((t + 1 : Nat) : Int)), (3, .isl (.ints .i64 (numsF a us t)) (.own 3))]) (fun t => [(3, .tok 1 (numsF a us t).length)]) (fun t => a * a - t) 0 ⟨anyB_ok, mixed, tabOK, cpF1_ok, noY_ok⟩ (by rfl) (by omega) ?_ ?_
    · repeat' ((conv => whnf); first | refine And.intro ?_ ?_ | with_reducible exact VC.mk rfl | exact Ok.mk | exact True.intro | refine Nx.mk ?_ | refine Fin.mk ?_ | intro _)
      all_goals ((try refine VC.mk ?_); (try simp only [CL.ncell, CL.cnt, vq] at *); (try omega))
    · intro t ht
      have e1 := numsF_succ a us t
      have e2 := numsF_len a us t
      by_cases hlt : t < a * a
      · repeat' ((conv => whnf); first | refine And.intro ?_ ?_ | with_reducible exact VC.mk rfl | exact Ok.mk | exact True.intro | refine Nx.mk ?_ | refine Fin.mk ?_ | intro _)
        all_goals ((try refine VC.mk ?_); (try simp only [CL.ncell, CL.cnt, vq] at *); (try omega))
        all_goals (try (simp only [List.length_append, List.length_cons, List.length_nil]; omega))
        all_goals (refine ⟨t + 1, [], ⟨by omega, by omega⟩, ?_⟩)
        all_goals repeat' ((conv => whnf); first | refine And.intro ?_ ?_ | with_reducible exact VC.mk rfl | exact Ok.mk | exact True.intro | refine Nx.mk ?_ | refine Fin.mk ?_ | intro _)
        all_goals ((try refine VC.mk ?_); (try simp only [CL.ncell, CL.cnt, vq] at *); (try omega))
        all_goals (rw [e1]; clear e1 e2; split <;> rename_i hl <;> rw [leftB_iff a us (t + 1) (by omega)] at hl <;> first | rfl | (simp; done) | (exfalso; exact hl ⟨by omega, by simp_all⟩) | (exfalso; have h8 := hl.1; have h9 := hl.2; first | omega | (simp_all; done)))
      · have : a * a = t := by omega
        repeat' ((conv => whnf); first | refine And.intro ?_ ?_ | with_reducible exact VC.mk rfl | exact Ok.mk | exact True.intro | refine Nx.mk ?_ | refine Fin.mk ?_ | intro _)
        all_goals ((try refine VC.mk ?_); (try simp only [CL.ncell, CL.cnt, vq] at *); (try omega))
        all_goals (try (rw [numsN, this]))
end Go.Eng.YtobnbkoeocdhbaaGreatDoor
namespace Go.Eng.YtobnbkoeocdhbaaGreatDoor
open Go.Proofs
set_option maxRecDepth 100000
set_option maxHeartbeats 0
set_option linter.unusedVariables false
set_option linter.unusedSimpArgs false
def loS (l : List Int) : Nat → Int
  | 0 => 0
  | c + 1 => loS l c + l.getD c 0
def hiS (l : List Int) : Nat → Int
  | 0 => 0
  | c + 1 => hiS l c + l.getD (l.length - 1 - c) 0
def markF (n : Nat) (us : List Bool) (x : Int) (b : Bool) : List Bool := (us.set x.toNat b).set (n * n + 1 - x.toNat) b
def left1 (n : Nat) (left : Int) (cs : List Int) : Int := if cs.length = n then constOf n - cs.getD 0 0 - ((n : Int) * n + 1 - cs.getD (n - 1) 0) else left
def restN (n t : Nat) : Nat := if n ≤ t then 2 * n - 3 - t else n - 1 - t
def tryL {R : Type} (n rest : Nat) (left : Int) (us : List Bool) (rec : Int → List Bool → Option R) : List Int → Option R
  | [] => none
  | x :: r => if loS (numsN n (markF n us x true)) rest ≤ left - x ∧ left - x ≤ hiS (numsN n (markF n us x true)) rest then
      (match rec x (markF n us x true) with | some v => some v | none => tryL n rest left us rec r) else tryL n rest left us rec r
def srch (n : Nat) : Nat → Int → List Int → List Bool → Option (List Int × List Bool)
  | 0, _, _, _ => none
  | f + 1, left, cs, us =>
    if cs.length = n ∧ left ≠ 0 then none
    else if cs.length = 2 * n - 2 then (if left1 n left cs = 0 then some (cs, us) else none)
    else tryL n (restN n cs.length) (left1 n left cs) us (fun x us' => srch n f (left1 n left cs - x) (cs ++ [x]) us') (numsN n us)
def srch0 (n : Nat) : Option (List Int × List Bool) := srch n (2 * n) (constOf n) [] (List.replicate (n * n + 1) false)
/-- what holds along the search -/
structure FInv (n : Nat) (cs : List Int) (us : List Bool) : Prop where
  len : us.length = n * n + 1
  sym : ∀ x, 1 ≤ x → x ≤ n * n → us.getD x false = us.getD (n * n + 1 - x) false
  cnt : 4 * (n - 1) = (numsN n us).length + 2 * cs.length
  cb : ∀ c ∈ cs, 1 ≤ c ∧ c ≤ n * n
theorem mem_numsN {n : Nat} {us : List Bool} {x : Int} : x ∈ numsN n us ↔ ∃ k : Nat, x = k ∧ 1 ≤ k ∧ k ≤ n * n ∧ leftB n us k = true := by
  simp only [numsN, numsF, List.mem_map, List.mem_filter, List.mem_range'_1]
  constructor
  · rintro ⟨k, ⟨⟨h1, h2⟩, h3⟩, rfl⟩; exact ⟨k, rfl, h1, by omega, h3⟩
  · rintro ⟨k, rfl, h1, h2, h3⟩; exact ⟨k, ⟨⟨h1, by omega⟩, h3⟩, rfl⟩
theorem bordB_comp {n k : Nat} (hn : 2 ≤ n) (h1 : 1 ≤ k) (h2 : k ≤ n * n) (h : bordB n k = true) : bordB n (n * n + 1 - k) = true ∧ n * n + 1 - k ≠ k := by
  unfold bordB at *
  have hsq : 4 * n ≤ n * n + 4 := by
    obtain ⟨d, rfl⟩ : ∃ d, n = d + 2 := ⟨n - 2, by omega⟩
    grind
  simp only [Bool.or_eq_true, decide_eq_true_eq] at h ⊢
  generalize n * n = q at *
  omega
theorem filter_two {l : List Nat} (hl : l.Nodup) {p q : Nat → Bool} {a b : Nat} (hab : a ≠ b) (ha : a ∈ l) (hb : b ∈ l) (pa : p a = true) (pb : p b = true) (hq : ∀ x ∈ l, q x = (p x && decide (x ≠ a) && decide (x ≠ b))) :
    (l.filter p).length = (l.filter q).length + 2 := by
  have e : l.filter q = ((l.filter p).filter (fun x => decide (x ≠ a))).filter (fun x => decide (x ≠ b)) := by
    rw [List.filter_filter, List.filter_filter]
    refine List.filter_congr fun x hx => ?_
    rw [hq x hx, Bool.and_assoc, Bool.and_comm, Bool.and_comm (decide (x ≠ a))]
  have one : ∀ {l : List Nat} {a : Nat}, l.Nodup → a ∈ l → (l.filter (fun x => decide (x ≠ a))).length + 1 = l.length := by
    intro l a hl ha
    have := List.length_erase_of_mem ha
    have h0 : 0 < l.length := List.length_pos_of_mem ha
    rw [List.Nodup.erase_eq_filter hl] at this
    have e2 : l.filter (fun x => decide (x ≠ a)) = l.filter (fun x => x != a) := List.filter_congr fun x _ => by simp [bne, BEq.beq]
    rw [e2]; omega
  have n1 : (l.filter p).Nodup := hl.filter _
  have a1 := one n1 (List.mem_filter.2 ⟨ha, pa⟩)
  have a2 := one (n1.filter (fun x => decide (x ≠ a))) (List.mem_filter.2 ⟨List.mem_filter.2 ⟨hb, pb⟩, by simp [Ne.symm hab]⟩)
  rw [e]; omega
theorem getD_markF {n : Nat} {us : List Bool} (hl : us.length = n * n + 1) {k : Nat} (h1 : 1 ≤ k) (h2 : k ≤ n * n) (b : Bool) (x : Nat) : (markF n us (k : Int) b).getD x false = if x = k ∨ x = n * n + 1 - k then b else us.getD x false := by
  unfold markF
  simp only [Int.toNat_natCast, List.getD_eq_getElem?_getD, List.getElem?_set, List.length_set]
  by_cases e1 : n * n + 1 - k = x
  · rw [if_pos e1, if_pos (by omega)]; simp [e1]
  · rw [if_neg e1]
    by_cases e2 : k = x
    · rw [if_pos e2, if_pos (by omega)]; simp [e2]
    · rw [if_neg e2, if_neg (by omega)]
theorem FInv.step {n : Nat} {cs : List Int} {us : List Bool} (hn : 2 ≤ n) (h : FInv n cs us) {x : Int} (hx : x ∈ numsN n us) : FInv n (cs ++ [x]) (markF n us x true) ∧ (1 ≤ x ∧ x ≤ n * n) ∧ us.getD x.toNat false = false ∧ us.getD (n * n + 1 - x.toNat) false = false := by
  obtain ⟨k, rfl, h1, h2, h3⟩ := mem_numsN.1 hx
  have hb : bordB n k = true ∧ us.getD k false = false := by simpa [leftB] using h3
  obtain ⟨c1, c2⟩ := bordB_comp hn h1 h2 hb.1
  have hs := h.sym k h1 h2
  have hk2 : us.getD (n * n + 1 - k) false = false := by rw [← hs]; exact hb.2
  refine ⟨⟨by simp [markF, h.len], fun y y1 y2 => ?_, ?_, fun c hc => ?_⟩, ⟨by omega, by exact_mod_cast h2⟩, by simpa using hb.2, by simpa using hk2⟩
  · rw [getD_markF h.len h1 h2, getD_markF h.len h1 h2, h.sym y y1 y2]
    by_cases e : y = k ∨ y = n * n + 1 - k
    · rw [if_pos e, if_pos (by omega)]
    · rw [if_neg e, if_neg (by omega)]
  · have := filter_two (l := List.range' 1 (n * n)) (List.nodup_range') (p := leftB n us) (q := leftB n (markF n us (k : Int) true)) (a := k) (b := n * n + 1 - k) (Ne.symm c2)
      (by rw [List.mem_range'_1]; omega) (by rw [List.mem_range'_1]; omega) h3 (by simp only [leftB, c1, hk2]; rfl) (fun y _ => by
        unfold leftB
        rw [getD_markF h.len h1 h2]
        by_cases e1 : y = k
        · simp [e1]
        · by_cases e2 : y = n * n + 1 - k
          · simp [e2]
          · simp [e1, e2])
    have hc := h.cnt
    simp only [numsN, numsF, List.length_map, List.length_append, List.length_cons, List.length_nil] at hc ⊢
    omega
  · rcases List.mem_append.1 hc with hc | hc
    · exact h.cb c hc
    · simp at hc; subst hc; exact ⟨by omega, by exact_mod_cast h2⟩
theorem markF_back {n : Nat} {us : List Bool} (hl : us.length = n * n + 1) {x : Int} (h1 : 1 ≤ x ∧ x ≤ n * n) (hu : us.getD x.toNat false = false) (hv : us.getD (n * n + 1 - x.toNat) false = false) : markF n (markF n us x true) x false = us := by
  obtain ⟨k, rfl⟩ : ∃ k : Nat, x = k := ⟨x.toNat, by omega⟩
  have h2 : k ≤ n * n := by exact_mod_cast h1.2
  have hl2 : (markF n us (k : Int) true).length = n * n + 1 := by simp [markF, hl]
  refine List.ext_getElem (by simp [markF]) fun i hi hi' => ?_
  have e := getD_markF hl2 (by omega : 1 ≤ k) h2 false i
  have e2 := getD_markF hl (by omega : 1 ≤ k) h2 true i
  simp only [List.getD_eq_getElem?_getD, List.getElem?_eq_getElem hi, List.getElem?_eq_getElem hi', List.getElem?_eq_getElem (show i < (markF n us (k : Int) true).length by omega), Option.getD_some] at e e2
  rw [e]
  by_cases c : i = k ∨ i = n * n + 1 - k
  · rw [if_pos c]
    simp only [Int.toNat_natCast] at hu hv
    rcases c with rfl | rfl
    · simpa [List.getD_eq_getElem?_getD, List.getElem?_eq_getElem hi'] using hu.symm
    · simpa [List.getD_eq_getElem?_getD, List.getElem?_eq_getElem hi'] using hv.symm
  · rw [if_neg c, e2, if_neg c]
end Go.Eng.YtobnbkoeocdhbaaGreatDoor
namespace Go.Eng.YtobnbkoeocdhbaaGreatDoor
open Go.Proofs
set_option maxRecDepth 100000
set_option maxHeartbeats 0
set_option linter.unusedVariables false
set_option linter.unusedSimpArgs false
theorem numsN_bd {n : Nat} {us : List Bool} {x : Int} (h : x ∈ numsN n us) : 1 ≤ x ∧ x ≤ n * n := by
  obtain ⟨k, rfl, h1, h2, _⟩ := mem_numsN.1 h
  exact ⟨by omega, by exact_mod_cast h2⟩
theorem getD_bd {l : List Int} {B : Int} (hB : ∀ x ∈ l, 0 ≤ x ∧ x ≤ B) (i : Nat) (h0 : 0 ≤ B) : 0 ≤ l.getD i 0 ∧ l.getD i 0 ≤ B := by
  rw [List.getD_eq_getElem?_getD]
  cases h : l[i]? with
  | none => exact ⟨Int.le_refl _, h0⟩
  | some v => exact hB v (List.mem_of_getElem? h)
theorem loS_bd {l : List Int} {B : Int} (hB : ∀ x ∈ l, 0 ≤ x ∧ x ≤ B) (h0 : 0 ≤ B) : ∀ c : Nat, 0 ≤ loS l c ∧ loS l c ≤ c * B := by
  intro c
  induction c with
  | zero => simp [loS]
  | succ c ih => have := getD_bd hB c h0; simp only [loS]; push_cast; rw [Int.add_mul]; omega
theorem hiS_bd {l : List Int} {B : Int} (hB : ∀ x ∈ l, 0 ≤ x ∧ x ≤ B) (h0 : 0 ≤ B) : ∀ c : Nat, 0 ≤ hiS l c ∧ hiS l c ≤ c * B := by
  intro c
  induction c with
  | zero => simp [hiS]
  | succ c ih => have := getD_bd hB (l.length - 1 - c) h0; simp only [hiS]; push_cast; rw [Int.add_mul]; omega
noncomputable def cpF2 : CPT := cpAdd 77 (lendCC [] numsL) noC
theorem cpF2_ok : CPOK Tryz.prog cpF2 := cpAdd_ok (lendCC_ok [] numsL_ok) noC_ok
def boundsCond (r : List PV) (n : Int) (m : Nat) (us : List Bool) : Prop := ∃ c : Nat, r = [.int .i64 (c : Int)] ∧ c ≤ (numsN n.toNat us).length ∧ (2 ≤ n ∧ n ≤ 16) ∧ us.length = m ∧ (m : Int) = n * n + 1
def boundsRes (r : List PV) (n : Int) (us : List Bool) : List PV := match r with
  | [.int _ c] => [.int .i64 (loS (numsN n.toNat us) c.toNat), .int .i64 (hiS (numsN n.toNat us) c.toNat)]
  | _ => []
def boundsL : LSp := lookL (fun _ => True) boundsCond boundsRes
theorem boundsL_ok : LOK Tryz.prog 78 boundsL := by
  refine lookL_ok (fun r n g0 g1 gl m us h => ?_) (fun r n g0 g1 gl at' m cs us h => ?_)
  all_goals
    obtain ⟨c, rfl, hc, hn, hu, hm⟩ := h
    have h1 := mul_bd (A := 16) (B := 16) (show 0 ≤ n ∧ n ≤ 16 by omega) (show 0 ≤ n ∧ n ≤ 16 by omega)
    obtain ⟨a, rfl⟩ : ∃ a : Nat, n = a := ⟨n.toNat, by omega⟩
    have haa : ((a * a : Nat) : Int) = (a : Int) * a := by push_cast; rfl
    unfold boundsRes
    simp only [Int.toNat_natCast] at *
    have hln := numsF_len a us (a * a)
    have hbd : ∀ x ∈ numsN a us, 0 ≤ x ∧ x ≤ 256 := fun x hx => by have := numsN_bd hx; omega
    have hlo := loS_bd hbd (by omega)
    have hhi := hiS_bd hbd (by omega)
    have hge := fun i => getD_bd hbd i (by omega)
    have hll : (numsN a us).length ≤ 256 := by unfold numsN; omega
    refine lspec_of (md := 0) (rf := []) mixed tabOK cpF2_ok 3 [] Tryz.func78 (by rfl) (by rfl) (by rfl) ?_
    repeat' ((conv => whnf); first | refine And.intro ?_ ?_ | with_reducible exact VC.mk rfl | exact Ok.mk | exact True.intro | refine Nx.mk ?_ | refine Fin.mk ?_ | intro _)
    all_goals ((try refine VC.mk ?_); (try simp only [CL.ncell, CL.cnt, vq] at *); (try omega))
    all_goals (try exact ⟨rfl, by omega, hu, hm⟩)
    generalize hl : numsN a us = l at *
    conv => whnf
    refine loop_of (X := Nat) (fun t => t ≤ c) (fun t => [(13, .int .i64 (t : Int)), (7, .int .i64 (loS l t)), (8, .int .i64 (hiS l t))]) (fun t => []) (fun t => c - t) 0 ⟨anyB_ok, mixed, tabOK, cpF2_ok, noY_ok⟩ (by rfl) (by omega) ?_ ?_
    · repeat' ((conv => whnf); first | refine And.intro ?_ ?_ | with_reducible exact VC.mk rfl | exact Ok.mk | exact True.intro | refine Nx.mk ?_ | refine Fin.mk ?_ | intro _)
      all_goals ((try refine VC.mk ?_); (try simp only [CL.ncell, CL.cnt, vq] at *); (try omega))
      all_goals (try rfl)
    · intro t ht
      have a1 := hlo t
      have a2 := hhi t
      have a3 := hge t
      have a4 := hge (l.length - 1 - t)
      have a5 : (((l.length : Int) - 1 - t).toNat) = l.length - 1 - t := by omega
      by_cases hlt : t < c
      · repeat' ((conv => whnf); first | refine And.intro ?_ ?_ | with_reducible exact VC.mk rfl | exact Ok.mk | exact True.intro | refine Nx.mk ?_ | refine Fin.mk ?_ | intro _)
        all_goals ((try refine VC.mk ?_); (try simp only [CL.ncell, CL.cnt, vq] at *); (try omega))
        all_goals (try (rw [a5]; omega))
        all_goals (refine ⟨t + 1, [], ⟨by omega, by omega⟩, ?_⟩)
        all_goals repeat' ((conv => whnf); first | refine And.intro ?_ ?_ | with_reducible exact VC.mk rfl | exact Ok.mk | exact True.intro | refine Nx.mk ?_ | refine Fin.mk ?_ | intro _)
        all_goals ((try refine VC.mk ?_); (try simp only [CL.ncell, CL.cnt, vq] at *); (try omega))
        all_goals first | rfl | (rw [a5]; rfl)
      · have : c = t := by omega
        subst this
        repeat' ((conv => whnf); first | refine And.intro ?_ ?_ | with_reducible exact VC.mk rfl | exact Ok.mk | exact True.intro | refine Nx.mk ?_ | refine Fin.mk ?_ | intro _)
        all_goals ((try refine VC.mk ?_); (try simp only [CL.ncell, CL.cnt, vq] at *); (try omega))
        all_goals (try rfl)
end Go.Eng.YtobnbkoeocdhbaaGreatDoor
namespace Go.Eng.YtobnbkoeocdhbaaGreatDoor
open Go.Proofs
set_option maxRecDepth 100000
set_option maxHeartbeats 0
set_option linter.unusedVariables false
set_option linter.unusedSimpArgs false
def sumL : Nat → List Nat → Nat
  | 0, _ => 0
  | _ + 1, [] => 0
  | k + 1, x :: r => x + sumL k r
def dropN (N x : Nat) : List Nat → List Nat
  | [] => []
  | y :: r => match Nat.beq y x || Nat.beq y (N - x) with | true => dropN N x r | false => y :: dropN N x r
/-- the rounds: left is what is wanted of the row (or the column), in natural numbers -/
def tryA {R : Type} (N rest left : Nat) (av : List Nat) (rec : Nat → List Nat → Option R) : List Nat → Option R
  | [] => none
  | x :: r => match Nat.ble (sumL rest (dropN N x av) + x) left && Nat.ble left (sumL rest (dropN N x av).reverse + x) with
    | true => (match rec x (dropN N x av) with | some v => some v | none => tryA N rest left av rec r)
    | false => tryA N rest left av rec r
/-- cells in reverse -/
def srchA (n N C : Nat) : Nat → Nat → Nat → List Nat → List Nat → Option (List Nat)
  | 0, _, _, _, _ => none
  | f + 1, t, left, cs, av =>
    match Nat.beq t n with
    | true => (match Nat.beq left 0 with
      | true => (match Nat.ble (cs.getD (n - 1) 0 + (N - cs.getD 0 0)) C with
        | true => tryA N (2 * n - 3 - t) (C - (cs.getD (n - 1) 0 + (N - cs.getD 0 0))) av (fun x av' => srchA n N C f (t + 1) (C - (cs.getD (n - 1) 0 + (N - cs.getD 0 0)) - x) (x :: cs) av') av
        | false => none)
      | false => none)
    | false => match Nat.beq t (2 * n - 2) with
      | true => (match Nat.beq left 0 with | true => some cs | false => none)
      | false => tryA N (match Nat.ble n t with | true => 2 * n - 3 - t | false => n - 1 - t) left av (fun x av' => srchA n N C f (t + 1) (left - x) (x :: cs) av') av
def srchA0 (n : Nat) : Option (List Nat) := srchA n (n * n + 1) (n * (n * n + 1) / 2) (2 * n) 0 (n * (n * n + 1) / 2) [] (List.range' 1 (2 * (n - 1)) ++ List.range' (n * n + 1 - 2 * (n - 1)) (2 * (n - 1)))
theorem srchA3 : srchA0 3 = some [9, 6, 7, 2] := by decide +kernel
theorem srchA4 : srchA0 4 = some [16, 13, 14, 12, 6, 2] := by decide +kernel
theorem srchA5 : srchA0 5 = some [22, 20, 19, 23, 21, 18, 2, 1] := by decide +kernel
theorem srchA6 : srchA0 6 = some [32, 31, 30, 9, 29, 35, 33, 10, 3, 1] := by decide +kernel
theorem beqF {a b : Nat} (h : a ≠ b) : Nat.beq a b = false := by
  rw [Bool.eq_false_iff]; intro h2; exact h (Nat.eq_of_beq_eq_true h2)
theorem beqT (a : Nat) : Nat.beq a a = true := Nat.beq_refl a
/-! the two searches are one -/
def castL (l : List Nat) : List Int := l.map fun (x : Nat) => (x : Int)
def numsA (n : Nat) (us : List Bool) : List Nat := (List.range' 1 (n * n)).filter (leftB n us)
theorem numsN_cast (n : Nat) (us : List Bool) : numsN n us = castL (numsA n us) := rfl
theorem dropN_filter (N x : Nat) (l : List Nat) : dropN N x l = l.filter fun y => decide (y ≠ x) && decide (y ≠ N - x) := by
  induction l with
  | nil => rfl
  | cons y r ih =>
    simp only [dropN, List.filter_cons, ih]
    by_cases h1 : y = x
    · subst h1; simp
    · by_cases h2 : y = N - x
      · simp [h2]
      · have e1 : Nat.beq y x = false := beqF h1
        have e2 : Nat.beq y (N - x) = false := beqF h2
        simp [h1, h2, e1, e2]
theorem numsA_mark {n : Nat} {us : List Bool} (hl : us.length = n * n + 1) {k : Nat} (h1 : 1 ≤ k) (h2 : k ≤ n * n) : numsA n (markF n us (k : Int) true) = dropN (n * n + 1) k (numsA n us) := by
  rw [dropN_filter, numsA, numsA, List.filter_filter]
  refine List.filter_congr fun y _ => ?_
  unfold leftB
  rw [getD_markF hl h1 h2]
  by_cases e1 : y = k
  · simp [e1]
  · by_cases e2 : y = n * n + 1 - k
    · simp [e2]
    · simp [e1, e2]
theorem castL_getD (l : List Nat) (i : Nat) : (castL l).getD i 0 = ((l.getD i 0 : Nat) : Int) := by
  simp only [castL, List.getD_eq_getElem?_getD, List.getElem?_map]
  cases l[i]? <;> simp
theorem sumL_succ : ∀ (k : Nat) (l : List Nat), sumL (k + 1) l = sumL k l + l.getD k 0 := by
  intro k
  induction k with
  | zero => intro l; cases l <;> simp [sumL]
  | succ k ih =>
    intro l
    cases l with
    | nil => simp [sumL]
    | cons x r => rw [sumL, ih r]; simp [sumL]; omega
theorem loS_cast (l : List Nat) : ∀ k, loS (castL l) k = ((sumL k l : Nat) : Int) := by
  intro k
  induction k with
  | zero => cases l <;> rfl
  | succ k ih => rw [sumL_succ]; simp only [loS, ih, castL_getD]; push_cast; rfl
theorem hiS_cast (l : List Nat) : ∀ k, k ≤ l.length → hiS (castL l) k = ((sumL k l.reverse : Nat) : Int) := by
  intro k
  induction k with
  | zero => intro _; cases l.reverse <;> rfl
  | succ k ih =>
    intro hk
    rw [sumL_succ]
    simp only [hiS, ih (by omega), castL_getD]
    have e : (castL l).length - 1 - k = l.length - 1 - k := by simp [castL]
    have e2 : l.reverse.getD k 0 = l.getD (l.length - 1 - k) 0 := by
      simp only [List.getD_eq_getElem?_getD]
      rw [List.getElem?_reverse (by omega)]
    rw [e, e2]; push_cast; rfl
theorem tryL_neg {R : Type} {n rest : Nat} {left : Int} {us : List Bool} {rec : Int → List Bool → Option R} (hl : left < 0) : ∀ (r : List Int), (∀ x ∈ r, 1 ≤ x) → tryL n rest left us rec r = none := by
  intro r
  induction r with
  | nil => intro _; rfl
  | cons x r ih =>
    intro hr
    have hx := hr x (by simp)
    have hlo := (loS_bd (l := numsN n (markF n us x true)) (B := n * n) (fun y hy => by have := numsN_bd hy; omega) (by exact_mod_cast Nat.zero_le _) rest).1
    rw [tryL, if_neg (by omega)]
    exact ih fun y hy => hr y (by simp [hy])
theorem tryL_tryA {n rest lft : Nat} {us : List Bool} {av : List Nat} {rec : Int → List Bool → Option (List Int × List Bool)} {recA : Nat → List Nat → Option (List Nat)} {g : List Nat → List Int}
    (hl : us.length = n * n + 1) (hav : numsA n us = av) (hlen : ∀ x ∈ av, rest ≤ (dropN (n * n + 1) x av).length)
    (hrec : ∀ x ∈ av, x ≤ lft → (rec (x : Int) (markF n us (x : Int) true)).map (·.1) = (recA x (dropN (n * n + 1) x av)).map g) :
    ∀ (r : List Nat), (∀ x ∈ r, x ∈ av) → (tryL n rest (lft : Int) us rec (castL r)).map (·.1) = (tryA (n * n + 1) rest lft av recA r).map g := by
  intro r
  induction r with
  | nil => intro _; rfl
  | cons x r ih =>
    intro hr
    have hx := hr x (by simp)
    have ih := ih fun y hy => hr y (by simp [hy])
    have hxb : 1 ≤ x ∧ x ≤ n * n := by
      have : x ∈ numsA n us := by rw [hav]; exact hx
      simp only [numsA, List.mem_filter, List.mem_range'_1] at this
      omega
    have hm : numsN n (markF n us (x : Int) true) = castL (dropN (n * n + 1) x av) := by rw [numsN_cast, numsA_mark hl hxb.1 hxb.2, hav]
    show (tryL n rest (lft : Int) us rec ((x : Int) :: castL r)).map (·.1) = _
    rw [tryL, hm, loS_cast, hiS_cast _ _ (hlen x hx), tryA]
    by_cases hc : sumL rest (dropN (n * n + 1) x av) + x ≤ lft ∧ lft ≤ sumL rest (dropN (n * n + 1) x av).reverse + x
    · have hb : (Nat.ble (sumL rest (dropN (n * n + 1) x av) + x) lft && Nat.ble lft (sumL rest (dropN (n * n + 1) x av).reverse + x)) = true := by
        rw [Bool.and_eq_true]; exact ⟨Nat.ble_eq_true_of_le hc.1, Nat.ble_eq_true_of_le hc.2⟩
      rw [if_pos (by omega), hb]
      have hr2 := hrec x hx (by omega)
      simp only
      cases h1 : rec (x : Int) (markF n us (x : Int) true) with
      | none =>
        rw [h1] at hr2
        cases h2 : recA x (dropN (n * n + 1) x av) with
        | none => exact ih
        | some v => rw [h2] at hr2; simp at hr2
      | some v =>
        rw [h1] at hr2
        cases h2 : recA x (dropN (n * n + 1) x av) with
        | none => rw [h2] at hr2; simp at hr2
        | some v2 => rw [h2] at hr2; exact hr2
    · have hb : (Nat.ble (sumL rest (dropN (n * n + 1) x av) + x) lft && Nat.ble lft (sumL rest (dropN (n * n + 1) x av).reverse + x)) = false := by
        rw [Bool.eq_false_iff]; intro h
        rw [Bool.and_eq_true] at h
        exact hc ⟨Nat.le_of_ble_eq_true h.1, Nat.le_of_ble_eq_true h.2⟩
      rw [if_neg (by omega), hb]
      exact ih
theorem srch_srchA {n : Nat} (hn : 3 ≤ n) {C : Nat} (hC : constOf n = C) : ∀ (f lft : Nat) (csr : List Nat) (av : List Nat) (us : List Bool), FInv n (castL csr.reverse) us → numsA n us = av →
    (srch n f (lft : Int) (castL csr.reverse) us).map (·.1) = (srchA n (n * n + 1) C f csr.length lft csr av).map fun l => castL l.reverse := by
  intro f
  induction f with
  | zero => intro lft csr av us _ _; rfl
  | succ f ih =>
    intro lft csr av us hI hav
    have hcl : (castL csr.reverse).length = csr.length := by simp [castL]
    have hcnt := hI.cnt
    have hal : (numsN n us).length = av.length := by rw [numsN_cast, hav]; simp [castL]
    rw [hcl, hal] at hcnt
    have step : ∀ x ∈ av, FInv n (castL (x :: csr).reverse) (markF n us (x : Int) true) ∧ (1 ≤ x ∧ x ≤ n * n) := fun x hx => by
      have h1 := hI.step (by omega) (x := (x : Int)) (by rw [numsN_cast, hav]; exact List.mem_map.2 ⟨x, hx, rfl⟩)
      refine ⟨?_, ?_⟩
      · have : castL (x :: csr).reverse = castL csr.reverse ++ [(x : Int)] := by simp [castL]
        rw [this]; exact h1.1
      · have := h1.2.1; omega
    have key : ∀ (rest l1 : Nat), rest + csr.length ≤ 2 * n - 3 → rest ≤ n → (rest + csr.length ≤ n - 1 ∨ n ≤ csr.length) → (tryL n rest (l1 : Int) us (fun x us' => srch n f ((l1 : Int) - x) (castL csr.reverse ++ [x]) us') (numsN n us)).map (·.1) =
        (tryA (n * n + 1) rest l1 av (fun x av' => srchA n (n * n + 1) C f (csr.length + 1) (l1 - x) (x :: csr) av') av).map fun l => castL l.reverse := fun rest l1 hrest hrn _ => by
      have hm : numsN n us = castL av := by rw [numsN_cast, hav]
      rw [hm]
      refine tryL_tryA hI.len hav (fun x hx => ?_) (fun x hx hle => ?_) av fun x hx => hx
      · have h2 := (step x hx).1.cnt
        rw [numsN_cast, numsA_mark hI.len (step x hx).2.1 (step x hx).2.2, hav] at h2
        simp only [castL, List.length_map, List.length_reverse, List.length_cons] at h2
        omega
      · have h3 := ih (l1 - x) (x :: csr) (dropN (n * n + 1) x av) (markF n us (x : Int) true) (step x hx).1 (by rw [numsA_mark hI.len (step x hx).2.1 (step x hx).2.2, hav])
        have e1 : castL (x :: csr).reverse = castL csr.reverse ++ [(x : Int)] := by simp [castL]
        have e2 : ((l1 - x : Nat) : Int) = (l1 : Int) - x := by omega
        rw [e1, e2] at h3
        exact h3
    simp only [srch, srchA, hcl]
    by_cases h1 : csr.length = n
    · rw [h1, beqT]
      by_cases h2 : lft = 0
      · subst h2
        rw [if_neg (by simp), if_neg (by omega)]
        have hfirst : (castL csr.reverse).getD 0 0 = ((csr.getD (n - 1) 0 : Nat) : Int) := by
          rw [castL_getD]; congr 1; rw [List.getD_eq_getElem?_getD, List.getElem?_reverse (by omega), List.getD_eq_getElem?_getD, h1]; rfl
        have hlast : (castL csr.reverse).getD (n - 1) 0 = ((csr.getD 0 0 : Nat) : Int) := by
          rw [castL_getD]; congr 1; rw [List.getD_eq_getElem?_getD, List.getElem?_reverse (by omega), List.getD_eq_getElem?_getD, h1]; congr 2; omega
        have hlb : csr.getD 0 0 ≤ n * n := by
          have h5 : ((csr.getD 0 0 : Nat) : Int) ∈ castL csr.reverse := by
            refine List.mem_map.2 ⟨csr.getD 0 0, List.mem_reverse.2 ?_, rfl⟩
            rw [List.getD_eq_getElem?_getD, List.getElem?_eq_getElem (by omega)]; exact List.getElem_mem _
          have := (hI.cb _ h5).2; omega
        have hr : restN n n = 2 * n - 3 - n := by unfold restN; rw [if_pos (Nat.le_refl _)]
        have hl1 : left1 n ((0 : Nat) : Int) (castL csr.reverse) = (C : Int) - ((csr.getD (n - 1) 0 + (n * n + 1 - csr.getD 0 0) : Nat) : Int) := by
          unfold left1; rw [if_pos (by rw [hcl, h1]), hC, hfirst, hlast]; push_cast; omega
        rw [hl1, hr]
        simp only [beqT]
        generalize hq : csr.getD (n - 1) 0 + (n * n + 1 - csr.getD 0 0) = q at *
        by_cases h3 : q ≤ C
        · rw [Nat.ble_eq_true_of_le h3]
          have := key (2 * n - 3 - n) (C - q) (by omega) (by omega) (.inr (by omega))
          have e3 : ((C - q : Nat) : Int) = (C : Int) - (q : Int) := by omega
          rw [e3, h1] at this
          exact this
        · have hb : Nat.ble q C = false := by rw [Bool.eq_false_iff]; intro h; exact h3 (Nat.le_of_ble_eq_true h)
          rw [hb, tryL_neg (left := (C : Int) - (q : Int)) (by omega) _ fun x hx => (numsN_bd hx).1]; rfl
      · have hb : Nat.beq lft 0 = false := beqF h2
        rw [if_pos ⟨rfl, by omega⟩, hb]; rfl
    · have hb : Nat.beq csr.length n = false := beqF h1
      rw [if_neg (by simp [h1]), hb]
      have hl1 : left1 n (lft : Int) (castL csr.reverse) = lft := by unfold left1; rw [if_neg (by rw [hcl]; exact h1)]
      by_cases h2 : csr.length = 2 * n - 2
      · rw [if_pos h2, h2, beqT, hl1]
        by_cases h3 : lft = 0
        · subst h3; simp
        · have hb : Nat.beq lft 0 = false := beqF h3
          rw [if_neg (by omega), hb]; rfl
      · have hb2 : Nat.beq csr.length (2 * n - 2) = false := beqF h2
        rw [if_neg h2, hb2, hl1]
        have hle : csr.length ≤ 2 * n - 2 := by omega
        by_cases h4 : n ≤ csr.length
        · rw [Nat.ble_eq_true_of_le h4, show restN n csr.length = 2 * n - 3 - csr.length by unfold restN; rw [if_pos h4]]
          exact key _ lft (by omega) (by omega) (.inr h4)
        · have hb3 : Nat.ble n csr.length = false := by rw [Bool.eq_false_iff]; intro h; exact h4 (Nat.le_of_ble_eq_true h)
          rw [hb3, show restN n csr.length = n - 1 - csr.length by unfold restN; rw [if_neg h4]]
          exact key _ lft (by omega) (by omega) (.inl (by omega))
end Go.Eng.YtobnbkoeocdhbaaGreatDoor
namespace Go.Eng.YtobnbkoeocdhbaaGreatDoor
open Go.Proofs
set_option maxRecDepth 100000
set_option maxHeartbeats 0
set_option linter.unusedVariables false
set_option linter.unusedSimpArgs false
abbrev nxA : AO := .cells (.pv [.rp 3 0]) false
abbrev nxB (n : Int) : AO := .cells (.pv [.int .i64 n]) false
abbrev nxC : AO := .cells (.pv [.fn (.func 75) [] [.rp 0 0, .rp 1 0, .rp 2 0]]) false
abbrev nxF (n g0 g1 : Int) (gl : List Int) (cv : PV) (m : Nat) : AO := .cells (.pv [.int .i64 n, .int .i64 g0, .int .i64 g1, .isl (.ints .i64 gl) .none, cv, .rsl 5 0 m]) false
/-- the slice's value and its object, in the first phase and in the second -/
def cvOf (ph : Bool) (k t : Nat) : PV := match ph with | true => .rsl k 0 t | false => .nils
def soOf (ph : Bool) (cs : List Int) : AO := match ph with | true => .cells (.ints .i64 cs) false | false => .cells (.pv []) true
def nxO (ph : Bool) (n g0 g1 : Int) (gl : List Int) (cs : List Int) (m : Nat) (us : List Bool) : List AO := [nxA, nxB n, nxC, nxF n g0 g1 gl (cvOf ph 4 cs.length) m, soOf ph cs, .cells (.bools us) false]
def nxH (ph : Bool) (n g0 g1 : Int) (gl : List Int) (cs : List Int) (m : Nat) (us : List Bool) : Hp := [some nxA, some (nxB n), some nxC, some (nxF n g0 g1 gl (cvOf ph 6 cs.length) m), some (.cells (.pv []) true), some (.cells (.bools us) false), some (soOf ph cs)]
def nxR (n g0 g1 : Int) (gl : List Int) (m : Nat) (r : List Int × List Bool) : List AO := [nxA, nxB n, nxC, nxF n g0 g1 gl (.rsl 6 0 r.1.length) m, .cells (.pv []) true, .cells (.bools r.2) false, .cells (.ints .i64 r.1) false]
theorem entry_next (args : List PV) (ph : Bool) (n g0 g1 : Int) (gl : List Int) (cs : List Int) (m : Nat) (us : List Bool) : EntryOK args (nxO ph n g0 g1 gl cs m us) args (nxH ph n g0 g1 gl cs m us) := by
  intro S w ι vs M R
  cases ph with
  | true =>
    obtain ⟨b, arr, e, h1, _⟩ := M.obj 4 (.cells (.ints .i64 cs) false) rfl
    obtain ⟨M1, L1, T1⟩ := M.move (k := 4) (n := 6) (c := .ints .i64 cs) rfl rfl h1
    obtain ⟨M2, T2⟩ := M1.recast (k := 3) (c := .pv [.int .i64 n, .int .i64 g0, .int .i64 g1, .isl (.ints .i64 gl) .none, .rsl 4 0 cs.length, .rsl 5 0 m]) (c' := .pv [.int .i64 n, .int .i64 g0, .int .i64 g1, .isl (.ints .i64 gl) .none, .rsl 6 0 cs.length, .rsl 5 0 m]) rfl (by simp [CL.ncell]) (fun j hj v hr => by
      simp only [CL.ncell, List.length_cons, List.length_nil] at hj
      have : j = 0 ∨ j = 1 ∨ j = 2 ∨ j = 3 ∨ j = 4 ∨ j = 5 := by omega
      rcases this with rfl | rfl | rfl | rfl | rfl | rfl
      · exact hr
      · exact hr
      · exact hr
      · exact hr
      · simp only [CL.get, getL] at hr ⊢
        have h4 : (ι.seto 6 b).o 4 = some b := by simpa [Ix.seto] using h1
        have h6 : (ι.seto 6 b).o 6 = some b := by simp [Ix.seto]
        generalize cs.length = q at hr ⊢
        cases hr with
        | rsl _ _ _ _ b' cap hk hc hd => rw [h4] at hk; cases hk; exact .rsl _ _ _ _ _ _ h6 hc hd
        | rslz _ _ _ b' o hk => rw [h4] at hk; cases hk; exact .rslz _ _ _ _ _ h6
      · exact hr)
    exact ⟨_, M2, R.mono (.refl _ _) L1, fun p => (T1 p).trans (T2 p)⟩
  | false =>
    obtain ⟨ι', L1, M1, T1⟩ := M.ghost (n := 6) rfl
    exact ⟨ι', M1, R.mono (.refl _ _) L1, T1⟩
def nextL (f : Nat) : LSp := fun xs objs K => match xs, objs with
  | [.int .i64 left, .rp 0 0, .rp 1 0, .rp 2 0], [.cells (.pv [.rp 3 0]) false, .cells (.pv [.int .i64 n2]) false, .cells (.pv [.fn (.func 75) [] [.rp 0 0, .rp 1 0, .rp 2 0]]) false, .cells (.pv [.int .i64 n, .int .i64 g0, .int .i64 g1, .isl (.ints .i64 gl) .none, .rsl 4 0 t, .rsl 5 0 m]) false, .cells (.ints .i64 cs) false, .cells (.bools us) false] =>
    VC ((3 ≤ n ∧ n ≤ 6) ∧ n2 = n ∧ t = cs.length ∧ us.length = m ∧ FInv n.toNat cs us ∧ 2 * n.toNat - 1 ≤ cs.length + f ∧ -10000 ≤ left ∧ left ≤ 10000) ∧ K [.bp (srch n.toNat f left cs us).isSome] (nxR n g0 g1 gl m ((srch n.toNat f left cs us).getD (cs, us)))
  | _, _ => False
def NextOK (f : Nat) : Prop := ∀ (ph : Bool) (n : Nat) (g0 g1 : Int) (gl cs : List Int) (m : Nat) (us : List Bool) (left : Int), 3 ≤ n ∧ n ≤ 6 → us.length = m → FInv n cs us → 2 * n - 1 ≤ cs.length + f → -10000 ≤ left ∧ left ≤ 10000 →
  (ph = false → cs = [] ∧ (srch n f left cs us).isSome = true) → LSpec Tryz.prog 75 [.int .i64 left, .rp 0 0, .rp 1 0, .rp 2 0] (nxO ph n g0 g1 gl cs m us) [.bp (srch n f left cs us).isSome] (nxR n g0 g1 gl m ((srch n f left cs us).getD (cs, us)))
theorem nextL_ok {f : Nat} (h : NextOK f) : LOK Tryz.prog 75 (nextL f) := by
  intro xs objs K hk
  unfold nextL at hk
  split at hk
  · rename_i left n2 n g0 g1 gl t m cs us
    obtain ⟨⟨h1, rfl, rfl, h4, h5, h6, h7⟩, hk⟩ := hk
    obtain ⟨a, rfl⟩ : ∃ a : Nat, n2 = a := ⟨n2.toNat, by omega⟩
    simp only [Int.toNat_natCast] at *
    exact ⟨_, _, hk, h true a g0 g1 gl cs m us left (by omega) h4 h5 h6 h7 (fun e => by cases e)⟩
  · exact hk.elim
def wholeVP : PSp := fun xs K => match xs with
  | [.ip (.pv [.int .i64 n, .int .i64 g0, .int .i64 g1, .isl (.ints .i64 gl) .none, cv, uv]) 0] => VC (0 ≤ n ∧ n ≤ 100) ∧ K (.int .i64 (n * n + 1))
  | _ => False
theorem wholeV_ok : POK Tryz.prog 76 wholeVP := by
  intro xs K h
  unfold wholeVP at h
  split at h
  · exact ⟨_, h.2, whole_pure _ _ _ _ _ _ h.1.get⟩
  · exact h.elim
noncomputable def cpF3 (f : Nat) : CPT := cpAdd 53 (pureCC constantP) (cpAdd 76 (viewCC wholeVP) (cpAdd 77 (lendCC [] numsL) (cpAdd 78 (lendCC [] boundsL) (cpAdd 75 (lendCC [] (nextL f)) noC))))
theorem cpF3_ok {f : Nat} (h : NextOK f) : CPOK Tryz.prog (cpF3 f) := cpAdd_ok (pureCC_ok constant_ok) (cpAdd_ok (viewCC_ok wholeV_ok) (cpAdd_ok (lendCC_ok [] numsL_ok) (cpAdd_ok (lendCC_ok [] boundsL_ok) (cpAdd_ok (lendCC_ok [] (nextL_ok h)) noC_ok))))
theorem next_zero : NextOK 0 := by
  intro ph n g0 g1 gl cs m us left hn hm hI hf
  have := hI.cnt
  omega
theorem tryL_cons {R : Type} (n rest : Nat) (left : Int) (us : List Bool) (rec : Int → List Bool → Option R) (x : Int) (r : List Int) : tryL n rest left us rec (x :: r) = if loS (numsN n (markF n us x true)) rest ≤ left - x ∧ left - x ≤ hiS (numsN n (markF n us x true)) rest then
      (match rec x (markF n us x true) with | some v => some v | none => tryL n rest left us rec r) else tryL n rest left us rec r := rfl
theorem constOf_bd (n : Nat) (hn : 3 ≤ n ∧ n ≤ 6) : 0 ≤ constOf n ∧ constOf n ≤ 1000 := by
  have : n = 3 ∨ n = 4 ∨ n = 5 ∨ n = 6 := by omega
  rcases this with rfl | rfl | rfl | rfl <;> decide
theorem next_step {f : Nat} (ih : NextOK f) : NextOK (f + 1) := by
  intro ph n g0 g1 gl cs m us left hn hm hI hf hleft hph
  have hC := cpF3_ok ih
  have hnn := mul_bd (A := 6) (B := 6) (show 0 ≤ (n : Int) ∧ (n : Int) ≤ 6 by omega) (show 0 ≤ (n : Int) ∧ (n : Int) ≤ 6 by omega)
  have hcn := hI.cnt
  have hnN : ((n * n : Nat) : Int) = (n : Int) * n := by push_cast; rfl
  have hul := hI.len
  have hge : ∀ i : Nat, 0 ≤ cs.getD i 0 ∧ cs.getD i 0 ≤ 36 := fun i => by
    refine getD_bd (B := 36) (fun c hc => ?_) i (by omega)
    have := hI.cb c hc; omega
  have hlen : cs.length ≤ 2 * n - 2 := by omega
  have hg0 := hge 0
  have hg1 := hge (n - 1)
  have hco := constOf_bd n hn
  have hix : ((n : Int) - 1).toNat = n - 1 := by omega
  refine lspec_of_entry (md := 0) (rf := [109, 123]) mixed tabOK hC (entry_next _ ph n g0 g1 gl cs m us) 7 [(21, 6), (29, 6)] Tryz.func75 (by rfl) (by rfl) (by rfl) ?_
  by_cases c1 : cs.length = n ∧ left ≠ 0
  · have ho : srch n (f + 1) left cs us = none := by simp only [srch]; rw [if_pos c1]
    obtain ⟨c1, c2⟩ := c1
    cases ph with
    | true =>
      rw [ho]
      repeat' ((conv => whnf); first | refine And.intro ?_ ?_ | with_reducible exact VC.mk rfl | exact Ok.mk | exact True.intro | refine Nx.mk ?_ | refine Fin.mk ?_ | intro _)
      all_goals ((try refine VC.mk ?_); (try simp only [CL.ncell, CL.cnt, vq] at *); (try omega))
      all_goals (try rfl)
    | false => have := (hph rfl).2; rw [ho] at this; cases this
  by_cases c2 : cs.length = 2 * n - 2
  · have c3 : cs.length ≠ n := by omega
    have ho : srch n (f + 1) left cs us = if left = 0 then some (cs, us) else none := by simp only [srch]; rw [if_neg c1, if_pos c2]; simp [left1, c3]
    cases ph with
    | true =>
      by_cases c4 : left = 0
      · rw [ho, if_pos c4]
        repeat' ((conv => whnf); first | refine And.intro ?_ ?_ | with_reducible exact VC.mk rfl | exact Ok.mk | exact True.intro | refine Nx.mk ?_ | refine Fin.mk ?_ | intro _)
        all_goals ((try refine VC.mk ?_); (try simp only [CL.ncell, CL.cnt, vq] at *); (try omega))
        all_goals (first | rfl | (simp [c4]; done))
      · rw [ho, if_neg c4]
        repeat' ((conv => whnf); first | refine And.intro ?_ ?_ | with_reducible exact VC.mk rfl | exact Ok.mk | exact True.intro | refine Nx.mk ?_ | refine Fin.mk ?_ | intro _)
        all_goals ((try refine VC.mk ?_); (try simp only [CL.ncell, CL.cnt, vq] at *); (try omega))
        all_goals (first | rfl | (simp [c4]; done))
    | false => have := (hph rfl).1; subst this; simp at c2; omega
  have ho : srch n (f + 1) left cs us = tryL n (restN n cs.length) (left1 n left cs) us (fun x us' => srch n f (left1 n left cs - x) (cs ++ [x]) us') (numsN n us) := by simp only [srch]; rw [if_neg c1, if_neg c2]
  generalize srch n (f + 1) left cs us = o at *
  obtain ⟨R, hR⟩ : ∃ R, restN n cs.length = R := ⟨_, rfl⟩
  obtain ⟨L, hL⟩ : ∃ L, left1 n left cs = L := ⟨_, rfl⟩
  rw [hR, hL] at ho
  generalize hl : numsN n us = l at *
  have hl2 : numsN (Int.toNat (n : Int)) us = l := by rw [Int.toNat_natCast]; exact hl
  have hLb : -10000 ≤ L ∧ L ≤ 10000 := by unfold left1 at hL; split at hL <;> omega
  have hRb : R + cs.length ≤ 2 * n - 3 ∧ R ≤ n := by unfold restN at hR; split at hR <;> omega
  cases ph with
  | true =>
    clear hph
    rcases Nat.lt_trichotomy cs.length n with c3 | c3 | c3
    · have : L = left := by rw [← hL, left1, if_neg (by omega)]
      subst this
      have hR1 : (n : Int) - 1 - cs.length = R := by unfold restN at hR; split at hR <;> omega
      repeat' ((conv => whnf); first | refine And.intro ?_ ?_ | with_reducible exact VC.mk rfl | exact Ok.mk | exact True.intro | refine Nx.mk ?_ | refine Fin.mk ?_ | intro _)
      all_goals ((try refine VC.mk ?_); (try simp only [CL.ncell, CL.cnt, vq] at *); (try omega))
      rw [hR1]
      rw [hl2]
      conv => whnf
      refine loop_of (X := Nat) (fun t => t ≤ l.length ∧ o = tryL n R L us (fun x us' => srch n f (L - x) (cs ++ [x]) us') (l.drop t)) (fun t => [(65, .int .i64 t), (15, .any), (27, .any), (36, .any), (28, .any), (39, .any)]) (fun t => []) (fun t => l.length - t) 0 ⟨anyB_ok, mixed, tabOK, hC, noY_ok⟩ (by rfl) ⟨by omega, by rw [ho]; simp only [hL, List.drop_zero]⟩ ?_ ?_
      · repeat' ((conv => whnf); first | refine And.intro ?_ ?_ | with_reducible exact VC.mk rfl | exact Ok.mk | exact True.intro | refine Nx.mk ?_ | refine Fin.mk ?_ | intro _)
        all_goals ((try refine VC.mk ?_); (try simp only [CL.ncell, CL.cnt, vq] at *); (try omega))
      · intro t ht
        obtain ⟨ht, hot⟩ := ht
        by_cases hlt : t < l.length
        · obtain ⟨x, hx⟩ : ∃ x, l.getD t 0 = x := ⟨_, rfl⟩
          have hxl : x ∈ l := by rw [← hx, List.getD_eq_getElem?_getD, List.getElem?_eq_getElem hlt]; exact List.getElem_mem hlt
          have hdr : l.drop t = x :: l.drop (t + 1) := by
            rw [List.drop_eq_getElem_cons hlt, ← hx, List.getD_eq_getElem?_getD, List.getElem?_eq_getElem hlt]; rfl
          rw [hdr, tryL_cons] at hot
          obtain ⟨hI1, hxb, hu1, hu2⟩ := hI.step (by omega) (by rw [hl]; exact hxl)
          have hcn1 := hI1.cnt
          have hm1 : (us.set x.toNat true).set (n * n + 1 - x.toNat) true = markF n us x true := rfl
          have hlm : (markF n us x true).length = n * n + 1 := by simp [markF, hul]
          have hbk : ((markF n us x true).set x.toNat false).set (n * n + 1 - x.toNat) false = us := markF_back hul hxb hu1 hu2
          have hcs : List.take (cs.length - 0) (List.drop 0 cs) = cs := by simp
          have hback := markF_back hul hxb hu1 hu2
          have hix2 : ((n : Int) * n + 1 - x).toNat = n * n + 1 - x.toNat := by omega
          have hlo := loS_bd (l := numsN n (markF n us x true)) (B := 36) (fun y hy => by have := numsN_bd hy; omega) (by omega) R
          have hhi := hiS_bd (l := numsN n (markF n us x true)) (B := 36) (fun y hy => by have := numsN_bd hy; omega) (by omega) R
          have hRR : (R : Int) * 36 ≤ 216 := by omega
          simp only [List.length_append, List.length_cons, List.length_nil] at hcn1
          repeat' ((conv => whnf); first | refine And.intro ?_ ?_ | with_reducible exact VC.mk rfl | exact Ok.mk | exact True.intro | refine Nx.mk ?_ | refine Fin.mk ?_ | intro _)
          all_goals ((try refine VC.mk ?_); (try simp only [CL.ncell, CL.cnt, vq] at *); (try omega))
          all_goals (try simp only [hx] at *)
          all_goals (try simp only [hix2] at *)
          all_goals (try simp only [List.length_set] at *)
          all_goals (try simp only [hm1] at *)
          all_goals (try simp only [hcs] at *)
          all_goals (try omega)
          · refine ⟨R, rfl, ?_, by omega, ?_, by omega⟩
            · rw [Int.toNat_natCast]; show R ≤ (numsN n (markF n us x true)).length; omega
            · show (markF n us x true).length = m; omega
          · exact ⟨by omega, by simp, hm, hI1, by rw [List.length_append, List.length_cons, List.length_nil]; omega, by omega, by omega⟩
          iterate 4
            (obtain ⟨v, hv⟩ := Option.isSome_iff_exists.1 (by assumption : (srch n f (L - x) (cs ++ [x]) (markF n us x true)).isSome = true)
             have ho5 : o = some v := by rw [hot, if_pos ⟨by assumption, by assumption⟩]; simp only [hv]
             rw [ho5]; first | rfl | (rw [hv]; rfl))
          all_goals (try
            (have hv : srch n f (L - x) (cs ++ [x]) (markF n us x true) = none := by simpa using (by assumption : (srch n f (L - x) (cs ++ [x]) (markF n us x true)).isSome = false)
             have ho5 : o = tryL n R L us (fun x us' => srch n f (L - x) (cs ++ [x]) us') (l.drop (t + 1)) := by rw [hot, if_pos ⟨by assumption, by assumption⟩]; simp only [hv]
             simp only [hv, Option.getD_none, List.length_append, List.length_cons, List.length_nil, hlm, hbk, List.take_left']
             try omega))
          · refine ⟨t + 1, [(21, 6)], ⟨⟨by omega, by assumption⟩, by omega⟩, ?_⟩
            repeat' ((conv => whnf); first | refine And.intro ?_ ?_ | with_reducible exact VC.mk rfl | exact Ok.mk | exact True.intro | refine Nx.mk ?_ | refine Fin.mk ?_ | intro _)
            all_goals ((try refine VC.mk ?_); (try simp only [CL.ncell, CL.cnt, vq] at *); (try omega))
          all_goals
            have ho5 : o = tryL n R L us (fun x us' => srch n f (L - x) (cs ++ [x]) us') (l.drop (t + 1)) := by rw [hot, if_neg (fun hc => by first | exact (by assumption : ¬ _) hc.1 | exact (by assumption : ¬ _) hc.2)]
            simp only [hbk]
            refine ⟨t + 1, [], ⟨⟨by omega, ho5⟩, by omega⟩, ?_⟩
            repeat' ((conv => whnf); first | refine And.intro ?_ ?_ | with_reducible exact VC.mk rfl | exact Ok.mk | exact True.intro | refine Nx.mk ?_ | refine Fin.mk ?_ | intro _)
            all_goals ((try refine VC.mk ?_); (try simp only [CL.ncell, CL.cnt, vq] at *); (try omega))
        · have : l.length = t := by omega
          subst this
          rw [List.drop_length] at hot
          have hot : o = none := hot
          subst hot
          repeat' ((conv => whnf); first | refine And.intro ?_ ?_ | with_reducible exact VC.mk rfl | exact Ok.mk | exact True.intro | refine Nx.mk ?_ | refine Fin.mk ?_ | intro _)
          all_goals ((try refine VC.mk ?_); (try simp only [CL.ncell, CL.cnt, vq] at *); (try omega))
          all_goals (try rfl)
    · have hL1 : constOf n - cs.getD (Int.toNat 0) 0 - ((n : Int) * n + 1 - cs.getD ((n : Int) - 1).toNat 0) = L := by rw [← hL, left1, if_pos c3, hix]; rfl
      have hR1 : 2 * (n : Int) - 3 - cs.length = R := by unfold restN at hR; split at hR <;> omega
      have c5 : left = 0 := by omega
      have hg3 := hge (Int.toNat 0)
      rw [← hix] at hg1
      repeat' ((conv => whnf); first | refine And.intro ?_ ?_ | with_reducible exact VC.mk rfl | exact Ok.mk | exact True.intro | refine Nx.mk ?_ | refine Fin.mk ?_ | intro _)
      all_goals ((try refine VC.mk ?_); (try simp only [CL.ncell, CL.cnt, vq] at *); (try omega))
      rw [hL1, hR1]
      rw [hl2]
      conv => whnf
      refine loop_of (X := Nat) (fun t => t ≤ l.length ∧ o = tryL n R L us (fun x us' => srch n f (L - x) (cs ++ [x]) us') (l.drop t)) (fun t => [(65, .int .i64 t), (15, .any), (27, .any), (36, .any), (28, .any), (39, .any)]) (fun t => []) (fun t => l.length - t) 0 ⟨anyB_ok, mixed, tabOK, hC, noY_ok⟩ (by rfl) ⟨by omega, by rw [ho]; simp only [hL, List.drop_zero]⟩ ?_ ?_
      · repeat' ((conv => whnf); first | refine And.intro ?_ ?_ | with_reducible exact VC.mk rfl | exact Ok.mk | exact True.intro | refine Nx.mk ?_ | refine Fin.mk ?_ | intro _)
        all_goals ((try refine VC.mk ?_); (try simp only [CL.ncell, CL.cnt, vq] at *); (try omega))
      · intro t ht
        obtain ⟨ht, hot⟩ := ht
        by_cases hlt : t < l.length
        · obtain ⟨x, hx⟩ : ∃ x, l.getD t 0 = x := ⟨_, rfl⟩
          have hxl : x ∈ l := by rw [← hx, List.getD_eq_getElem?_getD, List.getElem?_eq_getElem hlt]; exact List.getElem_mem hlt
          have hdr : l.drop t = x :: l.drop (t + 1) := by
            rw [List.drop_eq_getElem_cons hlt, ← hx, List.getD_eq_getElem?_getD, List.getElem?_eq_getElem hlt]; rfl
          rw [hdr, tryL_cons] at hot
          obtain ⟨hI1, hxb, hu1, hu2⟩ := hI.step (by omega) (by rw [hl]; exact hxl)
          have hcn1 := hI1.cnt
          have hm1 : (us.set x.toNat true).set (n * n + 1 - x.toNat) true = markF n us x true := rfl
          have hlm : (markF n us x true).length = n * n + 1 := by simp [markF, hul]
          have hbk : ((markF n us x true).set x.toNat false).set (n * n + 1 - x.toNat) false = us := markF_back hul hxb hu1 hu2
          have hcs : List.take (cs.length - 0) (List.drop 0 cs) = cs := by simp
          have hback := markF_back hul hxb hu1 hu2
          have hix2 : ((n : Int) * n + 1 - x).toNat = n * n + 1 - x.toNat := by omega
          have hlo := loS_bd (l := numsN n (markF n us x true)) (B := 36) (fun y hy => by have := numsN_bd hy; omega) (by omega) R
          have hhi := hiS_bd (l := numsN n (markF n us x true)) (B := 36) (fun y hy => by have := numsN_bd hy; omega) (by omega) R
          have hRR : (R : Int) * 36 ≤ 216 := by omega
          simp only [List.length_append, List.length_cons, List.length_nil] at hcn1
          repeat' ((conv => whnf); first | refine And.intro ?_ ?_ | with_reducible exact VC.mk rfl | exact Ok.mk | exact True.intro | refine Nx.mk ?_ | refine Fin.mk ?_ | intro _)
          all_goals ((try refine VC.mk ?_); (try simp only [CL.ncell, CL.cnt, vq] at *); (try omega))
          all_goals (try simp only [hx] at *)
          all_goals (try simp only [hix2] at *)
          all_goals (try simp only [List.length_set] at *)
          all_goals (try simp only [hm1] at *)
          all_goals (try simp only [hcs] at *)
          all_goals (try omega)
          · refine ⟨R, rfl, ?_, by omega, ?_, by omega⟩
            · rw [Int.toNat_natCast]; show R ≤ (numsN n (markF n us x true)).length; omega
            · show (markF n us x true).length = m; omega
          · exact ⟨by omega, by simp, hm, hI1, by rw [List.length_append, List.length_cons, List.length_nil]; omega, by omega, by omega⟩
          iterate 4
            (obtain ⟨v, hv⟩ := Option.isSome_iff_exists.1 (by assumption : (srch n f (L - x) (cs ++ [x]) (markF n us x true)).isSome = true)
             have ho5 : o = some v := by rw [hot, if_pos ⟨by assumption, by assumption⟩]; simp only [hv]
             rw [ho5]; first | rfl | (rw [hv]; rfl))
          all_goals (try
            (have hv : srch n f (L - x) (cs ++ [x]) (markF n us x true) = none := by simpa using (by assumption : (srch n f (L - x) (cs ++ [x]) (markF n us x true)).isSome = false)
             have ho5 : o = tryL n R L us (fun x us' => srch n f (L - x) (cs ++ [x]) us') (l.drop (t + 1)) := by rw [hot, if_pos ⟨by assumption, by assumption⟩]; simp only [hv]
             simp only [hv, Option.getD_none, List.length_append, List.length_cons, List.length_nil, hlm, hbk, List.take_left']
             try omega))
          · refine ⟨t + 1, [(29, 6)], ⟨⟨by omega, by assumption⟩, by omega⟩, ?_⟩
            repeat' ((conv => whnf); first | refine And.intro ?_ ?_ | with_reducible exact VC.mk rfl | exact Ok.mk | exact True.intro | refine Nx.mk ?_ | refine Fin.mk ?_ | intro _)
            all_goals ((try refine VC.mk ?_); (try simp only [CL.ncell, CL.cnt, vq] at *); (try omega))
          all_goals
            have ho5 : o = tryL n R L us (fun x us' => srch n f (L - x) (cs ++ [x]) us') (l.drop (t + 1)) := by rw [hot, if_neg (fun hc => by first | exact (by assumption : ¬ _) hc.1 | exact (by assumption : ¬ _) hc.2)]
            simp only [hbk]
            refine ⟨t + 1, [], ⟨⟨by omega, ho5⟩, by omega⟩, ?_⟩
            repeat' ((conv => whnf); first | refine And.intro ?_ ?_ | with_reducible exact VC.mk rfl | exact Ok.mk | exact True.intro | refine Nx.mk ?_ | refine Fin.mk ?_ | intro _)
            all_goals ((try refine VC.mk ?_); (try simp only [CL.ncell, CL.cnt, vq] at *); (try omega))
        · have : l.length = t := by omega
          subst this
          rw [List.drop_length] at hot
          have hot : o = none := hot
          subst hot
          repeat' ((conv => whnf); first | refine And.intro ?_ ?_ | with_reducible exact VC.mk rfl | exact Ok.mk | exact True.intro | refine Nx.mk ?_ | refine Fin.mk ?_ | intro _)
          all_goals ((try refine VC.mk ?_); (try simp only [CL.ncell, CL.cnt, vq] at *); (try omega))
          all_goals (try rfl)
    · have : L = left := by rw [← hL, left1, if_neg (by omega)]
      subst this
      have hR1 : 2 * (n : Int) - 3 - cs.length = R := by unfold restN at hR; split at hR <;> omega
      repeat' ((conv => whnf); first | refine And.intro ?_ ?_ | with_reducible exact VC.mk rfl | exact Ok.mk | exact True.intro | refine Nx.mk ?_ | refine Fin.mk ?_ | intro _)
      all_goals ((try refine VC.mk ?_); (try simp only [CL.ncell, CL.cnt, vq] at *); (try omega))
      rw [hR1]
      rw [hl2]
      conv => whnf
      refine loop_of (X := Nat) (fun t => t ≤ l.length ∧ o = tryL n R L us (fun x us' => srch n f (L - x) (cs ++ [x]) us') (l.drop t)) (fun t => [(65, .int .i64 t), (15, .any), (27, .any), (36, .any), (28, .any), (39, .any)]) (fun t => []) (fun t => l.length - t) 0 ⟨anyB_ok, mixed, tabOK, hC, noY_ok⟩ (by rfl) ⟨by omega, by rw [ho]; simp only [hL, List.drop_zero]⟩ ?_ ?_
      · repeat' ((conv => whnf); first | refine And.intro ?_ ?_ | with_reducible exact VC.mk rfl | exact Ok.mk | exact True.intro | refine Nx.mk ?_ | refine Fin.mk ?_ | intro _)
        all_goals ((try refine VC.mk ?_); (try simp only [CL.ncell, CL.cnt, vq] at *); (try omega))
      · intro t ht
        obtain ⟨ht, hot⟩ := ht
        by_cases hlt : t < l.length
        · obtain ⟨x, hx⟩ : ∃ x, l.getD t 0 = x := ⟨_, rfl⟩
          have hxl : x ∈ l := by rw [← hx, List.getD_eq_getElem?_getD, List.getElem?_eq_getElem hlt]; exact List.getElem_mem hlt
          have hdr : l.drop t = x :: l.drop (t + 1) := by
            rw [List.drop_eq_getElem_cons hlt, ← hx, List.getD_eq_getElem?_getD, List.getElem?_eq_getElem hlt]; rfl
          rw [hdr, tryL_cons] at hot
          obtain ⟨hI1, hxb, hu1, hu2⟩ := hI.step (by omega) (by rw [hl]; exact hxl)
          have hcn1 := hI1.cnt
          have hm1 : (us.set x.toNat true).set (n * n + 1 - x.toNat) true = markF n us x true := rfl
          have hlm : (markF n us x true).length = n * n + 1 := by simp [markF, hul]
          have hbk : ((markF n us x true).set x.toNat false).set (n * n + 1 - x.toNat) false = us := markF_back hul hxb hu1 hu2
          have hcs : List.take (cs.length - 0) (List.drop 0 cs) = cs := by simp
          have hback := markF_back hul hxb hu1 hu2
          have hix2 : ((n : Int) * n + 1 - x).toNat = n * n + 1 - x.toNat := by omega
          have hlo := loS_bd (l := numsN n (markF n us x true)) (B := 36) (fun y hy => by have := numsN_bd hy; omega) (by omega) R
          have hhi := hiS_bd (l := numsN n (markF n us x true)) (B := 36) (fun y hy => by have := numsN_bd hy; omega) (by omega) R
          have hRR : (R : Int) * 36 ≤ 216 := by omega
          simp only [List.length_append, List.length_cons, List.length_nil] at hcn1
          repeat' ((conv => whnf); first | refine And.intro ?_ ?_ | with_reducible exact VC.mk rfl | exact Ok.mk | exact True.intro | refine Nx.mk ?_ | refine Fin.mk ?_ | intro _)
          all_goals ((try refine VC.mk ?_); (try simp only [CL.ncell, CL.cnt, vq] at *); (try omega))
          all_goals (try simp only [hx] at *)
          all_goals (try simp only [hix2] at *)
          all_goals (try simp only [List.length_set] at *)
          all_goals (try simp only [hm1] at *)
          all_goals (try simp only [hcs] at *)
          all_goals (try omega)
          · refine ⟨R, rfl, ?_, by omega, ?_, by omega⟩
            · rw [Int.toNat_natCast]; show R ≤ (numsN n (markF n us x true)).length; omega
            · show (markF n us x true).length = m; omega
          · exact ⟨by omega, by simp, hm, hI1, by rw [List.length_append, List.length_cons, List.length_nil]; omega, by omega, by omega⟩
          iterate 4
            (obtain ⟨v, hv⟩ := Option.isSome_iff_exists.1 (by assumption : (srch n f (L - x) (cs ++ [x]) (markF n us x true)).isSome = true)
             have ho5 : o = some v := by rw [hot, if_pos ⟨by assumption, by assumption⟩]; simp only [hv]
             rw [ho5]; first | rfl | (rw [hv]; rfl))
          all_goals (try
            (have hv : srch n f (L - x) (cs ++ [x]) (markF n us x true) = none := by simpa using (by assumption : (srch n f (L - x) (cs ++ [x]) (markF n us x true)).isSome = false)
             have ho5 : o = tryL n R L us (fun x us' => srch n f (L - x) (cs ++ [x]) us') (l.drop (t + 1)) := by rw [hot, if_pos ⟨by assumption, by assumption⟩]; simp only [hv]
             simp only [hv, Option.getD_none, List.length_append, List.length_cons, List.length_nil, hlm, hbk, List.take_left']
             try omega))
          · refine ⟨t + 1, [(21, 6)], ⟨⟨by omega, by assumption⟩, by omega⟩, ?_⟩
            repeat' ((conv => whnf); first | refine And.intro ?_ ?_ | with_reducible exact VC.mk rfl | exact Ok.mk | exact True.intro | refine Nx.mk ?_ | refine Fin.mk ?_ | intro _)
            all_goals ((try refine VC.mk ?_); (try simp only [CL.ncell, CL.cnt, vq] at *); (try omega))
          all_goals
            have ho5 : o = tryL n R L us (fun x us' => srch n f (L - x) (cs ++ [x]) us') (l.drop (t + 1)) := by rw [hot, if_neg (fun hc => by first | exact (by assumption : ¬ _) hc.1 | exact (by assumption : ¬ _) hc.2)]
            simp only [hbk]
            refine ⟨t + 1, [], ⟨⟨by omega, ho5⟩, by omega⟩, ?_⟩
            repeat' ((conv => whnf); first | refine And.intro ?_ ?_ | with_reducible exact VC.mk rfl | exact Ok.mk | exact True.intro | refine Nx.mk ?_ | refine Fin.mk ?_ | intro _)
            all_goals ((try refine VC.mk ?_); (try simp only [CL.ncell, CL.cnt, vq] at *); (try omega))
        · have : l.length = t := by omega
          subst this
          rw [List.drop_length] at hot
          have hot : o = none := hot
          subst hot
          repeat' ((conv => whnf); first | refine And.intro ?_ ?_ | with_reducible exact VC.mk rfl | exact Ok.mk | exact True.intro | refine Nx.mk ?_ | refine Fin.mk ?_ | intro _)
          all_goals ((try refine VC.mk ?_); (try simp only [CL.ncell, CL.cnt, vq] at *); (try omega))
          all_goals (try rfl)
  | false =>
    obtain ⟨rfl, hsome⟩ := hph rfl
    have : L = left := by rw [← hL, left1, if_neg (by simp; omega)]
    subst this
    have hR1 : (n : Int) - 1 - 0 = R := by unfold restN at hR; split at hR <;> simp at * <;> omega
    simp only [List.length_nil] at *
    repeat' ((conv => whnf); first | refine And.intro ?_ ?_ | with_reducible exact VC.mk rfl | exact Ok.mk | exact True.intro | refine Nx.mk ?_ | refine Fin.mk ?_ | intro _)
    all_goals ((try refine VC.mk ?_); (try simp only [CL.ncell, CL.cnt, vq] at *); (try omega))
    rw [hR1]
    rw [hl2]
    conv => whnf
    refine loop_of (X := Nat × Bool) (fun x => x.1 ≤ l.length ∧ o = tryL n R L us (fun x us' => srch n f (L - x) ([x]) us') (l.drop x.1)) (fun x => [(65, .int .i64 x.1), (15, .any), (27, .any), (36, .any), (28, .any), (39, .any)]) (fun x => match x.2 with | true => [(3, .cells (.pv [.int .i64 n, .int .i64 g0, .int .i64 g1, .isl (.ints .i64 gl) .none, .rsl 6 0 0, .rsl 5 0 m]) false), (6, .cells (.ints .i64 []) false)] | false => []) (fun x => l.length - x.1) (0, false) ⟨anyB_ok, mixed, tabOK, hC, noY_ok⟩ (by rfl) ⟨by omega, by rw [ho]; simp only [hL, List.drop_zero]; rfl⟩ ?_ ?_
    · repeat' ((conv => whnf); first | refine And.intro ?_ ?_ | with_reducible exact VC.mk rfl | exact Ok.mk | exact True.intro | refine Nx.mk ?_ | refine Fin.mk ?_ | intro _)
      all_goals ((try refine VC.mk ?_); (try simp only [CL.ncell, CL.cnt, vq] at *); (try omega))
    · rintro ⟨t, b⟩ ht
      obtain ⟨ht, hot⟩ := ht
      simp only at ht hot
      by_cases hlt : t < l.length
      · obtain ⟨x, hx⟩ : ∃ x, l.getD t 0 = x := ⟨_, rfl⟩
        have hxl : x ∈ l := by rw [← hx, List.getD_eq_getElem?_getD, List.getElem?_eq_getElem hlt]; exact List.getElem_mem hlt
        have hdr : l.drop t = x :: l.drop (t + 1) := by
          rw [List.drop_eq_getElem_cons hlt, ← hx, List.getD_eq_getElem?_getD, List.getElem?_eq_getElem hlt]; rfl
        rw [hdr, tryL_cons] at hot
        obtain ⟨hI1, hxb, hu1, hu2⟩ := hI.step (by omega) (by rw [hl]; exact hxl)
        have hcn1 := hI1.cnt
        have hm1 : (us.set x.toNat true).set (n * n + 1 - x.toNat) true = markF n us x true := rfl
        have hlm : (markF n us x true).length = n * n + 1 := by simp [markF, hul]
        have hbk : ((markF n us x true).set x.toNat false).set (n * n + 1 - x.toNat) false = us := markF_back hul hxb hu1 hu2
        have hcs : List.take (0 - 0) (List.drop 0 ([] : List Int)) = [] := by simp
        have hback := markF_back hul hxb hu1 hu2
        have hix2 : ((n : Int) * n + 1 - x).toNat = n * n + 1 - x.toNat := by omega
        have hlo := loS_bd (l := numsN n (markF n us x true)) (B := 36) (fun y hy => by have := numsN_bd hy; omega) (by omega) R
        have hhi := hiS_bd (l := numsN n (markF n us x true)) (B := 36) (fun y hy => by have := numsN_bd hy; omega) (by omega) R
        have hRR : (R : Int) * 36 ≤ 216 := by omega
        simp only [List.length_append, List.length_cons, List.length_nil] at hcn1
        cases b with
        | false =>
          repeat' ((conv => whnf); first | refine And.intro ?_ ?_ | with_reducible exact VC.mk rfl | exact Ok.mk | exact True.intro | refine Nx.mk ?_ | refine Fin.mk ?_ | intro _)
          all_goals ((try refine VC.mk ?_); (try simp only [CL.ncell, CL.cnt, vq] at *); (try omega))
          all_goals (try simp only [hx] at *)
          all_goals (try simp only [hix2] at *)
          all_goals (try simp only [List.length_set] at *)
          all_goals (try simp only [hm1] at *)
          all_goals (try simp only [hcs] at *)
          all_goals (try simp only [List.nil_append] at *)
          all_goals (try omega)
          · refine ⟨R, rfl, ?_, by omega, ?_, by omega⟩
            · rw [Int.toNat_natCast]; show R ≤ (numsN n (markF n us x true)).length; omega
            · show (markF n us x true).length = m; omega
          · first | exact ⟨by omega, by simp, hm, hI1, by rw [List.length_cons, List.length_nil]; omega, by omega, by omega⟩ | exact ⟨by omega, hm, hI1, by omega, by omega, by omega⟩
          iterate 4
            (obtain ⟨v, hv⟩ := Option.isSome_iff_exists.1 (by assumption : (srch n f (L - x) ([x]) (markF n us x true)).isSome = true)
             have ho5 : o = some v := by rw [hot, if_pos ⟨by assumption, by assumption⟩]; simp only [hv]
             rw [ho5]; first | rfl | (rw [hv]; rfl))
          all_goals (try
            (have hv : srch n f (L - x) ([x]) (markF n us x true) = none := by simpa using (by assumption : (srch n f (L - x) ([x]) (markF n us x true)).isSome = false)
             have ho5 : o = tryL n R L us (fun x us' => srch n f (L - x) ([x]) us') (l.drop (t + 1)) := by rw [hot, if_pos ⟨by assumption, by assumption⟩]; simp only [hv]
             simp only [hv, Option.getD_none, List.length_append, List.length_cons, List.length_nil, hlm, hbk, List.take_left']
             try omega))
          · refine ⟨(t + 1, true), [(21, 6)], ⟨⟨by omega, by assumption⟩, by omega⟩, ?_⟩
            repeat' ((conv => whnf); first | refine And.intro ?_ ?_ | with_reducible exact VC.mk rfl | exact Ok.mk | exact True.intro | refine Nx.mk ?_ | refine Fin.mk ?_ | intro _)
            all_goals ((try refine VC.mk ?_); (try simp only [CL.ncell, CL.cnt, vq] at *); (try omega))
          all_goals
            have ho5 : o = tryL n R L us (fun x us' => srch n f (L - x) ([x]) us') (l.drop (t + 1)) := by rw [hot, if_neg (fun hc => by first | exact (by assumption : ¬ _) hc.1 | exact (by assumption : ¬ _) hc.2)]
            simp only [hbk]
            refine ⟨(t + 1, false), [], ⟨⟨by omega, ho5⟩, by omega⟩, ?_⟩
            repeat' ((conv => whnf); first | refine And.intro ?_ ?_ | with_reducible exact VC.mk rfl | exact Ok.mk | exact True.intro | refine Nx.mk ?_ | refine Fin.mk ?_ | intro _)
            all_goals ((try refine VC.mk ?_); (try simp only [CL.ncell, CL.cnt, vq] at *); (try omega))
        | true =>
          repeat' ((conv => whnf); first | refine And.intro ?_ ?_ | with_reducible exact VC.mk rfl | exact Ok.mk | exact True.intro | refine Nx.mk ?_ | refine Fin.mk ?_ | intro _)
          all_goals ((try refine VC.mk ?_); (try simp only [CL.ncell, CL.cnt, vq] at *); (try omega))
          all_goals (try simp only [hx] at *)
          all_goals (try simp only [hix2] at *)
          all_goals (try simp only [List.length_set] at *)
          all_goals (try simp only [hm1] at *)
          all_goals (try simp only [hcs] at *)
          all_goals (try simp only [List.nil_append] at *)
          all_goals (try omega)
          · refine ⟨R, rfl, ?_, by omega, ?_, by omega⟩
            · rw [Int.toNat_natCast]; show R ≤ (numsN n (markF n us x true)).length; omega
            · show (markF n us x true).length = m; omega
          · first | exact ⟨by omega, by simp, hm, hI1, by rw [List.length_cons, List.length_nil]; omega, by omega, by omega⟩ | exact ⟨by omega, hm, hI1, by omega, by omega, by omega⟩
          iterate 4
            (obtain ⟨v, hv⟩ := Option.isSome_iff_exists.1 (by assumption : (srch n f (L - x) ([x]) (markF n us x true)).isSome = true)
             have ho5 : o = some v := by rw [hot, if_pos ⟨by assumption, by assumption⟩]; simp only [hv]
             rw [ho5]; first | rfl | (rw [hv]; rfl))
          all_goals (try
            (have hv : srch n f (L - x) ([x]) (markF n us x true) = none := by simpa using (by assumption : (srch n f (L - x) ([x]) (markF n us x true)).isSome = false)
             have ho5 : o = tryL n R L us (fun x us' => srch n f (L - x) ([x]) us') (l.drop (t + 1)) := by rw [hot, if_pos ⟨by assumption, by assumption⟩]; simp only [hv]
             simp only [hv, Option.getD_none, List.length_append, List.length_cons, List.length_nil, hlm, hbk, List.take_left']
             try omega))
          · refine ⟨(t + 1, true), [(21, 6)], ⟨⟨by omega, by assumption⟩, by omega⟩, ?_⟩
            repeat' ((conv => whnf); first | refine And.intro ?_ ?_ | with_reducible exact VC.mk rfl | exact Ok.mk | exact True.intro | refine Nx.mk ?_ | refine Fin.mk ?_ | intro _)
            all_goals ((try refine VC.mk ?_); (try simp only [CL.ncell, CL.cnt, vq] at *); (try omega))
          all_goals
            have ho5 : o = tryL n R L us (fun x us' => srch n f (L - x) ([x]) us') (l.drop (t + 1)) := by rw [hot, if_neg (fun hc => by first | exact (by assumption : ¬ _) hc.1 | exact (by assumption : ¬ _) hc.2)]
            simp only [hbk]
            refine ⟨(t + 1, true), [], ⟨⟨by omega, ho5⟩, by omega⟩, ?_⟩
            repeat' ((conv => whnf); first | refine And.intro ?_ ?_ | with_reducible exact VC.mk rfl | exact Ok.mk | exact True.intro | refine Nx.mk ?_ | refine Fin.mk ?_ | intro _)
            all_goals ((try refine VC.mk ?_); (try simp only [CL.ncell, CL.cnt, vq] at *); (try omega))
      · have : l.length = t := by omega
        subst this
        rw [List.drop_length] at hot
        have hot : o = none := hot
        subst hot
        exact absurd hsome (by simp)
end Go.Eng.YtobnbkoeocdhbaaGreatDoor
namespace Go.Eng.YtobnbkoeocdhbaaGreatDoor
open Go.Proofs
set_option maxRecDepth 100000
set_option maxHeartbeats 0
set_option linter.unusedVariables false
set_option linter.unusedSimpArgs false
abbrev noGrid (e : Int) : PV := .tup [gridV 0 0 [], .int .i64 e]
abbrev okGrid (r c : Int) (l : List Int) : PV := .tup [gridV r c l, .int .i64 0]
theorem orderly_err (n : Int) (h : Bool) (f : Fn) (fs cs : List PV) (e : Int) (he : e ≠ 0) (hf : firstOf [if n < 1 ∨ 16 < n then 3 else 0, if (!h) = true then 7 else 0] = e) :
    PSpec Tryz.prog 67 [.int .i64 n, .bp h, .fn f fs cs] (noGrid e) := by
  refine pspec_of (md := 1) (rf := []) mixed tabOK cp2_ok Tryz.func67 (by rfl) (by rfl) (by rfl) ?_
  repeat' ((conv => whnf); first | refine And.intro ?_ ?_ | with_reducible exact VC.mk rfl | exact Ok.mk | exact True.intro | refine Nx.mk ?_ | refine Fin.mk ?_ | intro _)
  all_goals ((try refine VC.mk ?_); (try simp only [CL.ncell, CL.cnt, vq] at *); (try omega))
  · rw [hf]; all_goals (refine Sup.via ?_; repeat' ((conv => whnf); first | refine And.intro ?_ ?_ | with_reducible exact VC.mk rfl | exact Ok.mk | exact True.intro | refine Nx.mk ?_ | refine Fin.mk ?_ | intro _); all_goals ((try refine VC.mk ?_); (try simp only [CL.ncell, CL.cnt, vq] at *); (try omega)); all_goals (try (simp [CL.sub]; done)))
  all_goals (exfalso; simp_all)
theorem orderly_ok (n : Int) (hn : 1 ≤ n ∧ n ≤ 16) (f : Nat) (fs cs : List PV) (r c : Int) (l : List Int) (hf : PSpec Tryz.prog f (fs ++ [] ++ cs) (gridV r c l)) :
    PSpec Tryz.prog 67 [.int .i64 n, .bp true, .fn (.func f) fs cs] (okGrid r c l) := by
  refine pspec_open 2 (enters' Tryz.func67 (by rfl) (by rfl)) rfl (by simp) fun S0 w0 us vs hu hv => ?_
  have hY : ∀ r', YPOK Tryz.prog r' (fromB S0 w0) (fnY f us vs fun xs K => match xs with
      | [] => K (gridV r c l)
      | _ => False) := fun r => fnY_ok (fs := fs) (cs := cs) (fun S w hb => ⟨hu.mono hb.1 (.refl _), hv.mono hb.1 (.refl _)⟩) fun xs K hk => by
    split at hk
    · exact ⟨_, hk, hf⟩
    · exact hk.elim
  have he : firstOf [if n < 1 ∨ 16 < n then 3 else 0, if (!true) = true then 7 else 0] = 0 := by rw [if_neg (by omega)]; rfl
  refine pspecB_of fromB_ok mixed tabOK (md := 1) (rf := []) (cp2_ok.up _) (hY none) Tryz.func67 (by rfl) (by rfl) ?_
  repeat' ((conv => whnf); first | refine And.intro ?_ ?_ | with_reducible exact VC.mk rfl | exact Ok.mk | exact True.intro | refine Nx.mk ?_ | refine Fin.mk ?_ | intro _)
  all_goals ((try refine VC.mk ?_); (try simp only [CL.ncell, CL.cnt, vq] at *); (try omega))
  all_goals (try (exfalso; simp_all; done))
  all_goals (refine Sup.via ?_; repeat' ((conv => whnf); first | refine And.intro ?_ ?_ | with_reducible exact VC.mk rfl | exact Ok.mk | exact True.intro | refine Nx.mk ?_ | refine Fin.mk ?_ | intro _); all_goals ((try refine VC.mk ?_); (try simp only [CL.ncell, CL.cnt, vq] at *); (try omega)); all_goals (try (simp [CL.sub]; done)))
def orderlyP : PSp := fun xs K => match xs with
  | [.int .i64 n, .bp h, .fn (.func f) fs cs] => ((n < 1 ∨ 16 < n) → K (noGrid 3)) ∧ (¬ (n < 1 ∨ 16 < n) → (h = false → K (noGrid 7)) ∧ (h = true → ∃ r c l, PSpec Tryz.prog f (fs ++ [] ++ cs) (gridV r c l) ∧ K (okGrid r c l)))
  | _ => False
theorem orderly_pok : POK Tryz.prog 67 orderlyP := by
  intro xs K hk
  unfold orderlyP at hk
  split at hk
  · rename_i n h f fs cs
    by_cases hn : n < 1 ∨ 16 < n
    · exact ⟨_, hk.1 hn, orderly_err n h _ fs cs 3 (by omega) (by rw [if_pos hn]; rfl)⟩
    · cases h with
      | false => exact ⟨_, (hk.2 hn).1 rfl, orderly_err n false _ fs cs 7 (by omega) (by rw [if_neg hn]; rfl)⟩
      | true =>
        obtain ⟨r, c, l, h1, h2⟩ := (hk.2 hn).2 rfl
        exact ⟨_, h2, orderly_ok n (by omega) f fs cs r c l h1⟩
  · exact hk.elim
/-! odd orders -/
theorem coprime_of {n a u : Int} (h : n ∣ a * u - 1) : coprime n a = true := by
  unfold coprime
  have h1 : (Int.gcd (a % n) n : Int) ∣ 1 := by
    have d1 : (Int.gcd (a % n) n : Int) ∣ n := Int.gcd_dvd_right ..
    have d2 : (Int.gcd (a % n) n : Int) ∣ a % n := Int.gcd_dvd_left ..
    obtain ⟨k, hk⟩ := h
    obtain ⟨p, hp⟩ := d1
    obtain ⟨q, hq⟩ := d2
    have := Int.emod_add_mul_ediv a n
    generalize (Int.gcd (a % n) n : Int) = g at *
    exact ⟨q * u + p * (a / n) * u - p * k, by grind⟩
  have h2 := Int.le_of_dvd (by omega) h1
  have h3 : Int.gcd (a % n) n ∣ 1 := by exact_mod_cast h1
  simp [Nat.dvd_one.1 h3]
theorem isSq_of {n x0 x1 b0 b1 u : Int} (h : n ∣ (x0 * b1 - x1 * b0) * u - 1) : isSq n (x0 % n) (x1 % n) (b0 % n) (b1 % n) = true := by
  unfold isSq
  refine coprime_of (u := u) ?_
  have e0 := Int.emod_add_mul_ediv x0 n
  have e1 := Int.emod_add_mul_ediv x1 n
  have e2 := Int.emod_add_mul_ediv b0 n
  have e3 := Int.emod_add_mul_ediv b1 n
  obtain ⟨k, hk⟩ := h
  generalize x0 % n = y0 at *
  generalize x1 % n = y1 at *
  generalize b0 % n = c0 at *
  generalize b1 % n = c1 at *
  generalize x0 / n = p0 at *
  generalize x1 / n = p1 at *
  generalize b0 / n = q0 at *
  generalize b1 / n = q1 at *
  subst e0 e1 e2 e3
  exact ⟨k - (y0 * q1 + p0 * c1 + n * p0 * q1 - y1 * q0 - p1 * c0 - n * p1 * q0) * u, by grind⟩
def uniL (n s0 s1 x0 x1 b0 b1 : Int) : List Int := gAt (cellS n s0 s1 x0 x1 b0 b1) (n * n).toNat (n * n).toNat
def siaL (n : Int) : List Int := uniL n 0 ((n - 1) / 2) (-1) 1 2 (-1)
noncomputable def cpO1 : CPT := cpAdd 41 (pureCC reducedP) (cpAdd 42 (pureCC layP) noC)
theorem cpO1_ok : CPOK Tryz.prog cpO1 := cpAdd_ok (pureCC_ok reduced_ok) (cpAdd_ok (pureCC_ok lay_ok) noC_ok)
theorem cSia_spec (n : Int) (hn : 1 ≤ n ∧ n ≤ 16) : PSpec Tryz.prog 68 [.int .i64 n] (gridV n n (siaL n)) := by
  have hs : isSq n (-1 % n) (1 % n) (2 % n) (-1 % n) = true := isSq_of (u := -1) ⟨0, by omega⟩
  have hm := meet_none (s0 := 0 % n) (s1 := (n - 1) / 2 % n) hn.1 hs
  have h3 := emod_all hn.1 0 ((n - 1) / 2) (-1) 1 2 (-1)
  refine pspec_of (md := 0) (rf := []) mixed tabOK cpO1_ok Tryz.func68 (by rfl) (by rfl) (by rfl) ?_
  repeat' ((conv => whnf); first | refine And.intro ?_ ?_ | with_reducible exact VC.mk rfl | exact Ok.mk | exact True.intro | refine Nx.mk ?_ | refine Fin.mk ?_ | intro _)
  all_goals ((try refine VC.mk ?_); (try simp only [CL.ncell, CL.cnt, vq] at *); (try omega))
  · refine ⟨by omega, fun x hx => ?_⟩
    simp only [List.mem_cons, List.not_mem_nil, or_false] at hx
    rcases hx with rfl | rfl | rfl | rfl | rfl | rfl <;> omega
  · exact ⟨hn, h3⟩
  simp only [layV, hm]
  unfold siaL uniL
  repeat' ((conv => whnf); first | refine And.intro ?_ ?_ | with_reducible exact VC.mk rfl | exact Ok.mk | exact True.intro | refine Nx.mk ?_ | refine Fin.mk ?_ | intro _)
  all_goals ((try refine VC.mk ?_); (try simp only [CL.ncell, CL.cnt, vq] at *); (try omega))
  all_goals (refine Sup.via ?_; repeat' ((conv => whnf); first | refine And.intro ?_ ?_ | with_reducible exact VC.mk rfl | exact Ok.mk | exact True.intro | refine Nx.mk ?_ | refine Fin.mk ?_ | intro _); all_goals ((try refine VC.mk ?_); (try simp only [CL.ncell, CL.cnt, vq] at *); (try omega)); all_goals (try (simp [CL.sub]; done)))
def gridOr (n : Int) (h : Prop) [Decidable h] (l : List Int) : PV := if n < 1 ∨ 16 < n then noGrid 3 else if h then okGrid n n l else noGrid 7
noncomputable def cpO2 : CPT := cpAdd 67 (pureCC orderlyP) noC
theorem cpO2_ok : CPOK Tryz.prog cpO2 := cpAdd_ok (pureCC_ok orderly_pok) noC_ok
theorem siamese_spec (n : Int) : PSpec Tryz.prog 27 [.int .i64 n] (gridOr n (n % 2 = 1) (siaL n)) := by
  have ht : ¬ (n < 1 ∨ 16 < n) → n.tmod 2 = n % 2 := fun h => Int.tmod_eq_emod_of_nonneg (by omega)
  unfold gridOr
  refine pspec_of (md := 1) (rf := []) mixed tabOK cpO2_ok Tryz.func27 (by rfl) (by rfl) (by rfl) ?_
  repeat' ((conv => whnf); first | refine And.intro ?_ ?_ | with_reducible exact VC.mk rfl | exact Ok.mk | exact True.intro | refine Nx.mk ?_ | refine Fin.mk ?_ | intro _)
  all_goals ((try refine VC.mk ?_); (try simp only [CL.ncell, CL.cnt, vq] at *); (try omega))
  · rw [if_pos ‹_›]; all_goals (refine Sup.via ?_; repeat' ((conv => whnf); first | refine And.intro ?_ ?_ | with_reducible exact VC.mk rfl | exact Ok.mk | exact True.intro | refine Nx.mk ?_ | refine Fin.mk ?_ | intro _); all_goals ((try refine VC.mk ?_); (try simp only [CL.ncell, CL.cnt, vq] at *); (try omega)); all_goals (try (simp [CL.sub]; done)))
  · rw [if_neg ‹_›, if_neg (by have := ht ‹_›; omega)]; all_goals (refine Sup.via ?_; repeat' ((conv => whnf); first | refine And.intro ?_ ?_ | with_reducible exact VC.mk rfl | exact Ok.mk | exact True.intro | refine Nx.mk ?_ | refine Fin.mk ?_ | intro _); all_goals ((try refine VC.mk ?_); (try simp only [CL.ncell, CL.cnt, vq] at *); (try omega)); all_goals (try (simp [CL.sub]; done)))
  · have := ht ‹_›
    rw [if_neg ‹_›, if_pos (by omega)]
    refine ⟨n, n, siaL n, cSia_spec n (by omega), ?_⟩
    repeat' ((conv => whnf); first | refine And.intro ?_ ?_ | with_reducible exact VC.mk rfl | exact Ok.mk | exact True.intro | refine Nx.mk ?_ | refine Fin.mk ?_ | intro _)
    all_goals ((try refine VC.mk ?_); (try simp only [CL.ncell, CL.cnt, vq] at *); (try omega))
    all_goals (refine Sup.via ?_; repeat' ((conv => whnf); first | refine And.intro ?_ ?_ | with_reducible exact VC.mk rfl | exact Ok.mk | exact True.intro | refine Nx.mk ?_ | refine Fin.mk ?_ | intro _); all_goals ((try refine VC.mk ?_); (try simp only [CL.ncell, CL.cnt, vq] at *); (try omega)); all_goals (try (simp [CL.sub]; done)))
noncomputable def cpO3 : CPT := cpAdd 33 (pureCC madeP) noC
theorem cpO3_ok : CPOK Tryz.prog cpO3 := cpAdd_ok (pureCC_ok made_ok) noC_ok
end Go.Eng.YtobnbkoeocdhbaaGreatDoor
namespace Go.Eng.YtobnbkoeocdhbaaGreatDoor
open Go.Proofs
set_option maxRecDepth 100000
set_option maxHeartbeats 0
set_option linter.unusedVariables false
set_option linter.unusedSimpArgs false
theorem next_all : ∀ f, NextOK f := by
  intro f
  induction f with
  | zero => exact next_zero
  | succ f ih => exact next_step ih
def borderC (n : Nat) : List Nat := match n with
  | 3 => [2, 7, 6, 9]
  | 4 => [2, 6, 12, 14, 13, 16]
  | 5 => [1, 2, 18, 21, 23, 19, 20, 22]
  | 6 => [1, 3, 10, 33, 35, 29, 9, 30, 31, 32]
  | _ => []
theorem borderA {n : Nat} (h : 3 ≤ n ∧ n ≤ 6) : (srchA0 n).map List.reverse = some (borderC n) := by
  have : n = 3 ∨ n = 4 ∨ n = 5 ∨ n = 6 := by omega
  rcases this with rfl | rfl | rfl | rfl
  · rw [srchA3]; rfl
  · rw [srchA4]; rfl
  · rw [srchA5]; rfl
  · rw [srchA6]; rfl
theorem finv0 {n : Nat} (h : 3 ≤ n ∧ n ≤ 6) : FInv n [] (List.replicate (n * n + 1) false) := by
  have : n = 3 ∨ n = 4 ∨ n = 5 ∨ n = 6 := by omega
  refine ⟨by simp, fun x h1 h2 => by simp [List.getD_eq_getElem?_getD, List.getElem?_replicate]; split <;> split <;> rfl, ?_, fun c hc => by simp at hc⟩
  rcases this with rfl | rfl | rfl | rfl <;> decide
theorem numsA0 {n : Nat} (h : 3 ≤ n ∧ n ≤ 6) : numsA n (List.replicate (n * n + 1) false) = List.range' 1 (2 * (n - 1)) ++ List.range' (n * n + 1 - 2 * (n - 1)) (2 * (n - 1)) := by
  have : n = 3 ∨ n = 4 ∨ n = 5 ∨ n = 6 := by omega
  rcases this with rfl | rfl | rfl | rfl <;> decide
theorem constN {n : Nat} : constOf (n : Int) = ((n * (n * n + 1) / 2 : Nat) : Int) := by
  unfold constOf; push_cast; rfl
theorem srch0_some {n : Nat} (h : 3 ≤ n ∧ n ≤ 6) : ∃ us, srch0 n = some (castL (borderC n), us) := by
  have h1 := srch_srchA h.1 constN (2 * n) (n * (n * n + 1) / 2) [] _ (List.replicate (n * n + 1) false) (finv0 h) (numsA0 h)
  have h2 := borderA h
  unfold srchA0 at h2
  rw [← constN] at h1
  have h1 : (srch0 n).map (·.1) = _ := h1
  simp only [List.length_nil] at h1
  cases h3 : srchA n (n * n + 1) (n * (n * n + 1) / 2) (2 * n) 0 (n * (n * n + 1) / 2) [] (List.range' 1 (2 * (n - 1)) ++ List.range' (n * n + 1 - 2 * (n - 1)) (2 * (n - 1))) with
  | none => rw [h3] at h2; simp at h2
  | some l =>
    rw [h3] at h1 h2
    cases h4 : srch0 n with
    | none => rw [h4] at h1; simp at h1
    | some r =>
      rw [h4] at h1
      simp only [Option.map_some, Option.some.injEq] at h1 h2
      exact ⟨r.2, by rw [← h2, ← h1]⟩
theorem tryL_len {n rest : Nat} {left : Int} {us : List Bool} {rec : Int → List Bool → Option (List Int × List Bool)} {r : List Int × List Bool} (hr : ∀ x us', us'.length = us.length → rec x us' = some r → r.2.length = us.length) : ∀ l, tryL n rest left us rec l = some r → r.2.length = us.length := by
  intro l
  induction l with
  | nil => intro h; simp [tryL] at h
  | cons x l ih =>
    intro h
    simp only [tryL] at h
    split at h
    · split at h
      · rename_i v hv; cases h; exact hr x _ (by simp [markF]) hv
      · exact ih h
    · exact ih h
theorem srch_len {n : Nat} : ∀ f left cs us r, srch n f left cs us = some r → r.2.length = us.length := by
  intro f
  induction f with
  | zero => intro left cs us r h; simp [srch] at h
  | succ f ih =>
    intro left cs us r h
    simp only [srch] at h
    split at h
    · cases h
    · split at h
      · split at h
        · cases h; rfl
        · cases h
      · exact tryL_len (fun x us' hl h => (ih _ _ _ _ h).trans hl) _ h
theorem borderC_len {n : Nat} (h : 3 ≤ n ∧ n ≤ 6) : (borderC n).length = 2 * n - 2 := by
  have : n = 3 ∨ n = 4 ∨ n = 5 ∨ n = 6 := by omega
  rcases this with rfl | rfl | rfl | rfl <;> rfl
theorem borderC_bd {n : Nat} (h : 3 ≤ n ∧ n ≤ 6) : ∀ x ∈ castL (borderC n), 0 ≤ x ∧ x ≤ 36 := by
  have : n = 3 ∨ n = 4 ∨ n = 5 ∨ n = 6 := by omega
  rcases this with rfl | rfl | rfl | rfl <;> decide
def usB (n : Nat) : List Bool := match srch0 n with | some r => r.2 | none => []
theorem srch0_eq {n : Nat} (h : 3 ≤ n ∧ n ≤ 6) : srch0 n = some (castL (borderC n), usB n) ∧ (usB n).length = n * n + 1 := by
  obtain ⟨us, h1⟩ := srch0_some h
  have h2 : usB n = us := by unfold usB; rw [h1]
  exact ⟨by rw [h2, h1], by rw [h2, srch_len _ _ _ _ _ h1]; simp⟩
/-! the search -/
def nextF : LSp := fun xs objs K => match xs, objs with
  | [.int .i64 left, .rp 0 0, .rp 1 0, .rp 2 0], [.cells (.pv [.rp 3 0]) false, .cells (.pv [.int .i64 n2]) false, .cells (.pv [.fn (.func 75) [] [.rp 0 0, .rp 1 0, .rp 2 0]]) false, .cells (.pv [.int .i64 n, .int .i64 g0, .int .i64 g1, .isl (.ints .i64 gl) .none, .nils, .rsl 5 0 m]) false, .cells (.pv []) true, .cells (.bools us) false] =>
    VC ((3 ≤ n ∧ n ≤ 6) ∧ n2 = n ∧ m = n.toNat * n.toNat + 1 ∧ us = List.replicate m false ∧ left = constOf n) ∧ K [.bp true] (nxR n g0 g1 gl m (castL (borderC n.toNat), usB n.toNat))
  | _, _ => False
theorem nextF_ok : LOK Tryz.prog 75 nextF := by
  intro xs objs K hk
  unfold nextF at hk
  split at hk
  · rename_i left n2 n g0 g1 gl m us
    obtain ⟨⟨h1, rfl, h3, rfl, rfl⟩, hk⟩ := hk
    obtain ⟨a, rfl⟩ : ∃ a : Nat, n2 = a := ⟨n2.toNat, by omega⟩
    simp only [Int.toNat_natCast] at *
    have ha : 3 ≤ a ∧ a ≤ 6 := by omega
    have h5 := (srch0_eq ha).1
    have h6 := next_all (2 * a) false a g0 g1 gl [] m (List.replicate m false) (constOf a) ha (by simp) (by rw [h3]; exact finv0 ha) (by simp) (by have := constOf_bd a ha; omega)
      (fun _ => ⟨rfl, by rw [h3]; show (srch0 a).isSome = true; rw [h5]; rfl⟩)
    have h7 : srch a (2 * a) (constOf a) [] (List.replicate m false) = some (castL (borderC a), usB a) := by rw [h3]; exact h5
    rw [h7] at h6
    exact ⟨_, _, hk, h6⟩
  · exact hk.elim
noncomputable def cpB1 : CPT := cpAdd 53 (pureCC constantP) (cpAdd 75 (lendCC [3, 4, 5, 0, 2, 1] nextF) noC)
theorem cpB1_ok : CPOK Tryz.prog cpB1 := cpAdd_ok (pureCC_ok constant_ok) (cpAdd_ok (lendCC_ok _ nextF_ok) noC_ok)
def searchL : LSp := fun xs objs K => match xs, objs with
  | [.rp 0 0], [.cells (.pv [.int .i64 n, .int .i64 g0, .int .i64 g1, .isl (.ints .i64 gl) .none, .nils, .rsl 1 0 m]) false, .cells (.bools us) false] =>
    VC ((3 ≤ n ∧ n ≤ 6) ∧ m = n.toNat * n.toNat + 1 ∧ us = List.replicate m false) ∧ K [.bp true] [.cells (.pv [.int .i64 n, .int .i64 g0, .int .i64 g1, .isl (.ints .i64 gl) .none, .rsl 2 0 (castL (borderC n.toNat)).length, .rsl 1 0 m]) false, .cells (.bools (usB n.toNat)) false, .cells (.ints .i64 (castL (borderC n.toNat))) false]
  | _, _ => False
theorem search_spec (a : Nat) (ha : 3 ≤ a ∧ a ≤ 6) (g0 g1 : Int) (gl : List Int) (m : Nat) (hm : m = a * a + 1) : LSpec Tryz.prog 37 [.rp 0 0] [.cells (.pv [.int .i64 a, .int .i64 g0, .int .i64 g1, .isl (.ints .i64 gl) .none, .nils, .rsl 1 0 m]) false, .cells (.bools (List.replicate m false)) false] [.bp true]
    [.cells (.pv [.int .i64 a, .int .i64 g0, .int .i64 g1, .isl (.ints .i64 gl) .none, .rsl 2 0 (castL (borderC a)).length, .rsl 1 0 m]) false, .cells (.bools (usB a)) false, .cells (.ints .i64 (castL (borderC a))) false] := by
  have hE : EntryOK [.rp 0 0] [.cells (.pv [.int .i64 a, .int .i64 g0, .int .i64 g1, .isl (.ints .i64 gl) .none, .nils, .rsl 1 0 m]) false, .cells (.bools (List.replicate m false)) false] [.rp 0 0]
      [some (.cells (.pv [.int .i64 a, .int .i64 g0, .int .i64 g1, .isl (.ints .i64 gl) .none, .nils, .rsl 1 0 m]) false), some (.cells (.bools (List.replicate m false)) false), some (.cells (.pv []) true)] := by
    intro S w ι vs M R
    obtain ⟨ι', L1, M1, T1⟩ := M.ghost (n := 2) rfl
    exact ⟨ι', M1, R.mono (.refl _ _) L1, T1⟩
  refine lspec_of_entry (md := 0) (rf := [9]) mixed tabOK cpB1_ok hE 3 [(10, 2)] Tryz.func37 (by rfl) (by rfl) (by rfl) ?_
  repeat' ((conv => whnf); first | refine And.intro ?_ ?_ | with_reducible exact VC.mk rfl | exact Ok.mk | exact True.intro | refine Nx.mk ?_ | refine Fin.mk ?_ | intro _)
  all_goals ((try refine VC.mk ?_); (try simp only [CL.ncell, CL.cnt, vq] at *); (try omega))
theorem searchL_ok : LOK Tryz.prog 37 searchL := by
  intro xs objs K hk
  unfold searchL at hk
  split at hk
  · rename_i n g0 g1 gl m us
    obtain ⟨⟨h1, h2, rfl⟩, hk⟩ := hk
    obtain ⟨a, rfl⟩ : ∃ a : Nat, n = a := ⟨n.toNat, by omega⟩
    simp only [Int.toNat_natCast] at *
    exact ⟨_, _, hk, search_spec a (by omega) g0 g1 gl m h2⟩
  · exact hk.elim
/-! the square -/
def sqF (n : Nat) (gl cs : List Int) (i j : Nat) : Int :=
  if i = 0 then cs.getD j 0 else if i = n - 1 then (if j = 0 ∨ j = n - 1 then (n : Int) * n + 1 - cs.getD (n - 1 - j) 0 else (n : Int) * n + 1 - cs.getD j 0)
  else if j = 0 then cs.getD (n + i - 1) 0 else if j = n - 1 then (n : Int) * n + 1 - cs.getD (n + i - 1) 0 else gl.getD ((i - 1) * (n - 2) + j - 1) 0 + 2 * ((n : Int) - 2) + 2
noncomputable def cpB2 : CPT := cpAdd 76 (pureCC wholeVP) noC
theorem cpB2_ok : CPOK Tryz.prog cpB2 := cpAdd_ok (pureCC_ok wholeV_ok) noC_ok
theorem c131_spec (n : Nat) (hn : 3 ≤ n ∧ n ≤ 6) (g0 g1 : Int) (gl cs : List Int) (uv : PV) (hc : cs.length = 2 * n - 2) (hcb : ∀ x ∈ cs, 0 ≤ x ∧ x ≤ 36) (hg : gl.length = (n - 2) * (n - 2)) (hgb : ∀ x ∈ gl, 0 ≤ x ∧ x ≤ 1000) (i j : Nat) (hi : i < n) (hj : j < n) :
    PSpec Tryz.prog 79 ([] ++ [.int .i64 i, .int .i64 j] ++ [.ip (.pv [.int .i64 (n : Int)]) 0, .ip (.pv [.ip (.pv [.int .i64 (n : Int), .int .i64 g0, .int .i64 g1, .isl (.ints .i64 gl) .none, .isl (.ints .i64 cs) .none, uv]) 0]) 0]) (.int .i64 (sqF n gl cs i j)) := by
  have hnn := mul_bd (A := 6) (B := 6) (show 0 ≤ (n : Int) ∧ (n : Int) ≤ 6 by omega) (show 0 ≤ (n : Int) ∧ (n : Int) ≤ 6 by omega)
  have hcg := fun i => getD_bd hcb i (by omega)
  have hgg := fun i => getD_bd hgb i (by omega)
  have f1 := hcg ((n : Int) - 1 - j).toNat
  have f2 := hcg j
  have f3 := hcg ((n : Int) + i - 1).toNat
  have f4 := hgg (((i : Int) - 1) * ((n : Int) - 2) + j - 1).toNat
  have hin : ¬ (1 ≤ i ∧ i + 1 < n ∧ 1 ≤ j ∧ j + 1 < n) ∨ (((i : Int) - 1) * ((n : Int) - 2) = (((i - 1) * (n - 2) : Nat) : Int) ∧ (i - 1) * (n - 2) + j - 1 < gl.length ∧ (i - 1) * (n - 2) ≤ 36) := by
    by_cases h : 1 ≤ i ∧ i + 1 < n ∧ 1 ≤ j ∧ j + 1 < n
    · right
      rw [hg]
      have : n = 3 ∨ n = 4 ∨ n = 5 ∨ n = 6 := by omega
      rcases this with rfl | rfl | rfl | rfl <;> refine ⟨?_, ?_, ?_⟩ <;> push_cast <;> omega
    · exact .inl h
  have s1 : ((n : Int) - 1 - j).toNat = n - 1 - j := by omega
  have s2 : ((n : Int) + i - 1).toNat = n + i - 1 := by omega
  have s3 : (1 ≤ i ∧ i + 1 < n ∧ 1 ≤ j ∧ j + 1 < n) → (((i : Int) - 1) * ((n : Int) - 2) + j - 1).toNat = (i - 1) * (n - 2) + j - 1 := fun h => by
    rcases hin with h' | h'
    · exact absurd h h'
    · rw [h'.1]; omega
  refine pspec_of (md := 0) (rf := []) mixed tabOK cpB2_ok Tryz.func79 (by rfl) (by rfl) (by rfl) ?_
  generalize hz : sqF n gl cs i j = z
  unfold sqF at hz
  repeat' ((conv => whnf); first | refine And.intro ?_ ?_ | with_reducible exact VC.mk rfl | exact Ok.mk | exact True.intro | refine Nx.mk ?_ | refine Fin.mk ?_ | intro _)
  all_goals ((try refine VC.mk ?_); (try simp only [CL.ncell, CL.cnt, vq] at *); (try omega))
  all_goals (refine Sup.of ?_; simp only [resOf, PV.int.injEq, true_and]; rw [← hz])
  · rw [if_pos (by omega)]
  · rw [if_neg (by omega), if_pos (by omega), if_pos (by omega), s1]
  · rw [if_neg (by omega), if_pos (by omega), if_neg (by omega)]
  · rw [if_neg (by omega), if_pos (by omega), if_pos (by omega), s1]
  · rw [if_neg (by omega), if_neg (by omega), if_pos (by omega), s2]
  · rw [if_neg (by omega), if_neg (by omega), if_neg (by omega), if_pos (by omega), s2]
  · rw [if_neg (by omega), if_neg (by omega), if_neg (by omega), if_neg (by omega), s3 (by omega)]
noncomputable def cpB3 : CPT := cpAdd 33 (pureCC madeP) noC
theorem cpB3_ok : CPOK Tryz.prog cpB3 := cpAdd_ok (pureCC_ok made_ok) noC_ok
theorem square_spec' (n : Nat) (hn : 3 ≤ n ∧ n ≤ 6) (g0 g1 : Int) (gl cs : List Int) (uv : PV) (hc : cs.length = 2 * n - 2) (hcb : ∀ x ∈ cs, 0 ≤ x ∧ x ≤ 36) (hg : gl.length = (n - 2) * (n - 2)) (hgb : ∀ x ∈ gl, 0 ≤ x ∧ x ≤ 1000) (us : List Bool) :
    PSpec Tryz.prog 38 [.ip (.pv [.int .i64 (n : Int), .int .i64 g0, .int .i64 g1, .isl (.ints .i64 gl) .none, .isl (.ints .i64 cs) .none, .isl (.bools us) .none]) 0] (gridV n n (madeL n (sqF n gl cs))) := by
  refine pspec_of (md := 0) (rf := []) mixed tabOK cpB3_ok Tryz.func38 (by rfl) (by rfl) (by rfl) ?_
  repeat' ((conv => whnf); first | refine And.intro ?_ ?_ | with_reducible exact VC.mk rfl | exact Ok.mk | exact True.intro | refine Nx.mk ?_ | refine Fin.mk ?_ | intro _)
  all_goals ((try refine VC.mk ?_); (try simp only [CL.ncell, CL.cnt, vq] at *); (try omega))
  refine ⟨sqF n gl cs, fun i j hi hj => c131_spec n hn g0 g1 gl cs _ hc hcb hg hgb i j (by omega) (by omega), ?_⟩
  repeat' ((conv => whnf); first | refine And.intro ?_ ?_ | with_reducible exact VC.mk rfl | exact Ok.mk | exact True.intro | refine Nx.mk ?_ | refine Fin.mk ?_ | intro _)
  all_goals ((try refine VC.mk ?_); (try simp only [CL.ncell, CL.cnt, vq] at *); (try omega))
  all_goals (refine Sup.via ?_; repeat' ((conv => whnf); first | refine And.intro ?_ ?_ | with_reducible exact VC.mk rfl | exact Ok.mk | exact True.intro | refine Nx.mk ?_ | refine Fin.mk ?_ | intro _); all_goals ((try refine VC.mk ?_); (try simp only [CL.ncell, CL.cnt, vq] at *); (try omega)); all_goals (try (simp [CL.sub]; done)))
def squareFP : PSp := fun xs K => match xs with
  | [.ip (.pv [.int .i64 n, .int .i64 g0, .int .i64 g1, .isl (.ints .i64 gl) .none, .isl (.ints .i64 cs) .none, .isl (.bools us) .none]) 0] =>
    VC ((3 ≤ n ∧ n ≤ 6) ∧ cs.length = 2 * n.toNat - 2 ∧ (∀ x ∈ cs, 0 ≤ x ∧ x ≤ 36) ∧ gl.length = (n.toNat - 2) * (n.toNat - 2) ∧ ∀ x ∈ gl, 0 ≤ x ∧ x ≤ 1000) ∧ K (gridV n n (madeL n.toNat (sqF n.toNat gl cs)))
  | _ => False
theorem square_ok' : POK Tryz.prog 38 squareFP := by
  intro xs K hk
  unfold squareFP at hk
  split at hk
  · rename_i n g0 g1 gl cs us
    obtain ⟨⟨h1, h2, h3, h4, h5⟩, hk⟩ := hk
    obtain ⟨a, rfl⟩ : ∃ a : Nat, n = a := ⟨n.toNat, by omega⟩
    simp only [Int.toNat_natCast] at *
    exact ⟨_, hk, square_spec' a (by omega) g0 g1 gl cs (.isl (.bools us) .none) h2 h3 h4 h5 us⟩
  · exact hk.elim
theorem isNorm_bd {l : List Int} (h : isNorm l = true) : ∀ x ∈ l, 1 ≤ x ∧ x ≤ l.length := by
  intro x hx
  obtain ⟨i, hi, rfl⟩ := List.getElem_of_mem hx
  unfold isNorm distinctIn at h
  rw [List.all_eq_true] at h
  have := h i (List.mem_range.2 hi)
  unfold okAt at this
  rw [Bool.and_eq_true, decide_eq_true_eq] at this
  have := this.1
  rw [List.getD_eq_getElem?_getD, List.getElem?_eq_getElem hi] at this
  simp only [Option.getD_some] at this
  omega
theorem normErr_zero {r c : Int} {l : List Int} (h : normErr r c l = 0) : sqErr r c l = 0 ∧ isNorm l = true := by
  unfold normErr at h
  split at h
  · rename_i hs
    split at h
    · exact ⟨hs, ‹_›⟩
    · omega
  · exact absurd h ‹_›
def bordL (n : Nat) (l : List Int) : List Int := madeL n (sqF n l (castL (borderC n)))
def borderV (r c : Int) (l : List Int) : PV := if normErr r c l ≠ 0 then noGrid (normErr r c l) else if linesOk r.toNat 2 l = false then noGrid 16 else if 4 < r then noGrid 20 else okGrid (r + 2) (r + 2) (bordL (r.toNat + 2) l)
noncomputable def cpB4 : CPT := cpAdd 31 (pureCC checkNormalP) (cpAdd 36 (pureCC isMagicP) (cpAdd 37 (lendCC [] searchL) (cpAdd 38 (frzCC squareFP) cp2)))
theorem cpB4_ok : CPOK Tryz.prog cpB4 := cpAdd_ok (pureCC_ok checkNormal_ok) (cpAdd_ok (pureCC_ok isMagic_ok) (cpAdd_ok (lendCC_ok [] searchL_ok) (cpAdd_ok (frzCC_ok square_ok') cp2_ok)))
theorem border_spec (r c : Int) (l : List Int) : PSpec Tryz.prog 10 [gridV r c l] (borderV r c l) := by
  unfold borderV
  by_cases h0 : normErr r c l = 0
  · rw [if_neg (by simp [h0])]
    obtain ⟨h1, h2⟩ := normErr_zero h0
    obtain ⟨h3, h4, h5, h6, h7⟩ := sqErr_zero h1
    have h8 := isNorm_bd h2
    obtain ⟨a, rfl⟩ : ∃ a : Nat, r = a := ⟨r.toNat, by omega⟩
    subst h3
    simp only [Int.toNat_natCast]
    have hv : ∀ x ∈ l, 0 ≤ x ∧ x ≤ 1000 := fun x hx => by have := h8 x hx; omega
    have haa : ((a * a : Nat) : Int) = (a : Int) * a := by push_cast; rfl
    by_cases h9 : linesOk a 2 l = true ∧ a ≤ 4
    · have hF : firstOf [if (!linesOk a 2 l) = true then 16 else 0, if 4 < (a : Int) then 20 else 0] = 0 := by
        rw [h9.1, if_neg (by simp), if_neg (by omega)]; rfl
      obtain ⟨h9, h10⟩ := h9
      rw [if_neg (by simp [h9]), if_neg (by omega)]
      have hb := mul_bd (A := 6) (B := 6) (show 0 ≤ (a : Int) + 2 ∧ (a : Int) + 2 ≤ 6 by omega) (show 0 ≤ (a : Int) + 2 ∧ (a : Int) + 2 ≤ 6 by omega)
      have t1 : ((a : Int) + 2).toNat = a + 2 := by omega
      have t2 : (((a + 2) * (a + 2) : Nat) : Int) = ((a : Int) + 2) * ((a : Int) + 2) := by push_cast; rfl
      have t3 : (((a : Int) + 2) * ((a : Int) + 2) + 1).toNat = (a + 2) * (a + 2) + 1 := by omega
      have t4 := (srch0_eq (n := a + 2) (by omega)).2
      have t5 : (castL (borderC (a + 2))).length = 2 * (a + 2) - 2 := by rw [castL, List.length_map]; exact borderC_len (by omega)
      have t6 := borderC_bd (n := a + 2) (by omega)
      have t7 : l.length = a * a := by omega
      refine pspec_of (md := 1) (rf := []) mixed tabOK cpB4_ok Tryz.func10 (by rfl) (by rfl) (by rfl) ?_
      repeat' ((conv => whnf); first | refine And.intro ?_ ?_ | with_reducible exact VC.mk rfl | exact Ok.mk | exact True.intro | refine Nx.mk ?_ | refine Fin.mk ?_ | intro _)
      all_goals ((try refine VC.mk ?_); (try simp only [CL.ncell, CL.cnt, vq] at *); (try omega))
      all_goals (try simp only [t1, t3, t4, t5, Nat.sub_zero, List.drop_zero])
      all_goals (try omega)
      · exact ⟨by omega, h6, hv⟩
      · exact ⟨by omega, trivial⟩
      · have t9 : List.take (2 * (a + 2) - 2) (castL (borderC (a + 2))) = castL (borderC (a + 2)) := List.take_of_length_le (by omega)
        rw [t9]
        exact ⟨by omega, t5, t6, by rw [t7]; rfl, hv⟩
      · have t9 : List.take (2 * (a + 2) - 2) (castL (borderC (a + 2))) = castL (borderC (a + 2)) := List.take_of_length_le (by omega)
        rw [t9]
        unfold bordL
        all_goals (refine Sup.via ?_; repeat' ((conv => whnf); first | refine And.intro ?_ ?_ | with_reducible exact VC.mk rfl | exact Ok.mk | exact True.intro | refine Nx.mk ?_ | refine Fin.mk ?_ | intro _); all_goals ((try refine VC.mk ?_); (try simp only [CL.ncell, CL.cnt, vq] at *); (try omega)); all_goals (try (simp [CL.sub]; done)))
    · have hF : firstOf [if (!linesOk a 2 l) = true then 16 else 0, if 4 < (a : Int) then 20 else 0] = if linesOk a 2 l = false then 16 else 20 := by
        cases hL : linesOk a 2 l with
        | false => rfl
        | true => rw [hL] at h9; have h9 : ¬ a ≤ 4 := fun h => h9 ⟨rfl, h⟩; rw [if_neg (by simp), if_pos (by omega)]; rfl
      have hF0 : firstOf [if (!linesOk a 2 l) = true then 16 else 0, if 4 < (a : Int) then 20 else 0] ≠ 0 := by rw [hF]; split <;> omega
      have hz : (if linesOk a 2 l = false then noGrid 16 else if 4 < (a : Int) then noGrid 20 else okGrid ((a : Int) + 2) ((a : Int) + 2) (bordL (a + 2) l)) = noGrid (firstOf [if (!linesOk a 2 l) = true then 16 else 0, if 4 < (a : Int) then 20 else 0]) := by
        rw [hF]
        cases hL : linesOk a 2 l with
        | false => rfl
        | true => rw [hL] at h9; have h9 : ¬ a ≤ 4 := fun h => h9 ⟨rfl, h⟩; rw [if_neg (by simp), if_pos (by omega)]; rfl
      rw [hz]
      have hp : (1 : Int) ≤ a ∧ (a : Int) ≤ 16 := by omega
      have hb := mul_bd (A := 18) (B := 18) (show 0 ≤ (a : Int) + 2 ∧ (a : Int) + 2 ≤ 18 by omega) (show 0 ≤ (a : Int) + 2 ∧ (a : Int) + 2 ≤ 18 by omega)
      refine pspec_of (md := 1) (rf := []) mixed tabOK cpB4_ok Tryz.func10 (by rfl) (by rfl) (by rfl) ?_
      repeat' ((conv => whnf); first | refine And.intro ?_ ?_ | with_reducible exact VC.mk rfl | exact Ok.mk | exact True.intro | refine Nx.mk ?_ | refine Fin.mk ?_ | intro _)
      all_goals ((try refine VC.mk ?_); (try simp only [CL.ncell, CL.cnt, vq] at *); (try omega))
      all_goals (try (exfalso; omega))
      · exact ⟨by omega, h6, hv⟩
      · all_goals (refine Sup.via ?_; repeat' ((conv => whnf); first | refine And.intro ?_ ?_ | with_reducible exact VC.mk rfl | exact Ok.mk | exact True.intro | refine Nx.mk ?_ | refine Fin.mk ?_ | intro _); all_goals ((try refine VC.mk ?_); (try simp only [CL.ncell, CL.cnt, vq] at *); (try omega)); all_goals (try (simp [CL.sub]; done)))
  · rw [if_pos h0]
    refine pspec_of (md := 1) (rf := []) mixed tabOK cpB4_ok Tryz.func10 (by rfl) (by rfl) (by rfl) ?_
    repeat' ((conv => whnf); first | refine And.intro ?_ ?_ | with_reducible exact VC.mk rfl | exact Ok.mk | exact True.intro | refine Nx.mk ?_ | refine Fin.mk ?_ | intro _)
    all_goals ((try refine VC.mk ?_); (try simp only [CL.ncell, CL.cnt, vq] at *); (try omega))
    all_goals (try (exfalso; omega))
    all_goals (refine Sup.via ?_; repeat' ((conv => whnf); first | refine And.intro ?_ ?_ | with_reducible exact VC.mk rfl | exact Ok.mk | exact True.intro | refine Nx.mk ?_ | refine Fin.mk ?_ | intro _); all_goals ((try refine VC.mk ?_); (try simp only [CL.ncell, CL.cnt, vq] at *); (try omega)); all_goals (try (simp [CL.sub]; done)))
end Go.Eng.YtobnbkoeocdhbaaGreatDoor
namespace Go.Eng.YtobnbkoeocdhbaaGreatDoor
open Go.Proofs
set_option maxRecDepth 100000
set_option maxHeartbeats 0
set_option linter.unusedVariables false
set_option linter.unusedSimpArgs false
def insN (x : Nat) : List Nat → List Nat
  | [] => [x]
  | y :: r => match Nat.ble x y with
    | true => x :: y :: r
    | false => y :: insN x r
def isortN : List Nat → List Nat
  | [] => []
  | x :: r => insN x (isortN r)
theorem insN_perm (x : Nat) : ∀ l, (insN x l).Perm (x :: l)
  | [] => .refl _
  | y :: r => by
    unfold insN
    split
    · exact .refl _
    · exact ((insN_perm x r).cons y).trans (.swap x y r)
theorem isortN_perm : ∀ l, (isortN l).Perm l
  | [] => .refl _
  | x :: r => (insN_perm x _).trans ((isortN_perm r).cons x)
theorem seen_false (m : Nat) (l : List Int) (i v : Nat) (h : ∀ x ∈ l.take i, x.toNat ≠ v) : (seenAt m l i).getD v false = false := by
  unfold seenAt
  have : ∀ (k : List Int) (s : List Bool), (∀ x ∈ k, x.toNat ≠ v) → s.getD v false = false → (k.foldl (fun s x => s.set x.toNat true) s).getD v false = false := by
    intro k
    induction k with
    | nil => intro s _ hs; exact hs
    | cons x r ih =>
      intro s hk hs
      refine ih _ (fun y hy => hk y (List.mem_cons_of_mem _ hy)) ?_
      rw [List.getD_eq_getElem?_getD, List.getElem?_set_ne (hk x List.mem_cons_self), ← List.getD_eq_getElem?_getD, hs]
  refine this _ _ h ?_
  rw [List.getD_eq_getElem?_getD, List.getElem?_replicate]
  split <;> rfl
theorem isNorm_sort {l : List Int} {N : Nat} (hl : l.length = N) (h : isortN (l.map Int.toNat) = List.range' 1 N) : isNorm l = true := by
  have hp := isortN_perm (l.map Int.toNat)
  rw [h] at hp
  have hn : (l.map Int.toNat).Nodup := hp.nodup_iff.1 List.nodup_range'
  unfold isNorm distinctIn
  refine all_true fun i hi => ?_
  have hm : (l[i]).toNat ∈ List.range' 1 N := hp.mem_iff.2 (List.mem_map_of_mem (List.getElem_mem _))
  rw [List.mem_range'_1] at hm
  have eg : l.getD i 0 = l[i] := by rw [List.getD_eq_getElem?_getD, List.getElem?_eq_getElem hi]; rfl
  unfold okAt
  rw [eg, seen_false]
  · rw [decide_eq_true (by omega)]; rfl
  · intro x hx
    obtain ⟨j, hj, rfl⟩ := List.mem_iff_getElem.1 hx
    rw [List.length_take] at hj
    rw [List.getElem_take]
    have := (List.pairwise_iff_getElem.1 hn) j i (by simp; omega) (by simp; omega) (by omega)
    simpa using this
def goodB (n : Nat) (g : Int) (l : List Int) : Bool := Nat.beq l.length (n * n) && (decide (isortN (l.map Int.toNat) = List.range' 1 (n * n)) && (badLine n g l).isNone)
structure GoodSq (n : Nat) (g : Int) (l : List Int) : Prop where
  len : l.length = n * n
  norm : isNorm l = true
  bad : badLine n g l = none
theorem goodB_ok {n : Nat} {g : Int} {l : List Int} (h : goodB n g l = true) : GoodSq n g l := by
  unfold goodB at h
  rw [Bool.and_eq_true, Bool.and_eq_true, decide_eq_true_eq] at h
  have h1 := Nat.eq_of_beq_eq_true h.1
  refine ⟨h1, isNorm_sort h1 h.2.1, ?_⟩
  have := h.2.2
  cases hb : badLine n g l with
  | none => rfl
  | some x => rw [hb] at this; simp at this
theorem bd_of {l : List Int} {lo hi : Int} (h : ∀ x ∈ l, lo ≤ x ∧ x ≤ hi) {k : Nat} (hk : k < l.length) : lo ≤ l.getD k 0 ∧ l.getD k 0 ≤ hi := by
  rw [List.getD_eq_getElem?_getD, List.getElem?_eq_getElem hk]
  exact h _ (List.getElem_mem _)
theorem flat_idx {n i j : Nat} (hi : i < n) (hj : j < n) : n * i + j < n * n := by
  have := Nat.mul_le_mul_left n (show i + 1 ≤ n by omega)
  rw [Nat.mul_add] at this; omega
/-- a normal square -/
structure NormG (r c : Int) (l : List Int) (n : Nat) : Prop where
  er : r = n
  ec : c = n
  en : 1 ≤ n ∧ n ≤ 16
  el : l.length = n * n
  eb : ∀ x ∈ l, 1 ≤ x ∧ x ≤ 256
theorem normG {r c : Int} {l : List Int} (h : normErr r c l = 0) : NormG r c l r.toNat := by
  obtain ⟨h1, h2⟩ := normErr_zero h
  obtain ⟨z1, z2, z3, z4, z5⟩ := sqErr_zero h1
  have hb := isNorm_bd h2
  refine ⟨by omega, by omega, by omega, ?_, fun x hx => by have := hb x hx; omega⟩
  have : ((r.toNat * r.toNat : Nat) : Int) = r * r := by push_cast; rw [Int.toNat_of_nonneg (by omega)]
  omega
end Go.Eng.YtobnbkoeocdhbaaGreatDoor
namespace Go.Eng.YtobnbkoeocdhbaaGreatDoor
open Go.Proofs
set_option maxRecDepth 100000
set_option maxHeartbeats 0
set_option linter.unusedVariables false
set_option linter.unusedSimpArgs false
def prodF (m n : Nat) (a b : List Int) (i j : Nat) : Int := (sqAt m a (i / n) (j / n) - 1) * n * n + sqAt n b (i % n) (j % n)
def prodL (m n : Nat) (a b : List Int) : List Int := madeL (m * n) (prodF m n a b)
theorem const2 (n : Nat) : 2 * constOf n = n * ((n : Int) * n + 1) := by
  unfold constOf
  have h : (n : Int) * ((n : Int) * n + 1) % 2 = 0 := by
    rcases Nat.mod_two_eq_zero_or_one n with h | h
    · obtain ⟨k, hk⟩ : ∃ k : Int, (n : Int) = 2 * k := ⟨(n : Int) / 2, by omega⟩
      rw [hk, Int.mul_assoc, Int.mul_emod_right]
    · obtain ⟨k, hk⟩ : ∃ k : Int, (n : Int) = 2 * k + 1 := ⟨(n : Int) / 2, by omega⟩
      have : (n : Int) * ((n : Int) * n + 1) = 2 * ((2 * k + 1) * (2 * k * k + 2 * k + 1)) := by rw [hk]; grind
      rw [this, Int.mul_emod_right]
  omega
theorem const_prod (m n : Nat) : constOf ((m * n : Nat) : Int) = (n : Int) * n * (n * (constOf m - m)) + m * constOf n := by
  have h1 := const2 (m * n)
  have h2 := const2 m
  have h3 := const2 n
  push_cast at h1 ⊢
  generalize constOf ((m : Int) * n) = x at *
  generalize constOf (m : Int) = y at *
  generalize constOf (n : Int) = z at *
  have e : 2 * ((n : Int) * n * (n * (y - m)) + m * z) = (n : Int) * n * (n * (2 * y - 2 * m)) + m * (2 * z) := by grind
  have e2 : 2 * x = 2 * ((n : Int) * n * (n * (y - m)) + m * z) := by rw [e, h1, h2, h3]; grind
  omega
theorem divmod_mk {n x y : Nat} (hy : y < n) : (x * n + y) / n = x ∧ (x * n + y) % n = y := by
  rw [Nat.mul_comm, Nat.mul_add_div (by omega), Nat.div_eq_of_lt hy, Nat.mul_add_mod, Nat.mod_eq_of_lt hy]
  exact ⟨by omega, rfl⟩
/-- the sum along a path -/
theorem prod_sum {m n : Nat} (hn : 1 ≤ n) (a b : List Int) (p q : Nat → Nat) (P Q : Nat → Nat → Nat) (p' q' : Nat → Nat) (hp : ∀ I i, I < m → i < n → p (I * n + i) = P I i * n + p' i ∧ p' i < n) (hq : ∀ I i, I < m → i < n → q (I * n + i) = Q I i * n + q' i ∧ q' i < n)
    (cA cB : Int) (hA : ∀ i, i < n → sumF (fun I => sqAt m a (P I i) (Q I i)) m = cA) (hB : sumF (fun i => sqAt n b (p' i) (q' i)) n = cB) :
    sumF (fun t => prodF m n a b (p t) (q t)) (m * n) = (n : Int) * n * (n * (cA - m)) + m * cB := by
  rw [sumF_block]
  have e1 : sumF (fun I => sumF (fun i => prodF m n a b (p (I * n + i)) (q (I * n + i))) n) m = sumF (fun I => sumF (fun i => (n : Int) * n * (sqAt m a (P I i) (Q I i) - 1) + sqAt n b (p' i) (q' i)) n) m :=
    sumF_congr fun I hI => sumF_congr fun i hi => by
      obtain ⟨h1, h2⟩ := hp I i hI hi
      obtain ⟨h3, h4⟩ := hq I i hI hi
      unfold prodF
      rw [h1, h3, (divmod_mk h2).1, (divmod_mk h2).2, (divmod_mk h4).1, (divmod_mk h4).2]
      grind
  rw [e1, sumF_swap]
  have e2 : sumF (fun i => sumF (fun I => (n : Int) * n * (sqAt m a (P I i) (Q I i) - 1) + sqAt n b (p' i) (q' i)) m) n = sumF (fun i => (n : Int) * n * (cA - m) + m * sqAt n b (p' i) (q' i)) n :=
    sumF_congr fun i hi => by
      rw [sumF_add, sumF_mul, sumF_sub, sumF_const, sumF_const, hA i hi]
      simp
  rw [e2, sumF_add, sumF_const, sumF_mul, hB]
  grind
theorem GoodK.upm {n : Nat} {f : Nat → Nat → Int} {c : Int} (h : GoodK n 3 f c) (hn : 1 ≤ n) (k : Nat) : sumF (fun i => f i ((i + k) % n)) n = c := by
  have := h.up (by omega) (k % n) (Nat.mod_lt _ (by omega))
  rw [← this]
  exact sumF_congr fun i hi => by rw [Nat.add_mod_mod]
theorem GoodK.dnm {n : Nat} {f : Nat → Nat → Int} {c : Int} (h : GoodK n 3 f c) (hn : 1 ≤ n) (k : Nat) : sumF (fun i => f i ((k + n - i) % n)) n = c := by
  have := h.dn (by omega) (k % n) (Nat.mod_lt _ (by omega))
  rw [← this]
  refine sumF_congr fun i hi => ?_
  congr 1
  rw [show k + n - i = k + (n - i) by omega, show k % n + n - i = k % n + (n - i) by omega, Nat.mod_add_mod]
theorem prod_good {m n : Nat} (hm : 1 ≤ m) (hn : 1 ≤ n) {a b : List Int} {g : Int} (hg : g ≤ 3) (ha : GoodK m g (sqAt m a) (constOf m)) (hb : GoodK n g (sqAt n b) (constOf n)) : GoodK (m * n) g (prodF m n a b) (constOf ((m * n : Nat) : Int)) := by
  rw [const_prod]
  have dm : ∀ x, x = x / n * n + x % n := fun x => by have := Nat.div_add_mod x n; rw [Nat.mul_comm]; omega
  have ml : ∀ x, x % n < n := fun x => Nat.mod_lt _ (by omega)
  have dl : ∀ {x}, x < m * n → x / n < m := fun {x} h => Nat.div_lt_of_lt_mul (by rw [Nat.mul_comm]; exact h)
  refine ⟨fun h1 r hr => ?_, fun h1 r hr => ?_, fun h2 => ?_, fun h2 => ?_, fun h3 k hk => ?_, fun h3 k hk => ?_⟩
  · exact prod_sum hn a b (fun _ => r) (fun t => t) (fun _ _ => r / n) (fun I _ => I) (fun _ => r % n) (fun i => i) (fun I i _ _ => ⟨dm r, ml r⟩) (fun I i _ hi => ⟨rfl, hi⟩) _ _ (fun i _ => ha.row h1 _ (dl hr)) (hb.row h1 _ (ml r))
  · exact prod_sum hn a b (fun t => t) (fun _ => r) (fun I _ => I) (fun _ _ => r / n) (fun i => i) (fun _ => r % n) (fun I i _ hi => ⟨rfl, hi⟩) (fun I i _ _ => ⟨dm r, ml r⟩) _ _ (fun i _ => ha.col h1 _ (dl hr)) (hb.col h1 _ (ml r))
  · exact prod_sum hn a b (fun t => t) (fun t => t) (fun I _ => I) (fun I _ => I) (fun i => i) (fun i => i) (fun I i _ hi => ⟨rfl, hi⟩) (fun I i _ hi => ⟨rfl, hi⟩) _ _ (fun i _ => ha.d1 h2) (hb.d1 h2)
  · refine prod_sum hn a b (fun t => t) (fun t => m * n - 1 - t) (fun I _ => I) (fun I _ => m - 1 - I) (fun i => i) (fun i => n - 1 - i) (fun I i _ hi => ⟨rfl, hi⟩) (fun I i hI hi => ⟨?_, by omega⟩) _ _ (fun i _ => ha.d2 h2) (hb.d2 h2)
    obtain ⟨q, rfl⟩ : ∃ q, m = I + 1 + q := ⟨m - (I + 1), by omega⟩
    rw [show I + 1 + q - 1 - I = q by omega, Nat.add_mul, Nat.add_mul]
    omega
  · have hg3 : g = 3 := by omega
    subst hg3
    refine prod_sum hn a b (fun t => t) (fun t => (t + k) % (m * n)) (fun I _ => I) (fun I i => (I + (k / n + (i + k % n) / n)) % m) (fun i => i) (fun i => (i + k % n) % n) (fun I i _ hi => ⟨rfl, hi⟩) (fun I i hI hi => ⟨?_, ml _⟩) _ _ (fun i _ => ha.upm hm _) (hb.upm hn _)
    have e1 : I * n + i + k = (I + (k / n + (i + k % n) / n)) * n + (i + k % n) % n := by
      have a1 := dm k
      have a2 := dm (i + k % n)
      rw [Nat.add_mul, Nat.add_mul]; omega
    rw [e1, Nat.mul_comm m n, Nat.mod_mul]
    rw [(divmod_mk (ml _)).1, (divmod_mk (ml _)).2, Nat.mul_comm n]; omega
  · have hg3 : g = 3 := by omega
    subst hg3
    refine prod_sum hn a b (fun t => t) (fun t => (k + m * n - t) % (m * n)) (fun I _ => I) (fun I i => ((k / n + m - 1 + (k % n + n - i) / n) + m - I) % m) (fun i => i) (fun i => (k % n + n - i) % n) (fun I i _ hi => ⟨rfl, hi⟩) (fun I i hI hi => ⟨?_, ml _⟩) _ _ (fun i _ => ha.dnm hm _) (hb.dnm hn _)
    have e1 : (k + m * n - (I * n + i)) + m * n = ((k / n + m - 1 + (k % n + n - i) / n) + m - I) * n + (k % n + n - i) % n := by
      have a1 := dm k
      have a2 := dm (k % n + n - i)
      obtain ⟨q, rfl⟩ : ∃ q, m = I + 1 + q := ⟨m - (I + 1), by omega⟩
      have a3 : ∀ X Y : Nat, X + (I + 1 + q) - 1 + Y + (I + 1 + q) - I = X + (Y + (I + q + 1 + q)) := fun X Y => by omega
      rw [a3]
      simp only [Nat.add_mul, Nat.one_mul]
      omega
    rw [← Nat.add_mod_right, e1, Nat.mul_comm m n, Nat.mod_mul, (divmod_mk (ml _)).1, (divmod_mk (ml _)).2, Nat.mul_comm n]; omega
theorem prod_norm {m n : Nat} (hm : 1 ≤ m) (hn : 1 ≤ n) {a b : List Int} (la : a.length = m * m) (lb : b.length = n * n) (ha : isNorm a = true) (hb : isNorm b = true) : isNorm (prodL m n a b) = true := by
  have hA := (isNorm_iff a).1 ha
  have hB := (isNorm_iff b).1 hb
  rw [la] at hA
  rw [lb] at hB
  have len : (prodL m n a b).length = m * n * (m * n) := by unfold prodL; simp [madeL]
  have dl : ∀ {x}, x < m * n → x / n < m := fun {x} h => Nat.div_lt_of_lt_mul (by rw [Nat.mul_comm]; exact h)
  have hat : ∀ k, k < m * n * (m * n) → (prodL m n a b).getD k 0 = prodF m n a b (k / (m * n)) (k % (m * n)) ∧ k / (m * n) < m * n ∧ k % (m * n) < m * n := fun k hk => by
    have h0 : 0 < m * n := Nat.mul_pos hm hn
    refine ⟨?_, Nat.div_lt_of_lt_mul hk, Nat.mod_lt _ h0⟩
    unfold prodL madeL
    rw [List.getD_eq_getElem?_getD, List.getElem?_map, List.getElem?_range hk]; rfl
  have ib : ∀ i j, i < m * n → j < m * n → (m * (i / n) + j / n < m * m) ∧ n * (i % n) + j % n < n * n := fun i j hi hj => ⟨flat_idx (dl hi) (dl hj), flat_idx (Nat.mod_lt _ (by omega)) (Nat.mod_lt _ (by omega))⟩
  have hnn : ((n * n : Nat) : Int) = (n : Int) * n := by push_cast; rfl
  have hmm : ((m * m : Nat) : Int) = (m : Int) * m := by push_cast; rfl
  have hnp : 1 ≤ (n : Int) * n := by rw [← hnn]; have := Nat.mul_pos hn hn; omega
  have val : ∀ i j, i < m * n → j < m * n → ∃ x y : Int, (0 ≤ x ∧ x < (m : Int) * m) ∧ (0 ≤ y ∧ y < (n : Int) * n) ∧ prodF m n a b i j = x * (n * n) + y + 1 ∧ x = a.getD (m * (i / n) + j / n) 0 - 1 ∧ y = b.getD (n * (i % n) + j % n) 0 - 1 := fun i j hi hj => by
    obtain ⟨i1, i2⟩ := ib i j hi hj
    have h1 := hA.1 _ i1
    have h2 := hB.1 _ i2
    refine ⟨_, _, by omega, by omega, ?_, rfl, rfl⟩
    unfold prodF sqAt
    rw [Int.mul_assoc]; omega
  rw [isNorm_iff, len]
  refine ⟨fun k hk => ?_, fun k' k hkk hk => ?_⟩
  · obtain ⟨e, h1, h2⟩ := hat k hk
    obtain ⟨x, y, hx, hy, hv, _⟩ := val _ _ h1 h2
    rw [e, hv]
    have b1 := Int.mul_nonneg hx.1 (show 0 ≤ (n : Int) * n by omega)
    have b2 := Int.mul_le_mul_of_nonneg_right (show x ≤ (m : Int) * m - 1 by omega) (show 0 ≤ (n : Int) * n by omega)
    have b3 : ((m * n * (m * n) : Nat) : Int) = (m : Int) * m * (n * n) := by push_cast; grind
    rw [Int.sub_mul] at b2
    omega
  · obtain ⟨e, h1, h2⟩ := hat k hk
    obtain ⟨e', h1', h2'⟩ := hat k' (by omega)
    obtain ⟨x, y, hx, hy, hv, ex, ey⟩ := val _ _ h1 h2
    obtain ⟨x', y', hx', hy', hv', ex', ey'⟩ := val _ _ h1' h2'
    rw [e, e', hv, hv']
    intro he
    have d0 := small_dvd (n := (n : Int) * n) (a := y - y') (by omega) ⟨x' - x, by rw [Int.mul_sub, Int.mul_comm _ x', Int.mul_comm _ x]; omega⟩ (by omega) (by omega)
    have d1 : (x - x') * ((n : Int) * n) = 0 := by rw [Int.sub_mul]; omega
    have d2 : x = x' := by rcases Int.mul_eq_zero.1 d1 with h | h <;> omega
    have f1 : m * (k / (m * n) / n) + k % (m * n) / n = m * (k' / (m * n) / n) + k' % (m * n) / n := Classical.byContradiction fun h =>
      norm_ne ha (by rw [la]; exact (ib _ _ h1 h2).1) (by rw [la]; exact (ib _ _ h1' h2').1) h (by omega)
    have f2 : n * (k / (m * n) % n) + k % (m * n) % n = n * (k' / (m * n) % n) + k' % (m * n) % n := Classical.byContradiction fun h =>
      norm_ne hb (by rw [lb]; exact (ib _ _ h1 h2).2) (by rw [lb]; exact (ib _ _ h1' h2').2) h (by omega)
    have uq : ∀ {s p q p' q' : Nat}, q < s → q' < s → s * p + q = s * p' + q' → p = p' ∧ q = q' := fun {s p q p' q'} hq hq' h => by
      have a1 := congrArg (· / s) h
      simp only [Nat.mul_add_div (show 0 < s by omega), Nat.div_eq_of_lt hq, Nat.div_eq_of_lt hq'] at a1
      have : p = p' := by omega
      subst this
      exact ⟨rfl, by omega⟩
    obtain ⟨g1, g2⟩ := uq (dl h2) (dl h2') f1
    obtain ⟨g3, g4⟩ := uq (Nat.mod_lt _ (by omega)) (Nat.mod_lt _ (by omega)) f2
    have z1 := Nat.div_add_mod (k / (m * n)) n
    have z2 := Nat.div_add_mod (k' / (m * n)) n
    have z3 := Nat.div_add_mod (k % (m * n)) n
    have z4 := Nat.div_add_mod (k' % (m * n)) n
    rw [g1, g3, z2] at z1
    rw [g2, g4, z4] at z3
    have z5 := Nat.div_add_mod k (m * n)
    have z6 := Nat.div_add_mod k' (m * n)
    rw [← z1, ← z3, z6] at z5
    omega
end Go.Eng.YtobnbkoeocdhbaaGreatDoor
namespace Go.Eng.YtobnbkoeocdhbaaGreatDoor
open Go.Proofs
set_option maxRecDepth 100000
set_option maxHeartbeats 0
set_option linter.unusedVariables false
set_option linter.unusedSimpArgs false
def bcs (n : Nat) : List Int := castL (borderC n)
def onB (n k : Nat) : Bool := Nat.beq (k / n) 0 || Nat.beq (k / n) (n - 1) || Nat.beq (k % n) 0 || Nat.beq (k % n) (n - 1)
def bVal (n k : Nat) : Int := sqF n [] (bcs n) (k / n) (k % n)
/-- the border alone -/
def bordOK (n : Nat) : Bool :=
  decide (sumF (fun j => sqF n [] (bcs n) 0 j) n = constOf n) && decide (sumF (fun j => sqF n [] (bcs n) (n - 1) j) n = constOf n) &&
  decide (sumF (fun i => sqF n [] (bcs n) i 0) n = constOf n) && decide (sumF (fun i => sqF n [] (bcs n) i (n - 1)) n = constOf n) &&
  ((List.range (n * n)).all fun k => !onB n k || (decide (1 ≤ bVal n k ∧ bVal n k ≤ n * n ∧ (bVal n k ≤ 2 * n - 2 ∨ n * n - 2 * n + 3 ≤ bVal n k)) && (List.range k).all fun k' => !onB n k' || !decide (bVal n k' = bVal n k)))
theorem bordOK_all {n : Nat} (h : 3 ≤ n ∧ n ≤ 6) : bordOK n = true := by
  have : n = 3 ∨ n = 4 ∨ n = 5 ∨ n = 6 := by omega
  rcases this with rfl | rfl | rfl | rfl <;> decide +kernel
theorem sq2 (m : Nat) : (((m + 2 : Nat) : Int) * ((m + 2 : Nat) : Int)) = ((m : Int) + 2) * (m + 2) := by push_cast; rfl
theorem sqF_bord {n : Nat} (l l' cs : List Int) {i j : Nat} (h : i = 0 ∨ i = n - 1 ∨ j = 0 ∨ j = n - 1) : sqF n l cs i j = sqF n l' cs i j := by
  unfold sqF
  by_cases h1 : i = 0
  · rw [if_pos h1, if_pos h1]
  rw [if_neg h1, if_neg h1]
  by_cases h2 : i = n - 1
  · rw [if_pos h2, if_pos h2]
  rw [if_neg h2, if_neg h2]
  by_cases h3 : j = 0
  · rw [if_pos h3, if_pos h3]
  rw [if_neg h3, if_neg h3]
  by_cases h4 : j = n - 1
  · rw [if_pos h4, if_pos h4]
  · omega
theorem sqF_mid {m : Nat} (l cs : List Int) {i j : Nat} (hi : i < m) (hj : j < m) : sqF (m + 2) l cs (i + 1) (j + 1) = sqAt m l i j + (2 * m + 2) := by
  unfold sqF sqAt
  rw [if_neg (by omega), if_neg (by omega), if_neg (by omega), if_neg (by omega), show i + 1 - 1 = i by omega, show m + 2 - 2 = m by omega, show i * m + (j + 1) - 1 = m * i + j by rw [Nat.mul_comm]; omega]
  push_cast; omega
theorem sqF_left {m : Nat} (l cs : List Int) {i : Nat} (hi : i < m) : sqF (m + 2) l cs (i + 1) 0 + sqF (m + 2) l cs (i + 1) (m + 1) = ((m : Int) + 2) * (m + 2) + 1 := by
  unfold sqF
  rw [if_neg (by omega), if_neg (by omega), if_pos rfl, if_neg (by omega), if_neg (by omega), if_neg (by omega), if_pos (by omega), sq2, show m + 2 + (i + 1) - 1 = m + 2 + (i + 1) - 1 from rfl]
  omega
theorem sqF_top {m : Nat} (l cs : List Int) {j : Nat} (hj : j < m) : sqF (m + 2) l cs 0 (j + 1) + sqF (m + 2) l cs (m + 1) (j + 1) = ((m : Int) + 2) * (m + 2) + 1 := by
  unfold sqF
  rw [if_pos rfl, if_neg (by omega), if_pos (by omega), if_neg (by omega), sq2]
  omega
theorem sqF_c1 {m : Nat} (l cs : List Int) : sqF (m + 2) l cs 0 0 + sqF (m + 2) l cs (m + 1) (m + 1) = ((m : Int) + 2) * (m + 2) + 1 := by
  unfold sqF
  rw [if_pos rfl, if_neg (by omega), if_pos (by omega), if_pos (by omega), show m + 2 - 1 - (m + 1) = 0 by omega, sq2]
  omega
theorem sqF_c2 {m : Nat} (l cs : List Int) : sqF (m + 2) l cs 0 (m + 1) + sqF (m + 2) l cs (m + 1) 0 = ((m : Int) + 2) * (m + 2) + 1 := by
  unfold sqF
  rw [if_pos rfl, if_neg (by omega), if_pos (by omega), if_pos (by omega), show m + 2 - 1 - 0 = m + 1 by omega, sq2]
  omega
theorem sumF_ends (f : Nat → Int) (m : Nat) : sumF f (m + 2) = f 0 + sumF (fun i => f (i + 1)) m + f (m + 1) := by
  rw [sumF, sumF_shift]
theorem const_bord {m : Nat} (h : 1 ≤ m ∧ m ≤ 4) : constOf ((m + 2 : Nat) : Int) = constOf m + m * (2 * m + 2) + (((m : Int) + 2) * (m + 2) + 1) := by
  have : m = 1 ∨ m = 2 ∨ m = 3 ∨ m = 4 := by omega
  rcases this with rfl | rfl | rfl | rfl <;> decide
theorem bord_good {m : Nat} {l : List Int} (h : 1 ≤ m ∧ m ≤ 4) (hg : GoodK m 2 (sqAt m l) (constOf m)) : GoodK (m + 2) 2 (sqF (m + 2) l (bcs (m + 2))) (constOf ((m + 2 : Nat) : Int)) := by
  have hb := bordOK_all (n := m + 2) (by omega)
  unfold bordOK at hb
  simp only [Bool.and_eq_true, decide_eq_true_eq] at hb
  obtain ⟨⟨⟨⟨b1, b2⟩, b3⟩, b4⟩, _⟩ := hb
  have hc := const_bord h
  have mid : ∀ (p q : Nat → Nat), (∀ i, i < m → p i < m ∧ q i < m) → sumF (fun i => sqAt m l (p i) (q i)) m = constOf m → sumF (fun i => sqF (m + 2) l (bcs (m + 2)) (p i + 1) (q i + 1)) m = constOf m + m * (2 * m + 2) := fun p q hpq hs => by
    rw [← hs, ← sumF_const (2 * (m : Int) + 2) m, ← sumF_add]
    exact sumF_congr fun i hi => sqF_mid l _ (hpq i hi).1 (hpq i hi).2
  refine ⟨fun _ i hi => ?_, fun _ j hj => ?_, fun _ => ?_, fun _ => ?_, fun hg3 => by omega, fun hg3 => by omega⟩
  · by_cases h0 : i = 0
    · subst h0; rw [← b1]; exact sumF_congr fun j hj => sqF_bord _ _ _ (.inl rfl)
    by_cases h1 : i = m + 1
    · subst h1; rw [← b2]; exact sumF_congr fun j hj => sqF_bord _ _ _ (.inr (.inl (by omega)))
    obtain ⟨q, rfl⟩ : ∃ q, i = q + 1 := ⟨i - 1, by omega⟩
    rw [sumF_ends, mid (fun _ => q) (fun j => j) (fun j hj => ⟨by omega, hj⟩) (hg.row (by omega) q (by omega))]
    have := sqF_left l (bcs (m + 2)) (show q < m by omega)
    omega
  · by_cases h0 : j = 0
    · subst h0; rw [← b3]; exact sumF_congr fun j hj => sqF_bord _ _ _ (.inr (.inr (.inl rfl)))
    by_cases h1 : j = m + 1
    · subst h1; rw [← b4]; exact sumF_congr fun j hj => sqF_bord _ _ _ (.inr (.inr (.inr (by omega))))
    obtain ⟨q, rfl⟩ : ∃ q, j = q + 1 := ⟨j - 1, by omega⟩
    rw [sumF_ends, mid (fun i => i) (fun _ => q) (fun j hj => ⟨hj, by omega⟩) (hg.col (by omega) q (by omega))]
    have := sqF_top l (bcs (m + 2)) (show q < m by omega)
    omega
  · rw [sumF_ends, mid (fun i => i) (fun i => i) (fun j hj => ⟨hj, hj⟩) (hg.d1 (by omega))]
    have := sqF_c1 (m := m) l (bcs (m + 2))
    omega
  · have e := mid (fun i => i) (fun i => m - 1 - i) (fun j hj => ⟨hj, by omega⟩) (hg.d2 (by omega))
    rw [sumF_ends]
    have e2 : sumF (fun i => sqF (m + 2) l (bcs (m + 2)) (i + 1) (m + 2 - 1 - (i + 1))) m = sumF (fun i => sqF (m + 2) l (bcs (m + 2)) (i + 1) (m - 1 - i + 1)) m := sumF_congr fun i hi => by
      rw [show m + 2 - 1 - (i + 1) = m - 1 - i + 1 by omega]
    rw [e2, e, show m + 2 - 1 - 0 = m + 1 by omega, show m + 2 - 1 - (m + 1) = 0 by omega]
    have := sqF_c2 (m := m) l (bcs (m + 2))
    omega
theorem madeL_at {n : Nat} {h : Nat → Nat → Int} {k : Nat} (hk : k < n * n) : (madeL n h).getD k 0 = h (k / n) (k % n) := by
  unfold madeL
  rw [List.getD_eq_getElem?_getD, List.getElem?_map, List.getElem?_range hk]; rfl
theorem madeL_length (n : Nat) (h : Nat → Nat → Int) : (madeL n h).length = n * n := by simp [madeL]
theorem bord_norm {m : Nat} {l : List Int} (h : 1 ≤ m ∧ m ≤ 4) (hl : l.length = m * m) (hn : isNorm l = true) : isNorm (madeL (m + 2) (sqF (m + 2) l (bcs (m + 2)))) = true := by
  have hb := bordOK_all (n := m + 2) (by omega)
  unfold bordOK at hb
  simp only [Bool.and_eq_true] at hb
  have hb := hb.2
  rw [List.all_eq_true] at hb
  have hb1 : ∀ k, k < (m + 2) * (m + 2) → onB (m + 2) k = true → (1 ≤ bVal (m + 2) k ∧ bVal (m + 2) k ≤ ((m + 2 : Nat) : Int) * ((m + 2 : Nat) : Int) ∧ (bVal (m + 2) k ≤ 2 * ((m + 2 : Nat) : Int) - 2 ∨ ((m + 2 : Nat) : Int) * ((m + 2 : Nat) : Int) - 2 * ((m + 2 : Nat) : Int) + 3 ≤ bVal (m + 2) k)) ∧
      ∀ k', k' < k → onB (m + 2) k' = true → bVal (m + 2) k' ≠ bVal (m + 2) k := fun k hk ho => by
    have := hb k (List.mem_range.2 hk)
    rw [ho] at this
    simp only [Bool.not_true, Bool.false_or, Bool.and_eq_true, decide_eq_true_eq, List.all_eq_true, List.mem_range] at this
    refine ⟨this.1, fun k' hk' ho' => ?_⟩
    have := this.2 k' hk'
    rw [ho'] at this
    simpa using this
  have hI := (isNorm_iff l).1 hn
  rw [hl] at hI
  have hmm : ((m + 2 : Nat) : Int) * ((m + 2 : Nat) : Int) = (m : Int) * m + 4 * m + 4 := by push_cast; grind
  have hmm2 : (((m + 2) * (m + 2) : Nat) : Int) = (m : Int) * m + 4 * m + 4 := by push_cast; grind
  have hm2 : ((m * m : Nat) : Int) = (m : Int) * m := by push_cast; rfl
  -- a place on the border or within
  have val : ∀ k, k < (m + 2) * (m + 2) → (onB (m + 2) k = true ∧ (madeL (m + 2) (sqF (m + 2) l (bcs (m + 2)))).getD k 0 = bVal (m + 2) k) ∨
      (∃ i j, i < m ∧ j < m ∧ k = (m + 2) * (i + 1) + (j + 1) ∧ (madeL (m + 2) (sqF (m + 2) l (bcs (m + 2)))).getD k 0 = l.getD (m * i + j) 0 + (2 * m + 2)) := fun k hk => by
    rw [madeL_at hk]
    have q1 : k / (m + 2) < m + 2 := Nat.div_lt_of_lt_mul hk
    have q2 : k % (m + 2) < m + 2 := Nat.mod_lt _ (by omega)
    have q3 := Nat.div_add_mod k (m + 2)
    have q4 : onB (m + 2) k = true ↔ (k / (m + 2) = 0 ∨ k / (m + 2) = m + 2 - 1 ∨ k % (m + 2) = 0 ∨ k % (m + 2) = m + 2 - 1) := by
      unfold onB; simp only [Bool.or_eq_true, Nat.beq_eq, or_assoc]
    have q5 : bVal (m + 2) k = sqF (m + 2) [] (bcs (m + 2)) (k / (m + 2)) (k % (m + 2)) := rfl
    rw [q4, q5]
    clear q4 q5
    generalize k / (m + 2) = K at *
    generalize k % (m + 2) = R at *
    by_cases ho : K = 0 ∨ K = m + 2 - 1 ∨ R = 0 ∨ R = m + 2 - 1
    · exact .inl ⟨ho, sqF_bord _ _ _ ho⟩
    · right
      refine ⟨K - 1, R - 1, by omega, by omega, ?_, ?_⟩
      · rw [show K - 1 + 1 = K by omega, show R - 1 + 1 = R by omega]; exact q3.symm
      · have := sqF_mid l (bcs (m + 2)) (show K - 1 < m by omega) (show R - 1 < m by omega)
        rw [show K - 1 + 1 = K by omega, show R - 1 + 1 = R by omega] at this
        rw [this]; rfl
  have idx : ∀ i j, i < m → j < m → m * i + j < m * m := fun i j hi hj => by
    have := Nat.mul_le_mul_left m (show i + 1 ≤ m by omega)
    rw [Nat.mul_add] at this; omega
  rw [isNorm_iff, madeL_length]
  refine ⟨fun k hk => ?_, fun k' k hkk hk => ?_⟩
  · rcases val k hk with ⟨h1, h2⟩ | ⟨i, j, h1, h2, _, h3⟩
    · have := (hb1 k hk h1).1
      rw [h2]; omega
    · have := hI.1 (m * i + j) (idx i j h1 h2)
      rw [h3]; omega
  · rcases val k hk with ⟨h1, h2⟩ | ⟨i, j, h1, h2, h4, h3⟩
    · rcases val k' (by omega) with ⟨g1, g2⟩ | ⟨i', j', g1, g2, g4, g3⟩
      · rw [h2, g2]; exact (hb1 k hk h1).2 k' hkk g1
      · have a := (hb1 k hk h1).1
        have b := hI.1 (m * i' + j') (idx i' j' g1 g2)
        rw [h2, g3]; omega
    · rcases val k' (by omega) with ⟨g1, g2⟩ | ⟨i', j', g1, g2, g4, g3⟩
      · have a := (hb1 k' (by omega) g1).1
        have b := hI.1 (m * i + j) (idx i j h1 h2)
        rw [h3, g2]; omega
      · rw [h3, g3]
        have := norm_ne hn (i := m * i' + j') (j := m * i + j) (by rw [hl]; exact idx _ _ g1 g2) (by rw [hl]; exact idx _ _ h1 h2) (fun e => by
          have e1 : i' = i := by
            have a := congrArg (· / m) e
            simp only [Nat.mul_add_div (show 0 < m by omega), Nat.div_eq_of_lt g2, Nat.div_eq_of_lt h2] at a
            omega
          subst e1
          have : j' = j := by omega
          subst this
          omega)
        omega
/-- a bordered square is a normal magic one -/
theorem bord_sq {m : Nat} {l : List Int} (h : 1 ≤ m ∧ m ≤ 4) (hl : l.length = m * m) (hn : isNorm l = true) (hb : badLine m 2 l = none) : GoodSq (m + 2) 2 (bordL (m + 2) l) := by
  refine ⟨by unfold bordL; rw [madeL_length], bord_norm h hl hn, ?_⟩
  rw [good_iff (.inl (by omega))]
  refine (bord_good h ((good_iff (by omega) 2 l).1 hb)).congr fun i j hi hj => ?_
  unfold sqAt bordL
  rw [madeL_get hi hj]; rfl
end Go.Eng.YtobnbkoeocdhbaaGreatDoor
namespace Go.Eng.YtobnbkoeocdhbaaGreatDoor
open Go.Proofs
set_option maxRecDepth 100000
set_option maxHeartbeats 0
set_option linter.unusedVariables false
set_option linter.unusedSimpArgs false
def cellsP : PSp := fun xs K => match xs with
  | [.int .i64 n, .fn (.func f) fs cs] => VC (0 ≤ n ∧ n ≤ 1000) ∧ ∃ h : Nat → Int, (∀ i : Nat, (i : Int) < n → PSpec Tryz.prog f (fs ++ [.int .i64 i] ++ cs) (.int .i64 (h i))) ∧ K (.isl (.ints .i64 ((List.range n.toNat).map h)) .none)
  | _ => False
theorem cells_spec (n : Nat) (hn : n ≤ 1000) (f : Nat) (fs cs : List PV) (h : Nat → Int) (hh : ∀ i : Nat, i < n → PSpec Tryz.prog f (fs ++ [.int .i64 i] ++ cs) (.int .i64 (h i))) :
    PSpec Tryz.prog 129 [.int .i64 (n : Int), .fn (.func f) fs cs] (.isl (.ints .i64 ((List.range n).map h)) .none) := by
  refine pspec_open 1 (enters' Tryz.func129 (by rfl) (by rfl)) rfl (by simp) fun S0 w0 us vs hu hv => ?_
  have hY : ∀ r, YPOK Tryz.prog r (fromB S0 w0) (fnY f us vs fun xs K => match xs with
      | [.int .i64 i] => VC (0 ≤ i ∧ i < n) ∧ K (.int .i64 (h i.toNat))
      | _ => False) := fun r => fnY_ok (fs := fs) (cs := cs) (fun S w hb => ⟨hu.mono hb.1 (.refl _), hv.mono hb.1 (.refl _)⟩) fun xs K hk => by
    split at hk
    · rename_i i
      obtain ⟨⟨h1, h2⟩, hk⟩ := hk
      have := hh i.toNat (by omega)
      rw [Int.toNat_of_nonneg h1] at this
      exact ⟨_, hk, this⟩
    · exact hk.elim
  have hC : CPOKB Tryz.prog (fromB S0 w0) noC := CPOK.up noC_ok _
  have W : Walk Tryz.prog none (fromB S0 w0) tab.get _ _ := ⟨fromB_ok, mixed, tabOK, hC, hY none⟩
  refine pspecB_of fromB_ok mixed tabOK (md := 1) (rf := []) hC (hY none) Tryz.func129 (by rfl) (by rfl) ?_
  repeat' ((conv => whnf); first | refine And.intro ?_ ?_ | with_reducible exact VC.mk rfl | exact Ok.mk | exact True.intro | refine Nx.mk ?_ | refine Fin.mk ?_ | intro _)
  all_goals ((try refine VC.mk ?_); (try simp only [CL.ncell, CL.cnt, vq] at *); (try omega))
  conv => whnf
  refine loop_of (X := Nat) (fun i => i ≤ n) (fun i => [(11, .int .i64 i)]) (fun i => [(0, .cells (.ints .i64 (fillG h n i)) false)]) (fun i => n - i) 0 W (by rfl) (by omega) ?_ ?_
  · repeat' ((conv => whnf); first | refine And.intro ?_ ?_ | with_reducible exact VC.mk rfl | exact Ok.mk | exact True.intro | refine Nx.mk ?_ | refine Fin.mk ?_ | intro _)
    all_goals ((try refine VC.mk ?_); (try simp only [CL.ncell, CL.cnt, vq] at *); (try omega))
    all_goals simp [fillG_zero]
  intro i hi
  by_cases hlt : i < n
  · have e2 := fillG_len h n i (by omega)
    repeat' ((conv => whnf); first | refine And.intro ?_ ?_ | with_reducible exact VC.mk rfl | exact Ok.mk | exact True.intro | refine Nx.mk ?_ | refine Fin.mk ?_ | intro _)
    all_goals ((try refine VC.mk ?_); (try simp only [CL.ncell, CL.cnt, vq] at *); (try omega))
    refine ⟨i + 1, [], ⟨by omega, by omega⟩, ?_⟩
    repeat' ((conv => whnf); first | refine And.intro ?_ ?_ | with_reducible exact VC.mk rfl | exact Ok.mk | exact True.intro | refine Nx.mk ?_ | refine Fin.mk ?_ | intro _)
    all_goals ((try refine VC.mk ?_); (try simp only [CL.ncell, CL.cnt, vq] at *); (try omega))
    all_goals (try exact fillG_set _ _ _ hlt)
  · have : n = i := by omega
    subst this
    repeat' ((conv => whnf); first | refine And.intro ?_ ?_ | with_reducible exact VC.mk rfl | exact Ok.mk | exact True.intro | refine Nx.mk ?_ | refine Fin.mk ?_ | intro _)
    all_goals ((try refine VC.mk ?_); (try simp only [CL.ncell, CL.cnt, vq] at *); (try omega))
    · rw [fillG_len _ _ _ (Nat.le_refl _)]; exact Nat.le_refl _
    rw [fillG_all]
    all_goals (refine Sup.via ?_; repeat' ((conv => whnf); first | refine And.intro ?_ ?_ | with_reducible exact VC.mk rfl | exact Ok.mk | exact True.intro | refine Nx.mk ?_ | refine Fin.mk ?_ | intro _); all_goals ((try refine VC.mk ?_); (try simp only [CL.ncell, CL.cnt, vq] at *); (try omega)); all_goals (try (simp [CL.sub]; done)))
    simp only [CL.sub, List.drop_zero, Nat.sub_zero]
    rw [List.take_of_length_le (by simp)]
theorem cells_ok : POK Tryz.prog 129 cellsP := by
  intro xs K hk
  unfold cellsP at hk
  split at hk
  · rename_i n f fs cs
    obtain ⟨⟨h1⟩, h, hh, hk⟩ := hk
    have := cells_spec n.toNat (by omega) f fs cs h (fun i hi => hh i (by omega))
    rw [Int.toNat_of_nonneg h1.1] at this
    exact ⟨_, hk, this⟩
  · exact hk.elim
end Go.Eng.YtobnbkoeocdhbaaGreatDoor
