/-
  Contracts of functions of the program: what each returns. Their conditions stand in them.
-/
import Derived.ProofKit
import Derived.OpenShut
import Derived.LaidMore
import Derived.Stop.Joined
import Derived.Test.YtobnbkoeocdhbaaGreatDoorCards
import Derived.Test.YtobnbkoeocdhbaaGreatDoorTie
import Derived.Test.YtobnbkoeocdhbaaGreatDoorEe
namespace Go.Eng
open Go.RowKit Go.ChangeShapes Go.WideShapes
set_option linter.unusedVariables false
set_option linter.unusedSimpArgs false
/-- what lies there when the call begins -/
def memS (W : World) : Imm := fun b j => (rd W b j).isSome
inductive Lf where
  | int (k : IntKind)
  | str
  | ints (k : IntKind)
instance : Inhabited Lf := ⟨.str⟩
def LfOK : Lf → PV → Prop
  | .int k, p => ∃ n, p = .int k n ∧ (Lit.int k n).wf = true
  | .str, p => ∃ s, p = .str s ∧ s.size ≤ maxLen
  | .ints k, p => ∃ xs, p = .isl (.ints k xs) .none ∧ (∀ n ∈ xs, (Lit.int k n).wf = true) ∧ xs.length ≤ maxLen
def SpotOK (v : Value) : Prop := ∀ a n c, v = .slice (some a) n c → a.spot = none
theorem spot_of_cell {P : Program} {w : World} {r : Reach} {base : Nat} {t : TypeId} {v : Value} (h : Cell.okWide P w r base t v) : SpotOK v := by
  rintro a n c rfl
  unfold Cell.okWide at h
  split at h <;> try (rename_i e1 e2; cases e2)
  unfold Cell.ok at h
  split at h <;> try (rename_i e1 e2; cases e2)
  · exact h.2.2.2.1
  · exact h.elim
theorem spot_of_row {P : Program} {w : World} {r : Reach} {base : Nat} {t : TypeId} {cs : Array Value} (h : Row.okWide P w r base t cs) : ∀ i, SpotOK (cs.toList.getD i undef) := by
  obtain ⟨ts, _, _, h⟩ := h
  intro i
  rw [List.getD_eq_getElem?_getD]
  cases hv : cs.toList[i]? with
  | none => rintro a n c he; cases he
  | some v =>
    obtain ⟨u, _, hu⟩ := h i v (by simpa using hv)
    simpa using spot_of_cell hu
section
variable {H : Type} (enc : TypeId × Value → H) (P : Program) (W : World)
def OpenC (t : TypeId) (ls : List Lf) : Prop := ∀ (fuel : Nat) (cs : List Value) (x : DataW H × List MemPlace), DataW.trod enc P W 0 (fun _ => true) true fuel t cs = some x → (∀ i, SpotOK (cs.getD i undef)) →
  cs.length = ls.length ∧ ∀ i, i < ls.length → ∃ p, LfOK (ls.getD i default) p ∧ Rep (memS W) W noI p (cs.getD i undef)
end
section
variable {H : Type} {enc : TypeId × Value → H} {P : Program} {W : World}
theorem openC_int {t : TypeId} {k : IntKind} (ht : P.underlying t = some (.int k)) : OpenC enc P W t [.int k] := by
  intro fuel cs x h hs
  obtain ⟨n, rfl, _, hw⟩ := DataW.trod_int ht h
  refine ⟨rfl, fun i hi => ?_⟩
  have : i = 0 := by simp at hi; omega
  subst this
  exact ⟨.int k n, ⟨n, rfl, hw⟩, .int _ _ _⟩
theorem getD_flat0 {l : List Lf} {ls : List (List Lf)} {i : Nat} (h : i < l.length) : (l ++ ls.flatten).getD i default = l.getD i default := by
  simp only [List.getD_eq_getElem?_getD, List.getElem?_append_left h]
theorem getD_part {cs : List Value} {o n j : Nat} (h : j < n) : ((cs.drop o).take n).getD j undef = cs.getD (o + j) undef := by
  simp only [List.getD_eq_getElem?_getD, List.getElem?_take_of_lt h, List.getElem?_drop]
theorem part_spot {cs : List Value} (hs : ∀ i, SpotOK (cs.getD i undef)) (o n : Nat) : ∀ i, SpotOK (((cs.drop o).take n).getD i undef) := by
  intro i
  by_cases h : i < n
  · rw [getD_part h]; exact hs _
  · have : ((cs.drop o).take n).getD i undef = undef := by
      rw [List.getD_eq_getElem?_getD, List.getElem?_eq_none (by simp; omega)]; rfl
    rw [this]; rintro a n c he; cases he
theorem flat_rep : ∀ (n : Nat) (l : List Lf) (i : Nat), i < n * l.length → ((List.replicate n l).flatten).getD i default = l.getD (i % l.length) default := by
  intro n
  induction n with
  | zero => intro l i h; simp at h
  | succ n ih =>
    intro l i h
    rw [List.replicate_succ, List.flatten_cons]
    by_cases hi : i < l.length
    · rw [getD_flat0 hi, Nat.mod_eq_of_lt hi]
    · have e1 : i - l.length < n * l.length := by rw [Nat.succ_mul] at h; omega
      rw [List.getD_eq_getElem?_getD, List.getElem?_append_right (by omega), ← List.getD_eq_getElem?_getD, ih l _ e1, Nat.mod_eq_sub_mod (a := i) (by omega)]
theorem openC_array {t e : TypeId} {n : Nat} {l : List Lf} (ht : P.underlying t = some (.array n e)) (hO : OpenC enc P W e l) (hce : P.cellsOf e = l.length) (hc : P.cellsOf t = n * l.length) : OpenC enc P W t (List.replicate n l).flatten := by
  intro fuel cs x h hs
  obtain ⟨xs, m, _, _, hl, hlen, hf⟩ := DataW.trod_array ht h
  have hfl : (List.replicate n l).flatten.length = n * l.length := by simp [List.length_flatten]
  refine ⟨by rw [hl, hc, hfl], fun i hi => ?_⟩
  rw [hfl] at hi
  have hpos : 0 < l.length := by rcases Nat.eq_zero_or_pos l.length with h | h; · (rw [h] at hi; omega)
                                 · exact h
  have hk : i / l.length < n := Nat.div_lt_of_lt_mul (by rw [Nat.mul_comm]; exact hi)
  have hj : i % l.length < l.length := Nat.mod_lt _ hpos
  have h1 := hf (i / l.length) hk
  rw [List.getElem?_eq_getElem (by omega)] at h1
  obtain ⟨_, h2⟩ := hO _ _ _ h1 (part_spot hs _ _)
  obtain ⟨p, hp, hr⟩ := h2 _ hj
  rw [getD_part (by omega), hce, Nat.mul_comm, Nat.div_add_mod] at hr
  exact ⟨p, by rw [flat_rep n l i hi]; exact hp, hr⟩
/-! an argument -/
theorem list_of {Q : Nat → PV → Prop} : ∀ (n : Nat) (Q : Nat → PV → Prop), (∀ i, i < n → ∃ p, Q i p) → ∃ ps : List PV, ps.length = n ∧ ∀ i, i < n → Q i (getL ps i) := by
  intro n
  induction n with
  | zero => intro Q _; exact ⟨[], rfl, fun i hi => by omega⟩
  | succ n ih =>
    intro Q h
    obtain ⟨p, hp⟩ := h 0 (by omega)
    obtain ⟨ps, h1, h2⟩ := ih (fun i => Q (i + 1)) (fun i hi => h (i + 1) (by omega))
    refine ⟨p :: ps, by simp [h1], fun i hi => ?_⟩
    cases i with
    | zero => exact hp
    | succ i => exact h2 i (by omega)
theorem open_agg {t : TypeId} {ls : List Lf} {v : Value} {d : DataW H} {qs : List MemPlace} {r : Reach} {base : Nat} (ht : (∃ fs, P.underlying t = some (.struct fs)) ∨ ∃ n e, P.underlying t = some (.array n e)) (hO : OpenC enc P W t ls) (hval : Value.okWide P W r base t v) (hd : DataW.Trod enc P W 0 (fun _ => true) true t v d qs) :
    ∃ ps : List PV, ps.length = ls.length ∧ (∀ i, i < ls.length → LfOK (ls.getD i default) (getL ps i)) ∧ Rep (memS W) W noI (.agg ps) v := by
  have hv : ∃ cs, v = .agg cs ∧ Row.okWide P W r base t cs := by
    unfold Value.okWide at hval
    rcases ht with ⟨fs, ht⟩ | ⟨n, e, ht⟩ <;> rw [ht] at hval <;> exact ⟨hval.choose, hval.choose_spec.1, hval.choose_spec.2.2⟩
  obtain ⟨cs, rfl, hrow⟩ := hv
  obtain ⟨fuel, hf⟩ := hd
  have hcells : (Value.agg cs).cells.toList = cs.toList := rfl
  rw [hcells] at hf
  obtain ⟨h1, h2⟩ := hO _ _ _ hf (spot_of_row hrow)
  obtain ⟨ps, p1, p2⟩ := list_of (Q := fun _ _ => True) ls.length _ h2
  refine ⟨ps, p1, fun i hi => (p2 i hi).1, .agg _ _ _ (by rw [p1, ← h1]; simp) fun i hi => ?_⟩
  have := (p2 i (by omega)).2
  simpa [Array.getD_eq_getD_getElem?, List.getD_eq_getElem?_getD] using this
theorem open_leaf {t : TypeId} {l : Lf} {v : Value} {d : DataW H} {qs : List MemPlace} {r : Reach} {base : Nat} (ht : (∃ k, P.underlying t = some (.int k)) ∨ P.underlying t = some .string ∨ ∃ e, P.underlying t = some (.slice e)) (hO : OpenC enc P W t [l]) (hval : Value.okWide P W r base t v) (hd : DataW.Trod enc P W 0 (fun _ => true) true t v d qs) :
    ∃ p : PV, LfOK l p ∧ Rep (memS W) W noI p v := by
  have hv : v.cells.toList = [v] ∧ SpotOK v := by
    rcases ht with ⟨k, ht⟩ | ht | ⟨e, ht⟩
    · obtain ⟨n, rfl⟩ := okWide_int ht hval; exact ⟨rfl, fun a n c h => by cases h⟩
    · obtain ⟨n, rfl⟩ := okWide_string ht hval; exact ⟨rfl, fun a n c h => by cases h⟩
    · have hc : Cell.okWide P W r base t v := by unfold Value.okWide at hval; rw [ht] at hval; exact hval
      obtain ⟨a, n, c, rfl⟩ := okWide_slice ht hval
      exact ⟨rfl, spot_of_cell hc⟩
  obtain ⟨fuel, hf⟩ := hd
  rw [hv.1] at hf
  obtain ⟨h1, h2⟩ := hO _ _ _ hf (fun i => by
    cases i with
    | zero => exact hv.2
    | succ i => rintro a n c he; simp at he; cases he)
  obtain ⟨p, hp, hr⟩ := h2 0 (by simp)
  exact ⟨p, hp, hr⟩
end
/-- a contract of a law as the rows want it -/
theorem below_of {P : Program} {g : FuncId} {args : List PV} {vs : Array Value} {W : World} (h : PSpec P g args (.bp true)) (hr : RepA (memS W) W noI args vs) :
    Calls P g vs W fun e w' => e = .returned (.bool true) ∧ Below W.heap.size W w' := by
  have := (h.2 (memS W) W vs trivial (fun _ _ h => h) hr)
  refine callsIn_wide.1 (CallsIn.mono (F := Fw none) this ?_)
  rintro e w' ⟨val, S', rfl, o⟩
  have hv := o.rep
  exact ⟨by cases hv; rfl, ⟨o.below.os, o.below.tape, o.below.output, o.below.size, o.same⟩⟩
section
variable {H : Type} {enc : TypeId × Value → H} {P : Program}
theorem trodAll_stays (hl : laidOutB P = true) {W W' : World} {sp : Nat → Bool} (hB : Below W.heap.size W W') : ∀ {ts : List TypeId} {vs : List Value} {ds : List (DataW H)} {ps : List MemPlace}, ts.all (fun t => P.readableRec t && decide (t < P.types.size)) = true →
    DataW.TrodAll enc P W 0 (fun _ => true) true ts vs ds ps → (∀ x ∈ ps, x.block < W.heap.size) → (∀ x ∈ ps, sp x.block = true) → DataW.TrodAll enc P W' 0 sp true ts vs ds ps := by
  intro ts
  induction ts with
  | nil =>
    intro vs ds ps _ h _ _
    cases vs <;> cases ds <;> first | exact h | exact h.elim
  | cons t ts ih =>
    intro vs ds ps ha h hlt hs
    cases vs with
    | nil => exact h.elim
    | cons v vs =>
      cases ds with
      | nil => exact h.elim
      | cons d ds =>
        obtain ⟨p, q, h1, h2, rfl⟩ := h
        simp only [List.all_cons, Bool.and_eq_true, decide_eq_true_eq] at ha
        refine ⟨p, q, WideElems.Trod_stays hl ha.1.1 ha.1.2 h1 (fun x hx => hB.same (hlt x (by simp [hx]))) (fun x hx => hs x (by simp [hx])), ih ha.2 h2 (fun x hx => hlt x (by simp [hx])) (fun x hx => hs x (by simp [hx])), rfl⟩
theorem law_post {f : Func} {s : ChangeSpec} {W W' : World} {args : Array Value} {ds gs : List (DataW H)} {before : List MemPlace} {tb : TypeId} (hl : laidOutB P = true) (hres : f.resultTypes = #[tb]) (htb : P.underlying tb = some .bool)
    (hread : f.params.toList.all (fun t => P.readableRec t && decide (t < P.types.size)) = true) (hv : s.vars = []) (hfn : s.fn H ds = { results := [.lit (.bool true)], args := ds })
    (hW : DataW.Whole enc P f.params.toList s.vars false W args.toList ds gs before) (hB : Below W.heap.size W W') : s.post enc P f false true false false W args (.bool true) W' := by
  have hW' := hW
  obtain ⟨p, q, hA, hV, rfl, hfz, hnd⟩ := hW
  rw [hv] at hV
  obtain ⟨rfl, rfl⟩ := trodVars_none hV
  have hlt : ∀ x ∈ p, x.block < W.heap.size := fun x hx => by simpa using hW'.lt x (by simp [hx])
  refine ⟨ds, [], p ++ [], [], p, [], hW', ?_, ?_, ?_, hB.frame _, fun h => by cases h⟩
  · rw [List.append_nil, hfn, hres]
    exact trodAll_mk1 (shut_bool htb true)
  · rw [List.append_nil, hfn]
    exact trodAll_stays hl hB hread hA hlt (fun x hx => by simpa using hlt x hx)
  · rw [List.append_nil, hfn, hv]
    exact rfl
end
end Go.Eng
namespace Go.Eng.YtobnbkoeocdhbaaGreatDoor
open Go.Proofs Go.Proofs.YtobnbkoeocdhbaaGreatDoor Go.RowKit Go.ChangeShapes Go.WideShapes
set_option linter.unusedVariables false
theorem own : ownKnob Tryz.prog.godebug = none := by kernel_rfl
theorem laidOut : laidOutB Tryz.prog = true := by kernel_rfl
abbrev laidL : List (String × DataW Unit) := [("math/bits.deBruijn32tab", Rows.laid_math_bits_deBruijn32tab), ("math/bits.deBruijn64tab", Rows.laid_math_bits_deBruijn64tab), ("internal/strconv.uint64pow10", Rows.laid_internal_strconv_uint64pow10)]
/-- the heap that the program's own start leaves holds what is listed -/
theorem door_met (os : Os) (args : Array Value) : laidMetH Tryz.prog laidL ((World.doorLaid Tryz.prog 600 os).forCall (fun _ _ => 0) ⟨#[], args, []⟩).memory :=
  laidMetH_of_parts3 (fuel := 8) (laidMet_of_run' 8 (by kernel_rfl) (by kernel_rfl)) (by kernel_rfl) (by kernel_rfl)
section
variable {H : Type} {enc : TypeId × Value → H} {W : World}
theorem o3 : OpenC enc Tryz.prog W 3 [.int .i64] := openC_int Tryz.underlying3
theorem o5 : OpenC enc Tryz.prog W 5 [.int .u8] := openC_int Tryz.underlying5
theorem o57 : OpenC enc Tryz.prog W 57 [.int .i64, .int .i64, .int .i64, .int .i64] := openC_array (n := 4) Tryz.underlying57 o3 (by kernel_rfl) (by kernel_rfl)
theorem o58 : OpenC enc Tryz.prog W 58 [.int .i64, .int .i64, .int .i64, .int .i64, .int .i64, .int .i64, .int .i64, .int .i64, .int .i64, .int .i64, .int .i64, .int .i64, .int .i64, .int .i64, .int .i64, .int .i64] := openC_array (n := 4) Tryz.underlying58 o57 (by kernel_rfl) (by kernel_rfl)
end
end Go.Eng.YtobnbkoeocdhbaaGreatDoor
namespace Go.Eng.YtobnbkoeocdhbaaGreatDoor
open Go.Proofs
set_option linter.unusedVariables false
set_option linter.unusedSimpArgs false
theorem te3b : te3.bytes = 8 := by rfl
theorem te4b : te4.bytes = 1 := by rfl
theorem te3s : te3.size = 1 := by rfl
theorem te4s : te4.size = 1 := by rfl
theorem vp : (∀ n : Nat, ((n : Int)).toNat = n) ∧ te3.bytes = 8 ∧ te4.bytes = 1 ∧ te3.size = 1 ∧ te4.size = 1 ∧ (∀ n : Nat, n * 1 = n) ∧ (∀ n : Nat, 0 + n = n) ∧ ((false = true) = False) ∧ ((true = false) = False) :=
  ⟨Int.toNat_natCast, te3b, te4b, te3s, te4s, Nat.mul_one, Nat.zero_add, by simp, by simp⟩
theorem vq : (∀ (p : Prop) [Decidable p], (decide p = true) = p) ∧ (∀ (p : Prop) [Decidable p], (decide p = false) = ¬ p) ∧ (∀ b : Bool, (¬ b = true) = (b = false)) ∧ ((!false) = true) ∧ ((!true) = false) ∧ (∀ p : Prop, (p ∧ p) = p) ∧ (∀ p : Prop, (p ∧ True) = p) ∧ (∀ p : Prop, (True ∧ p) = p) ∧ (∀ (α : Type) (a : α) (l : List α), (a :: l).length = l.length + 1) ∧ (∀ α : Type, ([] : List α).length = 0) ∧ (∀ n : Nat, ((n : Int)).toNat = n) ∧ te3.bytes = 8 ∧ te4.bytes = 1 ∧ te3.size = 1 ∧ te4.size = 1 ∧ (∀ n : Nat, n * 1 = n) ∧ (∀ n : Nat, 0 + n = n) ∧ ((false = true) = False) ∧ ((true = false) = False) :=
  ⟨fun p _ => decide_eq_true_eq, fun p _ => propext decide_eq_false_iff_not, fun b => by simp, rfl, rfl, and_self, and_true, true_and, fun _ _ _ => rfl, fun _ => rfl, vp⟩
/-! when, checkOrder, first -/
def whenP : PSp := fun xs K => match xs with
  | [.bp h, .int .i64 e] => K (.int .i64 (if h then e else 0))
  | [.bool h, .int .i64 e] => K (.int .i64 (if h then e else 0))
  | _ => False
theorem when_spec (h : Bool) (e : Int) : PSpec Tryz.prog 32 [.bp h, .int .i64 e] (.int .i64 (if h then e else 0)) := by
  refine pspec_of (md := 1) (rf := []) mixed tabOK noC_ok Tryz.func32 (by rfl) (by rfl) (by rfl) ?_
  repeat' ((conv => whnf); first | refine And.intro ?_ ?_ | with_reducible exact VC.mk rfl | exact Ok.mk | exact True.intro | refine Nx.mk ?_ | refine Fin.mk ?_ | intro _)
  all_goals (first | (refine Sup.of ?_; first | rfl | (simp [*, resOf]; done)) | (refine Sup.via ?_; repeat' ((conv => whnf); first | refine And.intro ?_ ?_ | with_reducible exact VC.mk rfl | exact Ok.mk | exact True.intro | refine Nx.mk ?_ | refine Fin.mk ?_ | intro _); all_goals ((try refine VC.mk ?_); (try simp only [CL.ncell, CL.cnt, vq] at *); (try omega)); all_goals (try (simp [CL.sub]; done))))
theorem when_spec' (h : Bool) (e : Int) : PSpec Tryz.prog 32 [.bool h, .int .i64 e] (.int .i64 (if h then e else 0)) := by
  cases h
  all_goals
  refine pspec_of (md := 1) (rf := []) mixed tabOK noC_ok Tryz.func32 (by rfl) (by rfl) (by rfl) ?_
  repeat' ((conv => whnf); first | refine And.intro ?_ ?_ | with_reducible exact VC.mk rfl | exact Ok.mk | exact True.intro | refine Nx.mk ?_ | refine Fin.mk ?_ | intro _)
  all_goals (first | (refine Sup.of ?_; first | rfl | (simp [*, resOf]; done)) | (refine Sup.via ?_; repeat' ((conv => whnf); first | refine And.intro ?_ ?_ | with_reducible exact VC.mk rfl | exact Ok.mk | exact True.intro | refine Nx.mk ?_ | refine Fin.mk ?_ | intro _); all_goals ((try refine VC.mk ?_); (try simp only [CL.ncell, CL.cnt, vq] at *); (try omega)); all_goals (try (simp [CL.sub]; done))))
theorem when_ok : POK Tryz.prog 32 whenP := by
  intro xs K h
  unfold whenP at h
  split at h
  · exact ⟨_, h, when_spec _ _⟩
  · exact ⟨_, h, when_spec' _ _⟩
  · exact h.elim
noncomputable def cp1 : CPT := cpAdd 32 (pureCC whenP) noC
theorem cp1_ok : CPOK Tryz.prog cp1 := cpAdd_ok (pureCC_ok when_ok) noC_ok
theorem checkOrder_spec (n : Int) : PSpec Tryz.prog 82 [.int .i64 n] (.int .i64 (if n < 1 ∨ 16 < n then 3 else 0)) := by
  refine pspec_of (md := 1) (rf := []) mixed tabOK cp1_ok Tryz.func82 (by rfl) (by rfl) (by rfl) ?_
  repeat' ((conv => whnf); first | refine And.intro ?_ ?_ | with_reducible exact VC.mk rfl | exact Ok.mk | exact True.intro | refine Nx.mk ?_ | refine Fin.mk ?_ | intro _)
  all_goals refine Sup.of ?_
  all_goals simp_all [resOf]
  all_goals (split <;> split <;> omega)
def checkOrderP : PSp := fun xs K => match xs with
  | [.int .i64 n] => K (.int .i64 (if n < 1 ∨ 16 < n then 3 else 0))
  | _ => False
theorem checkOrder_ok : POK Tryz.prog 82 checkOrderP := by
  intro xs K h
  unfold checkOrderP at h
  split at h
  · exact ⟨_, h, checkOrder_spec _⟩
  · exact h.elim
/-- the first number that is not 0 -/
def firstOf : List Int → Int
  | [] => 0
  | x :: r => if x = 0 then firstOf r else x
theorem firstOf_zero : ∀ (l : List Int), (∀ i, i < l.length → l.getD i 0 = 0) → firstOf l = 0 := by
  intro l
  induction l with
  | nil => intro _; rfl
  | cons x r ih =>
    intro h
    have h0 := h 0 (by simp)
    simp at h0
    subst h0
    exact ih fun i hi => by simpa using h (i + 1) (by simpa using hi)
theorem firstOf_at : ∀ (l : List Int) (k : Nat), k < l.length → (∀ i, i < k → l.getD i 0 = 0) → l.getD k 0 ≠ 0 → firstOf l = l.getD k 0 := by
  intro l
  induction l with
  | nil => intro k hk; simp at hk
  | cons x r ih =>
    intro k hk h hne
    cases k with
    | zero => simp at hne; simp [firstOf, hne]
    | succ k =>
      have h0 := h 0 (by omega)
      simp at h0
      subst h0
      have := ih k (by simpa using hk) (fun i hi => by simpa using h (i + 1) (by omega)) (by simpa using hne)
      simp [firstOf, this]
theorem first_spec (l : List Int) (hl : l.length < 1000000) : PSpec Tryz.prog 30 [.isl (.ints .i64 l) .none] (.int .i64 (firstOf l)) := by
  refine pspec_of (md := 1) (rf := []) mixed tabOK noC_ok Tryz.func30 (by rfl) (by rfl) (by rfl) ?_
  repeat' ((conv => whnf); first | refine And.intro ?_ ?_ | with_reducible exact VC.mk rfl | exact Ok.mk | exact True.intro | refine Nx.mk ?_ | refine Fin.mk ?_ | intro _)
  conv => whnf
  refine loop_of (X := Nat) (fun i => i ≤ l.length ∧ ∀ j, j < i → l.getD j 0 = 0) (fun i => [(7, .int .i64 i)]) (fun _ => []) (fun i => l.length - i) 0 ⟨anyB_ok, mixed, tabOK, noC_ok, noY_ok⟩ (by rfl) ⟨by omega, fun j hj => by omega⟩ ?_ ?_
  · repeat' ((conv => whnf); first | refine And.intro ?_ ?_ | with_reducible exact VC.mk rfl | exact Ok.mk | exact True.intro | refine Nx.mk ?_ | refine Fin.mk ?_ | intro _)
    all_goals ((try refine VC.mk ?_); (try simp only [CL.ncell, CL.cnt, vq] at *); (try omega))
  · intro i hi
    obtain ⟨hi, hz⟩ := hi
    repeat' ((conv => whnf); first | refine And.intro ?_ ?_ | with_reducible exact VC.mk rfl | exact Ok.mk | exact True.intro | refine Nx.mk ?_ | refine Fin.mk ?_ | intro _)
    all_goals ((try refine VC.mk ?_); (try simp only [CL.ncell, CL.cnt, vq] at *); (try omega))
    · rename_i hne
      have := firstOf_at l i (by omega) hz (by simpa using hne)
      rw [this]; exact Sup.of rfl
    · rename_i hne
      have hne : l.getD i 0 = 0 := by simpa using hne
      refine ⟨i + 1, [], ⟨⟨by omega, fun j hj => ?_⟩, by omega⟩, ?_⟩
      · by_cases e : j = i
        · subst e; exact hne
        · exact hz j (by omega)
      · repeat' ((conv => whnf); first | refine And.intro ?_ ?_ | with_reducible exact VC.mk rfl | exact Ok.mk | exact True.intro | refine Nx.mk ?_ | refine Fin.mk ?_ | intro _)
        all_goals ((try refine VC.mk ?_); (try simp only [CL.ncell, CL.cnt, vq] at *); (try omega))
    · have : i = l.length := by omega
      subst this
      rw [firstOf_zero l hz]; exact Sup.of rfl
def firstP : PSp := fun xs K => match xs with
  | [.isl (.ints .i64 l) .none] => VC (l.length < 1000000) ∧ K (.int .i64 (firstOf l))
  | [.nils] => K (.int .i64 0)
  | _ => False
theorem first_nil : PSpec Tryz.prog 30 [.nils] (.int .i64 0) := by
  refine pspec_of (md := 1) (rf := []) mixed tabOK noC_ok Tryz.func30 (by rfl) (by rfl) (by rfl) ?_
  repeat' ((conv => whnf); first | refine And.intro ?_ ?_ | with_reducible exact VC.mk rfl | exact Ok.mk | exact True.intro | refine Nx.mk ?_ | refine Fin.mk ?_ | intro _)
  conv => whnf
  refine loop_of (X := Unit) (fun _ => True) (fun _ => [(7, .int .i64 0)]) (fun _ => []) (fun _ => 0) () ⟨anyB_ok, mixed, tabOK, noC_ok, noY_ok⟩ (by rfl) trivial ?_ ?_
  · repeat' ((conv => whnf); first | refine And.intro ?_ ?_ | with_reducible exact VC.mk rfl | exact Ok.mk | exact True.intro | refine Nx.mk ?_ | refine Fin.mk ?_ | intro _)
    all_goals ((try refine VC.mk ?_); (try simp only [CL.ncell, CL.cnt, vq] at *); (try omega))
  · intro i hi
    repeat' ((conv => whnf); first | refine And.intro ?_ ?_ | with_reducible exact VC.mk rfl | exact Ok.mk | exact True.intro | refine Nx.mk ?_ | refine Fin.mk ?_ | intro _)
    all_goals ((try refine VC.mk ?_); (try simp only [CL.ncell, CL.cnt, vq] at *); (try omega))
    all_goals (first | (refine Sup.of ?_; first | rfl | (simp [*, resOf]; done)) | (refine Sup.via ?_; repeat' ((conv => whnf); first | refine And.intro ?_ ?_ | with_reducible exact VC.mk rfl | exact Ok.mk | exact True.intro | refine Nx.mk ?_ | refine Fin.mk ?_ | intro _); all_goals ((try refine VC.mk ?_); (try simp only [CL.ncell, CL.cnt, vq] at *); (try omega)); all_goals (try (simp [CL.sub]; done))))
theorem first_ok : POK Tryz.prog 30 firstP := by
  intro xs K h
  unfold firstP at h
  split at h
  · exact ⟨_, h.2, first_spec _ h.1.get⟩
  · exact ⟨_, h, first_nil⟩
  · exact h.elim
noncomputable def cp2 : CPT := cpAdd 30 (pureCC firstP) (cpAdd 82 (pureCC checkOrderP) cp1)
theorem cp2_ok : CPOK Tryz.prog cp2 := cpAdd_ok (pureCC_ok first_ok) (cpAdd_ok (pureCC_ok checkOrder_ok) cp1_ok)
end Go.Eng.YtobnbkoeocdhbaaGreatDoor
namespace Go.Eng.YtobnbkoeocdhbaaGreatDoor
open Go.Proofs
set_option maxRecDepth 100000
set_option linter.unusedVariables false
set_option linter.unusedSimpArgs false
theorem mod_eq (a n : Int) (hn : 0 < n) : (a.tmod n + n).tmod n = a % n := by
  have h1 : -n < a.tmod n := by have := Int.lt_tmod_of_pos a hn; omega
  have h2 : a.tmod n < n := Int.tmod_lt_of_pos a hn
  rw [Int.tmod_eq_emod_of_nonneg (by omega), Int.add_emod_right, Int.tmod_def, Int.sub_mul_emod_self_left]
theorem mod_spec (a n : Int) (ha : -4611686018427387904 ≤ a ∧ a ≤ 4611686018427387904) (hn : 0 < n ∧ n ≤ 1000000) : PSpec Tryz.prog 62 [.int .i64 a, .int .i64 n] (.int .i64 (a % n)) := by
  have h1 : -n < a.tmod n := by have := Int.lt_tmod_of_pos a hn.1; omega
  have h2 : a.tmod n < n := Int.tmod_lt_of_pos a hn.1
  refine pspec_of (md := 1) (rf := []) mixed tabOK noC_ok Tryz.func62 (by rfl) (by rfl) (by rfl) ?_
  repeat' ((conv => whnf); first | refine And.intro ?_ ?_ | with_reducible exact VC.mk rfl | exact Ok.mk | exact True.intro | refine Nx.mk ?_ | refine Fin.mk ?_ | intro _)
  all_goals ((try refine VC.mk ?_); (try simp only [CL.ncell, CL.cnt, vq] at *); (try omega))
  rw [← mod_eq a n hn.1]; exact Sup.of rfl
def modP : PSp := fun xs K => match xs with
  | [.int .i64 a, .int .i64 n] => VC ((-4611686018427387904 ≤ a ∧ a ≤ 4611686018427387904) ∧ 0 < n ∧ n ≤ 1000000) ∧ K (.int .i64 (a % n))
  | _ => False
theorem mod_ok : POK Tryz.prog 62 modP := by
  intro xs K h
  unfold modP at h
  split at h
  · exact ⟨_, h.2, mod_spec _ _ h.1.get.1 h.1.get.2⟩
  · exact h.elim
noncomputable def cp3 : CPT := cpAdd 62 (pureCC modP) cp2
theorem cp3_ok : CPOK Tryz.prog cp3 := cpAdd_ok (pureCC_ok mod_ok) cp2_ok
theorem reduced_spec (n s0 s1 x0 x1 b0 b1 : Int) (hn : 0 < n ∧ n ≤ 1000000) (h : ∀ x ∈ [s0, s1, x0, x1, b0, b1], -4611686018427387904 ≤ x ∧ x ≤ 4611686018427387904) :
    PSpec Tryz.prog 41 [.agg [.int .i64 n, .int .i64 s0, .int .i64 s1, .int .i64 x0, .int .i64 x1, .int .i64 b0, .int .i64 b1]]
      (.agg [.int .i64 n, .int .i64 (s0 % n), .int .i64 (s1 % n), .int .i64 (x0 % n), .int .i64 (x1 % n), .int .i64 (b0 % n), .int .i64 (b1 % n)]) := by
  simp only [List.mem_cons, List.not_mem_nil, or_false, forall_eq_or_imp, forall_eq] at h
  obtain ⟨h1, h2, h3, h4, h5, h6⟩ := h
  refine pspec_of (md := 1) (rf := []) mixed tabOK cp3_ok Tryz.func41 (by rfl) (by rfl) (by rfl) ?_
  repeat' ((conv => whnf); first | refine And.intro ?_ ?_ | with_reducible exact VC.mk rfl | exact Ok.mk | exact True.intro | refine Nx.mk ?_ | refine Fin.mk ?_ | intro _)
  conv => whnf
  refine loop_rounds 3 (rounds_succ ⟨anyB_ok, mixed, tabOK, cp3_ok, noY_ok⟩ (by rfl) ?_)
  repeat' ((conv => whnf); first | refine And.intro ?_ ?_ | with_reducible exact VC.mk rfl | exact Ok.mk | exact True.intro | refine Nx.mk ?_ | refine Fin.mk ?_ | intro _)
  all_goals ((try refine VC.mk ?_); (try simp only [CL.ncell, CL.cnt, vq] at *); (try omega))
  conv => whnf
  refine rounds_succ ⟨anyB_ok, mixed, tabOK, cp3_ok, noY_ok⟩ (by rfl) ?_
  repeat' ((conv => whnf); first | refine And.intro ?_ ?_ | with_reducible exact VC.mk rfl | exact Ok.mk | exact True.intro | refine Nx.mk ?_ | refine Fin.mk ?_ | intro _)
  all_goals ((try refine VC.mk ?_); (try simp only [CL.ncell, CL.cnt, vq] at *); (try omega))
  conv => whnf
  refine rounds_succ ⟨anyB_ok, mixed, tabOK, cp3_ok, noY_ok⟩ (by rfl) ?_
  repeat' ((conv => whnf); first | refine And.intro ?_ ?_ | with_reducible exact VC.mk rfl | exact Ok.mk | exact True.intro | refine Nx.mk ?_ | refine Fin.mk ?_ | intro _)
  all_goals ((try refine VC.mk ?_); (try simp only [CL.ncell, CL.cnt, vq] at *); (try omega))
  all_goals (first | (refine Sup.of ?_; first | rfl | (simp [*, resOf]; done)) | (refine Sup.via ?_; repeat' ((conv => whnf); first | refine And.intro ?_ ?_ | with_reducible exact VC.mk rfl | exact Ok.mk | exact True.intro | refine Nx.mk ?_ | refine Fin.mk ?_ | intro _); all_goals ((try refine VC.mk ?_); (try simp only [CL.ncell, CL.cnt, vq] at *); (try omega)); all_goals (try (simp [CL.sub]; done))))
def reducedP : PSp := fun xs K => match xs with
  | [.agg [.int .i64 n, .int .i64 s0, .int .i64 s1, .int .i64 x0, .int .i64 x1, .int .i64 b0, .int .i64 b1]] =>
    VC ((0 < n ∧ n ≤ 1000000) ∧ ∀ x ∈ [s0, s1, x0, x1, b0, b1], -4611686018427387904 ≤ x ∧ x ≤ 4611686018427387904) ∧
      K (.agg [.int .i64 n, .int .i64 (s0 % n), .int .i64 (s1 % n), .int .i64 (x0 % n), .int .i64 (x1 % n), .int .i64 (b0 % n), .int .i64 (b1 % n)])
  | _ => False
theorem reduced_ok : POK Tryz.prog 41 reducedP := by
  intro xs K h
  unfold reducedP at h
  split at h
  · exact ⟨_, h.2, reduced_spec _ _ _ _ _ _ _ h.1.get.1 h.1.get.2⟩
  · exact h.elim
/-- the cell of a number -/
def cellOf (n s0 s1 x0 x1 b0 b1 k : Int) : Int := ((s0 + (k - 1) % n * x0 + (k - 1) / n * b0) % n) * n + (s1 + (k - 1) % n * x1 + (k - 1) / n * b1) % n
theorem cell_spec (n s0 s1 x0 x1 b0 b1 k : Int) (hn : 0 < n ∧ n ≤ 1000) (hk : 1 ≤ k ∧ k ≤ 1000000) (h : ∀ x ∈ [s0, s1, x0, x1, b0, b1], 0 ≤ x ∧ x < n) :
    PSpec Tryz.prog 83 [.agg [.int .i64 n, .int .i64 s0, .int .i64 s1, .int .i64 x0, .int .i64 x1, .int .i64 b0, .int .i64 b1], .int .i64 k] (.int .i64 (cellOf n s0 s1 x0 x1 b0 b1 k)) := by
  simp only [List.mem_cons, List.not_mem_nil, or_false, forall_eq_or_imp, forall_eq] at h
  obtain ⟨h1, h2, h3, h4, h5, h6⟩ := h
  have ha : 0 ≤ (k - 1) % n ∧ (k - 1) % n < n := ⟨Int.emod_nonneg _ (by omega), Int.emod_lt_of_pos _ hn.1⟩
  have hb : 0 ≤ (k - 1) / n ∧ (k - 1) / n < 1000000 := ⟨Int.ediv_nonneg (by omega) (by omega), by
    have := Int.ediv_le_self (a := k - 1) n (by omega); omega⟩
  have m : ∀ x, 0 ≤ x ∧ x < n → (0 ≤ (k - 1) % n * x ∧ (k - 1) % n * x ≤ 1000000) ∧ (0 ≤ (k - 1) / n * x ∧ (k - 1) / n * x ≤ 1000000000) := fun x hx =>
    ⟨⟨Int.mul_nonneg ha.1 hx.1, by have := Int.mul_le_mul (Int.le_of_lt ha.2) (Int.le_of_lt hx.2) hx.1 (by omega); have := Int.mul_le_mul hn.2 hn.2 (by omega) (by omega); omega⟩,
     ⟨Int.mul_nonneg hb.1 hx.1, by have := Int.mul_le_mul (Int.le_of_lt hb.2) (by omega : x ≤ 1000) hx.1 (by omega); omega⟩⟩
  have q : ∀ y : Int, (0 ≤ y % n ∧ y % n < n) ∧ 0 ≤ y % n * n ∧ y % n * n ≤ 1000000 := fun y => by
    have h1 := Int.emod_nonneg y (by omega : n ≠ 0)
    have h2 := Int.emod_lt_of_pos y hn.1
    exact ⟨⟨h1, h2⟩, Int.mul_nonneg h1 (by omega), by have := Int.mul_le_mul (Int.le_of_lt h2) (Int.le_refl n) (by omega) (by omega); have := Int.mul_le_mul hn.2 hn.2 (by omega) (by omega); omega⟩
  have q1 := q (s0 + (k - 1) % n * x0 + (k - 1) / n * b0)
  have q2 := q (s1 + (k - 1) % n * x1 + (k - 1) / n * b1)
  have m3 := m x0 h3
  have m4 := m x1 h4
  have m5 := m b0 h5
  have m6 := m b1 h6
  refine pspec_of (md := 0) (rf := []) mixed tabOK noC_ok Tryz.func83 (by rfl) (by rfl) (by rfl) ?_
  repeat' ((conv => whnf); first | refine And.intro ?_ ?_ | with_reducible exact VC.mk rfl | exact Ok.mk | exact True.intro | refine Nx.mk ?_ | refine Fin.mk ?_ | intro _)
  all_goals ((try refine VC.mk ?_); (try simp only [CL.ncell, CL.cnt, vq] at *); (try omega))
  conv => whnf
  refine loop_rounds 3 (rounds_succ ⟨anyB_ok, mixed, tabOK, noC_ok, noY_ok⟩ (by rfl) ?_)
  repeat' ((conv => whnf); first | refine And.intro ?_ ?_ | with_reducible exact VC.mk rfl | exact Ok.mk | exact True.intro | refine Nx.mk ?_ | refine Fin.mk ?_ | intro _)
  all_goals ((try refine VC.mk ?_); (try simp only [CL.ncell, CL.cnt, vq] at *); (try omega))
  conv => whnf
  refine rounds_succ ⟨anyB_ok, mixed, tabOK, noC_ok, noY_ok⟩ (by rfl) ?_
  repeat' ((conv => whnf); first | refine And.intro ?_ ?_ | with_reducible exact VC.mk rfl | exact Ok.mk | exact True.intro | refine Nx.mk ?_ | refine Fin.mk ?_ | intro _)
  all_goals ((try refine VC.mk ?_); (try simp only [CL.ncell, CL.cnt, vq] at *); (try omega))
  conv => whnf
  refine rounds_succ ⟨anyB_ok, mixed, tabOK, noC_ok, noY_ok⟩ (by rfl) ?_
  repeat' ((conv => whnf); first | refine And.intro ?_ ?_ | with_reducible exact VC.mk rfl | exact Ok.mk | exact True.intro | refine Nx.mk ?_ | refine Fin.mk ?_ | intro _)
  all_goals ((try refine VC.mk ?_); (try simp only [CL.ncell, CL.cnt, vq] at *); (try omega))
  all_goals first | omega | exact Sup.of rfl
def cellP : PSp := fun xs K => match xs with
  | [.agg [.int .i64 n, .int .i64 s0, .int .i64 s1, .int .i64 x0, .int .i64 x1, .int .i64 b0, .int .i64 b1], .int .i64 k] =>
    VC ((0 < n ∧ n ≤ 1000) ∧ (1 ≤ k ∧ k ≤ 1000000) ∧ ∀ x ∈ [s0, s1, x0, x1, b0, b1], 0 ≤ x ∧ x < n) ∧ K (.int .i64 (cellOf n s0 s1 x0 x1 b0 b1 k))
  | _ => False
theorem cell_ok : POK Tryz.prog 83 cellP := by
  intro xs K h
  unfold cellP at h
  split at h
  · exact ⟨_, h.2, cell_spec _ _ _ _ _ _ _ _ h.1.get.1 h.1.get.2.1 h.1.get.2.2⟩
  · exact h.elim
end Go.Eng.YtobnbkoeocdhbaaGreatDoor
namespace Go.Eng.YtobnbkoeocdhbaaGreatDoor
open Go.Proofs
set_option maxRecDepth 100000
set_option maxHeartbeats 0
set_option linter.unusedVariables false
set_option linter.unusedSimpArgs false
/-! small closures -/
/-! one line -/
def colL (n : Nat) (h : Nat → Int) (m : Nat) : List Int := (List.range m).map fun i => (n : Int) * i + h i % n
/-! all lines -/
def rowL (n i m : Nat) : List Int := (List.range m).map fun j : Nat => (n : Int) * (i : Int) + (j : Int)
def lineAt (n i : Nat) : List Int :=
  if i < n then rowL n i n else if i < 2 * n then colL n (fun _ => (i : Int) - n) n else if i = 2 * n then colL n (fun j => j) n else if i = 2 * n + 1 then colL n (fun j => (n : Int) - 1 - j) n
  else if i < 3 * n + 1 then colL n (fun j => (j : Int) + ((i : Int) - 2 * n - 1)) n else colL n (fun j => (i : Int) - 3 * n - 1 - j) n
theorem lineAt_row {n k : Nat} (h : k < n) : lineAt n k = rowL n k n := by simp [lineAt, h]
theorem lineAt_col {n k : Nat} (h : k < n) : lineAt n (n + k) = colL n (fun _ => (k : Int)) n := by
  have h1 : ¬ n + k < n := by omega
  have h2 : n + k < 2 * n := by omega
  have h3 : ((n + k : Nat) : Int) - n = k := by omega
  unfold lineAt; rw [if_neg h1, if_pos h2, h3]
theorem lineAt_d1 {n : Nat} : lineAt n (2 * n) = colL n (fun j => (j : Int)) n := by
  have h1 : ¬ 2 * n < n := by omega
  have h2 : ¬ 2 * n < 2 * n := by omega
  unfold lineAt; rw [if_neg h1, if_neg h2, if_pos rfl]
theorem lineAt_d2 {n : Nat} : lineAt n (2 * n + 1) = colL n (fun j => (n : Int) - 1 - j) n := by
  have h1 : ¬ 2 * n + 1 < n := by omega
  have h2 : ¬ 2 * n + 1 < 2 * n := by omega
  have h3 : ¬ 2 * n + 1 = 2 * n := by omega
  unfold lineAt; rw [if_neg h1, if_neg h2, if_neg h3, if_pos rfl]
theorem lineAt_b1 {n k : Nat} (h : k + 1 < n) : lineAt n (2 * n + 2 + k) = colL n (fun j => (j : Int) + ((k : Int) + 1)) n := by
  have h1 : ¬ 2 * n + 2 + k < n := by omega
  have h2 : ¬ 2 * n + 2 + k < 2 * n := by omega
  have h3 : ¬ 2 * n + 2 + k = 2 * n := by omega
  have h4 : ¬ 2 * n + 2 + k = 2 * n + 1 := by omega
  have h5 : 2 * n + 2 + k < 3 * n + 1 := by omega
  have h6 : ((2 * n + 2 + k : Nat) : Int) - 2 * n - 1 = k + 1 := by omega
  unfold lineAt; rw [if_neg h1, if_neg h2, if_neg h3, if_neg h4, if_pos h5, h6]
theorem lineAt_b2 {n k : Nat} (h : 1 ≤ n) : lineAt n (3 * n + 1 + k) = colL n (fun j => (k : Int) - j) n := by
  have h1 : ¬ 3 * n + 1 + k < n := by omega
  have h2 : ¬ 3 * n + 1 + k < 2 * n := by omega
  have h3 : ¬ 3 * n + 1 + k = 2 * n := by omega
  have h4 : ¬ 3 * n + 1 + k = 2 * n + 1 := by omega
  have h5 : ¬ 3 * n + 1 + k < 3 * n + 1 := by omega
  have h6 : ((3 * n + 1 + k : Nat) : Int) - 3 * n - 1 = k := by omega
  unfold lineAt; rw [if_neg h1, if_neg h2, if_neg h3, if_neg h4, if_neg h5, h6]
def lineCnt (n : Nat) (g : Int) : Nat := if g < 1 then 0 else if g < 2 then 2 * n else if g < 3 then 2 * n + 2 else 4 * n
theorem nxt_of {go : List PV → Bool} {L : List PV} {i : Nat} {x : PV} (h : L[i]? = some x) (hg : GoTo go L i) : Nxt go L (L.take i) x := ⟨i, (List.getElem?_eq_some_iff.1 h).1, rfl, h, hg⟩
end Go.Eng.YtobnbkoeocdhbaaGreatDoor
namespace Go.Eng.YtobnbkoeocdhbaaGreatDoor
open Go.Proofs
set_option maxRecDepth 100000
set_option maxHeartbeats 0
set_option linter.unusedVariables false
set_option linter.unusedSimpArgs false
theorem mul_bd {a b A B : Int} (ha : 0 ≤ a ∧ a ≤ A) (hb : 0 ≤ b ∧ b ≤ B) : 0 ≤ a * b ∧ a * b ≤ A * B :=
  ⟨Int.mul_nonneg ha.1 hb.1, Int.mul_le_mul ha.2 hb.2 hb.1 (by omega)⟩
abbrev gridV (r c : Int) (l : List Int) : PV := .agg [.int .i64 r, .int .i64 c, .isl (.ints .i64 l) .none]
/-! constants -/
def constOf (n : Int) : Int := n * (n * n + 1) / 2
/-! remainders -/
/-! greatest common divisors -/
/-! ranges -/
end Go.Eng.YtobnbkoeocdhbaaGreatDoor
namespace Go.Eng.YtobnbkoeocdhbaaGreatDoor
open Go.Proofs
set_option maxRecDepth 100000
set_option maxHeartbeats 0
set_option linter.unusedVariables false
set_option linter.unusedSimpArgs false
theorem all_true {p : Nat → Bool} {n : Nat} (h : ∀ i, i < n → p i = true) : (List.range n).all p = true := by simp [List.all_eq_true]; exact h
theorem all_false {p : Nat → Bool} {n i : Nat} (hi : i < n) (h : p i = false) : (List.range n).all p = false := by
  simp only [List.all_eq_false, List.mem_range]; exact ⟨i, hi, by simp [h]⟩
/-- which numbers have been seen -/
def seenAt (m : Nat) (l : List Int) (i : Nat) : List Bool := (l.take i).foldl (fun s x => s.set x.toNat true) (List.replicate m false)
theorem seenAt_succ (m : Nat) (l : List Int) (i : Nat) (h : i < l.length) : seenAt m l (i + 1) = (seenAt m l i).set (l.getD i 0).toNat true := by
  unfold seenAt
  rw [List.take_add_one, List.foldl_append]
  simp [h]
theorem seenAt_len (m : Nat) (l : List Int) (i : Nat) : (seenAt m l i).length = m := by
  unfold seenAt
  generalize l.take i = k
  suffices ∀ s : List Bool, (k.foldl (fun s x => s.set x.toNat true) s).length = s.length by rw [this]; simp
  intro s
  induction k generalizing s with
  | nil => rfl
  | cons x r ih => rw [List.foldl_cons, ih]; simp
def okAt (lo : Int) (m : Nat) (l : List Int) (i : Nat) : Bool := decide (lo ≤ l.getD i 0 ∧ l.getD i 0 < m) && !(seenAt m l i).getD (l.getD i 0).toNat false
def distinctIn (lo : Int) (m : Nat) (l : List Int) : Bool := (List.range l.length).all (okAt lo m l)
def isNorm (l : List Int) : Bool := distinctIn 1 (l.length + 1) l
/-! shapes -/
def sqErr (r c : Int) (l : List Int) : Int := if r ≠ c ∨ r < 1 ∨ 16 < r ∨ (l.length : Int) ≠ r * c then 2 else 0
theorem sq_mul {r c : Int} (h : r = c) (h1 : 1 ≤ r) (h2 : r ≤ 16) : 0 ≤ r * c ∧ r * c ≤ 256 := by subst h; exact mul_bd ⟨by omega, h2⟩ ⟨by omega, h2⟩
theorem checkSquare_spec (r c : Int) (l : List Int) : PSpec Tryz.prog 72 [gridV r c l] (.int .i64 (sqErr r c l)) := by
  have hm := @sq_mul r c
  refine pspec_of (md := 1) (rf := []) mixed tabOK cp1_ok Tryz.func72 (by rfl) (by rfl) (by rfl) ?_
  repeat' ((conv => whnf); first | refine And.intro ?_ ?_ | with_reducible exact VC.mk rfl | exact Ok.mk | exact True.intro | refine Nx.mk ?_ | refine Fin.mk ?_ | intro _)
  all_goals ((try refine VC.mk ?_); (try simp only [CL.ncell, CL.cnt, vq] at *); (try omega))
  all_goals (refine Sup.of ?_; simp_all [resOf, sqErr] <;> omega)
def checkSquareP : PSp := fun xs K => match xs with
  | [.agg [.int .i64 r, .int .i64 c, .isl (.ints .i64 l) .none]] => VC (True) ∧ K (.int .i64 (sqErr r c l))
  | _ => False
theorem checkSquare_ok : POK Tryz.prog 72 checkSquareP := by
  intro xs K h
  unfold checkSquareP at h
  split at h
  · exact ⟨_, h.2, checkSquare_spec _ _ _⟩
  · exact h.elim
theorem sqErr_zero {r c : Int} {l : List Int} (h : sqErr r c l = 0) : r = c ∧ 1 ≤ r ∧ r ≤ 16 ∧ (l.length : Int) = r * r ∧ l.length ≤ 256 := by
  unfold sqErr at h
  split at h
  · cases h
  · rename_i hh
    have h1 : r = c := by omega
    subst h1
    have := sq_mul (r := r) rfl (by omega) (by omega)
    omega
def normErr (r c : Int) (l : List Int) : Int := if sqErr r c l = 0 then (if isNorm l then 0 else 1) else sqErr r c l
noncomputable def cpN2 : CPT := cpAdd 72 (pureCC checkSquareP) cp1
theorem cpN2_ok : CPOK Tryz.prog cpN2 := cpAdd_ok (pureCC_ok checkSquare_ok) cp1_ok
theorem checkNormal_spec (r c : Int) (l : List Int) : PSpec Tryz.prog 31 [gridV r c l] (.int .i64 (normErr r c l)) := by
  have hz := @sqErr_zero r c l
  refine pspec_of (md := 1) (rf := []) mixed tabOK cpN2_ok Tryz.func31 (by rfl) (by rfl) (by rfl) ?_
  repeat' ((conv => whnf); first | refine And.intro ?_ ?_ | with_reducible exact VC.mk rfl | exact Ok.mk | exact True.intro | refine Nx.mk ?_ | refine Fin.mk ?_ | intro _)
  all_goals ((try refine VC.mk ?_); (try simp only [CL.ncell, CL.cnt, vq] at *); (try omega))
  · all_goals (refine Sup.of ?_; simp_all [resOf, normErr] <;> omega)
  have hz := hz (by omega)
  have he : normErr r c l = if isNorm l then 0 else 1 := by unfold normErr; rw [if_pos (by omega)]
  rw [he]
  repeat' ((conv => whnf); first | refine And.intro ?_ ?_ | with_reducible exact VC.mk rfl | exact Ok.mk | exact True.intro | refine Nx.mk ?_ | refine Fin.mk ?_ | intro _)
  all_goals ((try refine VC.mk ?_); (try simp only [CL.ncell, CL.cnt, vq] at *); (try omega))
  conv => whnf
  refine loop_of (X := Nat) (fun i => i ≤ l.length ∧ ∀ j, j < i → okAt 1 (l.length + 1) l j = true) (fun i => [(20, .int .i64 i)]) (fun i => [(5, .cells (.bools (seenAt (l.length + 1) l i)) false)]) (fun i => l.length - i) 0 ⟨anyB_ok, mixed, tabOK, cpN2_ok, noY_ok⟩ (by rfl) ⟨by omega, fun j h => by omega⟩ ?_ ?_
  · repeat' ((conv => whnf); first | refine And.intro ?_ ?_ | with_reducible exact VC.mk rfl | exact Ok.mk | exact True.intro | refine Nx.mk ?_ | refine Fin.mk ?_ | intro _)
    all_goals ((try refine VC.mk ?_); (try simp only [CL.ncell, CL.cnt, vq] at *); (try omega))
    all_goals simp [seenAt]
  · rintro i ⟨hi, hok⟩
    by_cases hlt : i < l.length
    · have e1 := seenAt_len (l.length + 1) l i
      have e2 := seenAt_succ (l.length + 1) l i hlt
      have hbad : okAt 1 (l.length + 1) l i = false → Sup (resOf [.int .i64 1]) (.int .i64 (if isNorm l then 0 else 1)) := fun h => by rw [show isNorm l = false from all_false hlt h]; exact Sup.of rfl
      repeat' ((conv => whnf); first | refine And.intro ?_ ?_ | with_reducible exact VC.mk rfl | exact Ok.mk | exact True.intro | refine Nx.mk ?_ | refine Fin.mk ?_ | intro _)
      all_goals ((try refine VC.mk ?_); (try simp only [CL.ncell, CL.cnt, vq] at *); (try omega))
      · refine hbad ?_; unfold okAt; simp_all
      · refine ⟨i + 1, [], ⟨⟨by omega, fun j hj => ?_⟩, by omega⟩, ?_⟩
        · by_cases e : j = i
          · subst e; unfold okAt; simp_all; omega
          · exact hok j (by omega)
        · repeat' ((conv => whnf); first | refine And.intro ?_ ?_ | with_reducible exact VC.mk rfl | exact Ok.mk | exact True.intro | refine Nx.mk ?_ | refine Fin.mk ?_ | intro _)
          all_goals ((try refine VC.mk ?_); (try simp only [CL.ncell, CL.cnt, vq] at *); (try omega))
          · exact e2.symm
      · refine hbad ?_; unfold okAt; simp_all; omega
      · refine hbad ?_; unfold okAt; simp_all; omega
    · have : i = l.length := by omega
      subst this
      have e : isNorm l = true := all_true hok
      rw [e]
      repeat' ((conv => whnf); first | refine And.intro ?_ ?_ | with_reducible exact VC.mk rfl | exact Ok.mk | exact True.intro | refine Nx.mk ?_ | refine Fin.mk ?_ | intro _)
      all_goals ((try refine VC.mk ?_); (try simp only [CL.ncell, CL.cnt, vq] at *); (try omega))
      exact Sup.of rfl
def checkNormalP : PSp := fun xs K => match xs with
  | [.agg [.int .i64 r, .int .i64 c, .isl (.ints .i64 l) .none]] => VC (True) ∧ K (.int .i64 (normErr r c l))
  | _ => False
theorem checkNormal_ok : POK Tryz.prog 31 checkNormalP := by
  intro xs K h
  unfold checkNormalP at h
  split at h
  · exact ⟨_, h.2, checkNormal_spec _ _ _⟩
  · exact h.elim
/-! permutations -/
end Go.Eng.YtobnbkoeocdhbaaGreatDoor
namespace Go.Eng.YtobnbkoeocdhbaaGreatDoor
open Go.Proofs
set_option maxRecDepth 100000
set_option maxHeartbeats 0
set_option linter.unusedVariables false
set_option linter.unusedSimpArgs false
/-- a square that may be written -/
def emptyL : LSp := fun xs objs K => match xs, objs with
  | [.int .i64 n], [] => VC (0 ≤ n ∧ n ≤ 1000) ∧ K [.agg [.int .i64 n, .int .i64 n, .rsl 0 0 (n * n).toNat]] [.cells (.ints .i64 (List.replicate (n * n).toNat 0)) false]
  | _, _ => False
theorem emptyL_spec (n : Int) (h : 0 ≤ n ∧ n ≤ 1000) : LSpec Tryz.prog 73 [.int .i64 n] [] [.agg [.int .i64 n, .int .i64 n, .rsl 0 0 (n * n).toNat]] [.cells (.ints .i64 (List.replicate (n * n).toNat 0)) false] := by
  have h1 := mul_bd h h
  refine lspec_of (md := 1) (rf := []) mixed tabOK noC_ok 0 [(1, 0)] Tryz.func73 (by rfl) (by rfl) (by rfl) ?_
  repeat' ((conv => whnf); first | refine And.intro ?_ ?_ | with_reducible exact VC.mk rfl | exact Ok.mk | exact True.intro | refine Nx.mk ?_ | refine Fin.mk ?_ | intro _)
  all_goals ((try refine VC.mk ?_); (try simp only [CL.ncell, CL.cnt, vq] at *); (try omega))
theorem emptyL_ok : LOK Tryz.prog 73 emptyL := by
  intro xs objs K h
  unfold emptyL at h
  split at h
  · exact ⟨_, _, h.2, emptyL_spec _ h.1.get⟩
  · exact h.elim
/-! filled from the left -/
def fillG (f : Nat → Int) (N m : Nat) : List Int := (List.range m).map f ++ List.replicate (N - m) 0
theorem fillG_len (f : Nat → Int) (N m : Nat) (h : m ≤ N) : (fillG f N m).length = N := by simp [fillG]; omega
theorem fillG_set (f : Nat → Int) (N m : Nat) (h : m < N) : (fillG f N m).set m (f m) = fillG f N (m + 1) := by
  unfold fillG
  rw [List.set_append_right _ _ (by simp), show N - m = (N - (m + 1)) + 1 by omega, List.replicate_succ, List.range_succ]
  simp
theorem fillG_all (f : Nat → Int) (N : Nat) : fillG f N N = (List.range N).map f := by simp [fillG]
theorem fillG_zero (f : Nat → Int) (N : Nat) : fillG f N 0 = List.replicate N 0 := by simp [fillG]
def madeL (n : Nat) (h : Nat → Nat → Int) : List Int := (List.range (n * n)).map fun k => h (k / n) (k % n)
def madeP : PSp := fun xs K => match xs with
  | [.int .i64 n, .fn (.func f) fs cs] => VC (0 ≤ n ∧ n ≤ 1000) ∧ ∃ h : Nat → Nat → Int, (∀ i j : Nat, (i : Int) < n → (j : Int) < n → PSpec Tryz.prog f (fs ++ [.int .i64 i, .int .i64 j] ++ cs) (.int .i64 (h i j))) ∧ K (gridV n n (madeL n.toNat h))
  | _ => False
theorem made_spec (n : Nat) (hn : n ≤ 1000) (f : Nat) (fs cs : List PV) (h : Nat → Nat → Int) (hh : ∀ i j : Nat, i < n → j < n → PSpec Tryz.prog f (fs ++ [.int .i64 i, .int .i64 j] ++ cs) (.int .i64 (h i j))) :
    PSpec Tryz.prog 33 [.int .i64 (n : Int), .fn (.func f) fs cs] (gridV n n (madeL n h)) := by
  refine pspec_open 1 (enters' Tryz.func33 (by rfl) (by rfl)) rfl (by simp) fun S0 w0 us vs hu hv => ?_
  have hY : ∀ r, YPOK Tryz.prog r (fromB S0 w0) (fnY f us vs fun xs K => match xs with
      | [.int .i64 i, .int .i64 j] => VC ((0 ≤ i ∧ i < n) ∧ 0 ≤ j ∧ j < n) ∧ K (.int .i64 (h i.toNat j.toNat))
      | _ => False) := fun r => fnY_ok (fs := fs) (cs := cs) (fun S w hb => ⟨hu.mono hb (.refl _), hv.mono hb (.refl _)⟩) fun xs K hk => by
    split at hk
    · rename_i i j
      obtain ⟨⟨h1, h2⟩, hk⟩ := hk
      have := hh i.toNat j.toNat (by omega) (by omega)
      rw [Int.toNat_of_nonneg h1.1, Int.toNat_of_nonneg h2.1] at this
      exact ⟨_, hk, this⟩
    · exact hk.elim
  have hC : CPOKB Tryz.prog (fromB S0 w0) (cpAdd 73 (lendCC [] emptyL) noC) := CPOK.up (cpAdd_ok (lendCC_ok [] emptyL_ok) noC_ok) _
  have W : Walk Tryz.prog none (fromB S0 w0) tab.get _ _ := ⟨fromB_ok, mixed, tabOK, hC, hY none⟩
  refine pspecB_of fromB_ok mixed tabOK (md := 1) (rf := []) hC (hY none) Tryz.func33 (by rfl) (by rfl) ?_
  repeat' ((conv => whnf); first | refine And.intro ?_ ?_ | with_reducible exact VC.mk rfl | exact Ok.mk | exact True.intro | refine Nx.mk ?_ | refine Fin.mk ?_ | intro _)
  all_goals ((try refine VC.mk ?_); (try simp only [CL.ncell, CL.cnt, vq] at *); (try omega))
  have eN : ((n : Int) * n).toNat = n * n := by rw [← Int.natCast_mul, Int.toNat_natCast]
  simp only [eN]
  let g : Nat → Int := fun k => h (k / n) (k % n)
  have hbd : ∀ i j : Nat, i < n → j < n → n * i + j < n * n := fun i j hi hj => by
    have := Nat.mul_le_mul_left n (show i + 1 ≤ n by omega)
    rw [Nat.mul_add] at this; omega
  have hix : ∀ i j : Nat, ((n : Int) * i + j) = ((n * i + j : Nat) : Int) := fun i j => by push_cast; rfl
  have hg : ∀ i j : Nat, j < n → h i j = g (n * i + j) := fun i j hj => by
    have h1 : (n * i + j) / n = i := by rw [Nat.mul_add_div (by omega), Nat.div_eq_of_lt hj]; simp
    have h2 : (n * i + j) % n = j := by rw [Nat.mul_add_mod, Nat.mod_eq_of_lt hj]
    simp only [g, h1, h2]
  have hNN : (n : Int) * n ≤ 1000000 := (mul_bd (show 0 ≤ (n : Int) ∧ (n : Int) ≤ 1000 by omega) (show 0 ≤ (n : Int) ∧ (n : Int) ≤ 1000 by omega)).2
  have hNN' : ((n * n : Nat) : Int) ≤ 1000000 := by rw [Int.natCast_mul]; exact hNN
  conv => whnf
  refine loop_of (X := Nat) (fun i => i ≤ n) (fun i => [(11, .int .i64 i)]) (fun i => [(1, .cells (.ints .i64 (fillG g (n * n) (n * i))) false)]) (fun i => n - i) 0 W (by rfl) (by omega) ?_ ?_
  · repeat' ((conv => whnf); first | refine And.intro ?_ ?_ | with_reducible exact VC.mk rfl | exact Ok.mk | exact True.intro | refine Nx.mk ?_ | refine Fin.mk ?_ | intro _)
    all_goals ((try refine VC.mk ?_); (try simp only [CL.ncell, CL.cnt, vq] at *); (try omega))
    all_goals simp [fillG_zero]
  · intro i hi
    by_cases hlt : i < n
    · repeat' ((conv => whnf); first | refine And.intro ?_ ?_ | with_reducible exact VC.mk rfl | exact Ok.mk | exact True.intro | refine Nx.mk ?_ | refine Fin.mk ?_ | intro _)
      all_goals ((try refine VC.mk ?_); (try simp only [CL.ncell, CL.cnt, vq] at *); (try omega))
      conv => whnf
      refine loop_of (X := Nat) (fun j => j ≤ n) (fun j => [(15, .int .i64 j)]) (fun j => [(1, .cells (.ints .i64 (fillG g (n * n) (n * i + j))) false)]) (fun j => n - j) 0 W (by rfl) (by omega) ?_ ?_
      · repeat' ((conv => whnf); first | refine And.intro ?_ ?_ | with_reducible exact VC.mk rfl | exact Ok.mk | exact True.intro | refine Nx.mk ?_ | refine Fin.mk ?_ | intro _)
        all_goals ((try refine VC.mk ?_); (try simp only [CL.ncell, CL.cnt, vq] at *); (try omega))
        all_goals simp
      · intro j hj
        by_cases hlj : j < n
        · have := hbd i j hlt hlj
          have e1 := hix i j
          have e2 := fillG_len g (n * n) (n * i + j) (by omega)
          repeat' ((conv => whnf); first | refine And.intro ?_ ?_ | with_reducible exact VC.mk rfl | exact Ok.mk | exact True.intro | refine Nx.mk ?_ | refine Fin.mk ?_ | intro _)
          all_goals ((try refine VC.mk ?_); (try simp only [CL.ncell, CL.cnt, vq] at *); (try omega))
          refine ⟨j + 1, [], ⟨by omega, by omega⟩, ?_⟩
          repeat' ((conv => whnf); first | refine And.intro ?_ ?_ | with_reducible exact VC.mk rfl | exact Ok.mk | exact True.intro | refine Nx.mk ?_ | refine Fin.mk ?_ | intro _)
          all_goals ((try refine VC.mk ?_); (try simp only [CL.ncell, CL.cnt, vq] at *); (try omega))
          rw [e1, Int.toNat_natCast, hg i j hlj, fillG_set _ _ _ this]; rfl
        · have : n = j := by omega
          subst this
          repeat' ((conv => whnf); first | refine And.intro ?_ ?_ | with_reducible exact VC.mk rfl | exact Ok.mk | exact True.intro | refine Nx.mk ?_ | refine Fin.mk ?_ | intro _)
          all_goals ((try refine VC.mk ?_); (try simp only [CL.ncell, CL.cnt, vq] at *); (try omega))
          refine ⟨i + 1, [], ⟨by omega, by omega⟩, ?_⟩
          repeat' ((conv => whnf); first | refine And.intro ?_ ?_ | with_reducible exact VC.mk rfl | exact Ok.mk | exact True.intro | refine Nx.mk ?_ | refine Fin.mk ?_ | intro _)
          all_goals ((try refine VC.mk ?_); (try simp only [CL.ncell, CL.cnt, vq] at *); (try omega))
    · have : n = i := by omega
      subst this
      repeat' ((conv => whnf); first | refine And.intro ?_ ?_ | with_reducible exact VC.mk rfl | exact Ok.mk | exact True.intro | refine Nx.mk ?_ | refine Fin.mk ?_ | intro _)
      all_goals ((try refine VC.mk ?_); (try simp only [CL.ncell, CL.cnt, vq] at *); (try omega))
      · rw [fillG_len _ _ _ (Nat.le_refl _)]; exact Nat.le_refl _
      rw [fillG_all]
      refine Sup.via ?_
      repeat' ((conv => whnf); first | refine And.intro ?_ ?_ | with_reducible exact VC.mk rfl | exact Ok.mk | exact True.intro | refine Nx.mk ?_ | refine Fin.mk ?_ | intro _)
      all_goals ((try refine VC.mk ?_); (try simp only [CL.ncell, CL.cnt, vq] at *); (try omega))
      simp [CL.sub, madeL, g, List.take_of_length_le]
theorem made_ok : POK Tryz.prog 33 madeP := by
  intro xs K h
  unfold madeP at h
  split at h
  · rename_i n f fs cs
    obtain ⟨⟨h1⟩, hh, h2, hK⟩ := h
    obtain ⟨m, rfl⟩ : ∃ m : Nat, n = m := ⟨n.toNat, by omega⟩
    simp only [Int.toNat_natCast] at hK
    exact ⟨_, hK, made_spec m (by omega) f fs cs hh (fun i j hi hj => h2 i j (by omega) (by omega))⟩
  · exact h.elim
end Go.Eng.YtobnbkoeocdhbaaGreatDoor
namespace Go.Eng.YtobnbkoeocdhbaaGreatDoor
open Go.Proofs
set_option maxRecDepth 100000
set_option maxHeartbeats 0
set_option linter.unusedVariables false
set_option linter.unusedSimpArgs false
theorem find_none {p : Nat → Bool} {n : Nat} (h : ∀ i, i < n → p i = false) : (List.range n).find? p = none := by
  simp only [List.find?_eq_none, List.mem_range]; exact fun i hi => by simp [h i hi]
theorem find_some {p : Nat → Bool} {n y : Nat} (hy : y < n) (hp : p y = true) (h : ∀ i, i < y → p i = false) : (List.range n).find? p = some y := by
  have e : List.range n = List.range y ++ (y :: List.range' (y + 1) (n - y - 1)) := by
    rw [List.range_eq_range', List.range_eq_range', show n = y + (1 + (n - y - 1)) by omega, ← List.range'_append_1, ← List.range'_append_1]
    simp
  rw [e, List.find?_append, find_none h]
  simp [hp]
/-- the numbers laid so far -/
def gAt (c : Nat → Nat) (N x : Nat) : List Int := (List.range x).foldl (fun g y => g.set (c y) ((y : Int) + 1)) (List.replicate N 0)
theorem gAt_succ (c : Nat → Nat) (N x : Nat) : gAt c N (x + 1) = (gAt c N x).set (c x) ((x : Int) + 1) := by simp [gAt, List.range_succ]
theorem gAt_len (c : Nat → Nat) (N : Nat) : ∀ x, (gAt c N x).length = N := by
  intro x
  induction x with
  | zero => simp [gAt]
  | succ x ih => rw [gAt_succ, List.length_set, ih]
theorem gAt_zero (c : Nat → Nat) (N : Nat) : gAt c N 0 = List.replicate N 0 := by simp [gAt]
def meetAt (c : Nat → Nat) (N y : Nat) : Bool := decide ((gAt c N y).getD (c y) 0 ≠ 0)
def meetOf (c : Nat → Nat) (N : Nat) : Option Nat := (List.range N).find? (meetAt c N)
def rowOf (n s x b k : Int) : Int := (s + (k - 1) % n * x + (k - 1) / n * b) % n
theorem cellOf_eq (n s0 s1 x0 x1 b0 b1 k : Int) : cellOf n s0 s1 x0 x1 b0 b1 k = rowOf n s0 x0 b0 k * n + rowOf n s1 x1 b1 k := rfl
theorem rowOf_bd (n s x b k : Int) (hn : 0 < n) : 0 ≤ rowOf n s x b k ∧ rowOf n s x b k < n := ⟨Int.emod_nonneg _ (by omega), Int.emod_lt_of_pos _ hn⟩
theorem cellOf_bd (n s0 s1 x0 x1 b0 b1 k : Int) (hn : 0 < n) : 0 ≤ cellOf n s0 s1 x0 x1 b0 b1 k ∧ cellOf n s0 s1 x0 x1 b0 b1 k < n * n := by
  have h1 := rowOf_bd n s0 x0 b0 k hn
  have h2 := rowOf_bd n s1 x1 b1 k hn
  rw [cellOf_eq]
  have h3 := Int.mul_le_mul_of_nonneg_right (show rowOf n s0 x0 b0 k ≤ n - 1 by omega) (show 0 ≤ n by omega)
  have h4 := Int.mul_nonneg h1.1 (show 0 ≤ n by omega)
  rw [Int.sub_mul] at h3
  omega
/-- the cell of the y-th number, from 0 -/
def cellN (n s0 s1 x0 x1 b0 b1 : Int) (y : Nat) : Nat := (cellOf n s0 s1 x0 x1 b0 b1 ((y : Int) + 1)).toNat
def layV (n : Int) (c : Nat → Nat) (N : Nat) : PV := match meetOf c N with
  | some y => .tup [gridV 0 0 [], .agg [.int .i64 ((gAt c N y).getD (c y) 0), .int .i64 ((y : Int) + 1)], .bp false]
  | none => .tup [gridV n n (gAt c N N), .agg [.int .i64 0, .int .i64 0], .bp true]
noncomputable def cpL1 : CPT := cpAdd 73 (lendCC [] emptyL) (cpAdd 83 (pureCC cellP) noC)
theorem cpL1_ok : CPOK Tryz.prog cpL1 := cpAdd_ok (lendCC_ok [] emptyL_ok) (cpAdd_ok (pureCC_ok cell_ok) noC_ok)
theorem lay_spec (n s0 s1 x0 x1 b0 b1 : Int) (hn : 1 ≤ n ∧ n ≤ 16) (h : ∀ x ∈ [s0, s1, x0, x1, b0, b1], 0 ≤ x ∧ x < n) :
    PSpec Tryz.prog 42 [.agg [.int .i64 n, .int .i64 s0, .int .i64 s1, .int .i64 x0, .int .i64 x1, .int .i64 b0, .int .i64 b1]] (layV n (cellN n s0 s1 x0 x1 b0 b1) (n * n).toNat) := by
  have h1 := mul_bd (show 0 ≤ n ∧ n ≤ 16 by omega) (show 0 ≤ n ∧ n ≤ 16 by omega)
  refine pspec_of (md := 1) (rf := []) mixed tabOK cpL1_ok Tryz.func42 (by rfl) (by rfl) (by rfl) ?_
  repeat' ((conv => whnf); first | refine And.intro ?_ ?_ | with_reducible exact VC.mk rfl | exact Ok.mk | exact True.intro | refine Nx.mk ?_ | refine Fin.mk ?_ | intro _)
  all_goals ((try refine VC.mk ?_); (try simp only [CL.ncell, CL.cnt, vq] at *); (try omega))
  obtain ⟨N, hN⟩ : ∃ N, N = (n * n).toNat := ⟨_, rfl⟩
  have hN' : (N : Int) = n * n := by omega
  obtain ⟨c, hc⟩ : ∃ c, c = cellN n s0 s1 x0 x1 b0 b1 := ⟨_, rfl⟩
  have hcb : ∀ y, c y < N := fun y => by
    have := cellOf_bd n s0 s1 x0 x1 b0 b1 ((y : Int) + 1) (by omega)
    rw [hc]; unfold cellN; omega
  have hce : ∀ y : Nat, cellOf n s0 s1 x0 x1 b0 b1 ((y : Int) + 1) = c y := fun y => by
    have := cellOf_bd n s0 s1 x0 x1 b0 b1 ((y : Int) + 1) (by omega)
    rw [hc]; unfold cellN; omega
  rw [← hN, ← hc]
  conv => whnf
  refine loop_of (X := Nat) (fun y => y ≤ N ∧ ∀ j, j < y → meetAt c N j = false) (fun y => [(6, .int .i64 ((y : Int) + 1))]) (fun y => [(3, .cells (.ints .i64 (gAt c N y)) false)]) (fun y => N - y) 0 ⟨anyB_ok, mixed, tabOK, cpL1_ok, noY_ok⟩ (by rfl) ⟨by omega, fun j hj => by omega⟩ ?_ ?_
  · repeat' ((conv => whnf); first | refine And.intro ?_ ?_ | with_reducible exact VC.mk rfl | exact Ok.mk | exact True.intro | refine Nx.mk ?_ | refine Fin.mk ?_ | intro _)
    all_goals ((try refine VC.mk ?_); (try simp only [CL.ncell, CL.cnt, vq] at *); (try omega))
  · rintro y ⟨hy, hm⟩
    by_cases hlt : y < N
    · have e1 := hcb y
      have e2 := gAt_len c N y
      have e3 := hce y
      repeat' ((conv => whnf); first | refine And.intro ?_ ?_ | with_reducible exact VC.mk rfl | exact Ok.mk | exact True.intro | refine Nx.mk ?_ | refine Fin.mk ?_ | intro _)
      all_goals ((try refine VC.mk ?_); (try simp only [CL.ncell, CL.cnt, vq] at *); (try omega))
      all_goals (try simp only [e3, Int.toNat_natCast] at *)
      all_goals (try omega)
      · exact ⟨by omega, by omega, h⟩
      · have e : meetOf c N = some y := find_some hlt (by unfold meetAt; simpa using ‹_ ≠ _›) hm
        unfold layV
        rw [e]
        all_goals (first | (refine Sup.of ?_; first | rfl | (simp [*, resOf]; done)) | (refine Sup.via ?_; repeat' ((conv => whnf); first | refine And.intro ?_ ?_ | with_reducible exact VC.mk rfl | exact Ok.mk | exact True.intro | refine Nx.mk ?_ | refine Fin.mk ?_ | intro _); all_goals ((try refine VC.mk ?_); (try simp only [CL.ncell, CL.cnt, vq] at *); (try omega)); all_goals (try (simp [CL.sub]; done))))
      · refine ⟨y + 1, [], ⟨⟨by omega, fun j hj => ?_⟩, by omega⟩, ?_⟩
        · by_cases e : j = y
          · subst e; unfold meetAt; simp_all
          · exact hm j (by omega)
        · repeat' ((conv => whnf); first | refine And.intro ?_ ?_ | with_reducible exact VC.mk rfl | exact Ok.mk | exact True.intro | refine Nx.mk ?_ | refine Fin.mk ?_ | intro _)
          all_goals ((try refine VC.mk ?_); (try simp only [CL.ncell, CL.cnt, vq] at *); (try omega))
          rw [gAt_succ]
    · have : N = y := by omega
      subst this
      have e : meetOf c N = none := find_none hm
      unfold layV
      rw [e]
      repeat' ((conv => whnf); first | refine And.intro ?_ ?_ | with_reducible exact VC.mk rfl | exact Ok.mk | exact True.intro | refine Nx.mk ?_ | refine Fin.mk ?_ | intro _)
      all_goals ((try refine VC.mk ?_); (try simp only [CL.ncell, CL.cnt, vq] at *); (try omega))
      · rw [gAt_len]; exact Nat.le_refl _
      refine Sup.via ?_
      repeat' ((conv => whnf); first | refine And.intro ?_ ?_ | with_reducible exact VC.mk rfl | exact Ok.mk | exact True.intro | refine Nx.mk ?_ | refine Fin.mk ?_ | intro _)
      all_goals ((try refine VC.mk ?_); (try simp only [CL.ncell, CL.cnt, vq] at *); (try omega))
      simp [CL.sub, List.take_of_length_le, gAt_len]
def layP : PSp := fun xs K => match xs with
  | [.agg [.int .i64 n, .int .i64 s0, .int .i64 s1, .int .i64 x0, .int .i64 x1, .int .i64 b0, .int .i64 b1]] => VC ((1 ≤ n ∧ n ≤ 16) ∧ ∀ x ∈ [s0, s1, x0, x1, b0, b1], 0 ≤ x ∧ x < n) ∧ K (layV n (cellN n s0 s1 x0 x1 b0 b1) (n * n).toNat)
  | _ => False
theorem lay_ok : POK Tryz.prog 42 layP := by
  intro xs K h
  unfold layP at h
  split at h
  · exact ⟨_, h.2, lay_spec _ _ _ _ _ _ _ h.1.get.1 h.1.get.2⟩
  · exact h.elim
/-! the reference -/
end Go.Eng.YtobnbkoeocdhbaaGreatDoor
namespace Go.Eng.YtobnbkoeocdhbaaGreatDoor
open Go.Proofs
set_option maxRecDepth 100000
set_option maxHeartbeats 0
set_option linter.unusedVariables false
set_option linter.unusedSimpArgs false
/-- the first place at which a condition holds, or -1 -/
def firstAt (p : Nat → Bool) (n : Nat) : Int := match (List.range n).find? p with
  | some i => i
  | none => -1
theorem firstAt_none {p : Nat → Bool} {n : Nat} (h : ∀ i, i < n → p i = false) : firstAt p n = -1 := by unfold firstAt; rw [find_none h]
theorem firstAt_some {p : Nat → Bool} {n y : Nat} (hy : y < n) (hp : p y = true) (h : ∀ i, i < y → p i = false) : firstAt p n = y := by unfold firstAt; rw [find_some hy hp h]
theorem firstAt_nonneg {p : Nat → Bool} {n : Nat} : decide (0 ≤ firstAt p n) = (List.range n).any p := by
  unfold firstAt
  cases h : (List.range n).find? p with
  | some i =>
    have := List.find?_some h
    have hm := List.mem_of_find?_eq_some h
    rw [List.any_eq_true.2 ⟨i, hm, this⟩]; simp
  | none =>
    rw [List.find?_eq_none] at h
    rw [List.any_eq_false.2 (fun x hx => h x hx)]; simp
theorem any_range {α : Type} (p : α → Bool) (d : α) (l : List α) : (List.range l.length).any (fun i => p (l.getD i d)) = l.any p := by
  rw [Bool.eq_iff_iff, List.any_eq_true, List.any_eq_true]
  constructor
  · rintro ⟨i, hi, h⟩
    have hi := List.mem_range.1 hi
    rw [List.getD_eq_getElem?_getD, List.getElem?_eq_getElem hi] at h
    exact ⟨l[i], List.getElem_mem hi, h⟩
  · rintro ⟨x, hx, h⟩
    obtain ⟨i, hi, rfl⟩ := List.getElem_of_mem hx
    exact ⟨i, List.mem_range.2 hi, by rw [List.getD_eq_getElem?_getD, List.getElem?_eq_getElem hi]; exact h⟩
def idxFP : PSp := fun xs K => match xs with
  | [.isl (.ints .i64 l) .none, .fn (.func f) fs cs] => VC (l.length ≤ 2000000) ∧ ∃ p : Int → Bool, (∀ x ∈ l, PSpec Tryz.prog f (fs ++ [.int .i64 x] ++ cs) (.bp (p x))) ∧ K (.int .i64 (firstAt (fun i => p (l.getD i 0)) l.length))
  | _ => False
theorem idxF_spec (l : List Int) (hl : l.length ≤ 2000000) (f : Nat) (fs cs : List PV) (p : Int → Bool) (hp : ∀ x ∈ l, PSpec Tryz.prog f (fs ++ [.int .i64 x] ++ cs) (.bp (p x))) :
    PSpec Tryz.prog 96 [.isl (.ints .i64 l) .none, .fn (.func f) fs cs] (.int .i64 (firstAt (fun i => p (l.getD i 0)) l.length)) := by
  refine pspec_open 1 (enters' Tryz.func96 (by rfl) (by rfl)) rfl (by simp) fun S0 w0 us vs hu hv => ?_
  have hY : ∀ r, YPOK Tryz.prog r (fromB S0 w0) (fnY f us vs fun xs K => match xs with
      | [.int .i64 x] => VC (x ∈ l) ∧ K (.bp (p x))
      | _ => False) := fun r => fnY_ok (fs := fs) (cs := cs) (fun S w hb => ⟨hu.mono hb (.refl _), hv.mono hb (.refl _)⟩) fun xs K hk => by
    split at hk
    · exact ⟨_, hk.2, hp _ hk.1.get⟩
    · exact hk.elim
  have W : Walk Tryz.prog none (fromB S0 w0) tab.get noC _ := ⟨fromB_ok, mixed, tabOK, noC_ok.up _, hY none⟩
  refine pspecB_of fromB_ok mixed tabOK (md := 1) (rf := []) (noC_ok.up _) (hY none) Tryz.func96 (by rfl) (by rfl) ?_
  repeat' ((conv => whnf); first | refine And.intro ?_ ?_ | with_reducible exact VC.mk rfl | exact Ok.mk | exact True.intro | refine Nx.mk ?_ | refine Fin.mk ?_ | intro _)
  all_goals ((try refine VC.mk ?_); (try simp only [CL.ncell, CL.cnt, vq] at *); (try omega))
  conv => whnf
  refine loop_of (X := Nat) (fun i => i ≤ l.length ∧ ∀ j, j < i → p (l.getD j 0) = false) (fun i => [(8, .int .i64 i)]) (fun i => []) (fun i => l.length - i) 0 W (by rfl) ⟨by omega, fun j hj => by omega⟩ ?_ ?_
  · repeat' ((conv => whnf); first | refine And.intro ?_ ?_ | with_reducible exact VC.mk rfl | exact Ok.mk | exact True.intro | refine Nx.mk ?_ | refine Fin.mk ?_ | intro _)
    all_goals ((try refine VC.mk ?_); (try simp only [CL.ncell, CL.cnt, vq] at *); (try omega))
  · rintro i ⟨hi, hok⟩
    by_cases hlt : i < l.length
    · have hm : l.getD i 0 ∈ l := by rw [List.getD_eq_getElem?_getD, List.getElem?_eq_getElem hlt]; exact List.getElem_mem hlt
      repeat' ((conv => whnf); first | refine And.intro ?_ ?_ | with_reducible exact VC.mk rfl | exact Ok.mk | exact True.intro | refine Nx.mk ?_ | refine Fin.mk ?_ | intro _)
      all_goals ((try refine VC.mk ?_); (try simp only [CL.ncell, CL.cnt, vq] at *); (try omega))
      · rw [firstAt_some hlt ‹p (l.getD i 0) = true› hok]; exact Sup.of rfl
      · refine ⟨i + 1, [], ⟨⟨by omega, fun j hj => ?_⟩, by omega⟩, ?_⟩
        · by_cases e : j = i
          · subst e; assumption
          · exact hok j (by omega)
        · repeat' ((conv => whnf); first | refine And.intro ?_ ?_ | with_reducible exact VC.mk rfl | exact Ok.mk | exact True.intro | refine Nx.mk ?_ | refine Fin.mk ?_ | intro _)
          all_goals ((try refine VC.mk ?_); (try simp only [CL.ncell, CL.cnt, vq] at *); (try omega))
    · have : i = l.length := by omega
      subst this
      rw [firstAt_none hok]
      repeat' ((conv => whnf); first | refine And.intro ?_ ?_ | with_reducible exact VC.mk rfl | exact Ok.mk | exact True.intro | refine Nx.mk ?_ | refine Fin.mk ?_ | intro _)
      all_goals ((try refine VC.mk ?_); (try simp only [CL.ncell, CL.cnt, vq] at *); (try omega))
      exact Sup.of rfl
theorem idxF_ok : POK Tryz.prog 96 idxFP := by
  intro xs K h
  unfold idxFP at h
  split at h
  · obtain ⟨⟨h1⟩, p, h2, hK⟩ := h
    exact ⟨_, hK, idxF_spec _ h1 _ _ _ p h2⟩
  · exact h.elim
def hasFP : PSp := fun xs K => match xs with
  | [.isl (.ints .i64 l) .none, .fn (.func f) fs cs] => VC (l.length ≤ 2000000 ∧ inlE.inlF fs = true ∧ inlE.inlF cs = true) ∧ ∃ p : Int → Bool, (∀ x ∈ l, PSpec Tryz.prog f (fs ++ [.int .i64 x] ++ cs) (.bp (p x))) ∧ K (.bp (l.any p))
  | _ => False
theorem hasF_spec (l : List Int) (hl : l.length ≤ 2000000) (f : Nat) (fs cs : List PV) (hfs : inlE.inlF fs = true) (hcs : inlE.inlF cs = true) (p : Int → Bool) (hp : ∀ x ∈ l, PSpec Tryz.prog f (fs ++ [.int .i64 x] ++ cs) (.bp (p x))) :
    PSpec Tryz.prog 86 [.isl (.ints .i64 l) .none, .fn (.func f) fs cs] (.bp (l.any p)) := by
  have hc : CPOK Tryz.prog (cpAdd 96 (pureCC idxFP) noC) := cpAdd_ok (pureCC_ok idxF_ok) noC_ok
  refine pspec_of (md := 1) (rf := []) mixed tabOK hc Tryz.func86 (by rfl) (by rfl) (by rfl) ?_
  repeat' ((conv => whnf); first | refine And.intro ?_ ?_ | with_reducible exact VC.mk rfl | exact Ok.mk | exact True.intro | refine Nx.mk ?_ | refine Fin.mk ?_ | intro _)
  conv => whnf
  simp only [pureCC, pureK, pureEs, pureE, inlE, hfs, hcs]
  repeat' ((conv => whnf); first | refine And.intro ?_ ?_ | with_reducible exact VC.mk rfl | exact Ok.mk | exact True.intro | refine Nx.mk ?_ | refine Fin.mk ?_ | intro _)
  all_goals ((try refine VC.mk ?_); (try simp only [CL.ncell, CL.cnt, vq] at *); (try omega))
  refine ⟨p, hp, ?_⟩
  repeat' ((conv => whnf); first | refine And.intro ?_ ?_ | with_reducible exact VC.mk rfl | exact Ok.mk | exact True.intro | refine Nx.mk ?_ | refine Fin.mk ?_ | intro _)
  all_goals ((try refine VC.mk ?_); (try simp only [CL.ncell, CL.cnt, vq] at *); (try omega))
  refine Sup.via ?_
  repeat' ((conv => whnf); first | refine And.intro ?_ ?_ | with_reducible exact VC.mk rfl | exact Ok.mk | exact True.intro | refine Nx.mk ?_ | refine Fin.mk ?_ | intro _)
  refine VC.mk ?_
  rw [firstAt_nonneg, any_range]
theorem hasF_ok : POK Tryz.prog 86 hasFP := by
  intro xs K h
  unfold hasFP at h
  split at h
  · obtain ⟨⟨h1, h3, h4⟩, p, h2, hK⟩ := h
    exact ⟨_, hK, hasF_spec _ h1 _ _ _ h3 h4 p h2⟩
  · exact h.elim
end Go.Eng.YtobnbkoeocdhbaaGreatDoor
namespace Go.Eng.YtobnbkoeocdhbaaGreatDoor
set_option linter.unusedVariables false
set_option linter.unusedSimpArgs false
open Go.Proofs
def sumAt (cs l : List Int) (i : Nat) : Int := (l.take i).foldl (fun s c => s + cs.getD c.toNat 0) 0
theorem sumAt_succ (cs l : List Int) (i : Nat) (h : i < l.length) : sumAt cs l (i + 1) = sumAt cs l i + cs.getD (l.getD i 0).toNat 0 := by
  unfold sumAt
  rw [List.take_add_one, List.foldl_append]
  simp [h]
end Go.Eng.YtobnbkoeocdhbaaGreatDoor
namespace Go.Eng.YtobnbkoeocdhbaaGreatDoor
open Go.Proofs
set_option maxRecDepth 100000
set_option maxHeartbeats 0
set_option linter.unusedVariables false
set_option linter.unusedSimpArgs false
theorem lineAt_len (n i : Nat) : (lineAt n i).length = n := by
  unfold lineAt
  repeat' split
  all_goals simp [rowL, colL]
/-- the sum of a line -/
def lineSum (n : Nat) (l : List Int) (i : Nat) : Int := sumAt l (lineAt n i) n
def lineOk (n : Nat) (l : List Int) (i : Nat) : Bool := decide (lineSum n l i = constOf n)
end Go.Eng.YtobnbkoeocdhbaaGreatDoor
namespace Go.Eng.YtobnbkoeocdhbaaGreatDoor
open Go.Proofs
set_option maxRecDepth 100000
set_option maxHeartbeats 0
set_option linter.unusedVariables false
set_option linter.unusedSimpArgs false
theorem emod_all {n : Int} (hn : 1 ≤ n) (s0 s1 x0 x1 b0 b1 : Int) : ∀ x ∈ [s0 % n, s1 % n, x0 % n, x1 % n, b0 % n, b1 % n], 0 ≤ x ∧ x < n := by
  have hm : ∀ y : Int, 0 ≤ y % n ∧ y % n < n := fun y => ⟨Int.emod_nonneg _ (by omega), Int.emod_lt_of_pos _ (by omega)⟩
  intro x hx
  simp only [List.mem_cons, List.not_mem_nil, or_false] at hx
  rcases hx with rfl | rfl | rfl | rfl | rfl | rfl <;> exact hm _
/-- the cells of a rule -/
abbrev cellS (n s0 s1 x0 x1 b0 b1 : Int) : Nat → Nat := cellN n (s0 % n) (s1 % n) (x0 % n) (x1 % n) (b0 % n) (b1 % n)
/-! Uniform -/
end Go.Eng.YtobnbkoeocdhbaaGreatDoor
namespace Go.Eng.YtobnbkoeocdhbaaGreatDoor
open Go.Proofs
set_option maxRecDepth 100000
set_option maxHeartbeats 0
set_option linter.unusedVariables false
set_option linter.unusedSimpArgs false
/-! Place -/
end Go.Eng.YtobnbkoeocdhbaaGreatDoor
namespace Go.Eng.YtobnbkoeocdhbaaGreatDoor
open Go.Proofs
set_option maxRecDepth 100000
set_option maxHeartbeats 0
set_option linter.unusedVariables false
set_option linter.unusedSimpArgs false
theorem sup_b {b : Bool} : Sup (.bp b) (.bool b) := ⟨fun h => by cases h; exact .bool _ _⟩
/-- a contract at given values, under a condition -/
def atC (C : Prop) (as0 : List PV) (v : PV) : PSp := fun xs K => VC C ∧ VC (xs = as0) ∧ K v
theorem atC_ok {g : FuncId} {C : Prop} {as0 : List PV} {v : PV} (h : C → PSpec Tryz.prog g as0 v) : POK Tryz.prog g (atC C as0 v) := by
  rintro xs K ⟨⟨hc⟩, ⟨rfl⟩, hk⟩
  exact ⟨v, hk, h hc⟩
theorem sup_true : Sup (resOf [PV.bool true]) (.bp true) := ⟨fun h => by cases h; exact .bp _ _⟩
end Go.Eng.YtobnbkoeocdhbaaGreatDoor
namespace Go.Eng.YtobnbkoeocdhbaaGreatDoor
open Go.Proofs
set_option maxRecDepth 100000
set_option maxHeartbeats 0
set_option linter.unusedVariables false
set_option linter.unusedSimpArgs false
def coprime (n a : Int) : Bool := decide (Int.gcd (a % n) n = 1)
def isSq (n x0 x1 b0 b1 : Int) : Bool := coprime n (x0 * b1 - x1 * b0)
end Go.Eng.YtobnbkoeocdhbaaGreatDoor
namespace Go.Eng.YtobnbkoeocdhbaaGreatDoor
open Go.Proofs
set_option maxRecDepth 100000
set_option maxHeartbeats 0
set_option linter.unusedVariables false
set_option linter.unusedSimpArgs false
end Go.Eng.YtobnbkoeocdhbaaGreatDoor
namespace Go.Eng.YtobnbkoeocdhbaaGreatDoor
set_option linter.unusedSimpArgs false
open Go.Proofs
set_option linter.unusedVariables false
/-- what is free of earlier numbers -/
theorem gAt_free (c : Nat → Nat) (N : Nat) : ∀ (x i : Nat), (∀ j, j < x → c j ≠ i) → (gAt c N x).getD i 0 = 0 := by
  intro x
  induction x with
  | zero =>
    intro i _
    rw [gAt_zero, List.getD_eq_getElem?_getD, List.getElem?_replicate]
    split <;> rfl
  | succ x ih =>
    intro i h
    rw [gAt_succ, List.getD_eq_getElem?_getD, List.getElem?_set_ne (h x (by omega)), ← List.getD_eq_getElem?_getD]
    exact ih i fun j hj => h j (by omega)
theorem meetOf_none {c : Nat → Nat} {N : Nat} (h : ∀ i j, i < j → j < N → c i ≠ c j) : meetOf c N = none := by
  refine find_none fun y hy => ?_
  unfold meetAt
  rw [gAt_free c N y (c y) fun j hj => h j y hj hy]
  simp
theorem dvd_of_coprime {n a b : Int} (h : Int.gcd (b % n) n = 1) (hd : n ∣ a * b) : n ∣ a := by
  have h1 : n ∣ a * (b % n) := by
    obtain ⟨k, hk⟩ := hd
    have := Int.emod_add_mul_ediv b n
    exact ⟨k - a * (b / n), by grind⟩
  have h2 := Int.natAbs_dvd_natAbs.2 h1
  rw [Int.natAbs_mul] at h2
  exact Int.natAbs_dvd_natAbs.1 (Nat.Coprime.dvd_of_dvd_mul_right (Nat.Coprime.symm h) h2)
theorem emod_eq_dvd {n a b : Int} (h : a % n = b % n) : n ∣ a - b := by
  rw [Int.dvd_iff_emod_eq_zero]; exact Int.emod_eq_emod_iff_emod_sub_eq_zero.1 h
theorem small_dvd {n a : Int} (hn : 0 < n) (h : n ∣ a) (h1 : -n < a) (h2 : a < n) : a = 0 := by
  obtain ⟨k, rfl⟩ := h
  have : k = 0 := by
    rcases Int.lt_trichotomy k 0 with hk | hk | hk
    · have := Int.mul_le_mul_of_nonneg_left (show k ≤ -1 by omega) (show 0 ≤ n by omega); omega
    · exact hk
    · have := Int.mul_le_mul_of_nonneg_left (show 1 ≤ k by omega) (show 0 ≤ n by omega); omega
  rw [this]; simp
theorem cell_inj {n s0 s1 x0 x1 b0 b1 : Int} (hn : 1 ≤ n) (hs : isSq n x0 x1 b0 b1 = true) (i j : Nat) (hi : (i : Int) < n * n) (hj : (j : Int) < n * n)
    (h : cellN n s0 s1 x0 x1 b0 b1 i = cellN n s0 s1 x0 x1 b0 b1 j) : i = j := by
  have hd : Int.gcd ((x0 * b1 - x1 * b0) % n) n = 1 := by
    unfold isSq coprime at hs
    exact of_decide_eq_true hs
  have ci := cellOf_bd n s0 s1 x0 x1 b0 b1 ((i : Int) + 1) (by omega)
  have cj := cellOf_bd n s0 s1 x0 x1 b0 b1 ((j : Int) + 1) (by omega)
  have he : cellOf n s0 s1 x0 x1 b0 b1 ((i : Int) + 1) = cellOf n s0 s1 x0 x1 b0 b1 ((j : Int) + 1) := by unfold cellN at h; omega
  rw [cellOf_eq, cellOf_eq] at he
  have r1 := rowOf_bd n s0 x0 b0 ((i : Int) + 1) (by omega)
  have r2 := rowOf_bd n s0 x0 b0 ((j : Int) + 1) (by omega)
  have q1 := rowOf_bd n s1 x1 b1 ((i : Int) + 1) (by omega)
  have q2 := rowOf_bd n s1 x1 b1 ((j : Int) + 1) (by omega)
  have er : rowOf n s0 x0 b0 ((i : Int) + 1) = rowOf n s0 x0 b0 ((j : Int) + 1) := by
    have := small_dvd (n := n) (a := rowOf n s1 x1 b1 ((j : Int) + 1) - rowOf n s1 x1 b1 ((i : Int) + 1)) (by omega) ⟨rowOf n s0 x0 b0 ((i : Int) + 1) - rowOf n s0 x0 b0 ((j : Int) + 1), by rw [Int.mul_sub, Int.mul_comm n, Int.mul_comm n]; omega⟩ (by omega) (by omega)
    have h0 : (rowOf n s0 x0 b0 ((i : Int) + 1) - rowOf n s0 x0 b0 ((j : Int) + 1)) * n = 0 := by rw [Int.sub_mul]; omega
    rcases Int.mul_eq_zero.1 h0 with h0 | h0 <;> omega
  have eq : rowOf n s1 x1 b1 ((i : Int) + 1) = rowOf n s1 x1 b1 ((j : Int) + 1) := by rw [er] at he; omega
  unfold rowOf at er eq
  simp only [Int.add_sub_cancel] at er eq
  have d1 := emod_eq_dvd er
  have d2 := emod_eq_dvd eq
  obtain ⟨a, ha⟩ : ∃ a, a = (i : Int) % n := ⟨_, rfl⟩
  obtain ⟨b, hb⟩ : ∃ b, b = (i : Int) / n := ⟨_, rfl⟩
  obtain ⟨a', ha'⟩ : ∃ a, a = (j : Int) % n := ⟨_, rfl⟩
  obtain ⟨b', hb'⟩ : ∃ b, b = (j : Int) / n := ⟨_, rfl⟩
  rw [← ha, ← hb, ← ha', ← hb'] at d1 d2
  have e1 : n ∣ (a - a') * (x0 * b1 - x1 * b0) := by
    obtain ⟨k1, h1⟩ := d1
    obtain ⟨k2, h2⟩ := d2
    exact ⟨k1 * b1 - k2 * b0, by grind⟩
  have e2 : n ∣ (b - b') * (x0 * b1 - x1 * b0) := by
    obtain ⟨k1, h1⟩ := d1
    obtain ⟨k2, h2⟩ := d2
    exact ⟨k2 * x0 - k1 * x1, by grind⟩
  have f1 := small_dvd (by omega) (dvd_of_coprime hd e1) (by have := Int.emod_nonneg (i : Int) (show n ≠ 0 by omega); have := Int.emod_lt_of_pos (j : Int) (show 0 < n by omega); omega) (by have := Int.emod_nonneg (j : Int) (show n ≠ 0 by omega); have := Int.emod_lt_of_pos (i : Int) (show 0 < n by omega); omega)
  have hbi : 0 ≤ b ∧ b < n := ⟨by rw [hb]; exact Int.ediv_nonneg (by omega) (by omega), by rw [hb]; exact Int.ediv_lt_of_lt_mul (by omega) hi⟩
  have hbj : 0 ≤ b' ∧ b' < n := ⟨by rw [hb']; exact Int.ediv_nonneg (by omega) (by omega), by rw [hb']; exact Int.ediv_lt_of_lt_mul (by omega) hj⟩
  have f2 := small_dvd (by omega) (dvd_of_coprime hd e2) (by omega) (by omega)
  have g1 := Int.emod_add_mul_ediv (i : Int) n
  have g2 := Int.emod_add_mul_ediv (j : Int) n
  rw [← ha, ← hb] at g1
  rw [← ha', ← hb'] at g2
  have : b = b' := by omega
  rw [this] at g1
  omega
theorem pigeon : ∀ (N : Nat) (c : Nat → Nat), (∀ i, i < N + 1 → c i < N) → ∃ i j, i < j ∧ j < N + 1 ∧ c i = c j := by
  intro N
  induction N with
  | zero => intro c h; have := h 0 (by omega); omega
  | succ N ih =>
    intro c h
    by_cases hv : ∃ i, i < N + 1 ∧ c i = c (N + 1)
    · obtain ⟨i, h1, h2⟩ := hv; exact ⟨i, N + 1, by omega, by omega, h2⟩
    · have hne : ∀ i, i < N + 1 → c i ≠ c (N + 1) := fun i hi e => hv ⟨i, hi, e⟩
      have hl := h (N + 1) (by omega)
      obtain ⟨i, j, h1, h2, h3⟩ := ih (fun i => if c i = N then c (N + 1) else c i) (fun i hi => by
        have a := h i (by omega)
        have b := hne i hi
        by_cases e : c i = N
        · simp only [e, if_true]; omega
        · simp only [e, if_false]; omega)
      refine ⟨i, j, h1, by omega, ?_⟩
      have a := hne i (by omega)
      have b := hne j (by omega)
      by_cases e1 : c i = N
      · by_cases e2 : c j = N
        · omega
        · simp only [e1, e2, if_true, if_false] at h3; omega
      · by_cases e2 : c j = N
        · simp only [e1, e2, if_true, if_false] at h3; omega
        · simp only [e1, e2, if_false] at h3; exact h3
theorem inj_surj {c : Nat → Nat} {N : Nat} (hb : ∀ i, i < N → c i < N) (h : ∀ i j, i < j → j < N → c i ≠ c j) (y : Nat) (hy : y < N) : ∃ i, i < N ∧ c i = y := by
  rcases Classical.em (∃ i, i < N ∧ c i = y) with hh | hh
  · exact hh
  · exfalso
    have hne : ∀ i, i < N → c i ≠ y := fun i hi e => hh ⟨i, hi, e⟩
    obtain ⟨M, rfl⟩ : ∃ M, N = M + 1 := ⟨N - 1, by omega⟩
    obtain ⟨i, j, h1, h2, h3⟩ := pigeon M (fun i => if c i = M then y else c i) (fun i hi => by
      have a := hb i hi
      have b := hne i hi
      by_cases e : c i = M
      · simp only [e, if_true]; omega
      · simp only [e, if_false]; omega)
    have a := hne i (by omega)
    have b := hne j (by omega)
    have d := h i j h1 h2
    by_cases e1 : c i = M
    · by_cases e2 : c j = M
      · omega
      · simp only [e1, e2, if_true, if_false] at h3; omega
    · by_cases e2 : c j = M
      · simp only [e1, e2, if_true, if_false] at h3; omega
      · simp only [e1, e2, if_false] at h3; omega
theorem meet_none {n s0 s1 x0 x1 b0 b1 : Int} (hn : 1 ≤ n) (hs : isSq n x0 x1 b0 b1 = true) : meetOf (cellN n s0 s1 x0 x1 b0 b1) (n * n).toNat = none :=
  meetOf_none fun i j hij hj h => by
    have := cell_inj hn hs i j (by omega) (by omega) h
    omega
end Go.Eng.YtobnbkoeocdhbaaGreatDoor
namespace Go.Eng.YtobnbkoeocdhbaaGreatDoor
open Go.Proofs
set_option maxRecDepth 100000
set_option maxHeartbeats 0
set_option linter.unusedVariables false
set_option linter.unusedSimpArgs false
/-! the table of kinds -/
/-! known -/
end Go.Eng.YtobnbkoeocdhbaaGreatDoor
namespace Go.Eng.YtobnbkoeocdhbaaGreatDoor
open Go.Proofs
set_option maxRecDepth 100000
set_option maxHeartbeats 0
set_option linter.unusedVariables false
set_option linter.unusedSimpArgs false
/-! Admits -/
end Go.Eng.YtobnbkoeocdhbaaGreatDoor
namespace Go.Eng.YtobnbkoeocdhbaaGreatDoor
open Go.Proofs
set_option maxRecDepth 100000
set_option maxHeartbeats 0
set_option linter.unusedVariables false
set_option linter.unusedSimpArgs false
/-! the sum of some cells -/
/-! all lines -/
def linesTo (n m : Nat) : List (List Int) := (List.range m).map (lineAt n)
theorem emod_of_sub {a b n k : Int} (h : a - b = n * k) : a % n = b % n := by
  have : a = b + n * k := by omega
  rw [this, Int.add_mul_emod_self_left]
end Go.Eng.YtobnbkoeocdhbaaGreatDoor
namespace Go.Eng.YtobnbkoeocdhbaaGreatDoor
open Go.Proofs
set_option maxRecDepth 100000
set_option maxHeartbeats 0
set_option linter.unusedVariables false
set_option linter.unusedSimpArgs false
/-- the first line of the first groups whose sum is wrong -/
def badLine (n : Nat) (g : Int) (l : List Int) : Option Nat := (List.range (lineCnt n g)).find? (fun i => !lineOk n l i)
end Go.Eng.YtobnbkoeocdhbaaGreatDoor
namespace Go.Eng.YtobnbkoeocdhbaaGreatDoor
open Go.Proofs
set_option maxRecDepth 100000
set_option maxHeartbeats 0
set_option linter.unusedVariables false
set_option linter.unusedSimpArgs false
/-! the first line with another sum -/
/-! refusals -/
end Go.Eng.YtobnbkoeocdhbaaGreatDoor
namespace Go.Eng.YtobnbkoeocdhbaaGreatDoor
open Go.Proofs
set_option maxRecDepth 100000
set_option maxHeartbeats 0
set_option linter.unusedVariables false
set_option linter.unusedSimpArgs false
def sumF (f : Nat → Int) : Nat → Int
  | 0 => 0
  | n + 1 => sumF f n + f n
theorem sumF_congr {f g : Nat → Int} : ∀ {n : Nat}, (∀ i, i < n → f i = g i) → sumF f n = sumF g n := by
  intro n
  induction n with
  | zero => intro _; rfl
  | succ n ih => intro h; simp only [sumF]; rw [ih fun i hi => h i (by omega), h n (by omega)]
theorem sumF_add (f g : Nat → Int) : ∀ n : Nat, sumF (fun i => f i + g i) n = sumF f n + sumF g n := by
  intro n
  induction n with
  | zero => rfl
  | succ n ih => simp only [sumF, ih]; omega
theorem sumF_mul (c : Int) (f : Nat → Int) : ∀ n : Nat, sumF (fun i => c * f i) n = c * sumF f n := by
  intro n
  induction n with
  | zero => simp [sumF]
  | succ n ih => simp only [sumF, ih, Int.mul_add]
theorem sumF_const (c : Int) : ∀ n : Nat, sumF (fun _ => c) n = n * c := by
  intro n
  induction n with
  | zero => simp [sumF]
  | succ n ih => simp only [sumF, ih]; push_cast; rw [Int.add_mul]; omega
/-! the sum of some cells -/
theorem sumAt_map (L : List Int) (c : Nat → Int) (m : Nat) : ∀ t, t ≤ m → sumAt L ((List.range m).map c) t = sumF (fun i => L.getD (c i).toNat 0) t := by
  intro t
  induction t with
  | zero => intro _; simp [sumAt, sumF]
  | succ t ih =>
    intro h
    rw [sumAt_succ _ _ _ (by simp; omega), ih (by omega), sumF]
    congr 2
    have : ((List.range m).map c).getD t 0 = c t := by
      rw [List.getD_eq_getElem?_getD, List.getElem?_map, List.getElem?_range (by omega)]; rfl
    rw [this]
theorem sumAt_colL (L : List Int) (n : Nat) (h : Nat → Int) : sumAt L (colL n h n) n = sumF (fun i => L.getD (n * i + (h i % n).toNat) 0) n := by
  unfold colL
  rw [sumAt_map _ _ _ _ (Nat.le_refl _)]
  refine sumF_congr fun i hi => ?_
  have h1 : 0 ≤ h i % n := Int.emod_nonneg _ (by omega)
  congr 1
  have : (n : Int) * i + h i % n = ((n * i + (h i % n).toNat : Nat) : Int) := by push_cast; rw [Int.toNat_of_nonneg h1]
  rw [this, Int.toNat_natCast]
theorem ls_row (n : Nat) (L : List Int) (i : Nat) (hi : i < n) : lineSum n L i = sumF (fun j => L.getD (n * i + j) 0) n := by
  unfold lineSum
  rw [lineAt_row hi]
  unfold rowL
  rw [sumAt_map _ _ _ _ (Nat.le_refl _)]
  refine sumF_congr fun j hj => ?_
  rfl
theorem ls_col (n : Nat) (L : List Int) (j : Nat) (hj : j < n) : lineSum n L (n + j) = sumF (fun i => L.getD (n * i + j) 0) n := by
  unfold lineSum
  rw [lineAt_col hj, sumAt_colL]
  refine sumF_congr fun i hi => ?_
  rw [Int.emod_eq_of_lt (by omega) (by omega), Int.toNat_natCast]
def upI (n k : Nat) : Nat := if k = 0 then 2 * n else 2 * n + 1 + k
def dnI (n k : Nat) : Nat := if k + 1 = n then 2 * n + 1 else 3 * n + 1 + k
theorem toNat_emod_cast (n : Nat) (hn : 1 ≤ n) (x : Int) (y : Nat) (k : Int) (h : x - y = n * k) : (x % n).toNat = y % n := by
  rw [emod_of_sub h, ← Int.natCast_emod, Int.toNat_natCast]
theorem ls_up (n : Nat) (L : List Int) (k : Nat) (hk : k < n) : lineSum n L (upI n k) = sumF (fun i => L.getD (n * i + (i + k) % n) 0) n := by
  unfold lineSum upI
  by_cases h : k = 0
  · subst h
    rw [if_pos rfl, lineAt_d1, sumAt_colL]
    refine sumF_congr fun i hi => ?_
    rw [toNat_emod_cast n (by omega) _ (i + 0) 0 (by simp)]
  · obtain ⟨q, rfl⟩ : ∃ q, k = q + 1 := ⟨k - 1, by omega⟩
    rw [if_neg h, show 2 * n + 1 + (q + 1) = 2 * n + 2 + q by omega, lineAt_b1 (by omega), sumAt_colL]
    refine sumF_congr fun i hi => ?_
    rw [toNat_emod_cast n (by omega) _ (i + (q + 1)) 0 (by simp)]
theorem ls_dn (n : Nat) (L : List Int) (k : Nat) (hk : k < n) : lineSum n L (dnI n k) = sumF (fun i => L.getD (n * i + (k + n - i) % n) 0) n := by
  unfold lineSum dnI
  by_cases h : k + 1 = n
  · rw [if_pos h, lineAt_d2, sumAt_colL]
    refine sumF_congr fun i hi => ?_
    rw [toNat_emod_cast n (by omega) _ (k + n - i) (-1) (by omega)]
  · rw [if_neg h, lineAt_b2 (by omega), sumAt_colL]
    refine sumF_congr fun i hi => ?_
    rw [toNat_emod_cast n (by omega) _ (k + n - i) (-1) (by omega)]
/-- the lines of the first groups have the sum -/
structure GoodK (n : Nat) (g : Int) (f : Nat → Nat → Int) (c : Int) : Prop where
  row : 1 ≤ g → ∀ i, i < n → sumF (fun j => f i j) n = c
  col : 1 ≤ g → ∀ j, j < n → sumF (fun i => f i j) n = c
  d1 : 2 ≤ g → sumF (fun i => f i i) n = c
  d2 : 2 ≤ g → sumF (fun i => f i (n - 1 - i)) n = c
  up : 3 ≤ g → ∀ k, k < n → sumF (fun i => f i ((i + k) % n)) n = c
  dn : 3 ≤ g → ∀ k, k < n → sumF (fun i => f i ((k + n - i) % n)) n = c
theorem dn_last (n : Nat) (f : Nat → Nat → Int) : sumF (fun i => f i ((n - 1 + n - i) % n)) n = sumF (fun i => f i (n - 1 - i)) n := by
  refine sumF_congr fun i hi => ?_
  congr 1
  rw [show n - 1 + n - i = (n - 1 - i) + n by omega, Nat.add_mod_right, Nat.mod_eq_of_lt (by omega)]
theorem up_first (n : Nat) (f : Nat → Nat → Int) : sumF (fun i => f i ((i + 0) % n)) n = sumF (fun i => f i i) n := by
  refine sumF_congr fun i hi => ?_
  rw [Nat.add_zero, Nat.mod_eq_of_lt hi]
def sqAt (n : Nat) (L : List Int) (i j : Nat) : Int := L.getD (n * i + j) 0
theorem badLine_iff {n : Nat} (hn : 1 ≤ n) (g : Int) (L : List Int) : badLine n g L = none ↔ ∀ i, i < lineCnt n g → lineSum n L i = constOf n := by
  unfold badLine
  rw [List.find?_eq_none]
  simp only [List.mem_range, Bool.not_eq_true', Bool.not_eq_false, lineOk, decide_eq_true_eq]
theorem line_cases {n i : Nat} (hi : i < 4 * n) : (i < n) ∨ (∃ j, j < n ∧ i = n + j) ∨ (∃ k, k < n ∧ i = upI n k) ∨ (∃ k, k < n ∧ i = dnI n k) := by
  by_cases h1 : i < n
  · exact .inl h1
  by_cases h2 : i < 2 * n
  · exact .inr (.inl ⟨i - n, by omega, by omega⟩)
  by_cases h3 : i = 2 * n
  · exact .inr (.inr (.inl ⟨0, by omega, by unfold upI; rw [if_pos rfl]; exact h3⟩))
  by_cases h4 : i = 2 * n + 1
  · exact .inr (.inr (.inr ⟨n - 1, by omega, by unfold dnI; rw [if_pos (by omega)]; exact h4⟩))
  by_cases h5 : i < 3 * n + 1
  · exact .inr (.inr (.inl ⟨i - (2 * n + 1), by omega, by unfold upI; rw [if_neg (by omega)]; omega⟩))
  · exact .inr (.inr (.inr ⟨i - (3 * n + 1), by omega, by unfold dnI; rw [if_neg (by omega)]; omega⟩))
theorem good_iff {n : Nat} (hn : 2 ≤ n ∨ n = 1) (g : Int) (L : List Int) : badLine n g L = none ↔ GoodK n g (sqAt n L) (constOf n) := by
  rw [badLine_iff (by omega)]
  have c1 : g < 1 → lineCnt n g = 0 := fun h => by unfold lineCnt; rw [if_pos h]
  have c2 : 1 ≤ g → 2 * n ≤ lineCnt n g := fun h => by unfold lineCnt; rw [if_neg (by omega)]; (repeat' split) <;> omega
  have c3 : 2 ≤ g → 2 * n + 2 ≤ lineCnt n g := fun h => by unfold lineCnt; rw [if_neg (by omega), if_neg (by omega)]; (repeat' split) <;> omega
  have c4 : 3 ≤ g → lineCnt n g = 4 * n := fun h => by unfold lineCnt; rw [if_neg (by omega), if_neg (by omega), if_neg (by omega)]
  have c5 : g < 2 → lineCnt n g ≤ 2 * n := fun h => by unfold lineCnt; (repeat' split) <;> omega
  have c6 : g < 3 → lineCnt n g ≤ 2 * n + 2 := fun h => by unfold lineCnt; (repeat' split) <;> omega
  constructor
  · intro h
    have hup : 3 ≤ g → ∀ k, k < n → sumF (fun i => sqAt n L i ((i + k) % n)) n = constOf n := fun hg k hk => by
      have := h (upI n k) (by rw [c4 hg]; unfold upI; split <;> omega)
      rwa [ls_up n L k hk] at this
    have hdn : 3 ≤ g → ∀ k, k < n → sumF (fun i => sqAt n L i ((k + n - i) % n)) n = constOf n := fun hg k hk => by
      have := h (dnI n k) (by rw [c4 hg]; unfold dnI; split <;> omega)
      rwa [ls_dn n L k hk] at this
    refine ⟨fun hg i hi => ?_, fun hg j hj => ?_, fun hg => ?_, fun hg => ?_, hup, hdn⟩
    · have := h i (by have := c2 hg; omega)
      rwa [ls_row n L i hi] at this
    · have := h (n + j) (by have := c2 hg; omega)
      rwa [ls_col n L j hj] at this
    · have := h (upI n 0) (by have := c3 hg; unfold upI; rw [if_pos rfl]; omega)
      rw [ls_up n L 0 (by omega)] at this
      rw [← up_first n (sqAt n L)]; exact this
    · have := h (dnI n (n - 1)) (by have := c3 hg; unfold dnI; rw [if_pos (by omega)]; omega)
      rw [ls_dn n L (n - 1) (by omega)] at this
      rw [← dn_last n (sqAt n L)]; exact this
  · intro h i hi
    have hg : 1 ≤ g := Classical.byContradiction fun hh => by rw [c1 (by omega)] at hi; omega
    have h4 : i < 4 * n := by
      by_cases h3 : 3 ≤ g
      · rw [c4 h3] at hi; exact hi
      · have := c6 (by omega)
        rcases hn with h2 | h2
        · omega
        · subst h2
          by_cases h22 : 2 ≤ g
          · have := c3 h22; omega
          · have := c5 (by omega); omega
    rcases line_cases h4 with h1 | ⟨j, h1, rfl⟩ | ⟨k, h1, rfl⟩ | ⟨k, h1, rfl⟩
    · rw [ls_row n L i h1]; exact h.row hg i h1
    · rw [ls_col n L j h1]; exact h.col hg j h1
    · rw [ls_up n L k h1]
      by_cases hk : k = 0
      · subst hk
        have h2 : 2 ≤ g := Classical.byContradiction fun hh => by have := c5 (by omega); unfold upI at hi; rw [if_pos rfl] at hi; omega
        have := h.d1 h2
        rw [← up_first n (sqAt n L)] at this; exact this
      · have h3 : 3 ≤ g := Classical.byContradiction fun hh => by have := c6 (by omega); unfold upI at hi; rw [if_neg hk] at hi; omega
        exact h.up h3 k h1
    · rw [ls_dn n L k h1]
      by_cases hk : k + 1 = n
      · obtain rfl : k = n - 1 := by omega
        have h2 : 2 ≤ g := Classical.byContradiction fun hh => by have := c5 (by omega); unfold dnI at hi; rw [if_pos (by omega)] at hi; omega
        have := h.d2 h2
        rw [← dn_last n (sqAt n L)] at this; exact this
      · have h3 : 3 ≤ g := Classical.byContradiction fun hh => by have := c6 (by omega); unfold dnI at hi; rw [if_neg hk] at hi; omega
        exact h.dn h3 k h1
/-! lists with each number once -/
theorem seen_iff (m : Nat) (l : List Int) (v : Nat) (hv : v < m) : ∀ i, i ≤ l.length → ((seenAt m l i).getD v false = true ↔ ∃ j, j < i ∧ (l.getD j 0).toNat = v) := by
  intro i
  induction i with
  | zero => intro _; simp only [seenAt, List.take_zero, List.foldl_nil]; rw [List.getD_eq_getElem?_getD, List.getElem?_replicate, if_pos hv]; simp
  | succ i ih =>
    intro hi
    rw [seenAt_succ m l i hi, List.getD_eq_getElem?_getD, List.getElem?_set]
    have hl := seenAt_len m l i
    by_cases e : (l.getD i 0).toNat = v
    · rw [if_pos e, if_pos (by omega)]
      simp only [Option.getD_some, true_iff]
      exact ⟨i, by omega, e⟩
    · rw [if_neg e, ← List.getD_eq_getElem?_getD, ih (by omega)]
      constructor
      · rintro ⟨j, h1, h2⟩; exact ⟨j, by omega, h2⟩
      · rintro ⟨j, h1, h2⟩
        by_cases ej : j = i
        · subst ej; exact absurd h2 e
        · exact ⟨j, by omega, h2⟩
theorem distinct_iff (lo : Int) (hlo : 0 ≤ lo) (m : Nat) (l : List Int) : distinctIn lo m l = true ↔ (∀ i, i < l.length → lo ≤ l.getD i 0 ∧ l.getD i 0 < m) ∧ ∀ i j, i < j → j < l.length → l.getD i 0 ≠ l.getD j 0 := by
  unfold distinctIn
  rw [List.all_eq_true]
  simp only [List.mem_range, okAt, Bool.and_eq_true, decide_eq_true_eq, Bool.not_eq_true']
  constructor
  · intro h
    refine ⟨fun i hi => (h i hi).1, fun i j hij hj e => ?_⟩
    have h2 := (h j hj).2
    have h3 := (h j hj).1
    have := (seen_iff m l (l.getD j 0).toNat (by omega) j (by omega)).2 ⟨i, hij, by rw [e]⟩
    rw [this] at h2; cases h2
  · rintro ⟨h1, h2⟩ i hi
    refine ⟨h1 i hi, ?_⟩
    have h3 := h1 i hi
    cases hs : (seenAt m l i).getD (l.getD i 0).toNat false with
    | false => rfl
    | true =>
      obtain ⟨j, hj, he⟩ := (seen_iff m l (l.getD i 0).toNat (by omega) i (by omega)).1 hs
      have h4 := h1 j (by omega)
      exact absurd (show l.getD j 0 = l.getD i 0 by omega) (h2 j i hj hi)
theorem isNorm_iff (l : List Int) : isNorm l = true ↔ (∀ i, i < l.length → 1 ≤ l.getD i 0 ∧ l.getD i 0 ≤ l.length) ∧ ∀ i j, i < j → j < l.length → l.getD i 0 ≠ l.getD j 0 := by
  unfold isNorm
  rw [distinct_iff 1 (by omega)]
  refine and_congr_left fun _ => ?_
  constructor
  · intro h i hi; have := h i hi; omega
  · intro h i hi; have := h i hi; omega
theorem norm_ne {l : List Int} (h : isNorm l = true) {i j : Nat} (hi : i < l.length) (hj : j < l.length) (hij : i ≠ j) : l.getD i 0 ≠ l.getD j 0 := by
  have h2 := ((isNorm_iff l).1 h).2
  rcases Nat.lt_or_gt_of_ne hij with h1 | h1
  · exact h2 i j h1 hj
  · exact fun e => h2 j i h1 hi e.symm
/-- squares made by a function -/
theorem madeL_get {n : Nat} {h : Nat → Nat → Int} {i j : Nat} (hi : i < n) (hj : j < n) : (madeL n h).getD (n * i + j) 0 = h i j := by
  have hlt : n * i + j < n * n := by
    have := Nat.mul_le_mul_left n (show i + 1 ≤ n by omega)
    rw [Nat.mul_add] at this; omega
  unfold madeL
  rw [List.getD_eq_getElem?_getD, List.getElem?_map, List.getElem?_range hlt]
  simp only [Option.map_some, Option.getD_some]
  rw [Nat.mul_add_div (by omega), Nat.div_eq_of_lt hj, Nat.mul_add_mod, Nat.mod_eq_of_lt hj, Nat.add_zero]
theorem GoodK.congr {n : Nat} {g : Int} {f f' : Nat → Nat → Int} {c : Int} (h : GoodK n g f c) (e : ∀ i j, i < n → j < n → f i j = f' i j) : GoodK n g f' c := by
  have key : ∀ p q : Nat → Nat, (∀ i, i < n → p i < n) → (∀ i, i < n → q i < n) → sumF (fun i => f (p i) (q i)) n = c → sumF (fun i => f' (p i) (q i)) n = c := fun p q hp hq h => by
    rw [← h]; exact sumF_congr fun i hi => (e _ _ (hp i hi) (hq i hi)).symm
  refine ⟨fun hg i hi => ?_, fun hg j hj => ?_, fun hg => ?_, fun hg => ?_, fun hg k hk => ?_, fun hg k hk => ?_⟩
  · exact key (fun _ => i) (fun j => j) (fun _ _ => hi) (fun j hj => hj) (h.row hg i hi)
  · exact key (fun i => i) (fun _ => j) (fun j hj => hj) (fun _ _ => hj) (h.col hg j hj)
  · exact key (fun i => i) (fun i => i) (fun j hj => hj) (fun j hj => hj) (h.d1 hg)
  · exact key (fun i => i) (fun i => n - 1 - i) (fun j hj => hj) (fun j hj => by (try simp only); omega) (h.d2 hg)
  · exact key (fun i => i) (fun i => (i + k) % n) (fun j hj => hj) (fun j hj => Nat.mod_lt _ (by omega)) (h.up hg k hk)
  · exact key (fun i => i) (fun i => (k + n - i) % n) (fun j hj => hj) (fun j hj => Nat.mod_lt _ (by omega)) (h.dn hg k hk)
end Go.Eng.YtobnbkoeocdhbaaGreatDoor
namespace Go.Eng.YtobnbkoeocdhbaaGreatDoor
open Go.Proofs
set_option maxRecDepth 100000
set_option maxHeartbeats 0
set_option linter.unusedVariables false
set_option linter.unusedSimpArgs false
def notTern (x : Int) : Bool := decide (x < 0 ∨ 2 < x)
theorem c156_spec (x : Int) : PSpec Tryz.prog 105 ([] ++ [.int .i64 x] ++ []) (.bp (notTern x)) := by
  refine pspec_of (md := 0) (rf := []) mixed tabOK noC_ok Tryz.func105 (by rfl) (by rfl) (by rfl) ?_
  repeat' ((conv => whnf); first | refine And.intro ?_ ?_ | with_reducible exact VC.mk rfl | exact Ok.mk | exact True.intro | refine Nx.mk ?_ | refine Fin.mk ?_ | intro _)
  all_goals ((try refine VC.mk ?_); (try simp only [CL.ncell, CL.cnt, vq] at *); (try omega))
  all_goals refine Sup.via ?_
  repeat' ((conv => whnf); first | refine And.intro ?_ ?_ | with_reducible exact VC.mk rfl | exact Ok.mk | exact True.intro | refine Nx.mk ?_ | refine Fin.mk ?_ | intro _)
  all_goals refine VC.mk ?_
  all_goals simp_all [notTern]
  all_goals (try omega)
abbrev bimForms : PV := .agg [.int .i64 0, .int .i64 1, .int .i64 1, .int .i64 0, .int .i64 2, .int .i64 0, .int .i64 0, .int .i64 1, .int .i64 1, .int .i64 2, .int .i64 1, .int .i64 1, .int .i64 2, .int .i64 2, .int .i64 1, .int .i64 2]
noncomputable def cpT1 : CPT := cpAdd 86 (viewCC hasFP) noC
theorem cpT1_ok : CPOK Tryz.prog cpT1 := cpAdd_ok (viewCC_ok hasF_ok) noC_ok
theorem cForms_spec : PSpec Tryz.prog 55 [bimForms] (.int .i64 0) := by
  refine pspec_of (md := 0) (rf := []) mixed tabOK cpT1_ok Tryz.func55 (by rfl) (by rfl) (by rfl) ?_
  repeat' ((conv => whnf); first | refine And.intro ?_ ?_ | with_reducible exact VC.mk rfl | exact Ok.mk | exact True.intro | refine Nx.mk ?_ | refine Fin.mk ?_ | intro _)
  conv => whnf
  refine loop_rounds 5 (rounds_succ ⟨anyB_ok, mixed, tabOK, cpT1_ok, noY_ok⟩ (by rfl) ?_)
  repeat' ((conv => whnf); first | refine And.intro ?_ ?_ | with_reducible exact VC.mk rfl | exact Ok.mk | exact True.intro | refine Nx.mk ?_ | refine Fin.mk ?_ | intro _)
  all_goals ((try refine VC.mk ?_); (try simp only [CL.ncell, CL.cnt, vq] at *); (try omega))
  · simp [show te57.size = 4 from rfl]
  · exact ⟨by simp, rfl⟩
  refine ⟨notTern, fun x _ => c156_spec x, ?_⟩
  repeat' ((conv => whnf); first | refine And.intro ?_ ?_ | with_reducible exact VC.mk rfl | exact Ok.mk | exact True.intro | refine Nx.mk ?_ | refine Fin.mk ?_ | intro _)
  · exact absurd ‹_ = true› (by decide)
  all_goals ((try refine VC.mk ?_); (try simp only [CL.ncell, CL.cnt, vq] at *); (try omega))
  conv => whnf
  refine rounds_succ ⟨anyB_ok, mixed, tabOK, cpT1_ok, noY_ok⟩ (by rfl) ?_
  repeat' ((conv => whnf); first | refine And.intro ?_ ?_ | with_reducible exact VC.mk rfl | exact Ok.mk | exact True.intro | refine Nx.mk ?_ | refine Fin.mk ?_ | intro _)
  all_goals ((try refine VC.mk ?_); (try simp only [CL.ncell, CL.cnt, vq] at *); (try omega))
  · simp [show te57.size = 4 from rfl]
  · exact ⟨by simp, rfl⟩
  refine ⟨notTern, fun x _ => c156_spec x, ?_⟩
  repeat' ((conv => whnf); first | refine And.intro ?_ ?_ | with_reducible exact VC.mk rfl | exact Ok.mk | exact True.intro | refine Nx.mk ?_ | refine Fin.mk ?_ | intro _)
  · exact absurd ‹_ = true› (by decide)
  all_goals ((try refine VC.mk ?_); (try simp only [CL.ncell, CL.cnt, vq] at *); (try omega))
  conv => whnf
  refine rounds_succ ⟨anyB_ok, mixed, tabOK, cpT1_ok, noY_ok⟩ (by rfl) ?_
  repeat' ((conv => whnf); first | refine And.intro ?_ ?_ | with_reducible exact VC.mk rfl | exact Ok.mk | exact True.intro | refine Nx.mk ?_ | refine Fin.mk ?_ | intro _)
  all_goals ((try refine VC.mk ?_); (try simp only [CL.ncell, CL.cnt, vq] at *); (try omega))
  · simp [show te57.size = 4 from rfl]
  · exact ⟨by simp, rfl⟩
  refine ⟨notTern, fun x _ => c156_spec x, ?_⟩
  repeat' ((conv => whnf); first | refine And.intro ?_ ?_ | with_reducible exact VC.mk rfl | exact Ok.mk | exact True.intro | refine Nx.mk ?_ | refine Fin.mk ?_ | intro _)
  · exact absurd ‹_ = true› (by decide)
  all_goals ((try refine VC.mk ?_); (try simp only [CL.ncell, CL.cnt, vq] at *); (try omega))
  conv => whnf
  refine rounds_succ ⟨anyB_ok, mixed, tabOK, cpT1_ok, noY_ok⟩ (by rfl) ?_
  repeat' ((conv => whnf); first | refine And.intro ?_ ?_ | with_reducible exact VC.mk rfl | exact Ok.mk | exact True.intro | refine Nx.mk ?_ | refine Fin.mk ?_ | intro _)
  all_goals ((try refine VC.mk ?_); (try simp only [CL.ncell, CL.cnt, vq] at *); (try omega))
  · simp [show te57.size = 4 from rfl]
  · exact ⟨by simp, rfl⟩
  refine ⟨notTern, fun x _ => c156_spec x, ?_⟩
  repeat' ((conv => whnf); first | refine And.intro ?_ ?_ | with_reducible exact VC.mk rfl | exact Ok.mk | exact True.intro | refine Nx.mk ?_ | refine Fin.mk ?_ | intro _)
  · exact absurd ‹_ = true› (by decide)
  all_goals ((try refine VC.mk ?_); (try simp only [CL.ncell, CL.cnt, vq] at *); (try omega))
  conv => whnf
  refine rounds_succ ⟨anyB_ok, mixed, tabOK, cpT1_ok, noY_ok⟩ (by rfl) ?_
  repeat' ((conv => whnf); first | refine And.intro ?_ ?_ | with_reducible exact VC.mk rfl | exact Ok.mk | exact True.intro | refine Nx.mk ?_ | refine Fin.mk ?_ | intro _)
  all_goals ((try refine VC.mk ?_); (try simp only [CL.ncell, CL.cnt, vq] at *); (try omega))
  all_goals (exact Sup.of rfl)
def cFormsP : PSp := fun xs K => match xs with
  | [.agg [.int .i64 0, .int .i64 1, .int .i64 1, .int .i64 0, .int .i64 2, .int .i64 0, .int .i64 0, .int .i64 1, .int .i64 1, .int .i64 2, .int .i64 1, .int .i64 1, .int .i64 2, .int .i64 2, .int .i64 1, .int .i64 2]] => VC (True) ∧ K (.int .i64 0)
  | _ => False
theorem cForms_ok : POK Tryz.prog 55 cFormsP := by
  intro xs K h
  unfold cFormsP at h
  split at h
  · exact ⟨_, h.2, cForms_spec⟩
  · exact h.elim
/-! the digits of the square -/
def dig (f0 f1 f2 f3 i j : Int) : Int := (f0 * (i / 3) + f1 * (i % 3) + f2 * (j / 3) + f3 * (j % 3)) % 3
def bimF (i j : Nat) : Int := 3 * (3 * (3 * (3 * 0 + dig 0 1 1 0 i j) + dig 2 0 0 1 i j) + dig 1 2 1 1 i j) + dig 2 2 1 2 i j + 1
theorem c148_spec (i j : Nat) (hi : i < 9) (hj : j < 9) : PSpec Tryz.prog 63 ([] ++ [.int .i64 i, .int .i64 j] ++ [.ip (.pv [.int .i64 0, .int .i64 1, .int .i64 1, .int .i64 0, .int .i64 2, .int .i64 0, .int .i64 0, .int .i64 1, .int .i64 1, .int .i64 2, .int .i64 1, .int .i64 1, .int .i64 2, .int .i64 2, .int .i64 1, .int .i64 2]) 0]) (.int .i64 (bimF i j)) := by
  refine pspec_of (md := 0) (rf := []) mixed tabOK noC_ok Tryz.func63 (by rfl) (by rfl) (by rfl) ?_
  repeat' ((conv => whnf); first | refine And.intro ?_ ?_ | with_reducible exact VC.mk rfl | exact Ok.mk | exact True.intro | refine Nx.mk ?_ | refine Fin.mk ?_ | intro _)
  conv => whnf
  refine loop_rounds 5 (rounds_succ ⟨anyB_ok, mixed, tabOK, noC_ok, noY_ok⟩ (by rfl) ?_)
  repeat' ((conv => whnf); first | refine And.intro ?_ ?_ | with_reducible exact VC.mk rfl | exact Ok.mk | exact True.intro | refine Nx.mk ?_ | refine Fin.mk ?_ | intro _)
  all_goals ((try refine VC.mk ?_); (try simp only [CL.ncell, CL.cnt, vq] at *); (try omega))
  · simp [show te57.size = 4 from rfl]
  conv => whnf
  refine rounds_succ ⟨anyB_ok, mixed, tabOK, noC_ok, noY_ok⟩ (by rfl) ?_
  repeat' ((conv => whnf); first | refine And.intro ?_ ?_ | with_reducible exact VC.mk rfl | exact Ok.mk | exact True.intro | refine Nx.mk ?_ | refine Fin.mk ?_ | intro _)
  all_goals ((try refine VC.mk ?_); (try simp only [CL.ncell, CL.cnt, vq] at *); (try omega))
  · simp [show te57.size = 4 from rfl]
  conv => whnf
  refine rounds_succ ⟨anyB_ok, mixed, tabOK, noC_ok, noY_ok⟩ (by rfl) ?_
  repeat' ((conv => whnf); first | refine And.intro ?_ ?_ | with_reducible exact VC.mk rfl | exact Ok.mk | exact True.intro | refine Nx.mk ?_ | refine Fin.mk ?_ | intro _)
  all_goals ((try refine VC.mk ?_); (try simp only [CL.ncell, CL.cnt, vq] at *); (try omega))
  · simp [show te57.size = 4 from rfl]
  conv => whnf
  refine rounds_succ ⟨anyB_ok, mixed, tabOK, noC_ok, noY_ok⟩ (by rfl) ?_
  repeat' ((conv => whnf); first | refine And.intro ?_ ?_ | with_reducible exact VC.mk rfl | exact Ok.mk | exact True.intro | refine Nx.mk ?_ | refine Fin.mk ?_ | intro _)
  all_goals ((try refine VC.mk ?_); (try simp only [CL.ncell, CL.cnt, vq] at *); (try omega))
  · simp [show te57.size = 4 from rfl]
  conv => whnf
  refine rounds_succ ⟨anyB_ok, mixed, tabOK, noC_ok, noY_ok⟩ (by rfl) ?_
  repeat' ((conv => whnf); first | refine And.intro ?_ ?_ | with_reducible exact VC.mk rfl | exact Ok.mk | exact True.intro | refine Nx.mk ?_ | refine Fin.mk ?_ | intro _)
  all_goals ((try refine VC.mk ?_); (try simp only [CL.ncell, CL.cnt, vq] at *); (try omega))
  unfold bimF dig
  all_goals (refine Sup.via ?_; repeat' ((conv => whnf); first | refine And.intro ?_ ?_ | with_reducible exact VC.mk rfl | exact Ok.mk | exact True.intro | refine Nx.mk ?_ | refine Fin.mk ?_ | intro _); all_goals ((try refine VC.mk ?_); (try simp only [CL.ncell, CL.cnt, vq] at *); (try omega)); all_goals (try (simp [CL.sub]; done)))
theorem normal9 : normErr 9 9 (madeL 9 bimF) = 0 := by decide +kernel
noncomputable def cpT2 : CPT := cpAdd 55 (pureCC cFormsP) (cpAdd 33 (pureCC madeP) (cpAdd 31 (pureCC checkNormalP) noC))
theorem cpT2_ok : CPOK Tryz.prog cpT2 := cpAdd_ok (pureCC_ok cForms_ok) (cpAdd_ok (pureCC_ok made_ok) (cpAdd_ok (pureCC_ok checkNormal_ok) noC_ok))
theorem bimT_spec : PSpec Tryz.prog 23 [bimForms] (.tup [gridV 9 9 (madeL 9 bimF), .int .i64 0]) := by
  refine pspec_of (md := 0) (rf := []) mixed tabOK cpT2_ok Tryz.func23 (by rfl) (by rfl) (by rfl) ?_
  repeat' ((conv => whnf); first | refine And.intro ?_ ?_ | with_reducible exact VC.mk rfl | exact Ok.mk | exact True.intro | refine Nx.mk ?_ | refine Fin.mk ?_ | intro _)
  all_goals ((try refine VC.mk ?_); (try simp only [CL.ncell, CL.cnt, vq] at *); (try omega))
  all_goals (try (refine ⟨bimF, fun i j hi hj => c148_spec i j (by omega) (by omega), ?_⟩))
  simp only [show Int.toNat 9 = 9 from rfl]
  repeat' ((conv => whnf); first | refine And.intro ?_ ?_ | with_reducible exact VC.mk rfl | exact Ok.mk | exact True.intro | refine Nx.mk ?_ | refine Fin.mk ?_ | intro _)
  all_goals ((try refine VC.mk ?_); (try simp only [CL.ncell, CL.cnt, vq] at *); (try omega))
  · exact absurd normal9 ‹_›
  all_goals (refine Sup.via ?_; repeat' ((conv => whnf); first | refine And.intro ?_ ?_ | with_reducible exact VC.mk rfl | exact Ok.mk | exact True.intro | refine Nx.mk ?_ | refine Fin.mk ?_ | intro _); all_goals ((try refine VC.mk ?_); (try simp only [CL.ncell, CL.cnt, vq] at *); (try omega)); all_goals (try (simp [CL.sub]; done)))
def bimTP : PSp := fun xs K => match xs with
  | [.agg [.int .i64 0, .int .i64 1, .int .i64 1, .int .i64 0, .int .i64 2, .int .i64 0, .int .i64 0, .int .i64 1, .int .i64 1, .int .i64 2, .int .i64 1, .int .i64 1, .int .i64 2, .int .i64 2, .int .i64 1, .int .i64 2]] => VC (True) ∧ K (.tup [gridV 9 9 (madeL 9 bimF), .int .i64 0])
  | _ => False
theorem bimT_ok : POK Tryz.prog 23 bimTP := by
  intro xs K h
  unfold bimTP at h
  split at h
  · exact ⟨_, h.2, bimT_spec⟩
  · exact h.elim
theorem bimagic_spec : PSpec Tryz.prog 29 [] (gridV 9 9 (madeL 9 bimF)) := by
  have hC : CPOK Tryz.prog (cpAdd 23 (pureCC bimTP) noC) := cpAdd_ok (pureCC_ok bimT_ok) noC_ok
  refine pspec_of (md := 0) (rf := []) mixed tabOK hC Tryz.func29 (by rfl) (by rfl) (by rfl) ?_
  repeat' ((conv => whnf); first | refine And.intro ?_ ?_ | with_reducible exact VC.mk rfl | exact Ok.mk | exact True.intro | refine Nx.mk ?_ | refine Fin.mk ?_ | intro _)
  all_goals ((try refine VC.mk ?_); (try simp only [CL.ncell, CL.cnt, vq] at *); (try omega))
  all_goals (refine Sup.via ?_; repeat' ((conv => whnf); first | refine And.intro ?_ ?_ | with_reducible exact VC.mk rfl | exact Ok.mk | exact True.intro | refine Nx.mk ?_ | refine Fin.mk ?_ | intro _); all_goals ((try refine VC.mk ?_); (try simp only [CL.ncell, CL.cnt, vq] at *); (try omega)); all_goals (try (simp [CL.sub]; done)))
def bimagicP : PSp := fun xs K => match xs with
  | [] => VC (True) ∧ K (gridV 9 9 (madeL 9 bimF))
  | _ => False
theorem bimagic_ok : POK Tryz.prog 29 bimagicP := by
  intro xs K h
  unfold bimagicP at h
  split at h
  · exact ⟨_, h.2, bimagic_spec⟩
  · exact h.elim
end Go.Eng.YtobnbkoeocdhbaaGreatDoor
namespace Go.Eng.YtobnbkoeocdhbaaGreatDoor
open Go.Proofs
set_option maxRecDepth 100000
set_option maxHeartbeats 0
set_option linter.unusedVariables false
set_option linter.unusedSimpArgs false
abbrev fmL (x0 x1 x2 x3 x4 x5 x6 x7 x8 x9 x10 x11 x12 x13 x14 x15 : Int) : List PV := [.int .i64 x0, .int .i64 x1, .int .i64 x2, .int .i64 x3, .int .i64 x4, .int .i64 x5, .int .i64 x6, .int .i64 x7, .int .i64 x8, .int .i64 x9, .int .i64 x10, .int .i64 x11, .int .i64 x12, .int .i64 x13, .int .i64 x14, .int .i64 x15]
/-- the error of forms: 3 where a number is not 0, 1 or 2 -/
def formErr (l : List Int) : Int := if l.any notTern then 3 else 0
theorem notTern_false {x : Int} (h : notTern x = false) : 0 ≤ x ∧ x ≤ 2 := by simp [notTern] at h; omega
theorem any4 {a b c d : Int} (h : [a, b, c, d].any notTern = true) (l r : List Int) : (l ++ [a, b, c, d] ++ r).any notTern = true := by
  simp only [List.any_append, h, Bool.or_true, Bool.true_or]
theorem forms_spec (x0 x1 x2 x3 x4 x5 x6 x7 x8 x9 x10 x11 x12 x13 x14 x15 : Int) : PSpec Tryz.prog 55 [.agg (fmL x0 x1 x2 x3 x4 x5 x6 x7 x8 x9 x10 x11 x12 x13 x14 x15)] (.int .i64 (formErr [x0, x1, x2, x3, x4, x5, x6, x7, x8, x9, x10, x11, x12, x13, x14, x15])) := by
  refine pspec_of (md := 0) (rf := []) mixed tabOK cpT1_ok Tryz.func55 (by rfl) (by rfl) (by rfl) ?_
  repeat' ((conv => whnf); first | refine And.intro ?_ ?_ | with_reducible exact VC.mk rfl | exact Ok.mk | exact True.intro | refine Nx.mk ?_ | refine Fin.mk ?_ | intro _)
  conv => whnf
  refine loop_rounds 5 (rounds_succ ⟨anyB_ok, mixed, tabOK, cpT1_ok, noY_ok⟩ (by rfl) ?_)
  repeat' ((conv => whnf); first | refine And.intro ?_ ?_ | with_reducible exact VC.mk rfl | exact Ok.mk | exact True.intro | refine Nx.mk ?_ | refine Fin.mk ?_ | intro _)
  all_goals ((try refine VC.mk ?_); (try simp only [CL.ncell, CL.cnt, vq] at *); (try omega))
  · simp [show te57.size = 4 from rfl]
  · exact ⟨by simp, rfl⟩
  refine ⟨notTern, fun x _ => c156_spec x, ?_⟩
  rw [show List.take _ (List.drop _ _) = [x0, x1, x2, x3] from rfl]
  generalize hb0 : [x0, x1, x2, x3].any notTern = b0
  repeat' ((conv => whnf); first | refine And.intro ?_ ?_ | with_reducible exact VC.mk rfl | exact Ok.mk | exact True.intro | refine Nx.mk ?_ | refine Fin.mk ?_ | intro _)
  · subst_vars
    refine Sup.of ?_
    exact congrArg (PV.int .i64) (Eq.symm (if_pos (any4 ‹List.any [x0, x1, x2, x3] notTern = true› [] [x4, x5, x6, x7, x8, x9, x10, x11, x12, x13, x14, x15])))
  all_goals ((try refine VC.mk ?_); (try simp only [CL.ncell, CL.cnt, vq] at *); (try omega))
  conv => whnf
  refine rounds_succ ⟨anyB_ok, mixed, tabOK, cpT1_ok, noY_ok⟩ (by rfl) ?_
  repeat' ((conv => whnf); first | refine And.intro ?_ ?_ | with_reducible exact VC.mk rfl | exact Ok.mk | exact True.intro | refine Nx.mk ?_ | refine Fin.mk ?_ | intro _)
  all_goals ((try refine VC.mk ?_); (try simp only [CL.ncell, CL.cnt, vq] at *); (try omega))
  · simp [show te57.size = 4 from rfl]
  · exact ⟨by simp, rfl⟩
  refine ⟨notTern, fun x _ => c156_spec x, ?_⟩
  rw [show List.take _ (List.drop _ _) = [x4, x5, x6, x7] from rfl]
  generalize hb1 : [x4, x5, x6, x7].any notTern = b1
  repeat' ((conv => whnf); first | refine And.intro ?_ ?_ | with_reducible exact VC.mk rfl | exact Ok.mk | exact True.intro | refine Nx.mk ?_ | refine Fin.mk ?_ | intro _)
  · subst_vars
    refine Sup.of ?_
    exact congrArg (PV.int .i64) (Eq.symm (if_pos (any4 ‹List.any [x4, x5, x6, x7] notTern = true› [x0, x1, x2, x3] [x8, x9, x10, x11, x12, x13, x14, x15])))
  all_goals ((try refine VC.mk ?_); (try simp only [CL.ncell, CL.cnt, vq] at *); (try omega))
  conv => whnf
  refine rounds_succ ⟨anyB_ok, mixed, tabOK, cpT1_ok, noY_ok⟩ (by rfl) ?_
  repeat' ((conv => whnf); first | refine And.intro ?_ ?_ | with_reducible exact VC.mk rfl | exact Ok.mk | exact True.intro | refine Nx.mk ?_ | refine Fin.mk ?_ | intro _)
  all_goals ((try refine VC.mk ?_); (try simp only [CL.ncell, CL.cnt, vq] at *); (try omega))
  · simp [show te57.size = 4 from rfl]
  · exact ⟨by simp, rfl⟩
  refine ⟨notTern, fun x _ => c156_spec x, ?_⟩
  rw [show List.take _ (List.drop _ _) = [x8, x9, x10, x11] from rfl]
  generalize hb2 : [x8, x9, x10, x11].any notTern = b2
  repeat' ((conv => whnf); first | refine And.intro ?_ ?_ | with_reducible exact VC.mk rfl | exact Ok.mk | exact True.intro | refine Nx.mk ?_ | refine Fin.mk ?_ | intro _)
  · subst_vars
    refine Sup.of ?_
    exact congrArg (PV.int .i64) (Eq.symm (if_pos (any4 ‹List.any [x8, x9, x10, x11] notTern = true› [x0, x1, x2, x3, x4, x5, x6, x7] [x12, x13, x14, x15])))
  all_goals ((try refine VC.mk ?_); (try simp only [CL.ncell, CL.cnt, vq] at *); (try omega))
  conv => whnf
  refine rounds_succ ⟨anyB_ok, mixed, tabOK, cpT1_ok, noY_ok⟩ (by rfl) ?_
  repeat' ((conv => whnf); first | refine And.intro ?_ ?_ | with_reducible exact VC.mk rfl | exact Ok.mk | exact True.intro | refine Nx.mk ?_ | refine Fin.mk ?_ | intro _)
  all_goals ((try refine VC.mk ?_); (try simp only [CL.ncell, CL.cnt, vq] at *); (try omega))
  · simp [show te57.size = 4 from rfl]
  · exact ⟨by simp, rfl⟩
  refine ⟨notTern, fun x _ => c156_spec x, ?_⟩
  rw [show List.take _ (List.drop _ _) = [x12, x13, x14, x15] from rfl]
  generalize hb3 : [x12, x13, x14, x15].any notTern = b3
  repeat' ((conv => whnf); first | refine And.intro ?_ ?_ | with_reducible exact VC.mk rfl | exact Ok.mk | exact True.intro | refine Nx.mk ?_ | refine Fin.mk ?_ | intro _)
  · subst_vars
    refine Sup.of ?_
    exact congrArg (PV.int .i64) (Eq.symm (if_pos (any4 ‹List.any [x12, x13, x14, x15] notTern = true› [x0, x1, x2, x3, x4, x5, x6, x7, x8, x9, x10, x11] [])))
  all_goals ((try refine VC.mk ?_); (try simp only [CL.ncell, CL.cnt, vq] at *); (try omega))
  conv => whnf
  refine rounds_succ ⟨anyB_ok, mixed, tabOK, cpT1_ok, noY_ok⟩ (by rfl) ?_
  repeat' ((conv => whnf); first | refine And.intro ?_ ?_ | with_reducible exact VC.mk rfl | exact Ok.mk | exact True.intro | refine Nx.mk ?_ | refine Fin.mk ?_ | intro _)
  all_goals ((try refine VC.mk ?_); (try simp only [CL.ncell, CL.cnt, vq] at *); (try omega))
  subst_vars
  refine Sup.of ?_
  rw [formErr, if_neg (by simp_all)]; rfl
theorem bad_of {x : Int} (l r : List Int) (h : x < 0 ∨ 2 < x) : formErr (l ++ [x] ++ r) = 3 := by
  rw [formErr, if_pos]
  simp only [List.any_append, List.any_cons, notTern, List.any_nil]
  simp [h]
theorem good_of {l : List Int} (h : formErr l = 0) : ∀ x ∈ l, 0 ≤ x ∧ x ≤ 2 := by
  intro x hx
  apply notTern_false
  unfold formErr at h
  split at h
  · omega
  · rename_i h1
    rw [Bool.not_eq_true, List.any_eq_false] at h1
    simpa using h1 x hx
theorem formErr_zero {l : List Int} (h : ∀ x ∈ l, 0 ≤ x ∧ x ≤ 2) : formErr l = 0 := by
  rw [formErr, if_neg]
  rw [Bool.not_eq_true, List.any_eq_false]
  intro x hx
  have := h x hx
  simp [notTern]; omega
theorem CheckForms_spec (x0 x1 x2 x3 x4 x5 x6 x7 x8 x9 x10 x11 x12 x13 x14 x15 : Int) : PSpec Tryz.prog 21 [.agg (fmL x0 x1 x2 x3 x4 x5 x6 x7 x8 x9 x10 x11 x12 x13 x14 x15)] (.int .i64 (formErr [x0, x1, x2, x3, x4, x5, x6, x7, x8, x9, x10, x11, x12, x13, x14, x15])) := by
  refine pspec_of (md := 0) (rf := []) mixed tabOK noC_ok Tryz.func21 (by rfl) (by rfl) (by rfl) ?_
  repeat' ((conv => whnf); first | refine And.intro ?_ ?_ | with_reducible exact VC.mk rfl | exact Ok.mk | exact True.intro | refine Nx.mk ?_ | refine Fin.mk ?_ | intro _)
  conv => whnf
  refine loop_rounds 5 (rounds_succ ⟨anyB_ok, mixed, tabOK, noC_ok, noY_ok⟩ (by rfl) ?_)
  repeat' ((conv => whnf); first | refine And.intro ?_ ?_ | with_reducible exact VC.mk rfl | exact Ok.mk | exact True.intro | refine Nx.mk ?_ | refine Fin.mk ?_ | intro _)
  all_goals ((try refine VC.mk ?_); (try simp only [CL.ncell, CL.cnt, vq] at *); (try omega))
  conv => whnf
  refine loop_rounds 5 (rounds_succ ⟨anyB_ok, mixed, tabOK, noC_ok, noY_ok⟩ (by rfl) ?_)
  repeat' ((conv => whnf); first | refine And.intro ?_ ?_ | with_reducible exact VC.mk rfl | exact Ok.mk | exact True.intro | refine Nx.mk ?_ | refine Fin.mk ?_ | intro _)
  all_goals ((try refine VC.mk ?_); (try simp only [CL.ncell, CL.cnt, vq] at *); (try omega))
  all_goals first | ((with_reducible (refine Sup.of ?_)); exact congrArg (PV.int .i64) (bad_of (x := x0) [] [x1, x2, x3, x4, x5, x6, x7, x8, x9, x10, x11, x12, x13, x14, x15] (by omega)).symm) | skip
  conv => whnf
  refine rounds_succ ⟨anyB_ok, mixed, tabOK, noC_ok, noY_ok⟩ (by rfl) ?_
  repeat' ((conv => whnf); first | refine And.intro ?_ ?_ | with_reducible exact VC.mk rfl | exact Ok.mk | exact True.intro | refine Nx.mk ?_ | refine Fin.mk ?_ | intro _)
  all_goals ((try refine VC.mk ?_); (try simp only [CL.ncell, CL.cnt, vq] at *); (try omega))
  all_goals first | ((with_reducible (refine Sup.of ?_)); exact congrArg (PV.int .i64) (bad_of (x := x1) [x0] [x2, x3, x4, x5, x6, x7, x8, x9, x10, x11, x12, x13, x14, x15] (by omega)).symm) | skip
  conv => whnf
  refine rounds_succ ⟨anyB_ok, mixed, tabOK, noC_ok, noY_ok⟩ (by rfl) ?_
  repeat' ((conv => whnf); first | refine And.intro ?_ ?_ | with_reducible exact VC.mk rfl | exact Ok.mk | exact True.intro | refine Nx.mk ?_ | refine Fin.mk ?_ | intro _)
  all_goals ((try refine VC.mk ?_); (try simp only [CL.ncell, CL.cnt, vq] at *); (try omega))
  all_goals first | ((with_reducible (refine Sup.of ?_)); exact congrArg (PV.int .i64) (bad_of (x := x2) [x0, x1] [x3, x4, x5, x6, x7, x8, x9, x10, x11, x12, x13, x14, x15] (by omega)).symm) | skip
  conv => whnf
  refine rounds_succ ⟨anyB_ok, mixed, tabOK, noC_ok, noY_ok⟩ (by rfl) ?_
  repeat' ((conv => whnf); first | refine And.intro ?_ ?_ | with_reducible exact VC.mk rfl | exact Ok.mk | exact True.intro | refine Nx.mk ?_ | refine Fin.mk ?_ | intro _)
  all_goals ((try refine VC.mk ?_); (try simp only [CL.ncell, CL.cnt, vq] at *); (try omega))
  all_goals first | ((with_reducible (refine Sup.of ?_)); exact congrArg (PV.int .i64) (bad_of (x := x3) [x0, x1, x2] [x4, x5, x6, x7, x8, x9, x10, x11, x12, x13, x14, x15] (by omega)).symm) | skip
  conv => whnf
  refine rounds_succ ⟨anyB_ok, mixed, tabOK, noC_ok, noY_ok⟩ (by rfl) ?_
  repeat' ((conv => whnf); first | refine And.intro ?_ ?_ | with_reducible exact VC.mk rfl | exact Ok.mk | exact True.intro | refine Nx.mk ?_ | refine Fin.mk ?_ | intro _)
  all_goals ((try refine VC.mk ?_); (try simp only [CL.ncell, CL.cnt, vq] at *); (try omega))
  conv => whnf
  refine rounds_succ ⟨anyB_ok, mixed, tabOK, noC_ok, noY_ok⟩ (by rfl) ?_
  repeat' ((conv => whnf); first | refine And.intro ?_ ?_ | with_reducible exact VC.mk rfl | exact Ok.mk | exact True.intro | refine Nx.mk ?_ | refine Fin.mk ?_ | intro _)
  all_goals ((try refine VC.mk ?_); (try simp only [CL.ncell, CL.cnt, vq] at *); (try omega))
  conv => whnf
  refine loop_rounds 5 (rounds_succ ⟨anyB_ok, mixed, tabOK, noC_ok, noY_ok⟩ (by rfl) ?_)
  repeat' ((conv => whnf); first | refine And.intro ?_ ?_ | with_reducible exact VC.mk rfl | exact Ok.mk | exact True.intro | refine Nx.mk ?_ | refine Fin.mk ?_ | intro _)
  all_goals ((try refine VC.mk ?_); (try simp only [CL.ncell, CL.cnt, vq] at *); (try omega))
  all_goals first | ((with_reducible (refine Sup.of ?_)); exact congrArg (PV.int .i64) (bad_of (x := x4) [x0, x1, x2, x3] [x5, x6, x7, x8, x9, x10, x11, x12, x13, x14, x15] (by omega)).symm) | skip
  conv => whnf
  refine rounds_succ ⟨anyB_ok, mixed, tabOK, noC_ok, noY_ok⟩ (by rfl) ?_
  repeat' ((conv => whnf); first | refine And.intro ?_ ?_ | with_reducible exact VC.mk rfl | exact Ok.mk | exact True.intro | refine Nx.mk ?_ | refine Fin.mk ?_ | intro _)
  all_goals ((try refine VC.mk ?_); (try simp only [CL.ncell, CL.cnt, vq] at *); (try omega))
  all_goals first | ((with_reducible (refine Sup.of ?_)); exact congrArg (PV.int .i64) (bad_of (x := x5) [x0, x1, x2, x3, x4] [x6, x7, x8, x9, x10, x11, x12, x13, x14, x15] (by omega)).symm) | skip
  conv => whnf
  refine rounds_succ ⟨anyB_ok, mixed, tabOK, noC_ok, noY_ok⟩ (by rfl) ?_
  repeat' ((conv => whnf); first | refine And.intro ?_ ?_ | with_reducible exact VC.mk rfl | exact Ok.mk | exact True.intro | refine Nx.mk ?_ | refine Fin.mk ?_ | intro _)
  all_goals ((try refine VC.mk ?_); (try simp only [CL.ncell, CL.cnt, vq] at *); (try omega))
  all_goals first | ((with_reducible (refine Sup.of ?_)); exact congrArg (PV.int .i64) (bad_of (x := x6) [x0, x1, x2, x3, x4, x5] [x7, x8, x9, x10, x11, x12, x13, x14, x15] (by omega)).symm) | skip
  conv => whnf
  refine rounds_succ ⟨anyB_ok, mixed, tabOK, noC_ok, noY_ok⟩ (by rfl) ?_
  repeat' ((conv => whnf); first | refine And.intro ?_ ?_ | with_reducible exact VC.mk rfl | exact Ok.mk | exact True.intro | refine Nx.mk ?_ | refine Fin.mk ?_ | intro _)
  all_goals ((try refine VC.mk ?_); (try simp only [CL.ncell, CL.cnt, vq] at *); (try omega))
  all_goals first | ((with_reducible (refine Sup.of ?_)); exact congrArg (PV.int .i64) (bad_of (x := x7) [x0, x1, x2, x3, x4, x5, x6] [x8, x9, x10, x11, x12, x13, x14, x15] (by omega)).symm) | skip
  conv => whnf
  refine rounds_succ ⟨anyB_ok, mixed, tabOK, noC_ok, noY_ok⟩ (by rfl) ?_
  repeat' ((conv => whnf); first | refine And.intro ?_ ?_ | with_reducible exact VC.mk rfl | exact Ok.mk | exact True.intro | refine Nx.mk ?_ | refine Fin.mk ?_ | intro _)
  all_goals ((try refine VC.mk ?_); (try simp only [CL.ncell, CL.cnt, vq] at *); (try omega))
  conv => whnf
  refine rounds_succ ⟨anyB_ok, mixed, tabOK, noC_ok, noY_ok⟩ (by rfl) ?_
  repeat' ((conv => whnf); first | refine And.intro ?_ ?_ | with_reducible exact VC.mk rfl | exact Ok.mk | exact True.intro | refine Nx.mk ?_ | refine Fin.mk ?_ | intro _)
  all_goals ((try refine VC.mk ?_); (try simp only [CL.ncell, CL.cnt, vq] at *); (try omega))
  conv => whnf
  refine loop_rounds 5 (rounds_succ ⟨anyB_ok, mixed, tabOK, noC_ok, noY_ok⟩ (by rfl) ?_)
  repeat' ((conv => whnf); first | refine And.intro ?_ ?_ | with_reducible exact VC.mk rfl | exact Ok.mk | exact True.intro | refine Nx.mk ?_ | refine Fin.mk ?_ | intro _)
  all_goals ((try refine VC.mk ?_); (try simp only [CL.ncell, CL.cnt, vq] at *); (try omega))
  all_goals first | ((with_reducible (refine Sup.of ?_)); exact congrArg (PV.int .i64) (bad_of (x := x8) [x0, x1, x2, x3, x4, x5, x6, x7] [x9, x10, x11, x12, x13, x14, x15] (by omega)).symm) | skip
  conv => whnf
  refine rounds_succ ⟨anyB_ok, mixed, tabOK, noC_ok, noY_ok⟩ (by rfl) ?_
  repeat' ((conv => whnf); first | refine And.intro ?_ ?_ | with_reducible exact VC.mk rfl | exact Ok.mk | exact True.intro | refine Nx.mk ?_ | refine Fin.mk ?_ | intro _)
  all_goals ((try refine VC.mk ?_); (try simp only [CL.ncell, CL.cnt, vq] at *); (try omega))
  all_goals first | ((with_reducible (refine Sup.of ?_)); exact congrArg (PV.int .i64) (bad_of (x := x9) [x0, x1, x2, x3, x4, x5, x6, x7, x8] [x10, x11, x12, x13, x14, x15] (by omega)).symm) | skip
  conv => whnf
  refine rounds_succ ⟨anyB_ok, mixed, tabOK, noC_ok, noY_ok⟩ (by rfl) ?_
  repeat' ((conv => whnf); first | refine And.intro ?_ ?_ | with_reducible exact VC.mk rfl | exact Ok.mk | exact True.intro | refine Nx.mk ?_ | refine Fin.mk ?_ | intro _)
  all_goals ((try refine VC.mk ?_); (try simp only [CL.ncell, CL.cnt, vq] at *); (try omega))
  all_goals first | ((with_reducible (refine Sup.of ?_)); exact congrArg (PV.int .i64) (bad_of (x := x10) [x0, x1, x2, x3, x4, x5, x6, x7, x8, x9] [x11, x12, x13, x14, x15] (by omega)).symm) | skip
  conv => whnf
  refine rounds_succ ⟨anyB_ok, mixed, tabOK, noC_ok, noY_ok⟩ (by rfl) ?_
  repeat' ((conv => whnf); first | refine And.intro ?_ ?_ | with_reducible exact VC.mk rfl | exact Ok.mk | exact True.intro | refine Nx.mk ?_ | refine Fin.mk ?_ | intro _)
  all_goals ((try refine VC.mk ?_); (try simp only [CL.ncell, CL.cnt, vq] at *); (try omega))
  all_goals first | ((with_reducible (refine Sup.of ?_)); exact congrArg (PV.int .i64) (bad_of (x := x11) [x0, x1, x2, x3, x4, x5, x6, x7, x8, x9, x10] [x12, x13, x14, x15] (by omega)).symm) | skip
  conv => whnf
  refine rounds_succ ⟨anyB_ok, mixed, tabOK, noC_ok, noY_ok⟩ (by rfl) ?_
  repeat' ((conv => whnf); first | refine And.intro ?_ ?_ | with_reducible exact VC.mk rfl | exact Ok.mk | exact True.intro | refine Nx.mk ?_ | refine Fin.mk ?_ | intro _)
  all_goals ((try refine VC.mk ?_); (try simp only [CL.ncell, CL.cnt, vq] at *); (try omega))
  conv => whnf
  refine rounds_succ ⟨anyB_ok, mixed, tabOK, noC_ok, noY_ok⟩ (by rfl) ?_
  repeat' ((conv => whnf); first | refine And.intro ?_ ?_ | with_reducible exact VC.mk rfl | exact Ok.mk | exact True.intro | refine Nx.mk ?_ | refine Fin.mk ?_ | intro _)
  all_goals ((try refine VC.mk ?_); (try simp only [CL.ncell, CL.cnt, vq] at *); (try omega))
  conv => whnf
  refine loop_rounds 5 (rounds_succ ⟨anyB_ok, mixed, tabOK, noC_ok, noY_ok⟩ (by rfl) ?_)
  repeat' ((conv => whnf); first | refine And.intro ?_ ?_ | with_reducible exact VC.mk rfl | exact Ok.mk | exact True.intro | refine Nx.mk ?_ | refine Fin.mk ?_ | intro _)
  all_goals ((try refine VC.mk ?_); (try simp only [CL.ncell, CL.cnt, vq] at *); (try omega))
  all_goals first | ((with_reducible (refine Sup.of ?_)); exact congrArg (PV.int .i64) (bad_of (x := x12) [x0, x1, x2, x3, x4, x5, x6, x7, x8, x9, x10, x11] [x13, x14, x15] (by omega)).symm) | skip
  conv => whnf
  refine rounds_succ ⟨anyB_ok, mixed, tabOK, noC_ok, noY_ok⟩ (by rfl) ?_
  repeat' ((conv => whnf); first | refine And.intro ?_ ?_ | with_reducible exact VC.mk rfl | exact Ok.mk | exact True.intro | refine Nx.mk ?_ | refine Fin.mk ?_ | intro _)
  all_goals ((try refine VC.mk ?_); (try simp only [CL.ncell, CL.cnt, vq] at *); (try omega))
  all_goals first | ((with_reducible (refine Sup.of ?_)); exact congrArg (PV.int .i64) (bad_of (x := x13) [x0, x1, x2, x3, x4, x5, x6, x7, x8, x9, x10, x11, x12] [x14, x15] (by omega)).symm) | skip
  conv => whnf
  refine rounds_succ ⟨anyB_ok, mixed, tabOK, noC_ok, noY_ok⟩ (by rfl) ?_
  repeat' ((conv => whnf); first | refine And.intro ?_ ?_ | with_reducible exact VC.mk rfl | exact Ok.mk | exact True.intro | refine Nx.mk ?_ | refine Fin.mk ?_ | intro _)
  all_goals ((try refine VC.mk ?_); (try simp only [CL.ncell, CL.cnt, vq] at *); (try omega))
  all_goals first | ((with_reducible (refine Sup.of ?_)); exact congrArg (PV.int .i64) (bad_of (x := x14) [x0, x1, x2, x3, x4, x5, x6, x7, x8, x9, x10, x11, x12, x13] [x15] (by omega)).symm) | skip
  conv => whnf
  refine rounds_succ ⟨anyB_ok, mixed, tabOK, noC_ok, noY_ok⟩ (by rfl) ?_
  repeat' ((conv => whnf); first | refine And.intro ?_ ?_ | with_reducible exact VC.mk rfl | exact Ok.mk | exact True.intro | refine Nx.mk ?_ | refine Fin.mk ?_ | intro _)
  all_goals ((try refine VC.mk ?_); (try simp only [CL.ncell, CL.cnt, vq] at *); (try omega))
  all_goals first | ((with_reducible (refine Sup.of ?_)); exact congrArg (PV.int .i64) (bad_of (x := x15) [x0, x1, x2, x3, x4, x5, x6, x7, x8, x9, x10, x11, x12, x13, x14] [] (by omega)).symm) | skip
  conv => whnf
  refine rounds_succ ⟨anyB_ok, mixed, tabOK, noC_ok, noY_ok⟩ (by rfl) ?_
  repeat' ((conv => whnf); first | refine And.intro ?_ ?_ | with_reducible exact VC.mk rfl | exact Ok.mk | exact True.intro | refine Nx.mk ?_ | refine Fin.mk ?_ | intro _)
  all_goals ((try refine VC.mk ?_); (try simp only [CL.ncell, CL.cnt, vq] at *); (try omega))
  conv => whnf
  refine rounds_succ ⟨anyB_ok, mixed, tabOK, noC_ok, noY_ok⟩ (by rfl) ?_
  repeat' ((conv => whnf); first | refine And.intro ?_ ?_ | with_reducible exact VC.mk rfl | exact Ok.mk | exact True.intro | refine Nx.mk ?_ | refine Fin.mk ?_ | intro _)
  all_goals ((try refine VC.mk ?_); (try simp only [CL.ncell, CL.cnt, vq] at *); (try omega))
  refine Sup.of (congrArg (PV.int .i64) (formErr_zero ?_).symm)
  simp only [List.mem_cons, List.not_mem_nil, or_false, forall_eq_or_imp, forall_eq]
  omega
end Go.Eng.YtobnbkoeocdhbaaGreatDoor
namespace Go.Eng.YtobnbkoeocdhbaaGreatDoor
open Go.Proofs
set_option maxRecDepth 100000
set_option maxHeartbeats 0
set_option linter.unusedVariables false
set_option linter.unusedSimpArgs false
def terF (x0 x1 x2 x3 x4 x5 x6 x7 x8 x9 x10 x11 x12 x13 x14 x15 : Int) (i j : Nat) : Int := (3 * (3 * (3 * (3 * 0 + dig x0 x1 x2 x3 i j) + dig x4 x5 x6 x7 i j) + dig x8 x9 x10 x11 i j) + dig x12 x13 x14 x15 i j) + 1
theorem dig_bd (a b c d i j : Int) : 0 ≤ dig a b c d i j ∧ dig a b c d i j < 3 := ⟨Int.emod_nonneg _ (by decide), Int.emod_lt_of_pos _ (by decide)⟩
theorem c19_spec (x0 x1 x2 x3 x4 x5 x6 x7 x8 x9 x10 x11 x12 x13 x14 x15 : Int) (h : ∀ x ∈ [x0, x1, x2, x3, x4, x5, x6, x7, x8, x9, x10, x11, x12, x13, x14, x15], 0 ≤ x ∧ x ≤ 2) (i j : Nat) (hi : i < 9) (hj : j < 9) : PSpec Tryz.prog 63 ([] ++ [.int .i64 i, .int .i64 j] ++ [.ip (.pv (fmL x0 x1 x2 x3 x4 x5 x6 x7 x8 x9 x10 x11 x12 x13 x14 x15)) 0]) (.int .i64 (terF x0 x1 x2 x3 x4 x5 x6 x7 x8 x9 x10 x11 x12 x13 x14 x15 i j)) := by
  have b1 : 0 ≤ (i : Int) / 3 ∧ (i : Int) / 3 ≤ 2 := by omega
  have b2 : 0 ≤ (i : Int) % 3 ∧ (i : Int) % 3 ≤ 2 := by omega
  have b3 : 0 ≤ (j : Int) / 3 ∧ (j : Int) / 3 ≤ 2 := by omega
  have b4 : 0 ≤ (j : Int) % 3 ∧ (j : Int) % 3 ≤ 2 := by omega
  simp only [List.mem_cons, List.not_mem_nil, or_false, forall_eq_or_imp, forall_eq] at h
  obtain ⟨h0, h1, h2, h3, h4, h5, h6, h7, h8, h9, h10, h11, h12, h13, h14, h15⟩ := h
  have p0 := mul_bd h0 b1
  have p1 := mul_bd h1 b2
  have p2 := mul_bd h2 b3
  have p3 := mul_bd h3 b4
  have p4 := mul_bd h4 b1
  have p5 := mul_bd h5 b2
  have p6 := mul_bd h6 b3
  have p7 := mul_bd h7 b4
  have p8 := mul_bd h8 b1
  have p9 := mul_bd h9 b2
  have p10 := mul_bd h10 b3
  have p11 := mul_bd h11 b4
  have p12 := mul_bd h12 b1
  have p13 := mul_bd h13 b2
  have p14 := mul_bd h14 b3
  have p15 := mul_bd h15 b4
  unfold terF dig
  refine pspec_of (md := 0) (rf := []) mixed tabOK noC_ok Tryz.func63 (by rfl) (by rfl) (by rfl) ?_
  repeat' ((conv => whnf); first | refine And.intro ?_ ?_ | with_reducible exact VC.mk rfl | exact Ok.mk | exact True.intro | refine Nx.mk ?_ | refine Fin.mk ?_ | intro _)
  conv => whnf
  refine loop_rounds 5 (rounds_succ ⟨anyB_ok, mixed, tabOK, noC_ok, noY_ok⟩ (by rfl) ?_)
  repeat' ((conv => whnf); first | refine And.intro ?_ ?_ | with_reducible exact VC.mk rfl | exact Ok.mk | exact True.intro | refine Nx.mk ?_ | refine Fin.mk ?_ | intro _)
  all_goals ((try refine VC.mk ?_); (try simp only [CL.ncell, CL.cnt, vq] at *); (try omega))
  · simp [show te57.size = 4 from rfl]
  conv => whnf
  refine rounds_succ ⟨anyB_ok, mixed, tabOK, noC_ok, noY_ok⟩ (by rfl) ?_
  repeat' ((conv => whnf); first | refine And.intro ?_ ?_ | with_reducible exact VC.mk rfl | exact Ok.mk | exact True.intro | refine Nx.mk ?_ | refine Fin.mk ?_ | intro _)
  all_goals ((try refine VC.mk ?_); (try simp only [CL.ncell, CL.cnt, vq] at *); (try omega))
  · simp [show te57.size = 4 from rfl]
  conv => whnf
  refine rounds_succ ⟨anyB_ok, mixed, tabOK, noC_ok, noY_ok⟩ (by rfl) ?_
  repeat' ((conv => whnf); first | refine And.intro ?_ ?_ | with_reducible exact VC.mk rfl | exact Ok.mk | exact True.intro | refine Nx.mk ?_ | refine Fin.mk ?_ | intro _)
  all_goals ((try refine VC.mk ?_); (try simp only [CL.ncell, CL.cnt, vq] at *); (try omega))
  · simp [show te57.size = 4 from rfl]
  conv => whnf
  refine rounds_succ ⟨anyB_ok, mixed, tabOK, noC_ok, noY_ok⟩ (by rfl) ?_
  repeat' ((conv => whnf); first | refine And.intro ?_ ?_ | with_reducible exact VC.mk rfl | exact Ok.mk | exact True.intro | refine Nx.mk ?_ | refine Fin.mk ?_ | intro _)
  all_goals ((try refine VC.mk ?_); (try simp only [CL.ncell, CL.cnt, vq] at *); (try omega))
  · simp [show te57.size = 4 from rfl]
  conv => whnf
  refine rounds_succ ⟨anyB_ok, mixed, tabOK, noC_ok, noY_ok⟩ (by rfl) ?_
  repeat' ((conv => whnf); first | refine And.intro ?_ ?_ | with_reducible exact VC.mk rfl | exact Ok.mk | exact True.intro | refine Nx.mk ?_ | refine Fin.mk ?_ | intro _)
  all_goals ((try refine VC.mk ?_); (try simp only [CL.ncell, CL.cnt, vq] at *); (try omega))
  all_goals (refine Sup.via ?_; repeat' ((conv => whnf); first | refine And.intro ?_ ?_ | with_reducible exact VC.mk rfl | exact Ok.mk | exact True.intro | refine Nx.mk ?_ | refine Fin.mk ?_ | intro _); all_goals ((try refine VC.mk ?_); (try simp only [CL.ncell, CL.cnt, vq] at *); (try omega)); all_goals (try (simp [CL.sub]; done)))
/-- what Ternary answers: the error, the order, the numbers -/
def terE (l : List Int) (L : List Int) : Int := if formErr l = 0 then (if normErr 9 9 L = 0 then 0 else 18) else 3
def terN (l : List Int) (L : List Int) : Int := if terE l L = 0 then 9 else 0
def terL (l : List Int) (L : List Int) : List Int := if terE l L = 0 then L else []
theorem ter_bad {l L : List Int} (h : formErr l ≠ 0) : terE l L = formErr l ∧ terN l L = 0 ∧ terL l L = [] := by
  have h1 : terE l L = 3 := by rw [terE, if_neg h]
  have h2 : formErr l = 3 := by unfold formErr at h ⊢; split <;> simp_all
  refine ⟨by rw [h1, h2], ?_, ?_⟩ <;> simp [terN, terL, h1]
theorem ter_sing {l L : List Int} (h : formErr l = 0) (h0 : normErr 9 9 L ≠ 0) : terE l L = 18 ∧ terN l L = 0 ∧ terL l L = [] := by
  have h1 : terE l L = 18 := by rw [terE, if_pos h, if_neg h0]
  refine ⟨h1, ?_, ?_⟩ <;> simp [terN, terL, h1]
theorem ter_ok {l L : List Int} (h : formErr l = 0) (h0 : normErr 9 9 L = 0) : terE l L = 0 ∧ terN l L = 9 ∧ terL l L = L := by
  have h1 : terE l L = 0 := by rw [terE, if_pos h, if_pos h0]
  refine ⟨h1, ?_, ?_⟩ <;> simp [terN, terL, h1]
theorem tern_spec (x0 x1 x2 x3 x4 x5 x6 x7 x8 x9 x10 x11 x12 x13 x14 x15 : Int) : PSpec Tryz.prog 23 [.agg (fmL x0 x1 x2 x3 x4 x5 x6 x7 x8 x9 x10 x11 x12 x13 x14 x15)] (.tup [gridV (terN [x0, x1, x2, x3, x4, x5, x6, x7, x8, x9, x10, x11, x12, x13, x14, x15] (madeL 9 (terF x0 x1 x2 x3 x4 x5 x6 x7 x8 x9 x10 x11 x12 x13 x14 x15))) (terN [x0, x1, x2, x3, x4, x5, x6, x7, x8, x9, x10, x11, x12, x13, x14, x15] (madeL 9 (terF x0 x1 x2 x3 x4 x5 x6 x7 x8 x9 x10 x11 x12 x13 x14 x15))) (terL [x0, x1, x2, x3, x4, x5, x6, x7, x8, x9, x10, x11, x12, x13, x14, x15] (madeL 9 (terF x0 x1 x2 x3 x4 x5 x6 x7 x8 x9 x10 x11 x12 x13 x14 x15))), .int .i64 (terE [x0, x1, x2, x3, x4, x5, x6, x7, x8, x9, x10, x11, x12, x13, x14, x15] (madeL 9 (terF x0 x1 x2 x3 x4 x5 x6 x7 x8 x9 x10 x11 x12 x13 x14 x15)))]) := by
  have hC : CPOK Tryz.prog (cpAdd 55 (pureCC (atC True [.agg (fmL x0 x1 x2 x3 x4 x5 x6 x7 x8 x9 x10 x11 x12 x13 x14 x15)] (.int .i64 (formErr [x0, x1, x2, x3, x4, x5, x6, x7, x8, x9, x10, x11, x12, x13, x14, x15])))) (cpAdd 33 (pureCC madeP) (cpAdd 31 (pureCC checkNormalP) noC))) := cpAdd_ok (pureCC_ok (atC_ok fun _ => forms_spec _ _ _ _ _ _ _ _ _ _ _ _ _ _ _ _)) (cpAdd_ok (pureCC_ok made_ok) (cpAdd_ok (pureCC_ok checkNormal_ok) noC_ok))
  have hg := @good_of [x0, x1, x2, x3, x4, x5, x6, x7, x8, x9, x10, x11, x12, x13, x14, x15]
  have hb := @ter_bad [x0, x1, x2, x3, x4, x5, x6, x7, x8, x9, x10, x11, x12, x13, x14, x15] (madeL 9 (terF x0 x1 x2 x3 x4 x5 x6 x7 x8 x9 x10 x11 x12 x13 x14 x15))
  have hs := @ter_sing [x0, x1, x2, x3, x4, x5, x6, x7, x8, x9, x10, x11, x12, x13, x14, x15] (madeL 9 (terF x0 x1 x2 x3 x4 x5 x6 x7 x8 x9 x10 x11 x12 x13 x14 x15))
  have hk := @ter_ok [x0, x1, x2, x3, x4, x5, x6, x7, x8, x9, x10, x11, x12, x13, x14, x15] (madeL 9 (terF x0 x1 x2 x3 x4 x5 x6 x7 x8 x9 x10 x11 x12 x13 x14 x15))
  have hc := c19_spec x0 x1 x2 x3 x4 x5 x6 x7 x8 x9 x10 x11 x12 x13 x14 x15
  generalize formErr [x0, x1, x2, x3, x4, x5, x6, x7, x8, x9, x10, x11, x12, x13, x14, x15] = e at *
  generalize terE [x0, x1, x2, x3, x4, x5, x6, x7, x8, x9, x10, x11, x12, x13, x14, x15] (madeL 9 (terF x0 x1 x2 x3 x4 x5 x6 x7 x8 x9 x10 x11 x12 x13 x14 x15)) = tE at *
  generalize terN [x0, x1, x2, x3, x4, x5, x6, x7, x8, x9, x10, x11, x12, x13, x14, x15] (madeL 9 (terF x0 x1 x2 x3 x4 x5 x6 x7 x8 x9 x10 x11 x12 x13 x14 x15)) = tN at *
  generalize terL [x0, x1, x2, x3, x4, x5, x6, x7, x8, x9, x10, x11, x12, x13, x14, x15] (madeL 9 (terF x0 x1 x2 x3 x4 x5 x6 x7 x8 x9 x10 x11 x12 x13 x14 x15)) = tL at *
  refine pspec_of (md := 1) (rf := []) mixed tabOK hC Tryz.func23 (by rfl) (by rfl) (by rfl) ?_
  repeat' ((conv => whnf); first | refine And.intro ?_ ?_ | with_reducible exact VC.mk rfl | exact Ok.mk | exact True.intro | refine Nx.mk ?_ | refine Fin.mk ?_ | intro _)
  all_goals ((try refine VC.mk ?_); (try simp only [CL.ncell, CL.cnt, vq] at *); (try omega))
  · obtain ⟨rfl, rfl, rfl⟩ := hb ‹_›
    all_goals (refine Sup.via ?_; repeat' ((conv => whnf); first | refine And.intro ?_ ?_ | with_reducible exact VC.mk rfl | exact Ok.mk | exact True.intro | refine Nx.mk ?_ | refine Fin.mk ?_ | intro _); all_goals ((try refine VC.mk ?_); (try simp only [CL.ncell, CL.cnt, vq] at *); (try omega)); all_goals (try (simp [CL.sub]; done)))
  have he : e = 0 := by omega
  subst he
  refine ⟨terF x0 x1 x2 x3 x4 x5 x6 x7 x8 x9 x10 x11 x12 x13 x14 x15, fun i j hi hj => hc (hg rfl) i j (by omega) (by omega), ?_⟩
  simp only [show Int.toNat 9 = 9 from rfl]
  repeat' ((conv => whnf); first | refine And.intro ?_ ?_ | with_reducible exact VC.mk rfl | exact Ok.mk | exact True.intro | refine Nx.mk ?_ | refine Fin.mk ?_ | intro _)
  all_goals ((try refine VC.mk ?_); (try simp only [CL.ncell, CL.cnt, vq] at *); (try omega))
  · obtain ⟨rfl, rfl, rfl⟩ := hs (by simp) ‹_›
    all_goals (refine Sup.via ?_; repeat' ((conv => whnf); first | refine And.intro ?_ ?_ | with_reducible exact VC.mk rfl | exact Ok.mk | exact True.intro | refine Nx.mk ?_ | refine Fin.mk ?_ | intro _); all_goals ((try refine VC.mk ?_); (try simp only [CL.ncell, CL.cnt, vq] at *); (try omega)); all_goals (try (simp [CL.sub]; done)))
  · obtain ⟨rfl, rfl, rfl⟩ := hk (by simp) (by omega)
    all_goals (refine Sup.via ?_; repeat' ((conv => whnf); first | refine And.intro ?_ ?_ | with_reducible exact VC.mk rfl | exact Ok.mk | exact True.intro | refine Nx.mk ?_ | refine Fin.mk ?_ | intro _); all_goals ((try refine VC.mk ?_); (try simp only [CL.ncell, CL.cnt, vq] at *); (try omega)); all_goals (try (simp [CL.sub]; done)))
end Go.Eng.YtobnbkoeocdhbaaGreatDoor
namespace Go.Eng.YtobnbkoeocdhbaaGreatDoor
open Go.Proofs
set_option maxRecDepth 100000
set_option maxHeartbeats 0
set_option linter.unusedVariables false
set_option linter.unusedSimpArgs false
/-- the digit of a form at the place t of a line -/
def lD (a u v : Int) (t : Nat) : Int := (a + u * ((t : Int) / 3) + v * ((t : Int) % 3)) % 3
def nD (a u v t : Nat) : Nat := (a + u * (t / 3) + v * (t % 3)) % 3
theorem lD_nD (a u v : Int) (t : Nat) : lD a u v t = (nD (a % 3).toNat (u % 3).toNat (v % 3).toNat t : Nat) := by
  unfold lD nD
  have h1 : ((a % 3).toNat : Int) = a % 3 := Int.toNat_of_nonneg (by omega)
  have h2 : ((u % 3).toNat : Int) = u % 3 := Int.toNat_of_nonneg (by omega)
  have h3 : ((v % 3).toNat : Int) = v % 3 := Int.toNat_of_nonneg (by omega)
  push_cast
  rw [h1, h2, h3]
  have e1 : u % 3 = u - 3 * (u / 3) := by omega
  have e2 : v % 3 = v - 3 * (v / 3) := by omega
  rw [e1, e2, Int.sub_mul, Int.sub_mul, Int.mul_assoc, Int.mul_assoc]
  omega
def oneB (a u v : Nat) : Bool := (decide (u = 0) && decide (v = 0)) || (decide (sumF (fun t => (nD a u v t : Int)) 9 = 9) && decide (sumF (fun t => (nD a u v t : Int) * (nD a u v t : Int)) 9 = 15))
def pairB (a u v b w z : Nat) : Bool := decide ((u * z + 2 * (v * w)) % 3 = 0) || decide (sumF (fun t => (nD a u v t : Int) * (nD b w z t : Int)) 9 = 9)
theorem one_tab : ∀ a < 3, ∀ u < 3, ∀ v < 3, oneB a u v = true := by decide +kernel
theorem pair_tab : ∀ a < 3, ∀ u < 3, ∀ v < 3, ∀ b < 3, ∀ w < 3, ∀ z < 3, pairB a u v b w z = true := by decide +kernel
theorem one_dec (a : Nat) (ha : a < 3) (u : Nat) (hu : u < 3) (v : Nat) (hv : v < 3) (h : u ≠ 0 ∨ v ≠ 0) : sumF (fun t => (nD a u v t : Int)) 9 = 9 ∧ sumF (fun t => (nD a u v t : Int) * (nD a u v t : Int)) 9 = 15 := by
  have := one_tab a ha u hu v hv
  unfold oneB at this
  simp only [Bool.or_eq_true, Bool.and_eq_true, decide_eq_true_eq] at this
  rcases this with h1 | h1
  · omega
  · exact h1
theorem pair_dec (a : Nat) (ha : a < 3) (u : Nat) (hu : u < 3) (v : Nat) (hv : v < 3) (b : Nat) (hb : b < 3) (w : Nat) (hw : w < 3) (z : Nat) (hz : z < 3) (h : (u * z + 2 * (v * w)) % 3 ≠ 0) : sumF (fun t => (nD a u v t : Int) * (nD b w z t : Int)) 9 = 9 := by
  have := pair_tab a ha u hu v hv b hb w hw z hz
  unfold pairB at this
  simp only [Bool.or_eq_true, decide_eq_true_eq] at this
  rcases this with h1 | h1
  · exact absurd h1 h
  · exact h1
theorem m3_lt (x : Int) : (x % 3).toNat < 3 := by omega
theorem det_nat {u v w z : Int} (h : (u * z - v * w) % 3 ≠ 0) : ((u % 3).toNat * (z % 3).toNat + 2 * ((v % 3).toNat * (w % 3).toNat)) % 3 ≠ 0 := by
  intro h0
  apply h
  rw [Int.sub_emod, Int.mul_emod u z, Int.mul_emod v w]
  have h1 : ((u % 3).toNat : Int) = u % 3 := Int.toNat_of_nonneg (by omega)
  have h2 : ((v % 3).toNat : Int) = v % 3 := Int.toNat_of_nonneg (by omega)
  have h3 : ((w % 3).toNat : Int) = w % 3 := Int.toNat_of_nonneg (by omega)
  have h4 : ((z % 3).toNat : Int) = z % 3 := Int.toNat_of_nonneg (by omega)
  have h5 : (((u % 3).toNat * (z % 3).toNat + 2 * ((v % 3).toNat * (w % 3).toNat) : Nat) : Int) % 3 = 0 := by omega
  push_cast at h5
  rw [h1, h2, h3, h4] at h5
  omega
theorem one_sum (a u v : Int) (h : u % 3 ≠ 0 ∨ v % 3 ≠ 0) : sumF (lD a u v) 9 = 9 ∧ sumF (fun t => lD a u v t * lD a u v t) 9 = 15 := by
  have := one_dec _ (m3_lt a) _ (m3_lt u) _ (m3_lt v) (by omega)
  rw [show lD a u v = fun t => ((nD (a % 3).toNat (u % 3).toNat (v % 3).toNat t : Nat) : Int) from funext (lD_nD a u v)]
  exact this
theorem pair_sum (a u v b w z : Int) (h : (u * z - v * w) % 3 ≠ 0) : sumF (fun t => lD a u v t * lD b w z t) 9 = 9 := by
  have := pair_dec _ (m3_lt a) _ (m3_lt u) _ (m3_lt v) _ (m3_lt b) _ (m3_lt w) _ (m3_lt z) (det_nat h)
  rw [show lD a u v = fun t => ((nD (a % 3).toNat (u % 3).toNat (v % 3).toNat t : Nat) : Int) from funext (lD_nD a u v), show lD b w z = fun t => ((nD (b % 3).toNat (w % 3).toNat (z % 3).toNat t : Nat) : Int) from funext (lD_nD b w z)]
  exact this
theorem nz_of {u v w z : Int} (h : (u * z - v * w) % 3 ≠ 0) : (u % 3 ≠ 0 ∨ v % 3 ≠ 0) ∧ (w % 3 ≠ 0 ∨ z % 3 ≠ 0) := by
  rw [Int.sub_emod, Int.mul_emod u z, Int.mul_emod v w] at h
  refine ⟨Classical.byContradiction fun hc => h ?_, Classical.byContradiction fun hc => h ?_⟩
  · rw [show u % 3 = 0 by omega, show v % 3 = 0 by omega, Int.zero_mul, Int.zero_mul]; rfl
  · rw [show w % 3 = 0 by omega, show z % 3 = 0 by omega, Int.mul_zero, Int.mul_zero]; rfl
def val4 (p q r s : Int) : Int := 3 * (3 * (3 * (3 * 0 + p) + q) + r) + s + 1
theorem line_sums (f : Nat → Int) (a0 u0 v0 a1 u1 v1 a2 u2 v2 a3 u3 v3 : Int)
    (hf : ∀ t, t < 9 → f t = val4 (lD a0 u0 v0 t) (lD a1 u1 v1 t) (lD a2 u2 v2 t) (lD a3 u3 v3 t))
    (h10 : (u1 * v0 - v1 * u0) % 3 ≠ 0) (h20 : (u2 * v0 - v2 * u0) % 3 ≠ 0) (h21 : (u2 * v1 - v2 * u1) % 3 ≠ 0) (h30 : (u3 * v0 - v3 * u0) % 3 ≠ 0) (h31 : (u3 * v1 - v3 * u1) % 3 ≠ 0) (h32 : (u3 * v2 - v3 * u2) % 3 ≠ 0) :
    sumF f 9 = 369 ∧ sumF (fun t => f t * f t) 9 = 20049 := by
  obtain ⟨n1, n0⟩ := nz_of h10
  obtain ⟨n3, n2⟩ := nz_of h32
  have s0 := one_sum a0 u0 v0 n0
  have s1 := one_sum a1 u1 v1 n1
  have s2 := one_sum a2 u2 v2 n2
  have s3 := one_sum a3 u3 v3 n3
  have p10 := pair_sum a1 u1 v1 a0 u0 v0 h10
  have p20 := pair_sum a2 u2 v2 a0 u0 v0 h20
  have p21 := pair_sum a2 u2 v2 a1 u1 v1 h21
  have p30 := pair_sum a3 u3 v3 a0 u0 v0 h30
  have p31 := pair_sum a3 u3 v3 a1 u1 v1 h31
  have p32 := pair_sum a3 u3 v3 a2 u2 v2 h32
  clear h10 h20 h21 h30 h31 h32 n0 n1 n2 n3
  generalize lD a0 u0 v0 = d0 at *
  generalize lD a1 u1 v1 = d1 at *
  generalize lD a2 u2 v2 = d2 at *
  generalize lD a3 u3 v3 = d3 at *
  constructor
  · rw [sumF_congr (g := fun t => 27 * d0 t + 9 * d1 t + 3 * d2 t + d3 t + 1) fun t ht => by rw [hf t ht]; unfold val4; omega]
    rw [sumF_add, sumF_add, sumF_add, sumF_add, sumF_mul, sumF_mul, sumF_mul, sumF_const]
    omega
  · rw [sumF_congr (g := fun t => 1 + 54 * d0 t + 18 * d1 t + 6 * d2 t + 2 * d3 t + 729 * (d0 t * d0 t) + 81 * (d1 t * d1 t) + 9 * (d2 t * d2 t) + d3 t * d3 t + 486 * (d1 t * d0 t) + 162 * (d2 t * d0 t) + 54 * (d3 t * d0 t) + 54 * (d2 t * d1 t) + 18 * (d3 t * d1 t) + 6 * (d3 t * d2 t)) fun t ht => by rw [hf t ht]; unfold val4; grind]
    simp only [sumF_add, sumF_mul, sumF_const]
    omega
end Go.Eng.YtobnbkoeocdhbaaGreatDoor
namespace Go.Eng.YtobnbkoeocdhbaaGreatDoor
open Go.Proofs
set_option maxRecDepth 100000
set_option maxHeartbeats 0
set_option linter.unusedVariables false
set_option linter.unusedSimpArgs false
/-! when, first -/
def aWhenP : PSp := fun xs K => match xs with
  | [.bp h, .int .i64 e] => K (.int .i64 (if h then e else 0))
  | [.bool h, .int .i64 e] => K (.int .i64 (if h then e else 0))
  | _ => False
theorem aWhen_spec (h : Bool) (e : Int) : PSpec Tryz.prog 140 [.bp h, .int .i64 e] (.int .i64 (if h then e else 0)) := by
  refine pspec_of (md := 1) (rf := []) mixed tabOK noC_ok Tryz.func140 (by rfl) (by rfl) (by rfl) ?_
  repeat' ((conv => whnf); first | refine And.intro ?_ ?_ | with_reducible exact VC.mk rfl | exact Ok.mk | exact True.intro | refine Nx.mk ?_ | refine Fin.mk ?_ | intro _)
  all_goals refine Sup.of ?_
  all_goals simp_all [resOf]
theorem aWhen_spec' (h : Bool) (e : Int) : PSpec Tryz.prog 140 [.bool h, .int .i64 e] (.int .i64 (if h then e else 0)) :=
  pspec_up (aWhen_spec h e) fun S w ι vs hr => ⟨hr.1, fun i hi => by
    have := hr.2 i (by simpa using hi)
    match i, hi with
    | 0, _ => cases h2 : vs.getD 0 undef <;> rw [h2] at this <;> cases this; exact .bp _ _
    | 1, _ => exact this⟩
theorem aWhen_ok : POK Tryz.prog 140 aWhenP := by
  intro xs K h
  unfold aWhenP at h
  split at h
  · exact ⟨_, h, aWhen_spec _ _⟩
  · exact ⟨_, h, aWhen_spec' _ _⟩
  · exact h.elim
theorem aFirst_spec (l : List Int) (hl : l.length < 1000000) : PSpec Tryz.prog 143 [.isl (.ints .i64 l) .none] (.int .i64 (firstOf l)) := by
  refine pspec_of (md := 1) (rf := []) mixed tabOK noC_ok Tryz.func143 (by rfl) (by rfl) (by rfl) ?_
  repeat' ((conv => whnf); first | refine And.intro ?_ ?_ | with_reducible exact VC.mk rfl | exact Ok.mk | exact True.intro | refine Nx.mk ?_ | refine Fin.mk ?_ | intro _)
  conv => whnf
  refine loop_of (X := Nat) (fun i => i ≤ l.length ∧ ∀ j, j < i → l.getD j 0 = 0) (fun i => [(7, .int .i64 i)]) (fun _ => []) (fun i => l.length - i) 0 ⟨anyB_ok, mixed, tabOK, noC_ok, noY_ok⟩ (by rfl) ⟨by omega, fun j hj => by omega⟩ ?_ ?_
  · repeat' ((conv => whnf); first | refine And.intro ?_ ?_ | with_reducible exact VC.mk rfl | exact Ok.mk | exact True.intro | refine Nx.mk ?_ | refine Fin.mk ?_ | intro _)
    all_goals ((try refine VC.mk ?_); (try simp only [CL.ncell, CL.cnt, vq] at *); (try omega))
  · intro i hi
    obtain ⟨hi, hz⟩ := hi
    repeat' ((conv => whnf); first | refine And.intro ?_ ?_ | with_reducible exact VC.mk rfl | exact Ok.mk | exact True.intro | refine Nx.mk ?_ | refine Fin.mk ?_ | intro _)
    all_goals ((try refine VC.mk ?_); (try simp only [CL.ncell, CL.cnt, vq] at *); (try omega))
    · rename_i hne
      have := firstOf_at l i (by omega) hz (by simpa using hne)
      rw [this]; exact Sup.of rfl
    · rename_i hne
      have hne : l.getD i 0 = 0 := by simpa using hne
      refine ⟨i + 1, [], ⟨⟨by omega, fun j hj => ?_⟩, by omega⟩, ?_⟩
      · by_cases e : j = i
        · subst e; exact hne
        · exact hz j (by omega)
      · repeat' ((conv => whnf); first | refine And.intro ?_ ?_ | with_reducible exact VC.mk rfl | exact Ok.mk | exact True.intro | refine Nx.mk ?_ | refine Fin.mk ?_ | intro _)
        all_goals ((try refine VC.mk ?_); (try simp only [CL.ncell, CL.cnt, vq] at *); (try omega))
    · have : i = l.length := by omega
      subst this
      rw [firstOf_zero l hz]; exact Sup.of rfl
def aFirstP : PSp := fun xs K => match xs with
  | [.isl (.ints .i64 l) .none] => VC (l.length < 1000000) ∧ K (.int .i64 (firstOf l))
  | _ => False
theorem aFirst_ok : POK Tryz.prog 143 aFirstP := by
  intro xs K h
  unfold aFirstP at h
  split at h
  · exact ⟨_, h.2, aFirst_spec _ h.1.get⟩
  · exact h.elim
/-! numbers in their range -/
def isNum (n : Int) : Bool := decide (-999999999 ≤ n) && decide (n ≤ 999999999)
theorem isNumber_spec (n : Int) : PSpec Tryz.prog 142 [.int .i64 n] (.bp (isNum n)) := by
  refine pspec_of (md := 1) (rf := []) mixed tabOK noC_ok Tryz.func142 (by rfl) (by rfl) (by rfl) ?_
  repeat' ((conv => whnf); first | refine And.intro ?_ ?_ | with_reducible exact VC.mk rfl | exact Ok.mk | exact True.intro | refine Nx.mk ?_ | refine Fin.mk ?_ | intro _)
  all_goals refine Sup.via ?_
  all_goals repeat' ((conv => whnf); first | refine And.intro ?_ ?_ | with_reducible exact VC.mk rfl | exact Ok.mk | exact True.intro | refine Nx.mk ?_ | refine Fin.mk ?_ | intro _)
  all_goals refine VC.mk ?_
  all_goals simp_all [isNum]
  all_goals (try omega)
def isNumberP : PSp := fun xs K => match xs with
  | [.int .i64 n] => VC (True) ∧ K (.bp (isNum n))
  | _ => False
theorem isNumber_ok : POK Tryz.prog 142 isNumberP := by
  intro xs K h
  unfold isNumberP at h
  split at h
  · exact ⟨_, h.2, isNumber_spec _⟩
  · exact h.elim
theorem c78_spec (n : Int) : PSpec Tryz.prog 141 ([] ++ [.int .i64 n] ++ []) (.bp (!isNum n)) := by
  have hC := cpAdd_ok (pureCC_ok isNumber_ok) noC_ok
  refine pspec_of (md := 1) (rf := []) mixed tabOK hC Tryz.func141 (by rfl) (by rfl) (by rfl) ?_
  repeat' ((conv => whnf); first | refine And.intro ?_ ?_ | with_reducible exact VC.mk rfl | exact Ok.mk | exact True.intro | refine Nx.mk ?_ | refine Fin.mk ?_ | intro _)
  all_goals ((try refine VC.mk ?_); (try simp only [CL.ncell, CL.cnt, vq] at *); (try omega))
  all_goals (refine Sup.via ?_; repeat' ((conv => whnf); first | refine And.intro ?_ ?_ | with_reducible exact VC.mk rfl | exact Ok.mk | exact True.intro | refine Nx.mk ?_ | refine Fin.mk ?_ | intro _); all_goals ((try refine VC.mk ?_); (try simp only [CL.ncell, CL.cnt, vq] at *); (try omega)); all_goals (try (simp [CL.sub]; done)))
noncomputable def cpW : CPT := cpAdd 86 (viewCC hasFP) (cpAdd 140 (pureCC aWhenP) noC)
theorem cpW_ok : CPOK Tryz.prog cpW := cpAdd_ok (viewCC_ok hasF_ok) (cpAdd_ok (pureCC_ok aWhen_ok) noC_ok)
theorem c76_spec (l : List Int) (hl : l.length ≤ 2000000) : PSpec Tryz.prog 139 [.isl (.ints .i64 l) .none] (.int .i64 (if l.any (fun n => !isNum n) then 3 else 0)) := by
  refine pspec_of (md := 1) (rf := []) mixed tabOK cpW_ok Tryz.func139 (by rfl) (by rfl) (by rfl) ?_
  repeat' ((conv => whnf); first | refine And.intro ?_ ?_ | with_reducible exact VC.mk rfl | exact Ok.mk | exact True.intro | refine Nx.mk ?_ | refine Fin.mk ?_ | intro _)
  all_goals ((try refine VC.mk ?_); (try simp only [CL.ncell, CL.cnt, vq] at *); (try omega))
  · exact ⟨hl, rfl⟩
  refine ⟨fun n => !isNum n, fun x _ => c78_spec x, ?_⟩
  repeat' ((conv => whnf); first | refine And.intro ?_ ?_ | with_reducible exact VC.mk rfl | exact Ok.mk | exact True.intro | refine Nx.mk ?_ | refine Fin.mk ?_ | intro _)
  all_goals ((try refine VC.mk ?_); (try simp only [CL.ncell, CL.cnt, vq] at *); (try omega))
  all_goals (first | (refine Sup.of ?_; first | rfl | (simp [*, resOf]; done)) | (refine Sup.via ?_; repeat' ((conv => whnf); first | refine And.intro ?_ ?_ | with_reducible exact VC.mk rfl | exact Ok.mk | exact True.intro | refine Nx.mk ?_ | refine Fin.mk ?_ | intro _); all_goals ((try refine VC.mk ?_); (try simp only [CL.ncell, CL.cnt, vq] at *); (try omega)); all_goals (try (simp [CL.sub]; done))))
def c76P : PSp := fun xs K => match xs with
  | [.isl (.ints .i64 l) .none] => VC (l.length ≤ 2000000) ∧ K (.int .i64 (if l.any (fun n => !isNum n) then 3 else 0))
  | _ => False
theorem c76_ok : POK Tryz.prog 139 c76P := by
  intro xs K h
  unfold c76P at h
  split at h
  · exact ⟨_, h.2, c76_spec _ h.1.get⟩
  · exact h.elim
/-! residues -/
theorem of_spec (p n : Int) (hp : 0 < p ∧ p ≤ 1000000000) : PSpec Tryz.prog 146 [.agg [.int .i64 p], .int .i64 n] (.int .i64 (n % p)) := by
  have h3 := Int.tmod_lt_of_pos n hp.1
  have h4 : -p < n.tmod p := by
    by_cases h : 0 ≤ n
    · have := Int.tmod_nonneg p h; omega
    · have := Int.tmod_lt_of_pos (-n) hp.1; rw [Int.neg_tmod] at this; omega
  have h0 : n % p = (n.tmod p + p).tmod p := by
    rw [Int.tmod_eq_emod_of_nonneg (by omega), Int.add_emod_right]
    conv => lhs; rw [← Int.tmod_add_mul_tdiv n p, Int.add_mul_emod_self_left]
  rw [h0]
  refine pspec_of (md := 1) (rf := []) mixed tabOK noC_ok Tryz.func146 (by rfl) (by rfl) (by rfl) ?_
  repeat' ((conv => whnf); first | refine And.intro ?_ ?_ | with_reducible exact VC.mk rfl | exact Ok.mk | exact True.intro | refine Nx.mk ?_ | refine Fin.mk ?_ | intro _)
  all_goals ((try refine VC.mk ?_); (try simp only [CL.ncell, CL.cnt, vq] at *); (try omega))
  all_goals (first | (refine Sup.of ?_; first | rfl | (simp [*, resOf]; done)) | (refine Sup.via ?_; repeat' ((conv => whnf); first | refine And.intro ?_ ?_ | with_reducible exact VC.mk rfl | exact Ok.mk | exact True.intro | refine Nx.mk ?_ | refine Fin.mk ?_ | intro _); all_goals ((try refine VC.mk ?_); (try simp only [CL.ncell, CL.cnt, vq] at *); (try omega)); all_goals (try (simp [CL.sub]; done))))
theorem isZero_spec (p n : Int) : PSpec Tryz.prog 243 [.agg [.int .i64 p], .int .i64 n] (.bp (decide (n = 0))) := by
  refine pspec_of (md := 1) (rf := []) mixed tabOK noC_ok Tryz.func243 (by rfl) (by rfl) (by rfl) ?_
  repeat' ((conv => whnf); first | refine And.intro ?_ ?_ | with_reducible exact VC.mk rfl | exact Ok.mk | exact True.intro | refine Nx.mk ?_ | refine Fin.mk ?_ | intro _)
  all_goals ((try refine VC.mk ?_); (try simp only [CL.ncell, CL.cnt, vq] at *); (try omega))
  all_goals (refine Sup.via ?_; repeat' ((conv => whnf); first | refine And.intro ?_ ?_ | with_reducible exact VC.mk rfl | exact Ok.mk | exact True.intro | refine Nx.mk ?_ | refine Fin.mk ?_ | intro _); all_goals ((try refine VC.mk ?_); (try simp only [CL.ncell, CL.cnt, vq] at *); (try omega)); all_goals (try (simp [CL.sub]; done)))
theorem mul_spec (p a b : Int) (hp : 0 < p ∧ p ≤ 1000000000) (ha : 0 ≤ a ∧ a < p) (hb : 0 ≤ b ∧ b < p) : PSpec Tryz.prog 244 [.agg [.int .i64 p], .int .i64 a, .int .i64 b] (.int .i64 (a * b % p)) := by
  have h1 := mul_bd (A := 1000000000) (B := 1000000000) (show 0 ≤ a ∧ a ≤ 1000000000 by omega) (show 0 ≤ b ∧ b ≤ 1000000000 by omega)
  refine pspec_of (md := 0) (rf := []) mixed tabOK noC_ok Tryz.func244 (by rfl) (by rfl) (by rfl) ?_
  repeat' ((conv => whnf); first | refine And.intro ?_ ?_ | with_reducible exact VC.mk rfl | exact Ok.mk | exact True.intro | refine Nx.mk ?_ | refine Fin.mk ?_ | intro _)
  all_goals ((try refine VC.mk ?_); (try simp only [CL.ncell, CL.cnt, vq] at *); (try omega))
  all_goals (first | (refine Sup.of ?_; first | rfl | (simp [*, resOf]; done)) | (refine Sup.via ?_; repeat' ((conv => whnf); first | refine And.intro ?_ ?_ | with_reducible exact VC.mk rfl | exact Ok.mk | exact True.intro | refine Nx.mk ?_ | refine Fin.mk ?_ | intro _); all_goals ((try refine VC.mk ?_); (try simp only [CL.ncell, CL.cnt, vq] at *); (try omega)); all_goals (try (simp [CL.sub]; done))))
theorem sub_spec (p a b : Int) (hp : 0 < p ∧ p ≤ 1000000000) (ha : 0 ≤ a ∧ a < p) (hb : 0 ≤ b ∧ b < p) : PSpec Tryz.prog 245 [.agg [.int .i64 p], .int .i64 a, .int .i64 b] (.int .i64 ((a - b) % p)) := by
  have e : (a - b) % p = (a - b + p) % p := by rw [Int.add_emod_right]
  rw [e]
  refine pspec_of (md := 0) (rf := []) mixed tabOK noC_ok Tryz.func245 (by rfl) (by rfl) (by rfl) ?_
  repeat' ((conv => whnf); first | refine And.intro ?_ ?_ | with_reducible exact VC.mk rfl | exact Ok.mk | exact True.intro | refine Nx.mk ?_ | refine Fin.mk ?_ | intro _)
  all_goals ((try refine VC.mk ?_); (try simp only [CL.ncell, CL.cnt, vq] at *); (try omega))
  all_goals (first | (refine Sup.of ?_; first | rfl | (simp [*, resOf]; done)) | (refine Sup.via ?_; repeat' ((conv => whnf); first | refine And.intro ?_ ?_ | with_reducible exact VC.mk rfl | exact Ok.mk | exact True.intro | refine Nx.mk ?_ | refine Fin.mk ?_ | intro _); all_goals ((try refine VC.mk ?_); (try simp only [CL.ncell, CL.cnt, vq] at *); (try omega)); all_goals (try (simp [CL.sub]; done))))
def rOfP : PSp := fun xs K => match xs with
  | [.agg [.int .i64 p], .int .i64 n] => VC (0 < p ∧ p ≤ 1000000000) ∧ K (.int .i64 (n % p))
  | _ => False
theorem rOf_ok : POK Tryz.prog 146 rOfP := by
  intro xs K h
  unfold rOfP at h
  split at h
  · exact ⟨_, h.2, of_spec _ _ h.1.get⟩
  · exact h.elim
def rIsZeroP : PSp := fun xs K => match xs with
  | [.agg [.int .i64 p], .int .i64 n] => VC (True) ∧ K (.bp (decide (n = 0)))
  | _ => False
theorem rIsZero_ok : POK Tryz.prog 243 rIsZeroP := by
  intro xs K h
  unfold rIsZeroP at h
  split at h
  · exact ⟨_, h.2, isZero_spec _ _⟩
  · exact h.elim
def rMulP : PSp := fun xs K => match xs with
  | [.agg [.int .i64 p], .int .i64 a, .int .i64 b] => VC ((0 < p ∧ p ≤ 1000000000) ∧ (0 ≤ a ∧ a < p) ∧ 0 ≤ b ∧ b < p) ∧ K (.int .i64 (a * b % p))
  | _ => False
theorem rMul_ok : POK Tryz.prog 244 rMulP := by
  intro xs K h
  unfold rMulP at h
  split at h
  · exact ⟨_, h.2, mul_spec _ _ _ h.1.get.1 h.1.get.2.1 h.1.get.2.2⟩
  · exact h.elim
def rSubP : PSp := fun xs K => match xs with
  | [.agg [.int .i64 p], .int .i64 a, .int .i64 b] => VC ((0 < p ∧ p ≤ 1000000000) ∧ (0 ≤ a ∧ a < p) ∧ 0 ≤ b ∧ b < p) ∧ K (.int .i64 ((a - b) % p))
  | _ => False
theorem rSub_ok : POK Tryz.prog 245 rSubP := by
  intro xs K h
  unfold rSubP at h
  split at h
  · exact ⟨_, h.2, sub_spec _ _ _ h.1.get.1 h.1.get.2.1 h.1.get.2.2⟩
  · exact h.elim
/-! the numbers modulo 3 -/
theorem isPrime3 : PSpec Tryz.prog 145 [.int .i64 3] (.bp true) := by
  refine pspec_of (md := 0) (rf := []) mixed tabOK noC_ok Tryz.func145 (by rfl) (by rfl) (by rfl) ?_
  repeat' ((conv => whnf); first | refine And.intro ?_ ?_ | with_reducible exact VC.mk rfl | exact Ok.mk | exact True.intro | refine Nx.mk ?_ | refine Fin.mk ?_ | (intro hq; (try simp only [decide_eq_true_eq, decide_eq_false_iff_not, Bool.not_eq_true, Bool.not_eq_false, Bool.not_eq_true', Bool.not_eq_false', Bool.not_true, Bool.not_false, ite_true, ite_false] at hq); (try (exfalso; first | exact absurd hq (by decide) | omega))))
  conv => whnf
  refine loop_rounds 2 (rounds_succ ⟨anyB_ok, mixed, tabOK, noC_ok, noY_ok⟩ (by rfl) ?_)
  repeat' ((conv => whnf); first | refine And.intro ?_ ?_ | with_reducible exact VC.mk rfl | exact Ok.mk | exact True.intro | refine Nx.mk ?_ | refine Fin.mk ?_ | (intro hq; (try simp only [decide_eq_true_eq, decide_eq_false_iff_not, Bool.not_eq_true, Bool.not_eq_false, Bool.not_eq_true', Bool.not_eq_false', Bool.not_true, Bool.not_false, ite_true, ite_false] at hq); (try (exfalso; first | exact absurd hq (by decide) | omega))))
  all_goals ((try refine VC.mk ?_); (try simp only [CL.ncell, CL.cnt, vq] at *); (try omega))
  all_goals (refine Sup.via ?_; repeat' ((conv => whnf); first | refine And.intro ?_ ?_ | with_reducible exact VC.mk rfl | exact Ok.mk | exact True.intro | refine Nx.mk ?_ | refine Fin.mk ?_ | intro _); all_goals ((try refine VC.mk ?_); (try simp only [CL.ncell, CL.cnt, vq] at *); (try omega)); all_goals (try (simp [CL.sub]; done)))
theorem inverse3 (a : Int) (ha : a = 1 ∨ a = 2) : PSpec Tryz.prog 246 [.int .i64 a, .int .i64 3] (.tup [.int .i64 a, .bp true]) := by
  rcases ha with rfl | rfl
  · skip
    refine pspec_of (md := 1) (rf := []) mixed tabOK noC_ok Tryz.func246 (by rfl) (by rfl) (by rfl) ?_
    repeat' ((conv => whnf); first | refine And.intro ?_ ?_ | with_reducible exact VC.mk rfl | exact Ok.mk | exact True.intro | refine Nx.mk ?_ | refine Fin.mk ?_ | (intro hq; (try simp only [decide_eq_true_eq, decide_eq_false_iff_not, Bool.not_eq_true, Bool.not_eq_false, Bool.not_eq_true', Bool.not_eq_false', Bool.not_true, Bool.not_false, ite_true, ite_false] at hq); (try (exfalso; first | exact absurd hq (by decide) | omega))))
    all_goals ((try refine VC.mk ?_); (try simp only [CL.ncell, CL.cnt, vq] at *); (try omega))
    · decide
    · decide
    conv => whnf
    refine loop_rounds 5 (rounds_succ ⟨anyB_ok, mixed, tabOK, noC_ok, noY_ok⟩ (by rfl) ?_)
    repeat' ((conv => whnf); first | refine And.intro ?_ ?_ | with_reducible exact VC.mk rfl | exact Ok.mk | exact True.intro | refine Nx.mk ?_ | refine Fin.mk ?_ | (intro hq; (try simp only [decide_eq_true_eq, decide_eq_false_iff_not, Bool.not_eq_true, Bool.not_eq_false, Bool.not_eq_true', Bool.not_eq_false', Bool.not_true, Bool.not_false, ite_true, ite_false] at hq); (try (exfalso; first | exact absurd hq (by decide) | omega))))
    all_goals ((try refine VC.mk ?_); (try simp only [CL.ncell, CL.cnt, vq] at *); (try omega))
    all_goals (first | decide | skip)
    conv => whnf
    refine rounds_succ ⟨anyB_ok, mixed, tabOK, noC_ok, noY_ok⟩ (by rfl) ?_
    repeat' ((conv => whnf); first | refine And.intro ?_ ?_ | with_reducible exact VC.mk rfl | exact Ok.mk | exact True.intro | refine Nx.mk ?_ | refine Fin.mk ?_ | (intro hq; (try simp only [decide_eq_true_eq, decide_eq_false_iff_not, Bool.not_eq_true, Bool.not_eq_false, Bool.not_eq_true', Bool.not_eq_false', Bool.not_true, Bool.not_false, ite_true, ite_false] at hq); (try (exfalso; first | exact absurd hq (by decide) | omega))))
    all_goals ((try refine VC.mk ?_); (try simp only [CL.ncell, CL.cnt, vq] at *); (try omega))
    all_goals (first | decide | skip)
    refine Sup.via ?_
    repeat' ((conv => whnf); first | refine And.intro ?_ ?_ | with_reducible exact VC.mk rfl | exact Ok.mk | exact True.intro | refine Nx.mk ?_ | refine Fin.mk ?_ | intro _)
    all_goals (refine VC.mk ?_; decide)
  · skip
    refine pspec_of (md := 1) (rf := []) mixed tabOK noC_ok Tryz.func246 (by rfl) (by rfl) (by rfl) ?_
    repeat' ((conv => whnf); first | refine And.intro ?_ ?_ | with_reducible exact VC.mk rfl | exact Ok.mk | exact True.intro | refine Nx.mk ?_ | refine Fin.mk ?_ | (intro hq; (try simp only [decide_eq_true_eq, decide_eq_false_iff_not, Bool.not_eq_true, Bool.not_eq_false, Bool.not_eq_true', Bool.not_eq_false', Bool.not_true, Bool.not_false, ite_true, ite_false] at hq); (try (exfalso; first | exact absurd hq (by decide) | omega))))
    all_goals ((try refine VC.mk ?_); (try simp only [CL.ncell, CL.cnt, vq] at *); (try omega))
    · decide
    · decide
    conv => whnf
    refine loop_rounds 5 (rounds_succ ⟨anyB_ok, mixed, tabOK, noC_ok, noY_ok⟩ (by rfl) ?_)
    repeat' ((conv => whnf); first | refine And.intro ?_ ?_ | with_reducible exact VC.mk rfl | exact Ok.mk | exact True.intro | refine Nx.mk ?_ | refine Fin.mk ?_ | (intro hq; (try simp only [decide_eq_true_eq, decide_eq_false_iff_not, Bool.not_eq_true, Bool.not_eq_false, Bool.not_eq_true', Bool.not_eq_false', Bool.not_true, Bool.not_false, ite_true, ite_false] at hq); (try (exfalso; first | exact absurd hq (by decide) | omega))))
    all_goals ((try refine VC.mk ?_); (try simp only [CL.ncell, CL.cnt, vq] at *); (try omega))
    all_goals (first | decide | skip)
    conv => whnf
    refine rounds_succ ⟨anyB_ok, mixed, tabOK, noC_ok, noY_ok⟩ (by rfl) ?_
    repeat' ((conv => whnf); first | refine And.intro ?_ ?_ | with_reducible exact VC.mk rfl | exact Ok.mk | exact True.intro | refine Nx.mk ?_ | refine Fin.mk ?_ | (intro hq; (try simp only [decide_eq_true_eq, decide_eq_false_iff_not, Bool.not_eq_true, Bool.not_eq_false, Bool.not_eq_true', Bool.not_eq_false', Bool.not_true, Bool.not_false, ite_true, ite_false] at hq); (try (exfalso; first | exact absurd hq (by decide) | omega))))
    all_goals ((try refine VC.mk ?_); (try simp only [CL.ncell, CL.cnt, vq] at *); (try omega))
    all_goals (first | decide | skip)
    conv => whnf
    refine rounds_succ ⟨anyB_ok, mixed, tabOK, noC_ok, noY_ok⟩ (by rfl) ?_
    repeat' ((conv => whnf); first | refine And.intro ?_ ?_ | with_reducible exact VC.mk rfl | exact Ok.mk | exact True.intro | refine Nx.mk ?_ | refine Fin.mk ?_ | (intro hq; (try simp only [decide_eq_true_eq, decide_eq_false_iff_not, Bool.not_eq_true, Bool.not_eq_false, Bool.not_eq_true', Bool.not_eq_false', Bool.not_true, Bool.not_false, ite_true, ite_false] at hq); (try (exfalso; first | exact absurd hq (by decide) | omega))))
    all_goals ((try refine VC.mk ?_); (try simp only [CL.ncell, CL.cnt, vq] at *); (try omega))
    all_goals (first | decide | skip)
    refine Sup.via ?_
    repeat' ((conv => whnf); first | refine And.intro ?_ ?_ | with_reducible exact VC.mk rfl | exact Ok.mk | exact True.intro | refine Nx.mk ?_ | refine Fin.mk ?_ | intro _)
    all_goals (refine VC.mk ?_; decide)
def rInvP : PSp := fun xs K => match xs with
  | [.agg [.int .i64 p], .int .i64 a] => VC (p = 3 ∧ 0 ≤ a ∧ a < 3 ∧ a ≠ 0) ∧ K (.int .i64 a)
  | _ => False
def inv3P : PSp := fun xs K => match xs with
  | [.int .i64 a, .int .i64 p] => VC (p = 3 ∧ (a = 1 ∨ a = 2)) ∧ K (.tup [.int .i64 a, .bp true])
  | _ => False
theorem inv3_ok : POK Tryz.prog 246 inv3P := by
  intro xs K h
  unfold inv3P at h
  split at h
  · obtain ⟨⟨rfl, h1⟩, h⟩ := h
    exact ⟨_, h, inverse3 _ h1⟩
  · exact h.elim
theorem rInv_spec (a : Int) (ha : a = 1 ∨ a = 2) : PSpec Tryz.prog 242 [.agg [.int .i64 3], .int .i64 a] (.int .i64 a) := by
  have hC := cpAdd_ok (pureCC_ok inv3_ok) noC_ok
  refine pspec_of (md := 1) (rf := []) mixed tabOK hC Tryz.func242 (by rfl) (by rfl) (by rfl) ?_
  repeat' ((conv => whnf); first | refine And.intro ?_ ?_ | with_reducible exact VC.mk rfl | exact Ok.mk | exact True.intro | refine Nx.mk ?_ | refine Fin.mk ?_ | intro _)
  all_goals ((try refine VC.mk ?_); (try simp only [CL.ncell, CL.cnt, vq] at *); (try omega))
  all_goals (first | (refine Sup.of ?_; first | rfl | (simp [*, resOf]; done)) | (refine Sup.via ?_; repeat' ((conv => whnf); first | refine And.intro ?_ ?_ | with_reducible exact VC.mk rfl | exact Ok.mk | exact True.intro | refine Nx.mk ?_ | refine Fin.mk ?_ | intro _); all_goals ((try refine VC.mk ?_); (try simp only [CL.ncell, CL.cnt, vq] at *); (try omega)); all_goals (try (simp [CL.sub]; done))))
theorem rInv_ok : POK Tryz.prog 242 rInvP := by
  intro xs K h
  unfold rInvP at h
  split at h
  · obtain ⟨⟨rfl, h1⟩, h⟩ := h
    exact ⟨_, h, rInv_spec _ (by omega)⟩
  · exact h.elim
end Go.Eng.YtobnbkoeocdhbaaGreatDoor
namespace Go.Eng.YtobnbkoeocdhbaaGreatDoor
open Go.Proofs
set_option maxRecDepth 100000
set_option maxHeartbeats 0
set_option linter.unusedVariables false
set_option linter.unusedSimpArgs false
/-- a matrix in its bounds, all of whose rows have some length -/
structure MatOK (m : List (List Int)) (w : Nat) : Prop where
  len : 1 ≤ m.length ∧ m.length ≤ 256
  wid : 1 ≤ w ∧ w ≤ 256
  rows : ∀ i, i < m.length → (m.getD i []).length = w
  nums : ∀ i, i < m.length → (m.getD i []).any (fun n => !isNum n) = false
noncomputable def cpSh : CPT := cpAdd 139 (pureCC c76P) (cpAdd 140 (pureCC aWhenP) (cpAdd 143 (pureCC aFirstP) noC))
theorem cpSh_ok : CPOK Tryz.prog cpSh := cpAdd_ok (pureCC_ok c76_ok) (cpAdd_ok (pureCC_ok aWhen_ok) (cpAdd_ok (pureCC_ok aFirst_ok) noC_ok))
theorem checkShape_spec (m : List (List Int)) (w : Nat) (h : MatOK m w) : PSpec Tryz.prog 144 [.isl (.rows .i64 m) .none, .fn (.func 139) [] []] (.int .i64 0) := by
  obtain ⟨h1, h2, h3, h4⟩ := h
  have h30 := h3 0 (by omega)
  refine pspec_of (md := 1) (rf := []) mixed tabOK cpSh_ok Tryz.func144 (by rfl) (by rfl) (by rfl) ?_
  repeat' ((conv => whnf); first | refine And.intro ?_ ?_ | with_reducible exact VC.mk rfl | exact Ok.mk | exact True.intro | refine Nx.mk ?_ | refine Fin.mk ?_ | intro _)
  all_goals ((try refine VC.mk ?_); (try simp only [CL.ncell, CL.cnt, vq] at *); (try omega))
  conv => whnf
  refine loop_of (X := Nat) (fun i => i ≤ m.length) (fun i => [(14, .int .i64 i)]) (fun _ => []) (fun i => m.length - i) 0 ⟨anyB_ok, mixed, tabOK, cpSh_ok, noY_ok⟩ (by rfl) (by omega) ?_ ?_
  · repeat' ((conv => whnf); first | refine And.intro ?_ ?_ | with_reducible exact VC.mk rfl | exact Ok.mk | exact True.intro | refine Nx.mk ?_ | refine Fin.mk ?_ | intro _)
    all_goals ((try refine VC.mk ?_); (try simp only [CL.ncell, CL.cnt, vq] at *); (try omega))
  · intro i hi
    by_cases hlt : i < m.length
    · have h3i := h3 i hlt
      have h4i := h4 i hlt
      repeat' ((conv => whnf); first | refine And.intro ?_ ?_ | with_reducible exact VC.mk rfl | exact Ok.mk | exact True.intro | refine Nx.mk ?_ | refine Fin.mk ?_ | intro _)
      all_goals ((try refine VC.mk ?_); (try simp only [CL.ncell, CL.cnt, vq] at *); (try omega))
      · exfalso
        rename_i hne
        apply hne
        rw [h3i, show Int.toNat 0 = 0 from rfl, h30, if_neg (by omega), if_neg (by simp)]
        rfl
      · exfalso
        rename_i hne
        apply hne
        rw [if_neg (by rw [h4i]; simp)]
      · refine ⟨i + 1, [], ⟨by omega, by omega⟩, ?_⟩
        repeat' ((conv => whnf); first | refine And.intro ?_ ?_ | with_reducible exact VC.mk rfl | exact Ok.mk | exact True.intro | refine Nx.mk ?_ | refine Fin.mk ?_ | intro _)
        all_goals ((try refine VC.mk ?_); (try simp only [CL.ncell, CL.cnt, vq] at *); (try omega))
    · repeat' ((conv => whnf); first | refine And.intro ?_ ?_ | with_reducible exact VC.mk rfl | exact Ok.mk | exact True.intro | refine Nx.mk ?_ | refine Fin.mk ?_ | intro _)
      all_goals ((try refine VC.mk ?_); (try simp only [CL.ncell, CL.cnt, vq] at *); (try omega))
      all_goals (first | (refine Sup.of ?_; first | rfl | (simp [*, resOf]; done)) | (refine Sup.via ?_; repeat' ((conv => whnf); first | refine And.intro ?_ ?_ | with_reducible exact VC.mk rfl | exact Ok.mk | exact True.intro | refine Nx.mk ?_ | refine Fin.mk ?_ | intro _); all_goals ((try refine VC.mk ?_); (try simp only [CL.ncell, CL.cnt, vq] at *); (try omega)); all_goals (try (simp [CL.sub]; done))))
def shapeP (m : List (List Int)) : PSp := fun xs K => match xs with
  | [.isl (.rows .i64 l) .none, .fn (.func f) fs cs] => VC (l = m ∧ f = 139 ∧ fs = [] ∧ cs = []) ∧ K (.int .i64 0)
  | _ => False
theorem shape_ok {m : List (List Int)} {w : Nat} (h : MatOK m w) : POK Tryz.prog 144 (shapeP m) := by
  intro xs K hk
  unfold shapeP at hk
  split at hk
  · obtain ⟨⟨rfl, rfl, rfl, rfl⟩, hk⟩ := hk
    exact ⟨_, hk, checkShape_spec _ w h⟩
  · exact hk.elim
def prime3P : PSp := fun xs K => match xs with
  | [.int .i64 p] => VC (p = 3) ∧ K (.bp true)
  | _ => False
theorem prime3_ok : POK Tryz.prog 145 prime3P := by
  intro xs K h
  unfold prime3P at h
  split at h
  · obtain ⟨⟨rfl⟩, h⟩ := h
    exact ⟨_, h, isPrime3⟩
  · exact h.elim
/-- a row's list -/
def matL (w : Nat) (f : Nat → Int) : List Int := (List.range w).map f
theorem matL_len (w : Nat) (f : Nat → Int) : (matL w f).length = w := by simp [matL]
theorem matL_get {w : Nat} (f : Nat → Int) {j : Nat} (h : j < w) : (matL w f).getD j 0 = f j := by
  simp [matL, List.getD_eq_getElem?_getD, List.getElem?_range h]
theorem matL_set {w : Nat} (f : Nat → Int) (k : Nat) (v : Int) : (matL w f).set k v = matL w (fun j => if j = k then v else f j) := by
  apply List.ext_getElem
  · simp [matL]
  · intro j h1 h2
    simp only [matL, List.length_set, List.length_map, List.length_range] at h1
    rw [List.getElem_set]
    simp only [matL, List.getElem_map, List.getElem_range]
    by_cases e : k = j
    · subst e; simp
    · rw [if_neg e, if_neg (fun h => e h.symm)]
theorem matL_congr {w : Nat} {f g : Nat → Int} (h : ∀ j, j < w → f j = g j) : matL w f = matL w g := by
  unfold matL
  exact List.map_congr_left (fun j hj => h j (List.mem_range.1 hj))
abbrev Mat := Nat → Nat → Int
/-- a matrix of residues -/
def resM (m : List (List Int)) : Mat := fun r j => (m.getD r []).getD j 0 % 3
/-- a row of residues -/
def resRow (m : List (List Int)) (i : Nat) : List Int := (m.getD i []).map (· % 3)
theorem resRow_row (m : List (List Int)) {w r : Nat} (h : (m.getD r []).length = w) : resRow m r = matL w (resM m r) := by
  unfold resRow matL resM
  generalize m.getD r [] = row at *
  subst h
  apply List.ext_getElem
  · simp
  · intro j h1 h2
    have h3 : j < row.length := by simpa using h1
    simp only [List.getElem_map, List.getElem_range]
    rw [List.getD_eq_getElem?_getD, List.getElem?_eq_getElem h3]
    rfl
theorem take_map_succ (l : List Int) (k : Nat) (h : k < l.length) : (l.take (k + 1)).map (· % 3) = (l.take k).map (· % 3) ++ [l.getD k 0 % 3] := by
  rw [List.take_add_one, List.getD_eq_getElem?_getD, List.getElem?_eq_getElem h, List.map_append]; rfl
theorem modulo_spec (m : List (List Int)) (w : Nat) (h : MatOK m w) : LSpec Tryz.prog 106 [.isl (.rows .i64 m) .none, .int .i64 3] [] [.rsl 0 0 m.length, .agg [.int .i64 3], .int .i64 0] [.pmat m.length (.ints .i64 (fun r => matL w (resM m r)))] := by
  have hC := cpAdd_ok (viewCC_ok (shape_ok h)) (cpAdd_ok (pureCC_ok prime3_ok) (cpAdd_ok (pureCC_ok aWhen_ok) (cpAdd_ok (pureCC_ok aFirst_ok) (cpAdd_ok (pureCC_ok rOf_ok) noC_ok))))
  obtain ⟨h1, h2, h3, h4⟩ := h
  refine lspec_of (md := 1) (rf := [56, 60, 61]) mixed tabOK hC 0 [(2, 0)] Tryz.func106 (by rfl) (by rfl) (by rfl) ?_
  repeat' ((conv => whnf); first | refine And.intro ?_ ?_ | with_reducible exact VC.mk rfl | exact Ok.mk | exact True.intro | refine Nx.mk ?_ | refine Fin.mk ?_ | (intro hq; (try simp only [decide_eq_true_eq, decide_eq_false_iff_not, Bool.not_eq_true, Bool.not_eq_false, Bool.not_eq_true', Bool.not_eq_false', Bool.not_true, Bool.not_false, ite_true, ite_false] at hq); (try (exfalso; first | exact absurd hq (by decide) | omega))))
  all_goals ((try refine VC.mk ?_); (try simp only [CL.ncell, CL.cnt, vq] at *); (try omega))
  conv => whnf
  refine loop_of1 (X := Nat) (fun i => 1 ≤ i ∧ i ≤ m.length) (fun i => [(41, .int .i64 i), (10, .rsl 2 0 i)]) (fun i => [(2, .pmat i (.ints .i64 (resRow m)))]) (fun i => m.length - i) m.length ⟨anyB_ok, mixed, tabOK, hC, noY_ok⟩ (by rfl) ?_ ?_
  · have hrl : (m.getD (Int.toNat 0) []).length = w := h3 0 (by omega)
    repeat' ((conv => whnf); first | refine And.intro ?_ ?_ | with_reducible exact VC.mk rfl | exact Ok.mk | exact True.intro | refine Nx.mk ?_ | refine Fin.mk ?_ | (intro hq; (try simp only [decide_eq_true_eq, decide_eq_false_iff_not, Bool.not_eq_true, Bool.not_eq_false, Bool.not_eq_true', Bool.not_eq_false', Bool.not_true, Bool.not_false, ite_true, ite_false] at hq); (try (exfalso; first | exact absurd hq (by decide) | omega))))
    all_goals ((try refine VC.mk ?_); (try simp only [CL.ncell, CL.cnt, vq] at *); (try omega))
    conv => whnf
    refine loop_of1 (X := Nat) (fun k => 1 ≤ k ∧ k ≤ w) (fun k => [(47, .int .i64 k), (13, .rsl 3 0 k)]) (fun k => [(3, .cells (.ints .i64 (((m.getD (Int.toNat 0) []).take k).map (· % 3))) false)]) (fun k => w - k) w ⟨anyB_ok, mixed, tabOK, hC, noY_ok⟩ (by rfl) ?_ ?_
    · repeat' ((conv => whnf); first | refine And.intro ?_ ?_ | with_reducible exact VC.mk rfl | exact Ok.mk | exact True.intro | refine Nx.mk ?_ | refine Fin.mk ?_ | (intro hq; (try simp only [decide_eq_true_eq, decide_eq_false_iff_not, Bool.not_eq_true, Bool.not_eq_false, Bool.not_eq_true', Bool.not_eq_false', Bool.not_true, Bool.not_false, ite_true, ite_false] at hq); (try (exfalso; first | exact absurd hq (by decide) | omega))))
      all_goals ((try refine VC.mk ?_); (try simp only [CL.ncell, CL.cnt, vq] at *); (try omega))
      refine ⟨1, [(24, 3)], ⟨by omega, by omega⟩, ?_⟩
      repeat' ((conv => whnf); first | refine And.intro ?_ ?_ | with_reducible exact VC.mk rfl | exact Ok.mk | exact True.intro | refine Nx.mk ?_ | refine Fin.mk ?_ | intro _)
      all_goals ((try refine VC.mk ?_); (try simp only [CL.ncell, CL.cnt, vq] at *); (try omega))
      all_goals (try exact fun _ _ => trivial)
      rw [take_map_succ _ 0 (by omega)]; rfl
    · intro k hk
      have hlen : (((m.getD (Int.toNat 0) []).take k).map (· % 3)).length = k := by rw [List.length_map, List.length_take]; omega
      by_cases hkw : k < w
      · have hts := take_map_succ (m.getD (Int.toNat 0) []) k (by omega)
        repeat' ((conv => whnf); first | refine And.intro ?_ ?_ | with_reducible exact VC.mk rfl | exact Ok.mk | exact True.intro | refine Nx.mk ?_ | refine Fin.mk ?_ | (intro hq; (try simp only [decide_eq_true_eq, decide_eq_false_iff_not, Bool.not_eq_true, Bool.not_eq_false, Bool.not_eq_true', Bool.not_eq_false', Bool.not_true, Bool.not_false, ite_true, ite_false] at hq); (try (exfalso; first | exact absurd hq (by decide) | omega))))
        all_goals ((try refine VC.mk ?_); (try simp only [CL.ncell, CL.cnt, vq] at *); (try omega))
        refine ⟨k + 1, [(24, 3)], ⟨by omega, by omega⟩, ?_⟩
        repeat' ((conv => whnf); first | refine And.intro ?_ ?_ | with_reducible exact VC.mk rfl | exact Ok.mk | exact True.intro | refine Nx.mk ?_ | refine Fin.mk ?_ | intro _)
        all_goals ((try refine VC.mk ?_); (try simp only [CL.ncell, CL.cnt, vq] at *); (try omega))
        all_goals (try exact fun _ _ => trivial)
        rw [hts, Nat.sub_zero, List.drop_zero, List.take_of_length_le (by omega)]
      · have hkk : k = w := by omega
        repeat' ((conv => whnf); first | refine And.intro ?_ ?_ | with_reducible exact VC.mk rfl | exact Ok.mk | exact True.intro | refine Nx.mk ?_ | refine Fin.mk ?_ | (intro hq; (try simp only [decide_eq_true_eq, decide_eq_false_iff_not, Bool.not_eq_true, Bool.not_eq_false, Bool.not_eq_true', Bool.not_eq_false', Bool.not_true, Bool.not_false, ite_true, ite_false] at hq); (try (exfalso; first | exact absurd hq (by decide) | omega))))
        all_goals ((try refine VC.mk ?_); (try simp only [CL.ncell, CL.cnt, vq] at *); (try omega))
        refine ⟨1, [(26, 2)], ⟨by omega, by omega⟩, ?_⟩
        repeat' ((conv => whnf); first | refine And.intro ?_ ?_ | with_reducible exact VC.mk rfl | exact Ok.mk | exact True.intro | refine Nx.mk ?_ | refine Fin.mk ?_ | intro _)
        all_goals ((try refine VC.mk ?_); (try simp only [CL.ncell, CL.cnt, vq] at *); (try omega))
        all_goals (try exact fun _ _ => trivial)
        intro j hj
        rw [List.take_of_length_le (by omega)]
        (rw [show j = 0 by omega]; rfl)
  · intro i hi
    by_cases hlt : i < m.length
    · have hrl : (m.getD i []).length = w := h3 i hlt
      repeat' ((conv => whnf); first | refine And.intro ?_ ?_ | with_reducible exact VC.mk rfl | exact Ok.mk | exact True.intro | refine Nx.mk ?_ | refine Fin.mk ?_ | (intro hq; (try simp only [decide_eq_true_eq, decide_eq_false_iff_not, Bool.not_eq_true, Bool.not_eq_false, Bool.not_eq_true', Bool.not_eq_false', Bool.not_true, Bool.not_false, ite_true, ite_false] at hq); (try (exfalso; first | exact absurd hq (by decide) | omega))))
      all_goals ((try refine VC.mk ?_); (try simp only [CL.ncell, CL.cnt, vq] at *); (try omega))
      conv => whnf
      refine loop_of1 (X := Nat) (fun k => 1 ≤ k ∧ k ≤ w) (fun k => [(47, .int .i64 k), (13, .rsl 3 0 k)]) (fun k => [(3, .cells (.ints .i64 (((m.getD i []).take k).map (· % 3))) false)]) (fun k => w - k) w ⟨anyB_ok, mixed, tabOK, hC, noY_ok⟩ (by rfl) ?_ ?_
      · repeat' ((conv => whnf); first | refine And.intro ?_ ?_ | with_reducible exact VC.mk rfl | exact Ok.mk | exact True.intro | refine Nx.mk ?_ | refine Fin.mk ?_ | (intro hq; (try simp only [decide_eq_true_eq, decide_eq_false_iff_not, Bool.not_eq_true, Bool.not_eq_false, Bool.not_eq_true', Bool.not_eq_false', Bool.not_true, Bool.not_false, ite_true, ite_false] at hq); (try (exfalso; first | exact absurd hq (by decide) | omega))))
        all_goals ((try refine VC.mk ?_); (try simp only [CL.ncell, CL.cnt, vq] at *); (try omega))
        refine ⟨1, [(24, 3)], ⟨by omega, by omega⟩, ?_⟩
        repeat' ((conv => whnf); first | refine And.intro ?_ ?_ | with_reducible exact VC.mk rfl | exact Ok.mk | exact True.intro | refine Nx.mk ?_ | refine Fin.mk ?_ | intro _)
        all_goals ((try refine VC.mk ?_); (try simp only [CL.ncell, CL.cnt, vq] at *); (try omega))
        all_goals (try exact fun _ _ => trivial)
        rw [take_map_succ _ 0 (by omega)]; rfl
      · intro k hk
        have hlen : (((m.getD i []).take k).map (· % 3)).length = k := by rw [List.length_map, List.length_take]; omega
        by_cases hkw : k < w
        · have hts := take_map_succ (m.getD i []) k (by omega)
          repeat' ((conv => whnf); first | refine And.intro ?_ ?_ | with_reducible exact VC.mk rfl | exact Ok.mk | exact True.intro | refine Nx.mk ?_ | refine Fin.mk ?_ | (intro hq; (try simp only [decide_eq_true_eq, decide_eq_false_iff_not, Bool.not_eq_true, Bool.not_eq_false, Bool.not_eq_true', Bool.not_eq_false', Bool.not_true, Bool.not_false, ite_true, ite_false] at hq); (try (exfalso; first | exact absurd hq (by decide) | omega))))
          all_goals ((try refine VC.mk ?_); (try simp only [CL.ncell, CL.cnt, vq] at *); (try omega))
          refine ⟨k + 1, [(24, 3)], ⟨by omega, by omega⟩, ?_⟩
          repeat' ((conv => whnf); first | refine And.intro ?_ ?_ | with_reducible exact VC.mk rfl | exact Ok.mk | exact True.intro | refine Nx.mk ?_ | refine Fin.mk ?_ | intro _)
          all_goals ((try refine VC.mk ?_); (try simp only [CL.ncell, CL.cnt, vq] at *); (try omega))
          all_goals (try exact fun _ _ => trivial)
          rw [hts, Nat.sub_zero, List.drop_zero, List.take_of_length_le (by omega)]
        · have hkk : k = w := by omega
          repeat' ((conv => whnf); first | refine And.intro ?_ ?_ | with_reducible exact VC.mk rfl | exact Ok.mk | exact True.intro | refine Nx.mk ?_ | refine Fin.mk ?_ | (intro hq; (try simp only [decide_eq_true_eq, decide_eq_false_iff_not, Bool.not_eq_true, Bool.not_eq_false, Bool.not_eq_true', Bool.not_eq_false', Bool.not_true, Bool.not_false, ite_true, ite_false] at hq); (try (exfalso; first | exact absurd hq (by decide) | omega))))
          all_goals ((try refine VC.mk ?_); (try simp only [CL.ncell, CL.cnt, vq] at *); (try omega))
          refine ⟨(i + 1), [(26, 2)], ⟨by omega, by omega⟩, ?_⟩
          repeat' ((conv => whnf); first | refine And.intro ?_ ?_ | with_reducible exact VC.mk rfl | exact Ok.mk | exact True.intro | refine Nx.mk ?_ | refine Fin.mk ?_ | intro _)
          all_goals ((try refine VC.mk ?_); (try simp only [CL.ncell, CL.cnt, vq] at *); (try omega))
          all_goals (try exact fun _ _ => trivial)
          intro j hj
          rw [List.take_of_length_le (by omega)]
          (split; rfl; (rw [show j = i by omega]; rfl))
    · have him : i = m.length := by omega
      repeat' ((conv => whnf); first | refine And.intro ?_ ?_ | with_reducible exact VC.mk rfl | exact Ok.mk | exact True.intro | refine Nx.mk ?_ | refine Fin.mk ?_ | (intro hq; (try simp only [decide_eq_true_eq, decide_eq_false_iff_not, Bool.not_eq_true, Bool.not_eq_false, Bool.not_eq_true', Bool.not_eq_false', Bool.not_true, Bool.not_false, ite_true, ite_false] at hq); (try (exfalso; first | exact absurd hq (by decide) | omega))))
      all_goals ((try refine VC.mk ?_); (try simp only [CL.ncell, CL.cnt, vq] at *); (try omega))
      conv => whnf
      repeat' ((conv => whnf); first | refine And.intro ?_ ?_ | with_reducible exact VC.mk rfl | exact Ok.mk | exact True.intro | refine Nx.mk ?_ | refine Fin.mk ?_ | intro _)
      all_goals ((try refine VC.mk ?_); (try simp only [CL.ncell, CL.cnt, vq] at *); (try omega))
      rename_i r hr
      exact resRow_row m (h3 _ hr)
end Go.Eng.YtobnbkoeocdhbaaGreatDoor
namespace Go.Eng.YtobnbkoeocdhbaaGreatDoor
open Go.Proofs
set_option maxRecDepth 100000
set_option maxHeartbeats 0
set_option linter.unusedVariables false
set_option linter.unusedSimpArgs false
theorem te22s : te22.size = 1 := rfl
theorem width_spec {n w : Nat} {c : Nat → List Int} (hn : 1 ≤ n) (hw : ∀ i, i < n → (c i).length = w) : LSpec Tryz.prog 108 [.rsl 0 0 n] [.pmat n (.ints .i64 c)] [.int .i64 (w : Int)] [.pmat n (.ints .i64 c)] := by
  refine lspec_open_ints (pre := []) (post := []) (enters' Tryz.func108 (by rfl) (by rfl)) fun l c' hl hnd hc => ?_
  have h0 : (c' (l.getD 0 0)).length = w := by rw [hc 0 (by omega)]; exact hw 0 (by omega)
  refine lspec_of (md := 1) (rf := []) mixed tabOK noC_ok 0 [] Tryz.func108 (by rfl) (by rfl) (by rfl) ?_
  repeat' ((conv => whnf); first | refine And.intro ?_ ?_ | with_reducible exact VC.mk rfl | exact Ok.mk | exact True.intro | refine Nx.mk ?_ | refine Fin.mk ?_ | (intro hq; (try simp only [decide_eq_true_eq, decide_eq_false_iff_not, Bool.not_eq_true, Bool.not_eq_false, Bool.not_eq_true', Bool.not_eq_false', Bool.not_true, Bool.not_false, ite_true, ite_false] at hq); (try (exfalso; first | exact absurd hq (by decide) | omega))))
  all_goals ((try refine VC.mk ?_); (try simp only [CL.ncell, CL.cnt, vq] at *); (try omega))
  all_goals (try simp only [te22s, Nat.mul_one, Int.toNat_zero])
  · omega
  · rw [h0]
  · exact ⟨hl, hnd, fun _ h => h⟩
end Go.Eng.YtobnbkoeocdhbaaGreatDoor
namespace Go.Eng.YtobnbkoeocdhbaaGreatDoor
open Go.Proofs
set_option maxRecDepth 100000
set_option maxHeartbeats 0
set_option linter.unusedVariables false
set_option linter.unusedSimpArgs false
/-- the first row from n on that is not 0 in a column, or the number of rows -/
def findAt (M : Mat) (c n m : Nat) : Nat := match (List.range m).find? (fun r => decide (n ≤ r) && decide (M r c ≠ 0)) with
  | some r => r
  | none => m
theorem findAt_lt {M : Mat} {c n m : Nat} (h : findAt M c n m < m) : n ≤ findAt M c n m ∧ M (findAt M c n m) c ≠ 0 := by
  unfold findAt at h ⊢
  cases e : (List.range m).find? (fun r => decide (n ≤ r) && decide (M r c ≠ 0)) with
  | none => rw [e] at h; simp at h
  | some r =>
    have := List.find?_some e
    simpa using this
theorem findAt_le (M : Mat) (c n m : Nat) : findAt M c n m ≤ m := by
  unfold findAt
  cases e : (List.range m).find? (fun r => decide (n ≤ r) && decide (M r c ≠ 0)) with
  | none => exact Nat.le_refl _
  | some r => have := List.mem_of_find?_eq_some e; simp at this; exact Nat.le_of_lt this
theorem findAt_is {M : Mat} {c n m a : Nat} (ha : a < m) (hn : n ≤ a) (h0 : M a c ≠ 0) (hz : ∀ r, n ≤ r → r < a → M r c = 0) : findAt M c n m = a := by
  unfold findAt
  rw [find_some ha (by simp [hn, h0]) (fun i hi => by
    by_cases h : n ≤ i
    · simp [hz i h hi]
    · simp [h])]
theorem findAt_none {M : Mat} {c n m : Nat} (hz : ∀ r, n ≤ r → r < m → M r c = 0) : findAt M c n m = m := by
  unfold findAt
  rw [find_none (fun i hi => by
    by_cases h : n ≤ i
    · simp [hz i h hi]
    · simp [h])]
def swapM (M : Mat) (n a : Nat) : Mat := fun r => if r = n then M a else if r = a then M n else M r
def scaleM (M : Mat) (n : Nat) (s : Int) : Mat := fun r => if r = n then (fun j => M n j * s % 3) else M r
def clearM (M : Mat) (n c : Nat) : Mat := fun r => if r = n then M n else (fun j => (M r j - M r c * M n j % 3) % 3)
structure ES where
  M : Mat
  piv : List Int
  heads : List Int
  odd : Bool
def stepE (m : Nat) (s : ES) (c : Nat) : ES :=
  if findAt s.M c s.piv.length m = m then s else
    { M := clearM (scaleM (swapM s.M s.piv.length (findAt s.M c s.piv.length m)) s.piv.length (swapM s.M s.piv.length (findAt s.M c s.piv.length m) s.piv.length c)) s.piv.length c
      piv := s.piv ++ [(c : Int)]
      heads := s.heads ++ [swapM s.M s.piv.length (findAt s.M c s.piv.length m) s.piv.length c]
      odd := s.odd != (decide ((s.piv.length : Int) ≠ (findAt s.M c s.piv.length m : Nat))) }
def elimE (m : Nat) (M : Mat) : Nat → ES
  | 0 => ⟨M, [], [], false⟩
  | c + 1 => stepE m (elimE m M c) c
/-- entries modulo 3 -/
def In3 (m w : Nat) (M : Mat) : Prop := ∀ r, r < m → ∀ j, j < w → 0 ≤ M r j ∧ M r j < 3
theorem in3_swap {m w : Nat} {M : Mat} {n a : Nat} (h : In3 m w M) (hn : n < m) (ha : a < m) : In3 m w (swapM M n a) := fun r hr j hj => by
  unfold swapM
  split
  · exact h a ha j hj
  · split
    · exact h n hn j hj
    · exact h r hr j hj
theorem in3_mod (x : Int) : 0 ≤ x % 3 ∧ x % 3 < 3 := ⟨Int.emod_nonneg _ (by decide), Int.emod_lt_of_pos _ (by decide)⟩
theorem in3_scale {m w : Nat} {M : Mat} {n : Nat} {s : Int} (h : In3 m w M) : In3 m w (scaleM M n s) := fun r hr j hj => by
  unfold scaleM
  split
  · exact in3_mod _
  · exact h r hr j hj
theorem in3_clear {m w : Nat} {M : Mat} {n c : Nat} (h : In3 m w M) : In3 m w (clearM M n c) := fun r hr j hj => by
  unfold clearM
  split
  · rename_i e; subst e; exact h r hr j hj
  · exact in3_mod _
theorem elimE_in3 {m w : Nat} {M : Mat} (h : In3 m w M) (c : Nat) : In3 m w (elimE m M c).M ∧ (elimE m M c).piv.length ≤ m ∧ (elimE m M c).piv.length ≤ c := by
  induction c with
  | zero => exact ⟨h, Nat.zero_le _, Nat.zero_le _⟩
  | succ c ih =>
    obtain ⟨i1, i2, i3⟩ := ih
    rw [elimE, stepE]
    split
    · exact ⟨i1, i2, by omega⟩
    · rename_i hne
      have hle := findAt_le (elimE m M c).M c (elimE m M c).piv.length m
      have hlt : findAt (elimE m M c).M c (elimE m M c).piv.length m < m := by omega
      have hp := (findAt_lt hlt).1
      refine ⟨in3_clear (in3_scale (in3_swap i1 (by omega) hlt)), ?_, ?_⟩
      · simp only [List.length_append, List.length_cons, List.length_nil]; omega
      · simp only [List.length_append, List.length_cons, List.length_nil]; omega
theorem elimE_heads (m : Nat) (M : Mat) (c : Nat) : (elimE m M c).heads.length = (elimE m M c).piv.length := by
  induction c with
  | zero => rfl
  | succ c ih =>
    rw [elimE, stepE]
    split
    · exact ih
    · simp only [List.length_append, List.length_cons, List.length_nil, ih]
/-- an order with two places exchanged -/
def swl (l : List Nat) (n a : Nat) : List Nat := (l.set n (l.getD a 0)).set a (l.getD n 0)
theorem swl_get {l : List Nat} {n a r : Nat} (hn : n < l.length) (ha : a < l.length) : (swl l n a).getD r 0 = if r = n then l.getD a 0 else if r = a then l.getD n 0 else l.getD r 0 := by
  unfold swl
  rw [List.getD_eq_getElem?_getD, List.getElem?_set, List.getElem?_set]
  simp only [List.length_set]
  by_cases h1 : a = r
  · subst h1
    rw [if_pos rfl, if_pos ha]
    by_cases h2 : a = n
    · subst h2; rw [if_pos rfl]; rfl
    · rw [if_neg h2, if_pos rfl]; rfl
  · rw [if_neg h1]
    by_cases h2 : n = r
    · subst h2; rw [if_pos rfl, if_pos hn, if_pos rfl]; rfl
    · rw [if_neg h2, if_neg (fun h => h2 h.symm), if_neg (fun h => h1 h.symm), List.getD_eq_getElem?_getD]
theorem nodup_get {l : List Nat} : l.Nodup ↔ ∀ i j, i < l.length → j < l.length → l.getD i 0 = l.getD j 0 → i = j := by
  have hg : ∀ i, (h : i < l.length) → l.getD i 0 = l[i] := fun i h => by rw [List.getD_eq_getElem?_getD, List.getElem?_eq_getElem h]; rfl
  rw [List.Nodup, List.pairwise_iff_getElem]
  constructor
  · intro h i j hi hj e
    rw [hg i hi, hg j hj] at e
    rcases Nat.lt_trichotomy i j with h1 | h1 | h1
    · exact absurd e (h i j hi hj h1)
    · exact h1
    · exact absurd e.symm (h j i hj hi h1)
  · intro h i j hi hj hij e
    rw [← hg i hi, ← hg j hj] at e
    have := h i j hi hj e
    omega
def sgw (n a r : Nat) : Nat := if r = n then a else if r = a then n else r
theorem swl_get' {l : List Nat} {n a r : Nat} (hn : n < l.length) (ha : a < l.length) : (swl l n a).getD r 0 = l.getD (sgw n a r) 0 := by
  rw [swl_get hn ha]
  unfold sgw
  by_cases h1 : r = n
  · rw [if_pos h1, if_pos h1]
  · rw [if_neg h1, if_neg h1]
    by_cases h2 : r = a
    · rw [if_pos h2, if_pos h2]
    · rw [if_neg h2, if_neg h2]
theorem sgw_lt {n a r m : Nat} (hn : n < m) (ha : a < m) (hr : r < m) : sgw n a r < m := by
  unfold sgw; split
  · exact ha
  · split
    · exact hn
    · exact hr
theorem sgw_inj {n a i j : Nat} (h : sgw n a i = sgw n a j) : i = j := by
  unfold sgw at h
  by_cases h1 : i = n
  · rw [if_pos h1] at h
    by_cases h2 : j = n
    · omega
    · rw [if_neg h2] at h
      by_cases h3 : j = a
      · rw [if_pos h3] at h; omega
      · rw [if_neg h3] at h; omega
  · rw [if_neg h1] at h
    by_cases h4 : i = a
    · rw [if_pos h4] at h
      by_cases h2 : j = n
      · rw [if_pos h2] at h; omega
      · rw [if_neg h2] at h
        by_cases h3 : j = a
        · omega
        · rw [if_neg h3] at h; omega
    · rw [if_neg h4] at h
      by_cases h2 : j = n
      · rw [if_pos h2] at h; omega
      · rw [if_neg h2] at h
        by_cases h3 : j = a
        · rw [if_pos h3] at h; omega
        · rw [if_neg h3] at h; exact h
theorem swl_nodup {l : List Nat} {n a : Nat} (hn : n < l.length) (ha : a < l.length) (h : l.Nodup) : (swl l n a).Nodup := by
  rw [nodup_get] at h ⊢
  have hl : (swl l n a).length = l.length := by simp [swl]
  rw [hl]
  intro i j hi hj e
  rw [swl_get' hn ha, swl_get' hn ha] at e
  exact sgw_inj (h _ _ (sgw_lt hn ha hi) (sgw_lt hn ha hj) e)
theorem swl_mem {l : List Nat} {n a b : Nat} (hn : n < l.length) (ha : a < l.length) (h : b ∈ l) : b ∈ swl l n a := by
  have hl : (swl l n a).length = l.length := by simp [swl]
  obtain ⟨i, hi, rfl⟩ := List.getElem_of_mem h
  have key : ∀ r, r < l.length → (swl l n a).getD r 0 ∈ swl l n a := fun r hr => by
    rw [List.getD_eq_getElem?_getD, List.getElem?_eq_getElem (by omega)]; exact List.getElem_mem _
  have hg : l.getD i 0 = l[i] := by rw [List.getD_eq_getElem?_getD, List.getElem?_eq_getElem hi]; rfl
  by_cases h1 : i = n
  · have := key a ha
    rw [swl_get hn ha] at this
    subst h1
    split at this
    · rename_i e; subst e; rw [← hg]; exact this
    · rw [if_pos rfl] at this; rw [← hg]; exact this
  · by_cases h2 : i = a
    · have := key n hn
      rw [swl_get hn ha, if_pos rfl] at this
      subst h2; rw [← hg]; exact this
    · have := key i hi
      rw [swl_get hn ha, if_neg h1, if_neg h2] at this
      rw [← hg]; exact this
end Go.Eng.YtobnbkoeocdhbaaGreatDoor
namespace Go.Eng.YtobnbkoeocdhbaaGreatDoor
open Go.Proofs
set_option maxRecDepth 100000
set_option maxHeartbeats 0
set_option linter.unusedVariables false
set_option linter.unusedSimpArgs false
def dot4 (f x : Nat → Int) : Int := f 0 * x 0 + f 1 * x 1 + f 2 * x 2 + f 3 * x 3
/-- the solutions modulo 3 -/
def Ker (M : Mat) (x : Nat → Int) : Prop := ∀ r, r < 4 → dot4 (M r) x % 3 = 0
theorem mod_mul (a x : Int) : a % 3 * x = a * x - 3 * (a / 3 * x) := by
  have h : a % 3 = a - 3 * (a / 3) := by omega
  rw [h, Int.sub_mul, Int.mul_assoc]
theorem dot_mod (f x : Nat → Int) : dot4 (fun j => f j % 3) x % 3 = dot4 f x % 3 := by
  unfold dot4
  rw [mod_mul, mod_mul, mod_mul, mod_mul]
  omega
theorem dot_scale (f x : Nat → Int) (s : Int) : dot4 (fun j => f j * s % 3) x % 3 = (s * dot4 f x) % 3 := by
  rw [dot_mod (fun j => f j * s) x]
  congr 1
  unfold dot4
  simp only [Int.mul_add]
  simp only [Int.mul_comm, Int.mul_left_comm]
theorem dot_clear (f g x : Nat → Int) (q : Int) : dot4 (fun j => (f j - q * g j % 3) % 3) x % 3 = (dot4 f x - q * dot4 g x) % 3 := by
  rw [dot_mod (fun j => f j - q * g j % 3) x]
  unfold dot4
  simp only [Int.sub_mul, mod_mul, Int.mul_add]
  simp only [Int.mul_assoc]
  omega
theorem ker_swap {M : Mat} {n a : Nat} (hn : n < 4) (ha : a < 4) (x : Nat → Int) : Ker (swapM M n a) x ↔ Ker M x := by
  unfold Ker swapM
  constructor
  · intro h r hr
    by_cases h1 : r = n
    · subst h1
      have := h a ha
      by_cases h2 : a = r
      · subst h2; rwa [if_pos rfl] at this
      · rwa [if_neg h2, if_pos rfl] at this
    · by_cases h2 : r = a
      · subst h2
        have := h n hn
        rwa [if_pos rfl] at this
      · have := h r hr
        rwa [if_neg h1, if_neg h2] at this
  · intro h r hr
    split
    · exact h a ha
    · split
      · exact h n hn
      · exact h r hr
theorem ker_scale {M : Mat} {n : Nat} {s : Int} (hn : n < 4) (hs : s = 1 ∨ s = 2) (x : Nat → Int) : Ker (scaleM M n s) x ↔ Ker M x := by
  unfold Ker scaleM
  have key : dot4 (fun j => M n j * s % 3) x % 3 = 0 ↔ dot4 (M n) x % 3 = 0 := by
    rw [dot_scale]
    rcases hs with rfl | rfl <;> omega
  constructor
  · intro h r hr
    have := h r hr
    by_cases h1 : r = n
    · subst h1; rw [if_pos rfl] at this; exact key.1 this
    · rwa [if_neg h1] at this
  · intro h r hr
    split
    · exact key.2 (h n hn)
    · exact h r hr
theorem ker_clear {M : Mat} {n c : Nat} (hn : n < 4) (x : Nat → Int) : Ker (clearM M n c) x ↔ Ker M x := by
  unfold Ker clearM
  have key : ∀ r, dot4 (M n) x % 3 = 0 → (dot4 (fun j => (M r j - M r c * M n j % 3) % 3) x % 3 = dot4 (M r) x % 3) := fun r h0 => by
    rw [dot_clear]
    have h1 : dot4 (M n) x = 3 * (dot4 (M n) x / 3) := by omega
    rw [h1, Int.mul_left_comm]
    omega
  constructor
  · intro h r hr
    have h0 : dot4 (M n) x % 3 = 0 := by have := h n hn; rwa [if_pos rfl] at this
    by_cases h1 : r = n
    · subst h1; exact h0
    · have := h r hr
      rw [if_neg h1] at this
      rw [← key r h0]; exact this
  · intro h r hr
    split
    · exact h n hn
    · rw [key r (h n hn)]; exact h r hr
/-- after c columns: either all have heads, and are those of the unit matrix, or a solution other than 0 is known -/
theorem elim_ker {M : Mat} (h3 : In3 4 4 M) : ∀ c, c ≤ 4 →
    ((elimE 4 M c).piv.length = c ∧ (∀ r, r < 4 → ∀ j, j < c → (elimE 4 M c).M r j = if r = j then 1 else 0) ∧ ∀ x, Ker (elimE 4 M c).M x ↔ Ker M x) ∨
    ((elimE 4 M c).piv.length < c ∧ ∃ x : Nat → Int, (∃ j, j < 4 ∧ x j = 1) ∧ Ker M x) := by
  intro c
  induction c with
  | zero => exact fun _ => .inl ⟨rfl, fun r _ j hj => by omega, fun x => Iff.rfl⟩
  | succ c ih =>
    intro hc
    have hin := (elimE_in3 h3 c).1
    rcases ih (by omega) with ⟨i1, i2, i3⟩ | ⟨i1, i2⟩
    · rw [elimE, stepE, i1]
      generalize (elimE 4 M c).M = Mc at *
      have hle := findAt_le Mc c c 4
      by_cases hf : findAt Mc c c 4 = 4
      · rw [if_pos hf]
        refine .inr ⟨by omega, fun j => if j = c then 1 else if j < c then -(Mc j c) else 0, ⟨c, by omega, if_pos rfl⟩, (i3 _).1 ?_⟩
        have hz : ∀ r, c ≤ r → r < 4 → Mc r c = 0 := fun r h1 h2 => Classical.byContradiction fun hne => by
          have : findAt Mc c c 4 ≠ 4 := by
            unfold findAt
            cases e : (List.range 4).find? (fun r => decide (c ≤ r) && decide (Mc r c ≠ 0)) with
            | some a => have := List.mem_of_find?_eq_some e; simp at this; simp only; omega
            | none =>
              rw [List.find?_eq_none] at e
              have := e r (List.mem_range.2 h2)
              simp [h1, hne] at this
          exact this hf
        intro r hr
        unfold dot4
        have hcc : c = 0 ∨ c = 1 ∨ c = 2 ∨ c = 3 := by omega
        have hrr : r = 0 ∨ r = 1 ∨ r = 2 ∨ r = 3 := by omega
        rcases hcc with rfl | rfl | rfl | rfl <;> rcases hrr with rfl | rfl | rfl | rfl <;>
          (simp (config := { decide := true }) [i2, hz]; try omega)
      · rw [if_neg hf]
        have hlt : findAt Mc c c 4 < 4 := by omega
        obtain ⟨f1, f2⟩ := findAt_lt hlt
        generalize findAt Mc c c 4 = a at *
        have hh := hin a hlt c (by omega)
        have hsw : swapM Mc c a c c = Mc a c := by unfold swapM; rw [if_pos rfl]
        rw [hsw]
        generalize hv : Mc a c = v at *
        have hv2 : v = 1 ∨ v = 2 := by omega
        refine .inl ⟨by simp [i1], ?_, fun x => ?_⟩
        · have s1 : ∀ r, r < 4 → ∀ j, j < c → swapM Mc c a r j = if r = j then 1 else 0 := fun r hr j hj => by
            unfold swapM
            split
            · rw [i2 a hlt j hj, if_neg (by omega), if_neg (by omega)]
            · split
              · rw [i2 c (by omega) j hj, if_neg (by omega), if_neg (by omega)]
              · exact i2 r hr j hj
          have s2 : ∀ r, r < 4 → ∀ j, j < c → scaleM (swapM Mc c a) c v r j = if r = j then 1 else 0 := fun r hr j hj => by
            unfold scaleM
            split
            · rename_i e
              show swapM Mc c a c j * v % 3 = _
              rw [s1 c (by omega) j hj, if_neg (by omega), if_neg (by omega)]; omega
            · exact s1 r hr j hj
          have s3 : scaleM (swapM Mc c a) c v c c = 1 := by
            unfold scaleM; rw [if_pos rfl]
            show swapM Mc c a c c * v % 3 = 1
            rw [hsw]
            rcases hv2 with rfl | rfl <;> rfl
          have hin2 : In3 4 4 (scaleM (swapM Mc c a) c v) := in3_scale (in3_swap hin (by omega) hlt)
          generalize scaleM (swapM Mc c a) c v = M2 at *
          intro r hr j hj
          show clearM M2 c c r j = _
          unfold clearM
          by_cases hrc : r = c
          · subst hrc
            rw [if_pos rfl]
            by_cases hjc : j = r
            · subst hjc; rw [s3, if_pos rfl]
            · exact s2 r hr j (by omega)
          · rw [if_neg hrc]
            show (M2 r j - M2 r c * M2 c j % 3) % 3 = _
            by_cases hjc : j = c
            · subst hjc
              rw [s3, Int.mul_one, if_neg hrc]
              have := hin2 r hr j (by omega)
              omega
            · rw [s2 c (by omega) j (by omega), if_neg (by omega), s2 r hr j (by omega)]
              split <;> omega
        · rw [ker_clear (by omega), ker_scale (by omega) hv2, ker_swap (by omega) hlt]
          exact i3 x
    · refine .inr ⟨?_, i2⟩
      rw [elimE, stepE]
      split
      · omega
      · simp only [List.length_append, List.length_cons, List.length_nil]; omega
theorem rank_ker {M : Mat} (h3 : In3 4 4 M) : ((elimE 4 M 4).piv.length = 4 ∧ ∀ x, Ker M x → ∀ j, j < 4 → x j % 3 = 0) ∨ ((elimE 4 M 4).piv.length < 4 ∧ ∃ x : Nat → Int, (∃ j, j < 4 ∧ x j = 1) ∧ Ker M x) := by
  rcases elim_ker h3 4 (by omega) with ⟨h1, h2, hk⟩ | h
  · refine .inl ⟨h1, fun x hx j hj => ?_⟩
    have := (hk x).2 hx j hj
    unfold dot4 at this
    rw [h2 j hj 0 (by omega), h2 j hj 1 (by omega), h2 j hj 2 (by omega), h2 j hj 3 (by omega)] at this
    have hrr : j = 0 ∨ j = 1 ∨ j = 2 ∨ j = 3 := by omega
    rcases hrr with rfl | rfl | rfl | rfl <;> simpa using this
  · exact .inr h
end Go.Eng.YtobnbkoeocdhbaaGreatDoor
namespace Go.Eng.YtobnbkoeocdhbaaGreatDoor
open Go.Proofs
set_option maxRecDepth 100000
set_option maxHeartbeats 0
set_option linter.unusedVariables false
set_option linter.unusedSimpArgs false
end Go.Eng.YtobnbkoeocdhbaaGreatDoor
namespace Go.Eng.YtobnbkoeocdhbaaGreatDoor
open Go.Proofs
set_option maxRecDepth 100000
set_option maxHeartbeats 0
set_option linter.unusedVariables false
set_option linter.unusedSimpArgs false
def vec4 (a b c d : Int) (t : Nat) : Int := match t with
  | 0 => a
  | 1 => b
  | 2 => c
  | _ => d
theorem row_dot (a b c d : Int) (M : Mat) (r : Nat) (h0 : M r 0 = a % 3) (h1 : M r 1 = b % 3) (h2 : M r 2 = c % 3) (h3 : M r 3 = d % 3) (x : Nat → Int) : dot4 (M r) x % 3 = (a * x 0 + b * x 1 + c * x 2 + d * x 3) % 3 := by
  have := dot_mod (vec4 a b c d) x
  unfold dot4 at this ⊢
  rw [h0, h1, h2, h3]
  exact this
/-- the digit of places a solution's numbers modulo 3 name is 0 -/
theorem dig_sol {a b c d : Int} {x : Nat → Int} (h : (a * x 0 + b * x 1 + c * x 2 + d * x 3) % 3 = 0) : dig a b c d (3 * (x 0 % 3) + x 1 % 3) (3 * (x 2 % 3) + x 3 % 3) = 0 := by
  unfold dig
  rw [show (3 * (x 0 % 3) + x 1 % 3) / 3 = x 0 % 3 by omega, show (3 * (x 0 % 3) + x 1 % 3) % 3 = x 1 % 3 by omega, show (3 * (x 2 % 3) + x 3 % 3) / 3 = x 2 % 3 by omega, show (3 * (x 2 % 3) + x 3 % 3) % 3 = x 3 % 3 by omega]
  rw [Int.mul_comm a, Int.mul_comm b, Int.mul_comm c, Int.mul_comm d, mod_mul, mod_mul, mod_mul, mod_mul, Int.mul_comm (x 0) a, Int.mul_comm (x 1) b, Int.mul_comm (x 2) c, Int.mul_comm (x 3) d]
  omega
/-- places with one digit differ by a solution -/
theorem dig_eq {a b c d i j i' j' : Int} (h : dig a b c d i j = dig a b c d i' j') : (a * (i / 3 - i' / 3) + b * (i % 3 - i' % 3) + c * (j / 3 - j' / 3) + d * (j % 3 - j' % 3)) % 3 = 0 := by
  unfold dig at h
  rw [Int.mul_sub, Int.mul_sub, Int.mul_sub, Int.mul_sub]
  omega
theorem norm_rank (x0 x1 x2 x3 x4 x5 x6 x7 x8 x9 x10 x11 x12 x13 x14 x15 : Int) :
    isNorm (madeL 9 (terF x0 x1 x2 x3 x4 x5 x6 x7 x8 x9 x10 x11 x12 x13 x14 x15)) = decide (4 ≤ (elimE 4 (resM [[x0, x1, x2, x3], [x4, x5, x6, x7], [x8, x9, x10, x11], [x12, x13, x14, x15]]) 4).piv.length) := by
  have hd : ∀ (x : Nat → Int), Ker (resM [[x0, x1, x2, x3], [x4, x5, x6, x7], [x8, x9, x10, x11], [x12, x13, x14, x15]]) x ↔
      (x0 * x 0 + x1 * x 1 + x2 * x 2 + x3 * x 3) % 3 = 0 ∧ (x4 * x 0 + x5 * x 1 + x6 * x 2 + x7 * x 3) % 3 = 0 ∧ (x8 * x 0 + x9 * x 1 + x10 * x 2 + x11 * x 3) % 3 = 0 ∧ (x12 * x 0 + x13 * x 1 + x14 * x 2 + x15 * x 3) % 3 = 0 := fun x => by
    unfold Ker
    constructor
    · intro h
      refine ⟨?_, ?_, ?_, ?_⟩
      · have := h 0 (by omega); rwa [row_dot x0 x1 x2 x3 _ 0 rfl rfl rfl rfl] at this
      · have := h 1 (by omega); rwa [row_dot x4 x5 x6 x7 _ 1 rfl rfl rfl rfl] at this
      · have := h 2 (by omega); rwa [row_dot x8 x9 x10 x11 _ 2 rfl rfl rfl rfl] at this
      · have := h 3 (by omega); rwa [row_dot x12 x13 x14 x15 _ 3 rfl rfl rfl rfl] at this
    · rintro ⟨h0, h1, h2, h3⟩ r hr
      have : r = 0 ∨ r = 1 ∨ r = 2 ∨ r = 3 := by omega
      rcases this with rfl | rfl | rfl | rfl
      · rw [row_dot x0 x1 x2 x3 _ 0 rfl rfl rfl rfl]; exact h0
      · rw [row_dot x4 x5 x6 x7 _ 1 rfl rfl rfl rfl]; exact h1
      · rw [row_dot x8 x9 x10 x11 _ 2 rfl rfl rfl rfl]; exact h2
      · rw [row_dot x12 x13 x14 x15 _ 3 rfl rfl rfl rfl]; exact h3
  have hlen : (madeL 9 (terF x0 x1 x2 x3 x4 x5 x6 x7 x8 x9 x10 x11 x12 x13 x14 x15)).length = 81 := by simp [madeL]
  have hget : ∀ k, k < 81 → (madeL 9 (terF x0 x1 x2 x3 x4 x5 x6 x7 x8 x9 x10 x11 x12 x13 x14 x15)).getD k 0 = terF x0 x1 x2 x3 x4 x5 x6 x7 x8 x9 x10 x11 x12 x13 x14 x15 (k / 9) (k % 9) := fun k hk => by
    have := madeL_get (n := 9) (h := terF x0 x1 x2 x3 x4 x5 x6 x7 x8 x9 x10 x11 x12 x13 x14 x15) (i := k / 9) (j := k % 9) (by omega) (by omega)
    rwa [show 9 * (k / 9) + k % 9 = k by omega] at this
  rcases rank_ker (M := resM [[x0, x1, x2, x3], [x4, x5, x6, x7], [x8, x9, x10, x11], [x12, x13, x14, x15]]) (fun r _ j _ => in3_mod _) with ⟨h1, h2⟩ | ⟨h1, x, ⟨t, ht, hx⟩, hk⟩
  · rw [h1, show decide (4 ≤ 4) = true from rfl, isNorm_iff, hlen]
    refine ⟨fun k hk => ?_, fun k l hkl hl he => ?_⟩
    · rw [hget k hk]
      have d0 := dig_bd x0 x1 x2 x3 (k / 9 : Nat) (k % 9 : Nat)
      have d1 := dig_bd x4 x5 x6 x7 (k / 9 : Nat) (k % 9 : Nat)
      have d2 := dig_bd x8 x9 x10 x11 (k / 9 : Nat) (k % 9 : Nat)
      have d3 := dig_bd x12 x13 x14 x15 (k / 9 : Nat) (k % 9 : Nat)
      unfold terF
      omega
    · rw [hget k (by omega), hget l hl] at he
      have d0 := dig_bd x0 x1 x2 x3 (k / 9 : Nat) (k % 9 : Nat)
      have d1 := dig_bd x4 x5 x6 x7 (k / 9 : Nat) (k % 9 : Nat)
      have d2 := dig_bd x8 x9 x10 x11 (k / 9 : Nat) (k % 9 : Nat)
      have d3 := dig_bd x12 x13 x14 x15 (k / 9 : Nat) (k % 9 : Nat)
      have e0 := dig_bd x0 x1 x2 x3 (l / 9 : Nat) (l % 9 : Nat)
      have e1 := dig_bd x4 x5 x6 x7 (l / 9 : Nat) (l % 9 : Nat)
      have e2 := dig_bd x8 x9 x10 x11 (l / 9 : Nat) (l % 9 : Nat)
      have e3 := dig_bd x12 x13 x14 x15 (l / 9 : Nat) (l % 9 : Nat)
      unfold terF at he
      have f0 : dig x0 x1 x2 x3 (k / 9 : Nat) (k % 9 : Nat) = dig x0 x1 x2 x3 (l / 9 : Nat) (l % 9 : Nat) := by omega
      have f1 : dig x4 x5 x6 x7 (k / 9 : Nat) (k % 9 : Nat) = dig x4 x5 x6 x7 (l / 9 : Nat) (l % 9 : Nat) := by omega
      have f2 : dig x8 x9 x10 x11 (k / 9 : Nat) (k % 9 : Nat) = dig x8 x9 x10 x11 (l / 9 : Nat) (l % 9 : Nat) := by omega
      have f3 : dig x12 x13 x14 x15 (k / 9 : Nat) (k % 9 : Nat) = dig x12 x13 x14 x15 (l / 9 : Nat) (l % 9 : Nat) := by omega
      have q := h2 (vec4 (((k / 9 : Nat) : Int) / 3 - ((l / 9 : Nat) : Int) / 3) (((k / 9 : Nat) : Int) % 3 - ((l / 9 : Nat) : Int) % 3) (((k % 9 : Nat) : Int) / 3 - ((l % 9 : Nat) : Int) / 3) (((k % 9 : Nat) : Int) % 3 - ((l % 9 : Nat) : Int) % 3))
        ((hd _).2 ⟨dig_eq f0, dig_eq f1, dig_eq f2, dig_eq f3⟩)
      have q0 := q 0 (by omega)
      have q1 := q 1 (by omega)
      have q2 := q 2 (by omega)
      have q3 := q 3 (by omega)
      simp only [vec4] at q0 q1 q2 q3
      omega
  · rw [show decide (4 ≤ _) = false from decide_eq_false (by omega)]
    rw [← Bool.not_eq_true]
    intro hn
    obtain ⟨s0, s1, s2, s3⟩ := (hd x).1 hk
    have g0 := dig_sol s0
    have g1 := dig_sol s1
    have g2 := dig_sol s2
    have g3 := dig_sol s3
    have b0 := in3_mod (x 0)
    have b1 := in3_mod (x 1)
    have b2 := in3_mod (x 2)
    have b3 := in3_mod (x 3)
    have hi : 3 * (x 0 % 3) + x 1 % 3 = ((3 * (x 0 % 3) + x 1 % 3).toNat : Nat) := by omega
    have hj : 3 * (x 2 % 3) + x 3 % 3 = ((3 * (x 2 % 3) + x 3 % 3).toNat : Nat) := by omega
    have hb1 : (3 * (x 0 % 3) + x 1 % 3).toNat < 9 := by omega
    have hb2 : (3 * (x 2 % 3) + x 3 % 3).toNat < 9 := by omega
    have hne : 9 * (3 * (x 0 % 3) + x 1 % 3).toNat + (3 * (x 2 % 3) + x 3 % 3).toNat ≠ 0 := by
      have : t = 0 ∨ t = 1 ∨ t = 2 ∨ t = 3 := by omega
      rcases this with rfl | rfl | rfl | rfl <;> omega
    rw [hi, hj] at g0 g1 g2 g3
    generalize (3 * (x 0 % 3) + x 1 % 3).toNat = i at *
    generalize (3 * (x 2 % 3) + x 3 % 3).toNat = j at *
    refine norm_ne hn (i := 9 * i + j) (j := 0) (by omega) (by omega) hne ?_
    rw [madeL_get hb1 hb2, show (0 : Nat) = 9 * 0 + 0 from rfl, madeL_get (by omega) (by omega)]
    unfold terF
    rw [g0, g1, g2, g3]
    simp [dig]
end Go.Eng.YtobnbkoeocdhbaaGreatDoor
namespace Go.Eng.YtobnbkoeocdhbaaGreatDoor
open Go.Proofs
set_option maxRecDepth 100000
set_option maxHeartbeats 0
set_option linter.unusedVariables false
set_option linter.unusedSimpArgs false
end Go.Eng.YtobnbkoeocdhbaaGreatDoor
namespace Go.Eng.YtobnbkoeocdhbaaGreatDoor
open Go.Proofs
set_option maxRecDepth 100000
set_option maxHeartbeats 0
set_option linter.unusedVariables false
set_option linter.unusedSimpArgs false
theorem c23_spec (a b c d : Int) : PSpec Tryz.prog 58 [.agg [.int .i64 a, .int .i64 b, .int .i64 c, .int .i64 d]] (.agg [.int .i64 a, .int .i64 b]) := by
  refine pspec_of (md := 0) (rf := []) mixed tabOK noC_ok Tryz.func58 (by rfl) (by rfl) (by rfl) ?_
  repeat' ((conv => whnf); first | refine And.intro ?_ ?_ | with_reducible exact VC.mk rfl | exact Ok.mk | exact True.intro | refine Nx.mk ?_ | refine Fin.mk ?_ | intro _)
  all_goals ((try refine VC.mk ?_); (try simp only [CL.ncell, CL.cnt, vq] at *); (try omega))
  all_goals (refine Sup.via ?_; repeat' ((conv => whnf); first | refine And.intro ?_ ?_ | with_reducible exact VC.mk rfl | exact Ok.mk | exact True.intro | refine Nx.mk ?_ | refine Fin.mk ?_ | intro _); all_goals ((try refine VC.mk ?_); (try simp only [CL.ncell, CL.cnt, vq] at *); (try omega)); all_goals (try (simp [CL.sub]; done)))
theorem c24_spec (a b c d : Int) : PSpec Tryz.prog 59 [.agg [.int .i64 a, .int .i64 b, .int .i64 c, .int .i64 d]] (.agg [.int .i64 c, .int .i64 d]) := by
  refine pspec_of (md := 0) (rf := []) mixed tabOK noC_ok Tryz.func59 (by rfl) (by rfl) (by rfl) ?_
  repeat' ((conv => whnf); first | refine And.intro ?_ ?_ | with_reducible exact VC.mk rfl | exact Ok.mk | exact True.intro | refine Nx.mk ?_ | refine Fin.mk ?_ | intro _)
  all_goals ((try refine VC.mk ?_); (try simp only [CL.ncell, CL.cnt, vq] at *); (try omega))
  all_goals (refine Sup.via ?_; repeat' ((conv => whnf); first | refine And.intro ?_ ?_ | with_reducible exact VC.mk rfl | exact Ok.mk | exact True.intro | refine Nx.mk ?_ | refine Fin.mk ?_ | intro _); all_goals ((try refine VC.mk ?_); (try simp only [CL.ncell, CL.cnt, vq] at *); (try omega)); all_goals (try (simp [CL.sub]; done)))
theorem c25_spec (a b c d : Int) (h : (0 ≤ a ∧ a ≤ 2) ∧ (0 ≤ b ∧ b ≤ 2) ∧ (0 ≤ c ∧ c ≤ 2) ∧ (0 ≤ d ∧ d ≤ 2)) : PSpec Tryz.prog 60 [.agg [.int .i64 a, .int .i64 b, .int .i64 c, .int .i64 d]] (.agg [.int .i64 (a + c), .int .i64 (b + d)]) := by
  refine pspec_of (md := 0) (rf := []) mixed tabOK noC_ok Tryz.func60 (by rfl) (by rfl) (by rfl) ?_
  repeat' ((conv => whnf); first | refine And.intro ?_ ?_ | with_reducible exact VC.mk rfl | exact Ok.mk | exact True.intro | refine Nx.mk ?_ | refine Fin.mk ?_ | intro _)
  all_goals ((try refine VC.mk ?_); (try simp only [CL.ncell, CL.cnt, vq] at *); (try omega))
  all_goals (refine Sup.via ?_; repeat' ((conv => whnf); first | refine And.intro ?_ ?_ | with_reducible exact VC.mk rfl | exact Ok.mk | exact True.intro | refine Nx.mk ?_ | refine Fin.mk ?_ | intro _); all_goals ((try refine VC.mk ?_); (try simp only [CL.ncell, CL.cnt, vq] at *); (try omega)); all_goals (try (simp [CL.sub]; done)))
theorem c26_spec (a b c d : Int) (h : (0 ≤ a ∧ a ≤ 2) ∧ (0 ≤ b ∧ b ≤ 2) ∧ (0 ≤ c ∧ c ≤ 2) ∧ (0 ≤ d ∧ d ≤ 2)) : PSpec Tryz.prog 61 [.agg [.int .i64 a, .int .i64 b, .int .i64 c, .int .i64 d]] (.agg [.int .i64 (a - c), .int .i64 (b - d)]) := by
  refine pspec_of (md := 0) (rf := []) mixed tabOK noC_ok Tryz.func61 (by rfl) (by rfl) (by rfl) ?_
  repeat' ((conv => whnf); first | refine And.intro ?_ ?_ | with_reducible exact VC.mk rfl | exact Ok.mk | exact True.intro | refine Nx.mk ?_ | refine Fin.mk ?_ | intro _)
  all_goals ((try refine VC.mk ?_); (try simp only [CL.ncell, CL.cnt, vq] at *); (try omega))
  all_goals (refine Sup.via ?_; repeat' ((conv => whnf); first | refine And.intro ?_ ?_ | with_reducible exact VC.mk rfl | exact Ok.mk | exact True.intro | refine Nx.mk ?_ | refine Fin.mk ?_ | intro _); all_goals ((try refine VC.mk ?_); (try simp only [CL.ncell, CL.cnt, vq] at *); (try omega)); all_goals (try (simp [CL.sub]; done)))
end Go.Eng.YtobnbkoeocdhbaaGreatDoor
namespace Go.Eng.YtobnbkoeocdhbaaGreatDoor
open Go.Proofs
set_option maxRecDepth 100000
set_option maxHeartbeats 0
set_option linter.unusedVariables false
set_option linter.unusedSimpArgs false
theorem clone_spec (a b c d : Int) : PSpec Tryz.prog 56 [.isl (.ints .i64 [a, b, c, d]) .none] (.isl (.ints .i64 [a, b, c, d]) .none) := by
  refine pspec_of (md := 1) (rf := []) mixed tabOK noC_ok Tryz.func56 (by rfl) (by rfl) (by rfl) ?_
  repeat' ((conv => whnf); first | refine And.intro ?_ ?_ | with_reducible exact VC.mk rfl | exact Ok.mk | exact True.intro | refine Nx.mk ?_ | refine Fin.mk ?_ | intro _)
  all_goals ((try refine VC.mk ?_); (try simp only [CL.ncell, CL.cnt, vq] at *); (try omega))
  · simp
  all_goals exact Sup.of rfl
end Go.Eng.YtobnbkoeocdhbaaGreatDoor
namespace Go.Eng.YtobnbkoeocdhbaaGreatDoor
open Go.Proofs
set_option maxRecDepth 100000
set_option maxHeartbeats 0
set_option linter.unusedVariables false
set_option linter.unusedSimpArgs false
structure RX where
  i : Nat
  D : Mat
structure RI (m w : Nat) (M : Mat) (n c : Nat) (L : List Nat) (x : RX) : Prop where
  hi : x.i ≤ m
  hD : ∀ r, r < m → ∀ j, j < w → x.D (L.getD r 0) j = if r < x.i then clearM M n c r j else M r j
structure CX where
  c : Nat
  l : List Nat
  D : Mat
structure CI (m w : Nat) (M0 : Mat) (l0 : List Nat) (x : CX) : Prop where
  hc : x.c ≤ w
  hl : x.l.length = m
  hn : x.l.Nodup
  hi : ∀ b, b ∈ l0 → b ∈ x.l
  ho : ∀ r, r < m → x.l.getD r 0 ∈ l0
  hD : ∀ r, r < m → ∀ j, j < w → x.D (x.l.getD r 0) j = (elimE m M0 x.c).M r j
noncomputable def cpEl : CPT := cpAdd 243 (pureCC rIsZeroP) (cpAdd 242 (pureCC rInvP) (cpAdd 244 (pureCC rMulP) (cpAdd 245 (pureCC rSubP) noC)))
theorem cpEl_ok : CPOK Tryz.prog cpEl := cpAdd_ok (pureCC_ok rIsZero_ok) (cpAdd_ok (pureCC_ok rInv_ok) (cpAdd_ok (pureCC_ok rMul_ok) (cpAdd_ok (pureCC_ok rSub_ok) noC_ok)))
theorem elim_spec {m w : Nat} {M0 : Mat} (hm : 1 ≤ m ∧ m ≤ 256) (hw : 1 ≤ w ∧ w ≤ 256) (h3 : In3 m w M0) :
    LSpec Tryz.prog 107 [.agg [.int .i64 3], .rsl 0 0 m, .int .i64 (w : Int)] [.pmat m (.ints .i64 (fun r => matL w (M0 r)))]
      [.agg [.rsl 0 0 (elimE m M0 w).piv.length, .isl (.ints .i64 (elimE m M0 w).piv) .none, .isl (.ints .i64 (elimE m M0 w).heads) .none, .bp (elimE m M0 w).odd]] [.pmat m (.ints .i64 (fun r => matL w ((elimE m M0 w).M r)))] := by
  refine lspec_open_ints (pre := []) (post := []) (enters' Tryz.func107 (by rfl) (by rfl)) fun l c' hl hnd hc => ?_
  obtain ⟨D0, hD0⟩ : ∃ D0 : Mat, ∀ b, b ∈ l → c' b = matL w (D0 b) := ⟨fun b j => (c' b).getD j 0, fun b hb => by
    obtain ⟨i, hi, rfl⟩ := List.getElem_of_mem hb
    have := hc i (by omega)
    rw [List.getD_eq_getElem?_getD, List.getElem?_eq_getElem hi] at this
    simp only [Option.getD_some] at this
    rw [this]
    refine matL_congr fun j hj => ?_
    show M0 i j = (c' l[i]).getD j 0
    rw [this, matL_get _ hj]⟩
  refine lspec_of (md := 0) (rf := []) mixed tabOK cpEl_ok 1 [] Tryz.func107 (by rfl) (by rfl) (by rfl) ?_
  have h00 : ∀ i, i < m → ∀ j, j < w → D0 (l.getD i 0) j = M0 i j := fun i hi j hj => by
    have hm : l.getD i 0 ∈ l := by
      rw [List.getD_eq_getElem?_getD, List.getElem?_eq_getElem (by omega)]; exact List.getElem_mem _
    have e := (hD0 _ hm).symm.trans (hc i hi)
    have := congrArg (fun t => t.getD j 0) e
    simpa only [matL_get _ hj] using this
  conv => whnf
  refine loop_of (X := CX) (CI m w M0 l) (fun x => [(17, .int .i64 x.c)]) (fun x => [(0, .mat l x.l (.ints .i64 (fun b => matL w (x.D b)))), (3, .cells (.pv [.nils, .isl (.ints .i64 (elimE m M0 x.c).piv) (.own 4), .isl (.ints .i64 (elimE m M0 x.c).heads) (.own 5), .bp (elimE m M0 x.c).odd]) false),
    (4, .tok 1 (elimE m M0 x.c).piv.length), (5, .tok 1 (elimE m M0 x.c).heads.length)]) (fun x => w - x.c) ⟨0, l, D0⟩ ⟨anyB_ok, mixed, tabOK, cpEl_ok, noY_ok⟩ (by rfl) ?_ ?_ ?_
  · exact ⟨Nat.zero_le _, hl, hnd, fun _ h => h, fun r hr => by
      show l.getD r 0 ∈ l
      rw [List.getD_eq_getElem?_getD, List.getElem?_eq_getElem (by omega)]; exact List.getElem_mem _, h00⟩
  · repeat' ((conv => whnf); first | refine And.intro ?_ ?_ | with_reducible exact VC.mk rfl | exact Ok.mk | exact True.intro | refine Nx.mk ?_ | refine Fin.mk ?_ | intro _)
    all_goals ((try refine VC.mk ?_); (try simp only [CL.ncell, CL.cnt, vq] at *); (try omega))
  · rintro ⟨c, lx, D⟩ ⟨x1, x2, x3, x4, x5, x6⟩
    simp only at x1 x2 x3 x4 x5 x6
    obtain ⟨y1, y2, y3⟩ := elimE_in3 h3 c
    have y4 := elimE_heads m M0 c
    have hsucc : elimE m M0 (c + 1) = stepE m (elimE m M0 c) c := rfl
    by_cases hcw : c < w
    · generalize elimE m M0 c = S at *
      obtain ⟨n, hn⟩ : ∃ n, n = S.piv.length := ⟨_, rfl⟩
      have hx6 : ∀ r, r < m → (matL w (D (lx.getD r 0))).getD c 0 = S.M r c := fun r hr => by rw [matL_get _ hcw]; exact x6 r hr c hcw
      repeat' ((conv => whnf); first | refine And.intro ?_ ?_ | with_reducible exact VC.mk rfl | exact Ok.mk | exact True.intro | refine Nx.mk ?_ | refine Fin.mk ?_ | (intro hq; (try simp only [decide_eq_true_eq, decide_eq_false_iff_not, Bool.not_eq_true, Bool.not_eq_false, Bool.not_eq_true', Bool.not_eq_false', Bool.not_true, Bool.not_false, ite_true, ite_false] at hq); (try (exfalso; first | exact absurd hq (by decide) | omega))))
      all_goals ((try refine VC.mk ?_); (try simp only [CL.ncell, CL.cnt, vq] at *); (try omega))
      conv => whnf
      refine loop_of (X := Nat) (fun a => (n ≤ a ∧ a ≤ m) ∧ ∀ r, n ≤ r → r < a → S.M r c = 0) (fun a => [(10, .int .i64 a)]) (fun _ => []) (fun a => m - a) n ⟨anyB_ok, mixed, tabOK, cpEl_ok, noY_ok⟩ (by rfl) ⟨by omega, fun r h1 h2 => by omega⟩ ?_ ?_
      · repeat' ((conv => whnf); first | refine And.intro ?_ ?_ | with_reducible exact VC.mk rfl | exact Ok.mk | exact True.intro | refine Nx.mk ?_ | refine Fin.mk ?_ | intro _)
        all_goals ((try refine VC.mk ?_); (try simp only [CL.ncell, CL.cnt, vq] at *); (try omega))
        all_goals exact fun _ _ => trivial
      · rintro a ⟨⟨ha1, ha2⟩, haz⟩
        by_cases ham : a < m
        · have ea := hx6 a ham
          have hnm : S.piv.length < m := by omega
          have hL : ∀ r, r < m → (swl lx S.piv.length a).getD r 0 ∈ l := fun r hr => by
            rw [swl_get' (by omega) (by omega)]; exact x5 _ (sgw_lt hnm ham hr)
          repeat' ((conv => whnf); first | refine And.intro ?_ ?_ | with_reducible exact VC.mk rfl | exact Ok.mk | exact True.intro | refine Nx.mk ?_ | refine Fin.mk ?_ | (intro hq; (try simp only [decide_eq_true_eq, decide_eq_false_iff_not, Bool.not_eq_true, Bool.not_eq_false, Bool.not_eq_true', Bool.not_eq_false', Bool.not_true, Bool.not_false, ite_true, ite_false] at hq); (try (exfalso; first | exact absurd hq (by decide) | omega))))
          all_goals ((try refine VC.mk ?_); (try simp only [CL.ncell, CL.cnt, vq] at *); (try omega))
          all_goals (try (simp only [te22s, Nat.mul_one, Nat.zero_add, Nat.add_zero, Int.toNat_natCast, matL_len, List.length_set, x2]; first | omega | exact x5 _ (by omega)))
          · rename_i hq
            simp only [te22s, Nat.mul_one] at hq
            refine ⟨a + 1, [], ⟨⟨by omega, fun r h1 h2 => ?_⟩, by omega⟩, ?_⟩
            · by_cases er : r = a
              · subst er; rw [← ea]; exact hq
              · exact haz r h1 (by omega)
            · repeat' ((conv => whnf); first | refine And.intro ?_ ?_ | with_reducible exact VC.mk rfl | exact Ok.mk | exact True.intro | refine Nx.mk ?_ | refine Fin.mk ?_ | intro _)
              all_goals ((try refine VC.mk ?_); (try simp only [CL.ncell, CL.cnt, vq] at *); (try omega))
              all_goals exact fun _ _ => trivial
          · rfl
          · rfl
          · simp only [te22s, Nat.mul_one]; exact hL _ hnm
          · rw [List.length_append, List.length_cons, List.length_nil]; omega
          · simp only [te22s, Nat.mul_one]; exact hL _ hnm
          · rename_i hq
            simp only [te22s, Nat.mul_one] at hq ⊢
            rw [show ((lx.set S.piv.length (lx.getD a 0)).set a (lx.getD S.piv.length 0)) = swl lx S.piv.length a from rfl, swl_get (by omega) (by omega), if_pos rfl]
            have := y1 a ham c hcw
            rw [ea] at hq ⊢
            exact ⟨this.1, this.2, hq⟩
          rename_i hq
          simp only [te22s, Nat.mul_one] at hq ⊢
          rw [ea] at hq
          have g1 : ∀ r, (swl lx S.piv.length a).getD r 0 = if r = S.piv.length then lx.getD a 0 else if r = a then lx.getD S.piv.length 0 else lx.getD r 0 := fun r => swl_get (by omega) (by omega)
          have g2 : (swl lx S.piv.length a).length = m := by simp [swl, x2]
          have g3 := swl_nodup (n := S.piv.length) (a := a) (by omega) (by omega) x3
          have g4 : ∀ b, b ∈ l → b ∈ swl lx S.piv.length a := fun b hb => swl_mem (by omega) (by omega) (x4 b hb)
          have g5 : ∀ r, r < m → ∀ j, j < w → D ((swl lx S.piv.length a).getD r 0) j = swapM S.M S.piv.length a r j := fun r hr j hj => by
            rw [g1]; unfold swapM
            by_cases h1 : r = S.piv.length
            · rw [if_pos h1, if_pos h1]; exact x6 a ham j hj
            · rw [if_neg h1, if_neg h1]
              by_cases h2 : r = a
              · rw [if_pos h2, if_pos h2]; exact x6 _ hnm j hj
              · rw [if_neg h2, if_neg h2]; exact x6 r hr j hj
          have g6 := in3_swap (n := S.piv.length) (a := a) y1 hnm ham
          have hfind : findAt S.M c S.piv.length m = a := findAt_is ham (by omega) hq (fun r h1 h2 => haz r (by omega) h2)
          rw [show ((lx.set S.piv.length (lx.getD a 0)).set a (lx.getD S.piv.length 0)) = swl lx S.piv.length a from rfl]
          generalize swl lx S.piv.length a = L at *
          generalize hM1 : swapM S.M S.piv.length a = M1 at *
          have hs : (matL w (D (L.getD S.piv.length 0))).getD c 0 = M1 S.piv.length c := by rw [matL_get _ hcw]; exact g5 _ hnm c hcw
          rw [hs]
          have hs3 := g6 _ hnm c hcw
          have hbn := hL _ hnm
          generalize hbd : L.getD S.piv.length 0 = bn at *
          have e1 : ∀ j, j < w → D bn j = M1 S.piv.length j := fun j hj => by rw [← hbd]; exact g5 _ hnm j hj
          generalize hsv : M1 S.piv.length c = sv at *
          have hlw := matL_len w (D bn)
          conv => whnf
          refine loop_of (X := Nat) (fun k => k ≤ w) (fun k => [(30, .any), (80, .any), (94, .int .i64 k)]) (fun k => [(0, .mat l L (.ints .i64 (fun b => matL w (fun j => if b = bn ∧ j < k then D b j * sv % 3 else D b j))))]) (fun k => w - k) 0 ⟨anyB_ok, mixed, tabOK, cpEl_ok, noY_ok⟩ (by rfl) (by omega) ?_ ?_
          · repeat' ((conv => whnf); first | refine And.intro ?_ ?_ | with_reducible exact VC.mk rfl | exact Ok.mk | exact True.intro | refine Nx.mk ?_ | refine Fin.mk ?_ | intro _)
            all_goals ((try refine VC.mk ?_); (try simp only [CL.ncell, CL.cnt, vq] at *); (try omega))
            · intro b hb
              exact matL_congr fun j hj => by rw [if_neg (by omega)]
          · intro k hk
            by_cases hkw : k < w
            · have e2 := e1 k hkw
              have e3 := g6 _ hnm k hkw
              repeat' ((conv => whnf); first | refine And.intro ?_ ?_ | with_reducible exact VC.mk rfl | exact Ok.mk | exact True.intro | refine Nx.mk ?_ | refine Fin.mk ?_ | (intro hq; (try simp only [decide_eq_true_eq, decide_eq_false_iff_not, Bool.not_eq_true, Bool.not_eq_false, Bool.not_eq_true', Bool.not_eq_false', Bool.not_true, Bool.not_false, ite_true, ite_false] at hq); (try (exfalso; first | exact absurd hq (by decide) | omega))))
              all_goals ((try refine VC.mk ?_); (try simp only [CL.ncell, CL.cnt, vq] at *); (try omega))
              all_goals (try (simp only [te22s, Nat.mul_one, Nat.zero_add, Nat.add_zero, Int.toNat_natCast, matL_len, List.length_set, g2, hbd]; first | omega | assumption | exact hL _ (by omega)))
              · simp only [te22s, Nat.mul_one, hbd, matL_get _ hkw]
                rw [if_neg (by omega), e2]
                exact ⟨by omega, e3, hs3⟩
              · refine ⟨k + 1, [], ⟨by omega, by omega⟩, ?_⟩
                simp only [te22s, Nat.mul_one, hbd, matL_get _ hkw]
                repeat' ((conv => whnf); first | refine And.intro ?_ ?_ | with_reducible exact VC.mk rfl | exact Ok.mk | exact True.intro | refine Nx.mk ?_ | refine Fin.mk ?_ | intro _)
                all_goals ((try refine VC.mk ?_); (try simp only [CL.ncell, CL.cnt, vq] at *); (try omega))
                intro b hb
                unfold updN
                by_cases eb : b = bn
                · subst eb
                  rw [if_pos rfl, matL_set]
                  simp only [true_and]
                  refine matL_congr fun j hj => ?_
                  by_cases ej : j = k
                  · subst ej; simp
                  · rw [if_neg ej]
                    by_cases ek : j < k
                    · rw [if_pos ek, if_pos (by omega)]
                    · rw [if_neg ek, if_neg (by omega)]
                · rw [if_neg eb]
                  refine matL_congr fun j hj => ?_
                  rw [if_neg (fun h => eb h.1), if_neg (fun h => eb h.1)]
            · have hkk : k = w := by omega
              obtain ⟨D2, hD2⟩ : ∃ D2 : Mat, D2 = fun b j => if b = bn ∧ j < k then D b j * sv % 3 else D b j := ⟨_, rfl⟩
              have d1 : ∀ r, r < m → ∀ j, j < w → D2 (L.getD r 0) j = scaleM M1 S.piv.length sv r j := fun r hr j hj => by
                rw [hD2]
                unfold scaleM
                by_cases er : r = S.piv.length
                · subst er
                  simp only [hbd, if_true, true_and]
                  rw [if_pos (by omega : j < k), e1 j hj]
                · have : L.getD r 0 ≠ bn := fun h => er ((nodup_get.1 g3) r S.piv.length (by omega) (by omega) (h.trans hbd.symm))
                  simp only
                  rw [if_neg (fun h => this h.1), if_neg er]
                  exact g5 r hr j hj
              have d2 := in3_scale (n := S.piv.length) (s := sv) g6
              generalize hM2 : scaleM M1 S.piv.length sv = M2 at *
              rw [show (fun b => matL w (fun j => if b = bn ∧ j < k then D b j * sv % 3 else D b j)) = (fun b => matL w (D2 b)) by rw [hD2]]
              clear hD2
              repeat' ((conv => whnf); first | refine And.intro ?_ ?_ | with_reducible exact VC.mk rfl | exact Ok.mk | exact True.intro | refine Nx.mk ?_ | refine Fin.mk ?_ | (intro hq; (try simp only [decide_eq_true_eq, decide_eq_false_iff_not, Bool.not_eq_true, Bool.not_eq_false, Bool.not_eq_true', Bool.not_eq_false', Bool.not_true, Bool.not_false, ite_true, ite_false] at hq); (try (exfalso; first | exact absurd hq (by decide) | omega))))
              all_goals ((try refine VC.mk ?_); (try simp only [CL.ncell, CL.cnt, vq] at *); (try omega))
              conv => whnf
              refine loop_of (X := RX) (RI m w M2 S.piv.length c L) (fun x => [(117, .int .i64 x.i)]) (fun x => [(0, .mat l L (.ints .i64 (fun b => matL w (x.D b))))]) (fun x => m - x.i) ⟨0, D2⟩ ⟨anyB_ok, mixed, tabOK, cpEl_ok, noY_ok⟩ (by rfl) ⟨Nat.zero_le _, fun r hr j hj => by show _ = if r < 0 then _ else _; rw [if_neg (by omega)]; exact d1 r hr j hj⟩ ?_ ?_
              · repeat' ((conv => whnf); first | refine And.intro ?_ ?_ | with_reducible exact VC.mk rfl | exact Ok.mk | exact True.intro | refine Nx.mk ?_ | refine Fin.mk ?_ | intro _)
                all_goals ((try refine VC.mk ?_); (try simp only [CL.ncell, CL.cnt, vq] at *); (try omega))
                all_goals exact fun _ _ => trivial
              · rintro ⟨i, D3⟩ ⟨i1, i2⟩
                simp only at i1 i2
                by_cases him : i < m
                · have hiw : (matL w (D3 (L.getD i 0))).getD c 0 = M2 i c := by rw [matL_get _ hcw, i2 i him c hcw, if_neg (by omega)]
                  have hbi := hL _ him
                  have ti := d2 i him c hcw
                  have f1 : ∀ j, j < w → D3 (L.getD i 0) j = M2 i j := fun j hj => by rw [i2 i him j hj, if_neg (by omega)]
                  have f2 : ∀ j, j < w → D3 bn j = M2 S.piv.length j := fun j hj => by
                    rw [← hbd, i2 _ hnm j hj]
                    split
                    · simp [clearM]
                    · rfl
                  repeat' ((conv => whnf); first | refine And.intro ?_ ?_ | with_reducible exact VC.mk rfl | exact Ok.mk | exact True.intro | refine Nx.mk ?_ | refine Fin.mk ?_ | (intro hq; (try simp only [decide_eq_true_eq, decide_eq_false_iff_not, Bool.not_eq_true, Bool.not_eq_false, Bool.not_eq_true', Bool.not_eq_false', Bool.not_true, Bool.not_false, ite_true, ite_false] at hq); (try (exfalso; first | exact absurd hq (by decide) | omega))))
                  all_goals ((try refine VC.mk ?_); (try simp only [CL.ncell, CL.cnt, vq] at *); (try omega))
                  all_goals (try (simp only [te22s, Nat.mul_one, Nat.zero_add, Nat.add_zero, Int.toNat_natCast, matL_len, List.length_set, g2, hbd]; first | omega | assumption | exact hL _ (by omega)))
                  · have hz := hq
                    simp only [te22s, Nat.mul_one, hiw] at hz
                    refine ⟨⟨i + 1, D3⟩, [], ⟨⟨by (show i + 1 ≤ m); omega, fun r hr j hj => ?_⟩, by (show m - (i + 1) < m - i); omega⟩, ?_⟩
                    · show D3 (L.getD r 0) j = if r < i + 1 then clearM M2 S.piv.length c r j else M2 r j
                      rw [i2 r hr j hj]
                      by_cases e5 : r < i
                      · rw [if_pos e5, if_pos (by omega)]
                      · rw [if_neg e5]
                        by_cases e6 : r = i
                        · subst e6
                          rw [if_pos (by omega)]
                          unfold clearM
                          rw [if_neg (by omega)]
                          have := d2 r hr j hj
                          simp only [hz]
                          omega
                        · rw [if_neg (by omega)]
                    · repeat' ((conv => whnf); first | refine And.intro ?_ ?_ | with_reducible exact VC.mk rfl | exact Ok.mk | exact True.intro | refine Nx.mk ?_ | refine Fin.mk ?_ | intro _)
                      all_goals ((try refine VC.mk ?_); (try simp only [CL.ncell, CL.cnt, vq] at *); (try omega))
                      all_goals exact fun _ _ => trivial
                  · have hz := hq
                    simp only [te22s, Nat.mul_one, hiw] at hz ⊢
                    have hne : L.getD i 0 ≠ bn := fun h => by
                      have := (nodup_get.1 g3) i S.piv.length (by omega) (by omega) (h.trans hbd.symm)
                      omega
                    have hlw2 := matL_len w (D3 (L.getD i 0))
                    generalize hbi2 : L.getD i 0 = bi at *
                    generalize htv : M2 i c = tv at *
                    repeat' ((conv => whnf); first | refine And.intro ?_ ?_ | with_reducible exact VC.mk rfl | exact Ok.mk | exact True.intro | refine Nx.mk ?_ | refine Fin.mk ?_ | (intro hq; (try simp only [decide_eq_true_eq, decide_eq_false_iff_not, Bool.not_eq_true, Bool.not_eq_false, Bool.not_eq_true', Bool.not_eq_false', Bool.not_true, Bool.not_false, ite_true, ite_false] at hq); (try (exfalso; first | exact absurd hq (by decide) | omega))))
                    all_goals ((try refine VC.mk ?_); (try simp only [CL.ncell, CL.cnt, vq] at *); (try omega))
                    conv => whnf
                    refine loop_of (X := Nat) (fun k => k ≤ w) (fun k => [(132, .any), (141, .int .i64 k)]) (fun k => [(0, .mat l L (.ints .i64 (fun b => matL w (fun j => if b = bi ∧ j < k then (D3 b j - tv * M2 S.piv.length j % 3) % 3 else D3 b j))))]) (fun k => w - k) 0 ⟨anyB_ok, mixed, tabOK, cpEl_ok, noY_ok⟩ (by rfl) (by omega) ?_ ?_
                    · repeat' ((conv => whnf); first | refine And.intro ?_ ?_ | with_reducible exact VC.mk rfl | exact Ok.mk | exact True.intro | refine Nx.mk ?_ | refine Fin.mk ?_ | intro _)
                      all_goals ((try refine VC.mk ?_); (try simp only [CL.ncell, CL.cnt, vq] at *); (try omega))
                      · intro b hb
                        exact matL_congr fun j hj => by rw [if_neg (by omega)]
                    · intro q hq
                      by_cases hqw : q < w
                      · have u1 := f1 q hqw
                        have u2 := f2 q hqw
                        have u3 := d2 _ hnm q hqw
                        have u4 := d2 _ him q hqw
                        repeat' ((conv => whnf); first | refine And.intro ?_ ?_ | with_reducible exact VC.mk rfl | exact Ok.mk | exact True.intro | refine Nx.mk ?_ | refine Fin.mk ?_ | (intro hq; (try simp only [decide_eq_true_eq, decide_eq_false_iff_not, Bool.not_eq_true, Bool.not_eq_false, Bool.not_eq_true', Bool.not_eq_false', Bool.not_true, Bool.not_false, ite_true, ite_false] at hq); (try (exfalso; first | exact absurd hq (by decide) | omega))))
                        all_goals ((try refine VC.mk ?_); (try simp only [CL.ncell, CL.cnt, vq] at *); (try omega))
                        all_goals (try (simp only [te22s, Nat.mul_one, Nat.zero_add, Nat.add_zero, Int.toNat_natCast, matL_len, List.length_set, g2, hbd, hbi2]; first | omega | assumption | exact hL _ (by omega)))
                        · simp only [te22s, Nat.mul_one, hbd, matL_get _ hqw]
                          rw [if_neg (fun h => hne h.1.symm), u2]
                          exact ⟨by omega, ti, u3⟩
                        · simp only [te22s, Nat.mul_one, hbd, hbi2, matL_get _ hqw]
                          rw [if_neg (fun h => by have := h.2; omega), if_neg (fun h => hne h.1.symm), u1]
                          exact ⟨by omega, u4, in3_mod _⟩
                        · refine ⟨q + 1, [], ⟨by omega, by omega⟩, ?_⟩
                          simp only [te22s, Nat.mul_one, hbd, hbi2, matL_get _ hqw]
                          repeat' ((conv => whnf); first | refine And.intro ?_ ?_ | with_reducible exact VC.mk rfl | exact Ok.mk | exact True.intro | refine Nx.mk ?_ | refine Fin.mk ?_ | intro _)
                          all_goals ((try refine VC.mk ?_); (try simp only [CL.ncell, CL.cnt, vq] at *); (try omega))
                          intro b hb
                          unfold updN
                          by_cases eb : b = bi
                          · subst eb
                            rw [if_pos rfl, matL_set]
                            simp only [true_and]
                            refine matL_congr fun j hj => ?_
                            by_cases ej : j = q
                            · subst ej
                              rw [if_pos rfl]
                              simp only [Nat.lt_irrefl, and_false, if_false]
                              rw [if_pos (by omega), u2]
                            · rw [if_neg ej]
                              by_cases ek : j < q
                              · rw [if_pos ek, if_pos (by omega)]
                              · rw [if_neg ek, if_neg (by omega)]
                          · rw [if_neg eb]
                            refine matL_congr fun j hj => ?_
                            rw [if_neg (fun h => eb h.1), if_neg (fun h => eb h.1)]
                      · have hqq : q = w := by omega
                        repeat' ((conv => whnf); first | refine And.intro ?_ ?_ | with_reducible exact VC.mk rfl | exact Ok.mk | exact True.intro | refine Nx.mk ?_ | refine Fin.mk ?_ | (intro hq; (try simp only [decide_eq_true_eq, decide_eq_false_iff_not, Bool.not_eq_true, Bool.not_eq_false, Bool.not_eq_true', Bool.not_eq_false', Bool.not_true, Bool.not_false, ite_true, ite_false] at hq); (try (exfalso; first | exact absurd hq (by decide) | omega))))
                        all_goals ((try refine VC.mk ?_); (try simp only [CL.ncell, CL.cnt, vq] at *); (try omega))
                        all_goals (try (simp only [te22s, Nat.mul_one, Nat.zero_add, Nat.add_zero, Int.toNat_natCast, matL_len, List.length_set, g2, hbd, hbi2]; first | omega | assumption | exact hL _ (by omega)))
                        refine ⟨⟨i + 1, fun b j => if b = bi ∧ j < q then (D3 b j - tv * M2 S.piv.length j % 3) % 3 else D3 b j⟩, [], ⟨⟨by (show i + 1 ≤ m); omega, fun r hr j hj => ?_⟩, by (show m - (i + 1) < m - i); omega⟩, ?_⟩
                        · show (if L.getD r 0 = bi ∧ j < q then (D3 (L.getD r 0) j - tv * M2 S.piv.length j % 3) % 3 else D3 (L.getD r 0) j) = if r < i + 1 then clearM M2 S.piv.length c r j else M2 r j
                          by_cases er : r = i
                          · subst er
                            rw [hbi2, if_pos ⟨rfl, by omega⟩, if_pos (by omega), f1 j hj]
                            unfold clearM
                            rw [if_neg (by omega), htv]
                          · have : L.getD r 0 ≠ bi := fun h => er (nodup_get.1 g3 r i (by omega) (by omega) (h.trans hbi2.symm))
                            rw [if_neg (fun h => this h.1), i2 r hr j hj]
                            by_cases e5 : r < i
                            · rw [if_pos e5, if_pos (by omega)]
                            · rw [if_neg e5, if_neg (by omega)]
                        · repeat' ((conv => whnf); first | refine And.intro ?_ ?_ | with_reducible exact VC.mk rfl | exact Ok.mk | exact True.intro | refine Nx.mk ?_ | refine Fin.mk ?_ | intro _)
                          all_goals ((try refine VC.mk ?_); (try simp only [CL.ncell, CL.cnt, vq] at *); (try omega))
                          all_goals exact fun _ _ => trivial
                  · have hin : i = S.piv.length := by omega
                    refine ⟨⟨i + 1, D3⟩, [], ⟨⟨by (show i + 1 ≤ m); omega, fun r hr j hj => ?_⟩, by (show m - (i + 1) < m - i); omega⟩, ?_⟩
                    · show D3 (L.getD r 0) j = if r < i + 1 then clearM M2 S.piv.length c r j else M2 r j
                      rw [i2 r hr j hj]
                      by_cases e5 : r < i
                      · rw [if_pos e5, if_pos (by omega)]
                      · rw [if_neg e5]
                        by_cases e6 : r = i
                        · rw [if_pos (by omega)]
                          unfold clearM
                          rw [if_pos (by omega), e6, hin]
                        · rw [if_neg (by omega)]
                    · repeat' ((conv => whnf); first | refine And.intro ?_ ?_ | with_reducible exact VC.mk rfl | exact Ok.mk | exact True.intro | refine Nx.mk ?_ | refine Fin.mk ?_ | intro _)
                      all_goals ((try refine VC.mk ?_); (try simp only [CL.ncell, CL.cnt, vq] at *); (try omega))
                      all_goals exact fun _ _ => trivial
                · have hii : i = m := by omega
                  have hstep : stepE m S c = ⟨clearM M2 S.piv.length c, S.piv ++ [(c : Int)], S.heads ++ [sv], S.odd != decide ((S.piv.length : Int) ≠ (a : Nat))⟩ := by
                    unfold stepE
                    rw [hfind, if_neg (by omega), hM1, hsv, hM2]
                  repeat' ((conv => whnf); first | refine And.intro ?_ ?_ | with_reducible exact VC.mk rfl | exact Ok.mk | exact True.intro | refine Nx.mk ?_ | refine Fin.mk ?_ | (intro hq; (try simp only [decide_eq_true_eq, decide_eq_false_iff_not, Bool.not_eq_true, Bool.not_eq_false, Bool.not_eq_true', Bool.not_eq_false', Bool.not_true, Bool.not_false, ite_true, ite_false] at hq); (try (exfalso; first | exact absurd hq (by decide) | omega))))
                  all_goals ((try refine VC.mk ?_); (try simp only [CL.ncell, CL.cnt, vq] at *); (try omega))
                  all_goals (try (simp only [te22s, Nat.mul_one, Nat.zero_add, Nat.add_zero, Int.toNat_natCast, matL_len, List.length_set, g2, hbd]; first | omega | assumption | exact hL _ (by omega)))
                  · rw [List.length_append, List.length_cons, List.length_nil]; omega
                  · refine ⟨⟨c + 1, L, D3⟩, [], ⟨⟨by (show c + 1 ≤ w); omega, g2, g3, g4, hL, fun r hr j hj => ?_⟩, by (show w - (c + 1) < w - c); omega⟩, ?_⟩
                    · show D3 (L.getD r 0) j = (elimE m M0 (c + 1)).M r j
                      rw [hsucc, hstep, i2 r hr j hj, if_pos (by omega)]
                    · simp only [hsucc, hstep]
                      repeat' ((conv => whnf); first | refine And.intro ?_ ?_ | with_reducible exact VC.mk rfl | exact Ok.mk | exact True.intro | refine Nx.mk ?_ | refine Fin.mk ?_ | intro _)
                      all_goals ((try refine VC.mk ?_); (try simp only [CL.ncell, CL.cnt, vq] at *); (try omega))
                      · exact fun _ _ => trivial
                      · simp
                      · simp
        · have hstep : stepE m S c = S := by
            unfold stepE
            rw [findAt_none (fun r h1 h2 => haz r (by omega) (by omega)), if_pos rfl]
          repeat' ((conv => whnf); first | refine And.intro ?_ ?_ | with_reducible exact VC.mk rfl | exact Ok.mk | exact True.intro | refine Nx.mk ?_ | refine Fin.mk ?_ | (intro hq; (try simp only [decide_eq_true_eq, decide_eq_false_iff_not, Bool.not_eq_true, Bool.not_eq_false, Bool.not_eq_true', Bool.not_eq_false', Bool.not_true, Bool.not_false, ite_true, ite_false] at hq); (try (exfalso; first | exact absurd hq (by decide) | omega))))
          all_goals ((try refine VC.mk ?_); (try simp only [CL.ncell, CL.cnt, vq] at *); (try omega))
          all_goals (try (simp only [te22s, Nat.mul_one, Nat.zero_add, Nat.add_zero, Int.toNat_natCast, matL_len, List.length_set, x2]; first | omega | exact x5 _ (by omega)))
          refine ⟨⟨c + 1, lx, D⟩, [], ⟨⟨by (show c + 1 ≤ w); omega, x2, x3, x4, x5, fun r hr j hj => ?_⟩, by (show w - (c + 1) < w - c); omega⟩, ?_⟩
          · show D (lx.getD r 0) j = (elimE m M0 (c + 1)).M r j
            rw [hsucc, hstep]; exact x6 r hr j hj
          · simp only [hsucc, hstep]
            repeat' ((conv => whnf); first | refine And.intro ?_ ?_ | with_reducible exact VC.mk rfl | exact Ok.mk | exact True.intro | refine Nx.mk ?_ | refine Fin.mk ?_ | intro _)
            all_goals ((try refine VC.mk ?_); (try simp only [CL.ncell, CL.cnt, vq] at *); (try omega))
            all_goals exact fun _ _ => trivial
    · have hcc : c = w := by omega
      subst hcc
      repeat' ((conv => whnf); first | refine And.intro ?_ ?_ | with_reducible exact VC.mk rfl | exact Ok.mk | exact True.intro | refine Nx.mk ?_ | refine Fin.mk ?_ | (intro hq; (try simp only [decide_eq_true_eq, decide_eq_false_iff_not, Bool.not_eq_true, Bool.not_eq_false, Bool.not_eq_true', Bool.not_eq_false', Bool.not_true, Bool.not_false, ite_true, ite_false] at hq); (try (exfalso; first | exact absurd hq (by decide) | omega))))
      all_goals ((try refine VC.mk ?_); (try simp only [CL.ncell, CL.cnt, vq] at *); (try omega))
      conv => whnf
      repeat' ((conv => whnf); first | refine And.intro ?_ ?_ | with_reducible exact VC.mk rfl | exact Ok.mk | exact True.intro | refine Nx.mk ?_ | refine Fin.mk ?_ | intro _)
      all_goals ((try refine VC.mk ?_); (try simp only [CL.ncell, CL.cnt, vq] at *); (try omega))
      · exact x4 _ (by assumption)
      · exact matL_congr fun j hj => x6 _ (by assumption) j hj
end Go.Eng.YtobnbkoeocdhbaaGreatDoor
namespace Go.Eng.YtobnbkoeocdhbaaGreatDoor
open Go.Proofs
set_option maxRecDepth 100000
set_option maxHeartbeats 0
set_option linter.unusedVariables false
set_option linter.unusedSimpArgs false
def modL (m : List (List Int)) (w : Nat) : LSp := fun xs objs K => match xs, objs with
  | [.isl (.rows .i64 l) .none, .int .i64 p], [] => VC (l = m ∧ p = 3) ∧ K [.rsl 0 0 m.length, .agg [.int .i64 3], .int .i64 0] [.pmat m.length (.ints .i64 (fun r => matL w (resM m r)))]
  | _, _ => False
theorem modL_ok {m : List (List Int)} {w : Nat} (h : MatOK m w) : LOK Tryz.prog 106 (modL m w) := by
  intro xs objs K hk
  unfold modL at hk
  split at hk
  · obtain ⟨⟨rfl, rfl⟩, hk⟩ := hk
    exact ⟨_, _, hk, modulo_spec _ w h⟩
  · exact hk.elim
def widL (m w : Nat) (M : Mat) : LSp := fun xs objs K => match xs, objs with
  | [.rsl k o n], [.pmat q (.ints .i64 c)] => VC (k = 0 ∧ o = 0 ∧ n = m ∧ q = m ∧ c = fun r => matL w (M r)) ∧ K [.int .i64 (w : Int)] [.pmat m (.ints .i64 (fun r => matL w (M r)))]
  | _, _ => False
theorem widL_ok {m w : Nat} {M : Mat} (hm : 1 ≤ m) : LOK Tryz.prog 108 (widL m w M) := by
  intro xs objs K hk
  unfold widL at hk
  split at hk
  · obtain ⟨⟨rfl, rfl, rfl, rfl, rfl⟩, hk⟩ := hk
    exact ⟨_, _, hk, width_spec hm (fun i _ => matL_len _ _)⟩
  · exact hk.elim
def elL (m w : Nat) (M : Mat) : LSp := fun xs objs K => match xs, objs with
  | [.agg [.int .i64 p], .rsl k o n, .int .i64 v], [.pmat q (.ints .i64 c)] => VC (p = 3 ∧ k = 0 ∧ o = 0 ∧ n = m ∧ v = (w : Int) ∧ q = m ∧ c = fun r => matL w (M r)) ∧
      K [.agg [.rsl 0 0 (elimE m M w).piv.length, .isl (.ints .i64 (elimE m M w).piv) .none, .isl (.ints .i64 (elimE m M w).heads) .none, .bp (elimE m M w).odd]] [.pmat m (.ints .i64 (fun r => matL w ((elimE m M w).M r)))]
  | _, _ => False
theorem elL_ok {m w : Nat} {M : Mat} (hm : 1 ≤ m ∧ m ≤ 256) (hw : 1 ≤ w ∧ w ≤ 256) (h3 : In3 m w M) : LOK Tryz.prog 107 (elL m w M) := by
  intro xs objs K hk
  unfold elL at hk
  split at hk
  · obtain ⟨⟨rfl, rfl, rfl, rfl, rfl, rfl, rfl⟩, hk⟩ := hk
    exact ⟨_, _, hk, elim_spec hm hw h3⟩
  · exact hk.elim
theorem rank_spec (m : List (List Int)) (w : Nat) (h : MatOK m w) : PSpec Tryz.prog 57 [.isl (.rows .i64 m) .none, .int .i64 3] (.tup [.int .i64 ((elimE m.length (resM m) w).piv.length : Int), .int .i64 0]) := by
  have h3 : In3 m.length w (resM m) := fun r _ j _ => in3_mod _
  have hC := cpAdd_ok (lendCC_ok [] (modL_ok h)) (cpAdd_ok (lendCC_ok [] (widL_ok (m := m.length) (w := w) (M := resM m) h.len.1)) (cpAdd_ok (lendCC_ok [] (elL_ok h.len h.wid h3)) noC_ok))
  refine pspec_of (md := 1) (rf := []) mixed tabOK hC Tryz.func57 (by rfl) (by rfl) (by rfl) ?_
  repeat' ((conv => whnf); first | refine And.intro ?_ ?_ | with_reducible exact VC.mk rfl | exact Ok.mk | exact True.intro | refine Nx.mk ?_ | refine Fin.mk ?_ | (intro hq; (try simp only [decide_eq_true_eq, decide_eq_false_iff_not, Bool.not_eq_true, Bool.not_eq_false, Bool.not_eq_true', Bool.not_eq_false', Bool.not_true, Bool.not_false, ite_true, ite_false] at hq); (try (exfalso; first | exact absurd hq (by decide) | omega))))
  all_goals ((try refine VC.mk ?_); (try simp only [CL.ncell, CL.cnt, vq] at *); (try omega))
  exact Sup.of rfl
end Go.Eng.YtobnbkoeocdhbaaGreatDoor
