/-
  An engine that walks through a function of the program with symbolic values, and the proofs that it is sound. No condition.
-/
import Derived.LoopNIn
import Derived.RangeFuncLeaves
import Derived.RangeFuncRecord
import Derived.Test.YtobnbkoeocdhbaaGreatDoorEb
namespace Go.Eng
open Go.RowKit
set_option linter.unusedVariables false
set_option linter.unusedSimpArgs false
/-! what is asked of a region's text -/
def maskE (acc : List Nat) : List Edge → Nat
  | [] => 0
  | e :: r => match Region.binds .any e with
    | true => (2 ^ e.on ||| acc.getD e.on 0) ||| maskE acc r
    | false => maskE acc r
def masks : List Oper → List Nat → List Nat
  | [], acc => acc
  | o :: r, acc => masks r (acc ++ [maskE acc o.after.toList])
def disj (a b : List Nat) : Bool :=
  match a with
  | [] => true
  | x :: r => match memN x b with | true => false | false => disj r b
def optL : Option Nat → List Nat | none => [] | some d => [d]
def apartB (ops : Array Oper) (p o : Oper) : Bool :=
  disj (optL p.dst) (looks ops o) && disj (optL o.dst) (looks ops p) && disj (optL p.dst) (optL o.dst)
def backB (j : Nat) (es : List Edge) : Bool := es.all fun e => !Region.binds .any e || Nat.blt e.on j
def regOK (ops : Array Oper) : Bool :=
  (List.range ops.size).all fun j => match ops[j]? with
    | none => true
    | some oj => backB j oj.after.toList && (List.range j).all fun i => match ops[i]? with
      | none => true
      | some oi => Nat.testBit ((masks ops.toList []).getD j 0) i || apartB ops oi oj
theorem memN_iff {n : Nat} {l : List Nat} : memN n l = true ↔ n ∈ l := by
  induction l with
  | nil => simp [memN]
  | cons m l ih =>
    unfold memN
    cases h : Nat.beq n m with
    | true => simp [Nat.eq_of_beq_eq_true h]
    | false =>
      have : n ≠ m := Nat.ne_of_beq_eq_false h
      simp [ih, this]
theorem disj_iff {a b : List Nat} : disj a b = true ↔ ∀ x ∈ a, x ∉ b := by
  induction a with
  | nil => simp [disj]
  | cons x r ih =>
    unfold disj
    cases h : memN x b with
    | true => simp [memN_iff.1 h]
    | false =>
      have : x ∉ b := fun hx => by rw [memN_iff.2 hx] at h; cases h
      simp [ih, this]
theorem apartB_sound {ops : Array Oper} {p o : Oper} (h : apartB ops p o = true) : Apart ops p o := by
  unfold apartB at h
  simp only [Bool.and_eq_true, disj_iff] at h
  exact ⟨fun d hd => h.1.1 d (by simp [hd, optL]), fun d hd => h.1.2 d (by simp [hd, optL]), fun d hd hd' => h.2 d (by simp [hd, optL]) (by simp [hd', optL])⟩
theorem maskE_sound {ops : Array Oper} {j : Nat} {o : Oper} (ho : ops[j]? = some o) {acc : List Nat} (hacc : ∀ k i, (acc.getD k 0).testBit i = true → Bef ops i k) :
    ∀ (es : List Edge), (∀ e ∈ es, e ∈ o.after) → ∀ i, (maskE acc es).testBit i = true → Bef ops i j := by
  intro es
  induction es with
  | nil => intro _ i h; simp [maskE] at h
  | cons e es ih =>
    intro hes i h
    have ih := ih (fun x hx => hes x (by simp [hx])) i
    unfold maskE at h
    cases hb : Region.binds .any e with
    | false => rw [hb] at h; exact ih h
    | true =>
      rw [hb] at h
      simp only [Nat.testBit_or, Bool.or_eq_true, Nat.testBit_two_pow, decide_eq_true_eq] at h
      have he := Bef.edge (i := e.on) ho (hes e (by simp)) hb rfl
      rcases h with (h | h) | h
      · subst h; exact he
      · exact (hacc _ _ h).trans he
      · exact ih h
theorem masks_sound {ops : Array Oper} : ∀ (r pre : List Oper) (acc : List Nat), ops.toList = pre ++ r → acc.length = pre.length → (∀ k i, (acc.getD k 0).testBit i = true → Bef ops i k) →
    ∀ k i, ((masks r acc).getD k 0).testBit i = true → Bef ops i k := by
  intro r
  induction r with
  | nil => intro pre acc _ _ h; exact h
  | cons o r ih =>
    intro pre acc hops hl h
    refine ih (pre ++ [o]) (acc ++ [maskE acc o.after.toList]) (by simp [hops]) (by simp [hl]) (fun k i hk => ?_)
    rw [List.getD_eq_getElem?_getD] at hk
    by_cases e : k < acc.length
    · rw [List.getElem?_append_left e, ← List.getD_eq_getElem?_getD] at hk
      exact h k i hk
    · rw [List.getElem?_append_right (by omega)] at hk
      by_cases e' : k = acc.length
      · subst e'
        simp at hk
        have ho : ops[acc.length]? = some o := by
          rw [← Array.getElem?_toList, hops, hl, List.getElem?_append_right (Nat.le_refl _)]; simp
        exact maskE_sound ho h _ (fun e he => by simpa using he) i hk
      · rw [List.getElem?_eq_none (by simp; omega)] at hk; simp at hk
/-! what is asked of what the operations touch -/
structure Lg where
  i : Nat
  ws : List Nat
  as : List Nat
  ns : List Nat
def logAdd (i : Nat) (sets : List (Nat × AO)) (acc news : List Nat) (log : List Lg) : List Lg :=
  match sets, acc, news with
  | [], [], [] => log
  | _, _, _ => ⟨i, keys sets, acc, news⟩ :: log
/-- e is ahead of f -/
def dynOne (mj : Nat) (fw fa : List Nat) : List Lg → Bool
  | [] => true
  | ⟨i, ew, ea, en⟩ :: r => match Nat.testBit mj i with
    | true => dynOne mj fw fa r
    | false => match disj ew fa && disj ew fw && disj fw ea && disj fw en with
      | true => dynOne mj fw fa r
      | false => false
def dynAll (ms : List Nat) : List Lg → Bool
  | [] => true
  | ⟨i, fw, fa, _⟩ :: r => match dynOne (ms.getD i 0) fw fa r with
    | true => dynAll ms r
    | false => false
def logF (es : Nat → Ent) : List Nat → List Lg → List Lg
  | [], log => log
  | i :: R, log => logF es R (logAdd i (es i).sets (es i).accs (es i).news log)
def nontriv (e : Ent) : Bool := match e.sets, e.accs, e.news with | [], [], [] => false | _, _, _ => true
theorem logAdd_eq (i : Nat) (e : Ent) (log : List Lg) : logAdd i e.sets e.accs e.news log = if nontriv e then ⟨i, keys e.sets, e.accs, e.news⟩ :: log else log := by
  obtain ⟨run, v, sets, accs, news⟩ := e
  cases sets <;> cases accs <;> cases news <;> rfl
theorem logF_eq (es : Nat → Ent) : ∀ (R : List Nat) (log : List Lg), logF es R log = ((R.filter fun i => nontriv (es i)).reverse.map fun i => ⟨i, keys (es i).sets, (es i).accs, (es i).news⟩) ++ log := by
  intro R
  induction R with
  | nil => intro log; rfl
  | cons i R ih =>
    intro log
    simp only [logF, ih, logAdd_eq]
    cases h : nontriv (es i) <;> simp [h]
theorem dynOne_iff {mj : Nat} {f : Lg} {l : List Lg} : dynOne mj f.ws f.as l = true ↔ ∀ e ∈ l, mj.testBit e.i = true ∨ (disj e.ws f.as && disj e.ws f.ws && disj f.ws e.as && disj f.ws e.ns) = true := by
  induction l with
  | nil => simp [dynOne]
  | cons e l ih =>
    unfold dynOne
    cases h1 : Nat.testBit mj e.i with
    | true => simp [h1, ih]
    | false =>
      simp only [List.mem_cons, forall_eq_or_imp, h1, Bool.false_eq_true, false_or]
      split
      · rename_i h; simp only [h, true_and, ih]
      · rename_i h; simp [h]
theorem dynAll_iff {ms : List Nat} {l : List Lg} : dynAll ms l = true ↔ l.Pairwise fun f e => (ms.getD f.i 0).testBit e.i = true ∨ (disj e.ws f.as && disj e.ws f.ws && disj f.ws e.as && disj f.ws e.ns) = true := by
  induction l with
  | nil => simp [dynAll]
  | cons f l ih =>
    unfold dynAll
    cases h : dynOne (ms.getD f.i 0) f.ws f.as l with
    | true => simp only [List.pairwise_cons, ih]; exact ⟨fun h' => ⟨dynOne_iff.1 h, h'⟩, fun h' => h'.2⟩
    | false =>
      simp only [List.pairwise_cons]
      refine ⟨fun h' => absurd h' (by simp), fun h' => ?_⟩
      rw [dynOne_iff.2 h'.1] at h; cases h
theorem dyn_sound {ops : Array Oper} {es : Nat → Ent} {n : Nat} (h : dynAll (masks ops.toList []) (logF es (List.range n) []) = true) {i j : Nat} (hij : i < j) (hj : j < n) (hb : ¬ Bef ops i j) : DApart (es i) (es j) := by
  rw [logF_eq, List.append_nil, dynAll_iff, List.pairwise_map, List.pairwise_reverse, List.pairwise_filter] at h
  have hp := (List.pairwise_iff_getElem.1 h) i j (by simpa using (by omega : i < n)) (by simpa using hj) hij
  simp only [List.getElem_range] at hp
  have htriv : ∀ e : Ent, nontriv e = false → e.sets = [] ∧ e.accs = [] ∧ e.news = [] := by
    intro e he
    obtain ⟨run, v, sets, accs, news⟩ := e
    cases sets <;> cases accs <;> cases news <;> simp_all [nontriv]
  cases hi' : nontriv (es i) with
  | false =>
    obtain ⟨e1, e2, e3⟩ := htriv _ hi'
    exact ⟨fun k hk => by rw [e1] at hk; simp [keys] at hk, fun k hk => by rw [e2, e3]; simp⟩
  | true =>
    cases hj' : nontriv (es j) with
    | false =>
      obtain ⟨e1, e2, e3⟩ := htriv _ hj'
      exact ⟨fun k hk => by rw [e1, e2]; simp [keys], fun k hk => by rw [e1] at hk; simp [keys] at hk⟩
    | true =>
      rcases hp hi' hj' with hp | hp
      · exact absurd (masks_sound ops.toList [] [] rfl rfl (fun k i hk => by simp at hk) j i hp) hb
      · simp only [Bool.and_eq_true, disj_iff] at hp
        exact ⟨fun k hk => ⟨hp.1.1.1 k hk, hp.1.1.2 k hk⟩, fun k hk => ⟨hp.1.2 k hk, hp.2 k hk⟩⟩
theorem regOK_back {ops : Array Oper} (h : regOK ops = true) (j : Nat) (o : Oper) (e : Edge) (ho : ops[j]? = some o) (he : e ∈ o.after) (hb : Region.binds .any e = true) : e.on < j := by
  have hj : j < ops.size := (Array.getElem?_eq_some_iff.1 ho).1
  unfold regOK at h
  have := (List.all_eq_true.1 h) j (by simpa using hj)
  rw [ho] at this
  simp only [Bool.and_eq_true] at this
  have h2 := (List.all_eq_true.1 this.1) e (by simpa using he)
  rw [hb] at h2
  simpa [Nat.blt_eq] using h2
theorem regOK_apart {ops : Array Oper} (h : regOK ops = true) {i j : Nat} {p o : Oper} (hij : i < j) (hi : ops[i]? = some p) (ho : ops[j]? = some o) (hb : ¬ Bef ops i j) : Apart ops p o := by
  have hj : j < ops.size := (Array.getElem?_eq_some_iff.1 ho).1
  unfold regOK at h
  have := (List.all_eq_true.1 h) j (by simpa using hj)
  rw [ho] at this
  simp only [Bool.and_eq_true] at this
  have h2 := (List.all_eq_true.1 this.2) i (by simpa using hij)
  rw [hi] at h2
  simp only [Bool.or_eq_true] at h2
  rcases h2 with h2 | h2
  · exact absurd (masks_sound ops.toList [] [] rfl rfl (fun k i hk => by simp at hk) j i h2) hb
  · exact apartB_sound h2
/-! a region reckoned -/
def freshL (H : Hp) : List Nat → Prop → Prop
  | [], k => k
  | n :: r, k => freshK H n (freshL H r k)
theorem freshL_iff {H : Hp} {l : List Nat} {k : Prop} : freshL H l k ↔ (∀ n ∈ l, Hget H n = none) ∧ k := by
  induction l with
  | nil => simp [freshL]
  | cons n l ih => simp only [freshL, freshK_iff, ih, List.mem_cons, forall_eq_or_imp, and_assoc]
def idN : Op → Nat
  | .alloc _ => 1
  | .box _ _ => 1
  | .buildSlice _ _ _ => 1
  | .makeMap _ _ => 1
  | .makeSlice _ _ _ => 1
  | .call c => match c.callee with
    | .builtin .append => 1
    | .value _ => 4
    | _ => 0
  | _ => 0
def slotOf (ops : List Oper) (j : Nat) : Option Nat := match ops, j with
  | [], _ => none
  | o :: _, 0 => o.dst
  | _ :: r, j + 1 => slotOf r j
def putTK (env : Env) (dst : Option Nat) (v : PV) (k : Env → Prop) : Prop := match dst with | none => k env | some d => setK env d v k
theorem putTK_eq (env : Env) (dst : Option Nat) (v : PV) (k : Env → Prop) : putTK env dst v k = k (putE env dst v) := by
  cases dst with
  | none => rfl
  | some d => exact setK_eq _ _ _ _
section
variable (τ : TypeId → Option TE) (md : Nat) (rf : List Nat) (CP : CPT) (YP : YPT)
def runK (n : Nat) (env : Env) (H : Hp) (o : Oper) (i : Nat) (log : List Lg) (K : Env → Hp → List Lg → Prop) : Prop :=
  opK τ md rf CP YP (eo env) H n o.dst o.op fun v sets acc news => freshL H news (putTK env o.dst v fun env' => putsHK sets H fun H' => K env' H' (logAdd i sets acc news log))
/-- one operation, and what is behind it. (By the recursor itself: what is left open in a walk then reads alike wherever it is reckoned.) -/
def regS (all : List Oper) (o : Oper) (ih : Nat → Nat → Env → Hp → List Lg → (Env → Hp → Nat → List Lg → Prop) → Prop) (i n : Nat) (env : Env) (H : Hp) (log : List Lg) (K : Env → Hp → Nat → List Lg → Prop) : Prop :=
    natK (n + idN o.op) fun n' => natK (i + 1) fun i' =>
    match o.guard with
    | none => runK τ md rf CP YP n env H o i log fun env' H' log' => ih i' n' env' H' log' K
    | some (j, want) => match slotOf all j with
      | none => False
      | some d => match getL env d with
        | .bool t => match Bool.xor t want with
          | false => runK τ md rf CP YP n env H o i log fun env' H' log' => ih i' n' env' H' log' K
          | true => putTK env o.dst (.tup []) fun env' => ih i' n' env' H log K
        | .bp t => (t = want → setK env d (.bool want) fun env1 => runK τ md rf CP YP n env1 H o i log fun env' H' log' => ih i' n' env' H' log' K) ∧
            (t = Bool.not want → setK env d (.bool (Bool.not want)) fun env1 => putTK env1 o.dst (.tup []) fun env' => ih i' n' env' H log K)
        | .tup vs => match vs with
          | [] => putTK env o.dst (.tup []) fun env' => ih i' n' env' H log K
          | _ => False
        | _ => False
noncomputable def regK (all : List Oper) (l : List Oper) : Nat → Nat → Env → Hp → List Lg → (Env → Hp → Nat → List Lg → Prop) → Prop :=
  List.rec (motive := fun _ => Nat → Nat → Env → Hp → List Lg → (Env → Hp → Nat → List Lg → Prop) → Prop) (fun i n env H log K => K env H n log) (fun o _ ih => regS τ md rf CP YP all o ih) l
theorem regK_cons (all : List Oper) (o : Oper) (r : List Oper) : regK τ md rf CP YP all (o :: r) = regS τ md rf CP YP all o (regK τ md rf CP YP all r) := rfl
end
/-- the same temporaries; a truth value once a letter and once a word -/
def EqE (env env1 : Env) : Prop := env.length = env1.length ∧ ∀ i, getL env i = getL env1 i ∨ ∃ b, getL env i = .bp b ∧ getL env1 i = .bool b
theorem EqE.refl (env : Env) : EqE env env := ⟨rfl, fun _ => .inl rfl⟩
theorem EqE.rep {env env1 : Env} (h : EqE env env1) {S : Imm} {w : World} {ι : Ix} {vs : Array Value} (hr : RepA S w ι env vs) : RepA S w ι env1 vs := by
  refine ⟨h.1 ▸ hr.1, fun i hi => ?_⟩
  have := hr.2 i (by rw [h.1]; exact hi)
  rcases h.2 i with e | ⟨b, e1, e2⟩
  · rw [← e]; exact this
  · rw [e1] at this
    rw [e2]
    generalize vs.getD i undef = x at this
    cases this; exact .bool _ _
theorem EqE.eo {env env1 : Env} (h : EqE env env1) (x : Operand) {S : Imm} {w : World} {ι : Ix} {v : Value} (hr : Rep S w ι (eo env x) v) : Rep S w ι (eo env1 x) v := by
  cases x with
  | tmp t =>
    simp only [Eng.eo] at hr ⊢
    rcases h.2 t with e | ⟨b, e1, e2⟩
    · rw [← e]; exact hr
    · rw [e1] at hr; rw [e2]; cases hr; exact .bool _ _
  | const v => exact hr
  | global g => exact hr
  | func f => exact hr
theorem EqE.put {env env1 : Env} (h : EqE env env1) (dst : Option Nat) (v : PV) : EqE (putE env dst v) (putE env1 dst v) := by
  cases dst with
  | none => exact h
  | some d =>
    refine ⟨by simp [putE, h.1], fun i => ?_⟩
    simp only [putE, getL_set, h.1]
    split
    · exact .inl rfl
    · exact h.2 i
theorem EqE.bool {env : Env} {d : Nat} {t : Bool} (h : getL env d = .bp t) : EqE env (env.set d (.bool t)) := by
  refine ⟨by simp, fun i => ?_⟩
  rw [getL_set]
  by_cases e : i = d ∧ d < env.length
  · rw [if_pos e]; exact .inr ⟨t, by rw [e.1]; exact h, rfl⟩
  · rw [if_neg e]; exact .inl rfl
section
variable {P : Program} {r : Option Nat} {τ : TypeId → Option TE} {B : Imm → World → Prop}
theorem EntOK.eqE {ops : Array Oper} {env env1 : Env} {H : Hp} {o : Oper} {e : Ent} (h : EqE env env1) (he : EntOK P r B ops env1 H o e) : EntOK P r B ops env H o e := by
  obtain ⟨h1, h2, h3, h4⟩ := he
  refine ⟨?_, fun hr => (h2 hr).congr (fun x hx S w ι val hh => h.eo x hh) (fun _ _ => rfl), h3, h4⟩
  unfold GOK at h1 ⊢
  cases hg : o.guard with
  | none => rw [hg] at h1; exact h1
  | some jw =>
    obtain ⟨j, want⟩ := jw
    rw [hg] at h1
    obtain ⟨d, t, g1, g2, g3⟩ := h1
    refine ⟨d, t, g1, ?_, g3⟩
    rcases h.2 d with e | ⟨b, e1, e2⟩
    · rw [e]; exact g2
    · rw [e2] at g2
      rcases g2 with g2 | g2 | ⟨g2, _⟩
      · cases g2
      · cases g2; exact .inl e1
      · cases g2
theorem Chain.eqE {ops : Array Oper} {es : Nat → Ent} {K : Env → Hp → Prop} (hK : ∀ env env1 H, EqE env env1 → K env1 H → K env H) : ∀ (R : List Nat) {env env1 : Env} {H : Hp}, EqE env env1 → Chain P r B ops es R env1 H K → Chain P r B ops es R env H K := by
  intro R
  induction R with
  | nil => intro env env1 H h hc; exact hK _ _ _ h hc
  | cons i R ih =>
    intro env env1 H h hc
    obtain ⟨o, ho, he, hc⟩ := hc
    exact ⟨o, ho, he.eqE h, ih (h.put _ _) hc⟩
theorem Chain.congrEs {ops : Array Oper} {es es' : Nat → Ent} {K : Env → Hp → Prop} : ∀ (R : List Nat) {env : Env} {H : Hp}, (∀ i ∈ R, es i = es' i) → Chain P r B ops es R env H K → Chain P r B ops es' R env H K := by
  intro R
  induction R with
  | nil => intro env H _ h; exact h
  | cons i R ih =>
    intro env H he h
    obtain ⟨o, ho, h1, h2⟩ := h
    have e := he i (by simp)
    exact ⟨o, ho, e ▸ h1, e ▸ ih (fun j hj => he j (by simp [hj])) h2⟩
theorem Chain.imp {ops : Array Oper} {es : Nat → Ent} {K K' : Env → Hp → Prop} (hK : ∀ env H, K env H → K' env H) : ∀ (R : List Nat) {env : Env} {H : Hp}, Chain P r B ops es R env H K → Chain P r B ops es R env H K' := by
  intro R
  induction R with
  | nil => intro env H h; exact hK _ _ h
  | cons i R ih => intro env H h; obtain ⟨o, ho, h1, h2⟩ := h; exact ⟨o, ho, h1, ih h2⟩
theorem Chain.fact {ops : Array Oper} {es : Nat → Ent} {K : Env → Hp → Prop} {A : Prop} (hK : ∀ env H, K env H → A) : ∀ (R : List Nat) {env : Env} {H : Hp}, Chain P r B ops es R env H K → A := by
  intro R
  induction R with
  | nil => intro env H h; exact hK _ _ h
  | cons i R ih => intro env H h; obtain ⟨o, ho, h1, h2⟩ := h; exact ih h2
theorem logF_congr {es es' : Nat → Ent} : ∀ (R : List Nat) (log : List Lg), (∀ i ∈ R, es i = es' i) → logF es R log = logF es' R log := by
  intro R
  induction R with
  | nil => intro log _; rfl
  | cons i R ih => intro log h; simp only [logF]; rw [h i (by simp), ih _ fun j hj => h j (by simp [hj])]
theorem slotOf_eq : ∀ (l : List Oper) (j : Nat), slotOf l j = (l[j]?).bind (·.dst) := by
  intro l
  induction l with
  | nil => intro j; rfl
  | cons o l ih => intro j; cases j with
    | zero => rfl
    | succ j => simpa [slotOf] using ih j
def idsN : List Oper → Nat
  | [] => 0
  | o :: r => idN o.op + idsN r
theorem regK_sound (hτ : TabOK P τ) {md rf CP YP} (hC : CPOKB P B CP) (hY : YPOK P r B YP) {ops : Array Oper} {K : Env → Hp → Nat → List Lg → Prop} {K' : List Lg → Env → Hp → Prop}
    (hK : ∀ env H n log, K env H n log → K' log env H) (hK' : ∀ log env env1 H, EqE env env1 → K' log env1 H → K' log env H) :
    ∀ (l : List Oper) (i n : Nat) (env : Env) (H : Hp) (log : List Lg), ops.toList.drop i = l → regK τ md rf CP YP ops.toList l i n env H log K →
      ∃ es : Nat → Ent, Chain P r B ops es (List.range' i l.length) env H (K' (logF es (List.range' i l.length) log)) := by
  intro l
  induction l with
  | nil => intro i n env H log _ h; exact ⟨fun _ => default, hK _ _ _ _ h⟩
  | cons o l ih =>
    intro i n env H log hl h
    have ho : ops[i]? = some o := by
      have : (ops.toList.drop i)[0]? = some o := by rw [hl]; rfl
      rw [List.getElem?_drop] at this
      simpa using this
    have hl' : ops.toList.drop (i + 1) = l := by
      have : (ops.toList.drop i).drop 1 = l := by rw [hl]; rfl
      rw [List.drop_drop] at this; exact this
    rw [regK_cons] at h
    simp only [regS, natK_eq] at h
    have glue : ∀ {env : Env} {H : Hp} (e : Ent) (es : Nat → Ent), EntOK P r B ops env H o e → Chain P r B ops es (List.range' (i + 1) l.length) (putE env o.dst e.v) (Hputs H e.sets) (K' (logF es (List.range' (i + 1) l.length) (logAdd i e.sets e.accs e.news log))) →
        ∃ es : Nat → Ent, Chain P r B ops es (List.range' i (o :: l).length) env H (K' (logF es (List.range' i (o :: l).length) log)) := by
      intro env H e es he hc
      have hne : ∀ j ∈ List.range' (i + 1) l.length, es j = (if j = i then e else es j) := by
        intro j hj
        rw [List.mem_range'_1] at hj
        rw [if_neg (by omega)]
      refine ⟨fun j => if j = i then e else es j, ?_⟩
      rw [List.length_cons, List.range'_succ]
      refine ⟨o, ho, by simpa using he, ?_⟩
      simp only [if_true, logF]
      rw [← logF_congr _ _ hne]
      exact Chain.congrEs _ hne hc
    have run : ∀ {env : Env} {H : Hp}, GOK ops env o true → runK τ md rf CP YP n env H o i log (fun env' H' log' => regK τ md rf CP YP ops.toList l (i + 1) (n + idN o.op) env' H' log' K) →
        ∃ es : Nat → Ent, Chain P r B ops es (List.range' i (o :: l).length) env H (K' (logF es (List.range' i (o :: l).length) log)) := by
      intro env H hg h
      obtain ⟨v, sets, accs, news, h, hs⟩ := opK_sound (B := B) hτ hC hY h
      simp only [freshL_iff, putTK_eq, putsHK_eq] at h
      obtain ⟨hn, h⟩ := h
      obtain ⟨es, hc⟩ := ih _ _ _ _ _ hl' h
      exact glue ⟨true, v, sets, accs, news⟩ es ⟨hg, fun _ => hs, hn, fun hh => by cases hh⟩ hc
    have skip : ∀ {env : Env} {H : Hp}, GOK ops env o false → regK τ md rf CP YP ops.toList l (i + 1) (n + idN o.op) (putE env o.dst (.tup [])) H log K →
        ∃ es : Nat → Ent, Chain P r B ops es (List.range' i (o :: l).length) env H (K' (logF es (List.range' i (o :: l).length) log)) := by
      intro env H hg h
      obtain ⟨es, hc⟩ := ih _ _ _ _ _ hl' h
      refine glue ⟨false, .tup [], [], [], []⟩ es ?_ hc
      refine ⟨hg, fun hh => ?_, fun k hk => ?_, fun _ => ⟨rfl, rfl, rfl, rfl⟩⟩
      · exact absurd hh (by simp)
      · exact absurd hk (by simp)
    have lift : ∀ {env env1 : Env} {H : Hp}, EqE env env1 → (∃ es : Nat → Ent, Chain P r B ops es (List.range' i (o :: l).length) env1 H (K' (logF es (List.range' i (o :: l).length) log))) →
        ∃ es : Nat → Ent, Chain P r B ops es (List.range' i (o :: l).length) env H (K' (logF es (List.range' i (o :: l).length) log)) :=
      fun he ⟨es, hc⟩ => ⟨es, Chain.eqE (hK' _) _ he hc⟩
    split at h
    · rename_i hg
      exact run (by unfold GOK; rw [hg]) h
    · rename_i j want hg
      split at h
      · exact h.elim
      · rename_i d hd
        rw [slotOf_eq, Array.getElem?_toList] at hd
        have gk : ∀ {env : Env} {t b : Bool}, (getL env d = .bp t ∨ getL env d = .bool t) → b = (t == want) → GOK ops env o b := by
          intro env t b h1 h2
          unfold GOK; rw [hg]; exact ⟨d, t, hd, h1.imp id .inl, h2⟩
        split at h
        · rename_i t ht
          split at h
          · rename_i hx
            exact run (gk (.inr ht) (by cases t <;> cases want <;> simp_all)) h
          · rename_i hx
            rw [putTK_eq] at h
            exact skip (gk (.inr ht) (by cases t <;> cases want <;> simp_all)) h
        · rename_i t ht
          obtain ⟨ha, hb⟩ := h
          rw [setK_eq] at hb
          simp only [setK_eq] at ha
          by_cases e : t = want
          · subst e
            have hq := EqE.bool ht
            refine lift hq (run (gk (t := t) ?_ (by simp)) (ha rfl))
            have := hq.2 d
            rw [ht] at this
            rcases this with this | ⟨b, e1, e2⟩
            · exact .inl this.symm
            · cases e1; exact .inr e2
          · have e' : t = Bool.not want := by cases t <;> cases want <;> simp_all
            have hq := EqE.bool ht
            rw [e'] at hq
            have hb := hb e'
            rw [putTK_eq] at hb
            refine lift hq (skip (gk (t := Bool.not want) ?_ (by cases want <;> rfl)) hb)
            have := hq.2 d
            rw [ht] at this
            rcases this with this | ⟨b, e1, e2⟩
            · rw [e'] at this; exact .inl this.symm
            · cases e1; rw [e'] at e2; exact .inr e2
        · rename_i vs ht
          split at h
          · rw [putTK_eq] at h
            refine skip ?_ h
            unfold GOK; rw [hg]; exact ⟨d, !want, hd, .inr (.inr ⟨ht, rfl⟩), by cases want <;> rfl⟩
          · exact h.elim
        · exact h.elim
end
end Go.Eng
namespace Go.Eng
open Go.RowKit
set_option linter.unusedVariables false
set_option linter.unusedSimpArgs false
/-- code from a state: each way out with its states -/
def AW (P : Program) (r : Option Nat) (B : Imm → World → Prop) (p : Nat) (c : Code) (Q : Exit → Env → Hp → Prop) (env : Env) (H : Hp) : Prop :=
  ∀ (S0 : Imm) (w0 : World) (ι0 : Ix) (H0 : Hp) (a : Act) (w : World), At B p S0 w0 ι0 H0 env H a w →
    c.wpIn (Fw r) 0 P (fun e a' w' => ∃ env' H', Q e env' H' ∧ At B p S0 w0 ι0 H0 env' H' a' w') a w
section
variable {P : Program} {r : Option Nat} {τ : TypeId → Option TE} {B : Imm → World → Prop} {p : Nat}
theorem At.drawn {S0 : Imm} {w0 : World} {ι0 : Ix} {H0 H : Hp} {env : Env} {a : Act} {w : World} (h : At B p S0 w0 ι0 H0 env H a w) (hB : BOK B) : At B p S0 w0 ι0 H0 env H a { w with drawn := w.drawn + 1 } := by
  obtain ⟨S, ι, hb, M, R, D, D', T⟩ := h.ex
  have hk : Keeps S w S { w with drawn := w.drawn + 1 } := ⟨fun b j h => ⟨h, rfl⟩, fun b j h => h⟩
  have hbel : Bel w { w with drawn := w.drawn + 1 } := ⟨rfl, rfl, rfl, Nat.le_refl _, fun _ _ => rfl, fun _ _ => rfl⟩
  refine ⟨S, ι, hB _ _ _ _ hk hbel hb, ⟨fun k o ho => (M.obj k o ho).mono hk (.refl _) hbel (fun _ _ => rfl) (fun _ => rfl) rfl (fun _ _ _ h => h), M.liveO, M.liveT, M.dist, M.imm⟩, R.mono hk (.refl _), ⟨D.all, D.nodup⟩, D',
    T.trans ⟨hbel, fun _ _ _ => rfl, hk, fun _ _ _ h => .inl h, fun _ h => .inl h, fun _ _ _ h => h, fun _ _ b n h => ⟨b, n, h, .inl ⟨rfl, Nat.le_refl _⟩⟩⟩⟩
theorem AW.eqE {c : Code} {Q : Exit → Env → Hp → Prop} {env env1 : Env} {H : Hp} (h : EqE env env1) (ha : AW P r B p c Q env1 H) : AW P r B p c Q env H := by
  intro S0 w0 ι0 H0 a w hA
  obtain ⟨S, ι, hb, M, R, D, D', T⟩ := hA.ex
  exact ha S0 w0 ι0 H0 a w ⟨S, ι, hb, M, h.rep R, D, D', T⟩
theorem AW.mono {c : Code} {Q Q' : Exit → Env → Hp → Prop} {env : Env} {H : Hp} (h : AW P r B p c Q env H) (hq : ∀ e env H, Q e env H → Q' e env H) : AW P r B p c Q' env H := by
  intro S0 w0 ι0 H0 a w hA
  refine wpIn_mono (h S0 w0 ι0 H0 a w hA) ?_
  rintro e a w ⟨env', H', q, hA⟩
  exact ⟨env', H', hq _ _ _ q, hA⟩
/-- states that the walk may pass to without a step -/
def AK (P : Program) (B : Imm → World → Prop) (p : Nat) (Q : Env → Hp → Prop) (env : Env) (H : Hp) : Prop :=
  ∀ (S0 : Imm) (w0 : World) (ι0 : Ix) (H0 : Hp) (a : Act) (w : World), At B p S0 w0 ι0 H0 env H a w → ∃ env' H', Q env' H' ∧ At B p S0 w0 ι0 H0 env' H' a w
theorem AK.of {Q : Env → Hp → Prop} {env : Env} {H : Hp} (h : Q env H) : AK P B p Q env H := fun S0 w0 ι0 H0 a w hA => ⟨env, H, h, hA⟩
theorem AK.eqE {Q : Env → Hp → Prop} {env env1 : Env} {H : Hp} (h : EqE env env1) (ha : AK P B p Q env1 H) : AK P B p Q env H := by
  intro S0 w0 ι0 H0 a w hA
  obtain ⟨S, ι, hb, M, R, D, D', T⟩ := hA.ex
  exact ha S0 w0 ι0 H0 a w ⟨S, ι, hb, M, h.rep R, D, D', T⟩
theorem aw_region_text (hB : BOK B) (hτ : TabOK P τ) {md rf CP YP} (hC : CPOKB P B CP) (hY : YPOK P r B YP) {id : Nat} {ops : Array Oper} {K : Env → Hp → Nat → List Lg → Prop} {Q : Exit → Env → Hp → Prop} {n : Nat} {env : Env} {H : Hp}
    (hK : ∀ env H n log, K env H n log → Q .normal env H) (h : regK τ md rf CP YP ops.toList ops.toList 0 n env H [] K) : AW P r B p (.region id ops false) Q env H := by
  intro S0 w0 ι0 H0 a w hA
  obtain ⟨es, hc⟩ := regK_sound (K' := fun _ env H => AK P B p (Q .normal) env H) hτ hC hY (fun env H n log h => AK.of (hK _ _ _ _ h)) (fun log env env1 H he h => AK.eqE he h) ops.toList 0 n env H [] rfl h
  refine wpIn_region ?_
  rw [List.range_eq_range', ← Array.length_toList]
  exact chain_text hB (fun env H a w hk hA => by obtain ⟨env', H', q, hA'⟩ := hk S0 w0 ι0 H0 a w hA; exact ⟨env', H', q, hA'⟩) _ _ _ a w hc hA
theorem aw_region_any (hB : BOK B) (hm : P.follows .mixedOrders = true) (hτ : TabOK P τ) {md rf CP YP} (hC : CPOKB P B CP) (hY : YPOK P r B YP) {id : Nat} {ops : Array Oper} {K : Env → Hp → Nat → List Lg → Prop} {Q : Exit → Env → Hp → Prop} {n : Nat} {env : Env} {H : Hp}
    (hok : regOK ops = true) (hK : ∀ env H n log, K env H n log → Q .normal env H) (h : regK τ md rf CP YP ops.toList ops.toList 0 n env H [] fun env H n log => ifK (dynAll (masks ops.toList []) log) (K env H n log)) : AW P r B p (.region id ops true) Q env H := by
  intro S0 w0 ι0 H0 a w hA
  obtain ⟨es, hc⟩ := regK_sound (K' := fun log env H => dynAll (masks ops.toList []) log = true ∧ AK P B p (Q .normal) env H) hτ hC hY (fun env H n log h => by rw [ifK_iff] at h; exact ⟨h.1, AK.of (hK _ _ _ _ h.2)⟩) (fun log env env1 H he h => ⟨h.1, AK.eqE he h.2⟩) ops.toList 0 n env H [] rfl h
  have hd := Chain.fact (fun _ _ h => h.1) _ hc
  have hc' := Chain.imp (K' := AK P B p (Q .normal)) (fun _ _ h => h.2) _ hc
  rw [← List.range_eq_range', Array.length_toList] at hd hc'
  refine wpIn_region_any hm ?_
  refine chain_any hB (K := AK P B p (Q .normal)) (fun env H a w hk hA => by obtain ⟨env', H', q, hA'⟩ := hk S0 w0 ι0 H0 a w hA; exact ⟨env', H', q, hA'⟩) (fun j o e ho he hb => regOK_back hok j o e ho he hb)
    (fun i j op oj hij hi hj hb => ⟨regOK_apart hok hij hi hj hb, dyn_sound hd hij ((Array.getElem?_eq_some_iff.1 hj).1) hb⟩) _ _ (List.range ops.size) env H a _ ?_ ?_ (by simp) ?_ (by simp) hc' (hA.drawn hB)
  · exact List.pairwise_lt_range
  · intro i
    rw [List.mem_range, Array.getD_eq_getD_getElem?, Array.getElem?_replicate]
    by_cases e : i < ops.size
    · simp [e]
    · simp [e]
  · intro i j _ hj
    rw [Array.getD_eq_getD_getElem?, Array.getElem?_replicate] at hj
    by_cases e : j < ops.size
    · simp [e] at hj
    · simp [e] at hj
theorem aw_seq {x y : Code} {Q : Exit → Env → Hp → Prop} {env : Env} {H : Hp} (h : AW P r B p x (fun e env H => match e with | .normal => AW P r B p y Q env H | e => Q e env H) env H) : AW P r B p (.seq x y) Q env H := by
  intro S0 w0 ι0 H0 a w hA
  refine wpIn_seq (wpIn_mono (h S0 w0 ι0 H0 a w hA) ?_)
  rintro e a w ⟨env', H', q, hA⟩
  cases e with
  | normal => exact q S0 w0 ι0 H0 a w hA
  | _ => exact ⟨env', H', q, hA⟩
theorem aw_cond {c : Operand} {x y : Code} {t : Bool} {Q : Exit → Env → Hp → Prop} {env : Env} {H : Hp} (hc : eo env c = .bool t ∨ eo env c = .bp t) (h : AW P r B p (if t then x else y) Q env H) : AW P r B p (.cond c x y) Q env H := by
  intro S0 w0 ι0 H0 a w hA
  obtain ⟨S, ι, hb, M, R, D, D', T⟩ := hA.ex
  refine wpIn_cond (t := t) ?_ (h S0 w0 ι0 H0 a w hA)
  have := eo_rep0 R c (fun g e => by subst e; simp only [eo] at hc; cases hg : globT g <;> rw [hg] at hc <;> rcases hc with hc | hc <;> cases hc)
  rcases hc with hc | hc <;> rw [hc] at this <;> generalize a.eval c = v at this <;> cases this <;> rfl
theorem aw_block {id : Nat} {c : Code} {Q : Exit → Env → Hp → Prop} {env : Env} {H : Hp} (h : AW P r B p c (fun e env H => match e with | .exit i => (match Nat.beq i id with | true => Q .normal env H | false => Q (.exit i) env H) | e => Q e env H) env H) : AW P r B p (.block id c) Q env H := by
  intro S0 w0 ι0 H0 a w hA
  refine wpIn_block (wpIn_mono (h S0 w0 ι0 H0 a w hA) ?_)
  rintro e a w ⟨env', H', q, hA⟩
  cases e with
  | exit i =>
    simp only [Exit.inBlock] at q ⊢
    cases hb : Nat.beq i id with
    | true => rw [hb] at q; rw [if_pos (Nat.eq_of_beq_eq_true hb)]; exact ⟨env', H', q, hA⟩
    | false => rw [hb] at q; rw [if_neg (Nat.ne_of_beq_eq_false hb)]; exact ⟨env', H', q, hA⟩
  | _ => exact ⟨env', H', q, hA⟩
theorem stepR_scope {P : Program} {b : Frame} {a : Act} {k : List Item} {cs : List Frame} {w : World} {c : Code} : step P (lone (b.atR a (.code (.scope c) :: k)) cs w) = .next (lone (b.atR a (.code c :: .inScope c :: k)) cs w) :=
  step_lone_go (by simp [stepG, stepG.exec, Frame.atR])
theorem stepR_inScope {P : Program} {b : Frame} {a : Act} {k : List Item} {cs : List Frame} {w : World} {c : Code} : step P (lone (b.atR a (.inScope c :: k)) cs w) = .next (lone (b.atR a k) cs w) :=
  step_lone_go (by simp [stepG, stepG.exec, Frame.atR])
theorem wpIn_scope {F : Fence} {n : Nat} {P : Program} {c : Code} {Q : Exit → Act → World → Prop} {a : Act} {w : World} (h : c.wpIn F n P (fun e a w => (∀ l, e ≠ .goto l) ∧ Q e a w) a w) : (Code.scope c).wpIn F n P Q a w := by
  intro b k cs hro hb hr
  have h0 : (lone (b.atR a (.code (.scope c) :: k)) cs w).fenced P F := fenced_calm hb hr rfl
  obtain ⟨e, a₁, w₁, hq, harr⟩ := h b (.inScope c :: k) cs hro hb hr
  cases e with
  | normal => exact ⟨.normal, a₁, w₁, hq.2, .head h0 stepR_scope (StepsIn.trans harr (.one (fenced_calm hb hr rfl) stepR_inScope))⟩
  | exit id' =>
    have hx : exitTo id' (.inScope c :: k) = exitTo id' k := by simp [exitTo]
    exact ⟨.exit id', a₁, w₁, hq.2, fun k' hk => .head h0 stepR_scope (harr.1 k' (by rw [hx]; exact hk)),
      fun hr' hk => let ⟨k₁, h1, h2⟩ := harr.2 hr' (by rw [hx]; exact hk); ⟨k₁, h1, .head h0 stepR_scope h2⟩⟩
  | goto l => exact (hq.1 l rfl).elim
  | ret => exact ⟨_, a₁, w₁, hq.2, .of_steps (.one h0 stepR_scope) harr⟩
  | panic ch => exact ⟨_, a₁, w₁, hq.2, .of_steps (.one h0 stepR_scope) harr⟩
  | outgrown => exact ⟨_, a₁, w₁, hq.2, .of_steps (.one h0 stepR_scope) harr⟩
theorem aw_scope {c : Code} {Q : Exit → Env → Hp → Prop} {env : Env} {H : Hp} (h : AW P r B p c (fun e env H => match e with | .goto _ => False | e => Q e env H) env H) : AW P r B p (.scope c) Q env H := by
  intro S0 w0 ι0 H0 a w hA
  refine wpIn_scope (wpIn_mono (h S0 w0 ι0 H0 a w hA) ?_)
  rintro e a w ⟨env', H', q, hA⟩
  cases e with
  | goto l => exact q.elim
  | _ => exact ⟨fun l e => (by cases e), env', H', q, hA⟩
theorem aw_label {l : Nat} {Q : Exit → Env → Hp → Prop} {env : Env} {H : Hp} (h : Q .normal env H) : AW P r B p (.label l) Q env H := fun S0 w0 ι0 H0 a w hA => wpIn_label ⟨env, H, h, hA⟩
theorem aw_skip {Q : Exit → Env → Hp → Prop} {env : Env} {H : Hp} (h : Q .normal env H) : AW P r B p .skip Q env H := fun S0 w0 ι0 H0 a w hA => wpIn_skip ⟨env, H, h, hA⟩
theorem aw_exit {id : Nat} {Q : Exit → Env → Hp → Prop} {env : Env} {H : Hp} (h : Q (.exit id) env H) : AW P r B p (.exit id) Q env H := fun S0 w0 ι0 H0 a w hA => wpIn_exit ⟨env, H, h, hA⟩
theorem aw_ret {Q : Exit → Env → Hp → Prop} {env : Env} {H : Hp} (h : Q .ret env H) : AW P r B p .ret Q env H := fun S0 w0 ι0 H0 a w hA => wpIn_ret ⟨env, H, h, hA⟩
/-- one state may be taken for another -/
def Sub (B : Imm → World → Prop) (p : Nat) (env : Env) (H : Hp) (env1 : Env) (H1 : Hp) : Prop :=
  ∀ (S0 : Imm) (w0 : World) (ι0 : Ix) (H0 : Hp) (a : Act) (w : World), At B p S0 w0 ι0 H0 env H a w → At B p S0 w0 ι0 H0 env1 H1 a w
theorem roundsIn_mono {F : Fence} {n : Nat} {c : Code} {Q : Exit → Act → World → Prop} : ∀ (m m' : Nat), m ≤ m' → ∀ (a : Act) (w : World), Code.roundsIn F n P c Q m a w → Code.roundsIn F n P c Q m' a w := by
  intro m
  induction m with
  | zero => intro m' _ a w h; exact h.elim
  | succ m ih =>
    intro m' hm a w h
    obtain ⟨k, rfl⟩ : ∃ k, m' = k + 1 := ⟨m' - 1, by omega⟩
    rw [roundsIn_succ] at h ⊢
    refine wpIn_mono h fun e a w he => ?_
    cases e with
    | normal => exact ih k (by omega) a w he
    | _ => exact he
/-- a loop -/
theorem aw_loop {X : Type} (st : X → Env × Hp) (μ : X → Nat) {c : Code} {Q : Exit → Env → Hp → Prop} {env : Env} {H : Hp} (x0 : X) (h0 : Sub B p env H (st x0).1 (st x0).2)
    (hb : ∀ x, AW P r B p c (fun e env H => match e with | .normal => ∃ x', μ x' < μ x ∧ Sub B p env H (st x').1 (st x').2 | e => Q e env H) (st x).1 (st x).2) : AW P r B p (.loop c) Q env H := by
  intro S0 w0 ι0 H0 a w hA
  have key : ∀ m x, μ x = m → ∀ a w, At B p S0 w0 ι0 H0 (st x).1 (st x).2 a w → Code.roundsIn (Fw r) 0 P c (fun e a' w' => ∃ env' H', Q e env' H' ∧ At B p S0 w0 ι0 H0 env' H' a' w') (m + 1) a w := by
    intro m
    induction m using Nat.strongRecOn with
    | _ m ih =>
      intro x hx a w hA
      rw [roundsIn_succ]
      refine wpIn_mono (hb x S0 w0 ι0 H0 a w hA) ?_
      rintro e a' w' ⟨env', H', q, hA'⟩
      cases e with
      | normal =>
        obtain ⟨x', hlt, hs⟩ := q
        exact roundsIn_mono (μ x' + 1) m (by omega) _ _ (ih (μ x') (by omega) x' rfl a' w' (hs _ _ _ _ _ _ hA'))
      | _ => exact ⟨env', H', q, hA'⟩
  exact wpIn_loop_rounds _ (key _ x0 rfl a w (h0 _ _ _ _ _ _ hA))
end
/-! the walk reckoned -/
def forceNL (l : List Nat) (K : List Nat → Prop) : Prop :=
  match l with
  | [] => K []
  | x :: xs => forceNL xs fun ys => K (x :: ys)
theorem forceNL_eq (l : List Nat) : ∀ K, forceNL l K = K l := by
  induction l with
  | nil => intro K; rfl
  | cons x xs ih => intro K; simp only [forceNL, ih]
def masksK : List Oper → List Nat → (List Nat → Prop) → Prop
  | [], acc, K => K acc
  | o :: r, acc, K => natK (maskE acc o.after.toList) fun m => forceNL (acc ++ [m]) fun acc => masksK r acc K
theorem masksK_eq (l : List Oper) : ∀ acc K, masksK l acc K = K (masks l acc) := by
  induction l with
  | nil => intro acc K; rfl
  | cons o r ih => intro acc K; simp only [masksK, masks, natK_eq, forceNL_eq, ih]
/-- here the walk stands before a loop -/
structure Lp (md : Nat) (rf : List Nat) (CP : CPT) (YP : YPT) (n : Nat) (q : Prop) : Prop where
  get : q
def codeN : Code → Nat
  | .region _ ops _ => idsN ops.toList
  | .seq a b => codeN a + codeN b
  | .cond _ a b => codeN a + codeN b
  | .block _ c => codeN c
  | .loop c => codeN c
  | .rangeFunc _ _ a b => codeN a + codeN b
  | .scope c => codeN c
  | _ => 0
def codeOK : Code → Bool
  | .region _ ops d => match d with | true => regOK ops | false => true
  | .seq a b => codeOK a && codeOK b
  | .cond _ a b => codeOK a && codeOK b
  | .block _ c => codeOK c
  | .loop c => codeOK c
  | .rangeFunc _ _ a b => codeOK a && codeOK b
  | .scope c => codeOK c
  | _ => true
/-- a branch -/
def condK (x : PV) (c : Operand) (env : Env) (A B : Env → Prop) : Prop :=
  match x with
  | .bool t => match t with
    | true => A env
    | false => B env
  | .bp t => (t = true → match c with | .tmp d => setK env d (.bool true) A | _ => A env) ∧
      (t = false → match c with | .tmp d => setK env d (.bool false) B | _ => B env)
  | _ => False
section
variable (P : Program) (r : Option Nat) (B : Imm → World → Prop) (p : Nat) (τ : TypeId → Option TE) (md : Nat) (rf : List Nat) (CP : CPT) (YP : YPT)
noncomputable def ev (c : Code) : Nat → Env → Hp → (Exit → Env → Hp → Nat → Prop) → Prop :=
  Code.rec (motive := fun _ => Nat → Env → Hp → (Exit → Env → Hp → Nat → Prop) → Prop)
    (fun n env H K => K .normal env H n)
    (fun id ops d n env H K => match d with
      | true => masksK ops.toList [] fun ms => regK τ md rf CP YP ops.toList ops.toList 0 n env H [] fun env H n log => ifK (dynAll ms log) (K .normal env H n)
      | false => regK τ md rf CP YP ops.toList ops.toList 0 n env H [] fun env H n log => K .normal env H n)
    (fun a b iha ihb n env H K => iha n env H fun e env H n => match e with | .normal => ihb n env H K | e => K e env H n)
    (fun c a b iha ihb n env H K => condK (eo env c) c env (fun env => iha n env H K) (fun env => ihb n env H K))
    (fun id c ih n env H K => ih n env H fun e env H n => match e with
      | .exit i => (match Nat.beq i id with | true => K .normal env H n | false => K (.exit i) env H n)
      | e => K e env H n)
    (fun c _ n env H K => natK (n + codeN c) fun n' => Lp md rf CP YP n (AW P r B p (.loop c) (fun e env H => K e env H n') env H))
    (fun g ps x y _ _ n env H K => natK (n + codeN x + codeN y + 4) fun n' => Lp md rf CP YP n (AW P r B p (.rangeFunc g ps x y) (fun e env H => K e env H n') env H))
    (fun id n env H K => K (.exit id) env H n)
    (fun _ ih n env H K => ih n env H fun e env H n => match e with | .goto _ => False | e => K e env H n)
    (fun _ n env H K => K .normal env H n)
    (fun _ _ _ _ _ => False)
    (fun n env H K => K .ret env H n)
    (fun _ _ _ _ _ => False) c
end
theorem ev_sound {P : Program} {r : Option Nat} {τ : TypeId → Option TE} {B : Imm → World → Prop} {p : Nat} (hB : BOK B) (hm : P.follows .mixedOrders = true) (hτ : TabOK P τ) {md rf CP YP} (hC : CPOKB P B CP) (hY : YPOK P r B YP) :
    ∀ (c : Code) (hok : codeOK c = true) (n : Nat) (env : Env) (H : Hp) (K : Exit → Env → Hp → Nat → Prop), ev P r B p τ md rf CP YP c n env H K → AW P r B p c (fun e env H => ∃ n, K e env H n) env H := by
  intro c
  induction c with
  | skip => intro _ n env H K h; exact aw_skip ⟨n, h⟩
  | exit id => intro _ n env H K h; exact aw_exit ⟨n, h⟩
  | ret => intro _ n env H K h; exact aw_ret ⟨n, h⟩
  | region id ops d =>
    intro hok n env H K h
    cases d with
    | true =>
      have h : masksK ops.toList [] fun ms => regK τ md rf CP YP ops.toList ops.toList 0 n env H [] fun env H n log => ifK (dynAll ms log) (K .normal env H n) := h
      rw [masksK_eq] at h
      exact aw_region_any hB hm hτ hC hY hok (K := fun env H n log => K .normal env H n) (fun env H n log h => ⟨n, h⟩) h
    | false => exact aw_region_text hB hτ hC hY (K := fun env H n log => K .normal env H n) (fun env H n log h => ⟨n, h⟩) h
  | seq a b iha ihb =>
    intro hok n env H K h
    simp only [codeOK, Bool.and_eq_true] at hok
    refine aw_seq ((iha hok.1 n env H _ h).mono ?_)
    rintro e env H ⟨n, h⟩
    cases e with
    | normal => exact ihb hok.2 n env H K h
    | _ => exact ⟨n, h⟩
  | cond c a b iha ihb =>
    intro hok n env H K h
    simp only [codeOK, Bool.and_eq_true] at hok
    have h : condK (eo env c) c env (fun env => ev P r B p τ md rf CP YP a n env H K) (fun env => ev P r B p τ md rf CP YP b n env H K) := h
    unfold condK at h
    split at h
    · rename_i t hc
      split at h
      · exact aw_cond (t := true) (.inl hc) (iha hok.1 n env H K h)
      · exact aw_cond (t := false) (.inl hc) (ihb hok.2 n env H K h)
    · rename_i t hc
      cases t with
      | true =>
        have h1 := h.1 rfl
        refine aw_cond (t := true) (.inr hc) ?_
        simp only [if_true]
        split at h1
        · rename_i d
          rw [setK_eq] at h1
          exact (iha hok.1 n _ H K h1).eqE (EqE.bool hc)
        · exact iha hok.1 n _ H K h1
      | false =>
        have h1 := h.2 rfl
        refine aw_cond (t := false) (.inr hc) ?_
        simp only [Bool.false_eq_true, if_false]
        split at h1
        · rename_i d
          rw [setK_eq] at h1
          exact (ihb hok.2 n _ H K h1).eqE (EqE.bool hc)
        · exact ihb hok.2 n _ H K h1
    · exact h.elim
  | block id c ih =>
    intro hok n env H K h
    refine aw_block ((ih hok n env H _ h).mono ?_)
    rintro e env H ⟨n, h⟩
    cases e with
    | exit i =>
      simp only at h ⊢
      cases hb : Nat.beq i id <;> rw [hb] at h <;> exact ⟨n, h⟩
    | _ => exact ⟨n, h⟩
  | loop c ih =>
    intro hok n env H K h
    have h : natK (n + codeN c) fun n' => Lp md rf CP YP n (AW P r B p (.loop c) (fun e env H => K e env H n') env H) := h
    rw [natK_eq] at h
    exact h.get.mono fun e env H h => ⟨_, h⟩
  | rangeFunc g ps x y _ _ =>
    intro hok n env H K h
    have h : natK (n + codeN x + codeN y + 4) fun n' => Lp md rf CP YP n (AW P r B p (.rangeFunc g ps x y) (fun e env H => K e env H n') env H) := h
    rw [natK_eq] at h
    exact h.get.mono fun e env H h => ⟨_, h⟩
  | scope c ih =>
    intro hok n env H K h
    refine aw_scope ((ih hok n env H _ h).mono ?_)
    rintro e env H ⟨n, h⟩
    cases e with
    | goto l => exact h.elim
    | _ => exact ⟨n, h⟩
  | label l => intro _ n env H K h; exact aw_label ⟨n, h⟩
  | _ => intro _ n env H K h; exact h.elim
end Go.Eng
namespace Go.Eng
open Go.RowKit
set_option linter.unusedVariables false
set_option linter.unusedSimpArgs false
/-- a value that holds no address of an object of the call's own -/
def pureE : PV → Option PV
  | .agg cs => match inlEs cs with | some ds => some (.agg ds) | none => none
  | .any => some .any
  | p => inlE p
def pureEs : List PV → Option (List PV)
  | [] => some []
  | x :: xs => match pureE x with
    | some y => match pureEs xs with
      | some ys => some (y :: ys)
      | none => none
    | none => none
theorem pureE_sound {p q : PV} (h : pureE p = some q) {S : Imm} {w : World} {ι : Ix} {v : Value} (hr : Rep S w ι p v) : Rep S w noI q v := by
  unfold pureE at h
  split at h
  · rename_i cs
    split at h
    · rename_i ds hds
      cases h
      obtain ⟨h1, h2⟩ := inlEs_sound hds
      cases hr with
      | agg _ _ vs hl hh => exact .agg _ _ _ (h1.trans hl) (fun i hi => h2 i (by omega) (hh i (by omega)))
    · cases h
  · cases h; exact .any _ _
  · exact inlE_sound h hr
theorem pureEs_sound : ∀ {ps qs : List PV}, pureEs ps = some qs → qs.length = ps.length ∧ ∀ i, i < ps.length → ∀ {S : Imm} {w : World} {ι : Ix} {v : Value}, Rep S w ι (getL ps i) v → Rep S w noI (getL qs i) v := by
  intro ps
  induction ps with
  | nil => intro qs h; simp [pureEs] at h; subst h; exact ⟨rfl, fun i hi => by simp at hi⟩
  | cons p ps ih =>
    intro qs h
    unfold pureEs at h
    split at h
    · rename_i y hy
      split at h
      · rename_i ys hys
        cases h
        obtain ⟨h1, h2⟩ := ih hys
        refine ⟨by simp [h1], fun i hi => ?_⟩
        cases i with
        | zero => intro S w ι v hr; exact pureE_sound hy hr
        | succ i => exact h2 i (by simpa using hi)
      · cases h
    · cases h
/-- slices of objects of the call's own are written no more -/
def frzK (v : PV) (H : Hp) (K : PV → Hp → Prop) : Prop :=
  match v with
  | .rsl k off n => getHK H k fun o => match o with
    | .cells c fz => typedK c fun d => eszK d fun ce => cntK d fun cn => match Nat.beq off 0 with
      | true => n ≤ cn ∧ (match fz with
        | true => K (.isl (d.sub 0 n) .none) H
        | false => putHK H k (.cells d true) fun H => K (.isl (d.sub 0 n) .none) H)
      | false => False
    | _ => False
  | v => match pureE v with
    | some v => forceK v fun v => K v H
    | none => False
def frzsK : List PV → Hp → (List PV → Hp → Prop) → Prop
  | [], H, K => K [] H
  | v :: vs, H, K => frzK v H fun u H => frzsK vs H fun us H => K (u :: us) H
def frzaK (v : PV) (H : Hp) (K : PV → Hp → Prop) : Prop :=
  match v with
  | .agg vs => frzsK vs H fun us H => K (.agg us) H
  | v => frzK v H K
def frzasK : List PV → Hp → (List PV → Hp → Prop) → Prop
  | [], H, K => K [] H
  | v :: vs, H, K => frzaK v H fun u H => frzasK vs H fun us H => K (u :: us) H
section
variable {P : Program} {τ : TypeId → Option TE} {B : Imm → World → Prop} {p : Nat}
def Frz (P : Program) (H H' : Hp) (R R' : Imm → World → Ix → Prop) : Prop :=
  ∀ {S : Imm} {w : World} {ι : Ix}, Mem S w ι H → R S w ι → ∃ S', Mem S' w ι H' ∧ Keeps S w S' w ∧ (∀ p, Tr p S w ι H S' w ι H') ∧ R' S' w ι
theorem frzK_sound {v : PV} {H : Hp} {K : PV → Hp → Prop} (h : frzK v H K) : ∃ u H', K u H' ∧ ∀ val, Frz P H H' (fun S w ι => Rep S w ι v val) (fun S w ι => Rep S w noI u val) := by
  unfold frzK at h
  split at h
  · rename_i k off n
    rw [getHK_iff] at h
    obtain ⟨ob, hob, h⟩ := h
    split at h
    · rename_i c fz
      have h' := typedK_sound h
      clear h
      obtain ⟨d, h, d1, d2, d3⟩ := h'
      simp only [eszK_eq, cntK_eq] at h
      split at h
      · rename_i hoff
        have hoff := Nat.eq_of_beq_eq_true hoff
        subst hoff
        obtain ⟨hn, h⟩ := h
        have fin : ∀ {S : Imm} {w : World} {ι : Ix} {c : CL} {val : Value}, n ≤ c.cnt → (∀ b, ι.o k = some b → ∀ j, j < c.ncell → S b j ∧ Rep S w noI (c.get j) (rdv w b j)) → Rep S w ι (.rsl k 0 n) val → Rep S w noI (.isl (c.sub 0 n) .none) val := by
          intro S w ι c val hn hs hr
          cases hr with
          | rsl _ _ _ _ b cap hk hc _ =>
            have := sub_rep (S := S) (w := w) (c := c) (b := b) (off := 0) (fun j hj => by rw [Nat.zero_add]; exact (hs b hk j hj).1) (fun j hj => by rw [Nat.zero_add]; exact (hs b hk j hj).2) (x := 0) (y := n) (by omega) hn (cap := cap) (by omega) noI
            simpa using this
          | rslz _ _ _ b o hk =>
            exact empty_rep _ (by rw [sub_cnt _ (by omega)]) (.inr ⟨b, o, rfl⟩) noI
        split at h
        · refine ⟨_, _, h, fun val S w ι M hr => ⟨S, M, .refl _ _, fun p => .refl _ _ _ _ _, ?_⟩⟩
          exact fin hn (fun b hb j hj => ⟨(M.frozen hob hb j (by omega)).1, d3 j (by omega) (M.frozen hob hb j (by omega)).2⟩) hr
        · rw [putHK_eq] at h
          refine ⟨_, _, h, fun val S w ι M hr => ?_⟩
          obtain ⟨S', M', K', T, F⟩ := M.freeze (c' := d) hob d2 (fun j hj => by intro S w ι v hr; exact d3 j hj hr)
          exact ⟨S', M', K', T, fin hn (fun b hb => F b hb) (hr.mono K' _ (.refl _))⟩
      · exact h.elim
    · exact h.elim
  · split at h
    · rename_i u hu
      rw [forceK_eq] at h
      exact ⟨u, H, h, fun val S w ι M hr => ⟨S, M, .refl _ _, fun p => .refl _ _ _ _ _, pureE_sound hu hr⟩⟩
    · exact h.elim
theorem frzsK_sound : ∀ (vs : List PV) {H : Hp} {K : List PV → Hp → Prop}, frzsK vs H K → ∃ us H', K us H' ∧ us.length = vs.length ∧
    ∀ (val : Nat → Value), Frz P H H' (fun S w ι => ∀ i, i < vs.length → Rep S w ι (getL vs i) (val i)) (fun S w ι => ∀ i, i < us.length → Rep S w noI (getL us i) (val i)) := by
  intro vs
  induction vs with
  | nil => intro H K h; exact ⟨_, _, h, rfl, fun val S w ι M hr => ⟨S, M, .refl _ _, fun p => .refl _ _ _ _ _, fun i hi => by simp at hi⟩⟩
  | cons v vs ih =>
    intro H K h
    obtain ⟨u, H1, h, h1⟩ := frzK_sound (P := P) h
    obtain ⟨us, H2, h, hl, h2⟩ := ih h
    refine ⟨_, _, h, by simp [hl], fun val S w ι M hr => ?_⟩
    obtain ⟨S1, M1, K1, T1, R1⟩ := h1 (val 0) M (hr 0 (by simp))
    obtain ⟨S2, M2, K2, T2, R2⟩ := h2 (fun i => val (i + 1)) M1 (fun i hi => by have := (hr (i + 1) (by simpa using hi)).mono K1 _ (.refl _); simpa [getL] using this)
    refine ⟨S2, M2, K1.trans K2, fun p => (T1 p).trans (T2 p), fun i hi => ?_⟩
    cases i with
    | zero => exact R1.mono K2 _ (.refl _)
    | succ i => simpa [getL] using R2 i (by simpa using hi)
theorem frzaK_sound {v : PV} {H : Hp} {K : PV → Hp → Prop} (h : frzaK v H K) : ∃ u H', K u H' ∧ ∀ val, Frz P H H' (fun S w ι => Rep S w ι v val) (fun S w ι => Rep S w noI u val) := by
  unfold frzaK at h
  split at h
  · rename_i vs
    obtain ⟨us, H', h, hl, hs⟩ := frzsK_sound (P := P) _ h
    refine ⟨_, _, h, fun val S w ι M hr => ?_⟩
    cases hr with
    | agg _ _ ws hw hh =>
      obtain ⟨S', M', K', T', R'⟩ := hs (fun i => ws.getD i undef) M hh
      exact ⟨S', M', K', T', .agg _ _ _ (hl.trans hw) R'⟩
  · exact frzK_sound h
theorem frzasK_sound : ∀ (vs : List PV) {H : Hp} {K : List PV → Hp → Prop}, frzasK vs H K → ∃ us H', K us H' ∧ us.length = vs.length ∧
    ∀ (val : Nat → Value), Frz P H H' (fun S w ι => ∀ i, i < vs.length → Rep S w ι (getL vs i) (val i)) (fun S w ι => ∀ i, i < us.length → Rep S w noI (getL us i) (val i)) := by
  intro vs
  induction vs with
  | nil => intro H K h; exact ⟨_, _, h, rfl, fun val S w ι M hr => ⟨S, M, .refl _ _, fun p => .refl _ _ _ _ _, fun i hi => by simp at hi⟩⟩
  | cons v vs ih =>
    intro H K h
    obtain ⟨u, H1, h, h1⟩ := frzaK_sound (P := P) h
    obtain ⟨us, H2, h, hl, h2⟩ := ih h
    refine ⟨_, _, h, by simp [hl], fun val S w ι M hr => ?_⟩
    obtain ⟨S1, M1, K1, T1, R1⟩ := h1 (val 0) M (hr 0 (by simp))
    obtain ⟨S2, M2, K2, T2, R2⟩ := h2 (fun i => val (i + 1)) M1 (fun i hi => by have := (hr (i + 1) (by simpa using hi)).mono K1 _ (.refl _); simpa [getL] using this)
    refine ⟨S2, M2, K1.trans K2, fun p => (T1 p).trans (T2 p), fun i hi => ?_⟩
    cases i with
    | zero => exact R1.mono K2 _ (.refl _)
    | succ i => simpa [getL] using R2 i (by simpa using hi)
end
/-! results -/
def resK (τ : TypeId → Option TE) : List ResultVar → Env → Hp → (List PV → Prop) → Prop
  | [], env, H, K => K []
  | r :: rs, env, H, K => match r with
    | .tmp t => forceK (getL env t) fun v => resK τ rs env H fun vs => K (v :: vs)
    | .cell a ty => teK τ ty fun te => match getL env a with
      | .rp k off => getHK H k fun o => match o with
        | .cells c _ => rdK te c off fun v => resK τ rs env H fun vs => K (v :: vs)
        | _ => False
      | .ip c off => rdK te c off fun v => resK τ rs env H fun vs => K (v :: vs)
      | _ => False
def resOf (vs : List PV) : PV := match vs with | [v] => v | vs => .tup vs
section
variable {P : Program} {τ : TypeId → Option TE}
theorem resK_sound (hτ : TabOK P τ) {env : Env} {H : Hp} : ∀ (rs : List ResultVar) {K : List PV → Prop}, resK τ rs env H K → ∃ vs, K vs ∧ ∀ {S : Imm} {w : World} {ι : Ix} {tmps : Array Value}, Mem S w ι H → RepA S w ι env tmps →
    ∃ vals : List Value, (rs.mapM fun (x : ResultVar) => (match x with | .tmp t => pure (tmps.getD t undef) | .cell a t => do loadVar t (← asAddr (tmps.getD a undef)) : Sem Value)).run P w = .ok vals w ∧ vals.length = vs.length ∧
      ∀ i, i < vs.length → Rep S w ι (getL vs i) (vals.getD i undef) := by
  intro rs
  induction rs with
  | nil => intro K h; exact ⟨_, h, fun M R => ⟨[], rfl, rfl, fun i hi => by simp at hi⟩⟩
  | cons x rs ih =>
    intro K h
    have cons : ∀ {v : PV} {K : List PV → Prop}, (resK τ rs env H fun vs => K (v :: vs)) →
        (∀ {S : Imm} {w : World} {ι : Ix} {tmps : Array Value}, Mem S w ι H → RepA S w ι env tmps → ∃ val, ((match x with | .tmp t => pure (tmps.getD t undef) | .cell a t => do loadVar t (← asAddr (tmps.getD a undef)) : Sem Value)).run P w = .ok val w ∧ Rep S w ι v val) →
        ∃ vs, K vs ∧ ∀ {S : Imm} {w : World} {ι : Ix} {tmps : Array Value}, Mem S w ι H → RepA S w ι env tmps →
          ∃ vals : List Value, ((x :: rs).mapM fun (x : ResultVar) => (match x with | .tmp t => pure (tmps.getD t undef) | .cell a t => do loadVar t (← asAddr (tmps.getD a undef)) : Sem Value)).run P w = .ok vals w ∧ vals.length = vs.length ∧
            ∀ i, i < vs.length → Rep S w ι (getL vs i) (vals.getD i undef) := by
      intro v K h hx
      obtain ⟨vs, hK, hs⟩ := ih h
      refine ⟨_, hK, fun M R => ?_⟩
      rename_i S w ι tmps
      obtain ⟨val, r1, r2⟩ := hx M R
      obtain ⟨vals, q1, q2, q3⟩ := hs M R
      refine ⟨val :: vals, ?_, by simp [q2], fun i hi => ?_⟩
      · rw [List.mapM_cons, Sem.run_bind, r1]
        simp only [Result.andThen, Sem.run_bind, q1, Sem.run_pure]
      · cases i with
        | zero => simpa [getL] using r2
        | succ i => simpa [getL] using q3 i (by simpa using hi)
    unfold resK at h
    split at h
    · rename_i t
      rw [forceK_eq] at h
      refine cons h fun M R => ⟨_, rfl, ?_⟩
      rename_i S w ι tmps
      exact eo_rep0 (a := { tmps := tmps, defers := [] }) R (.tmp t) (fun g e => by cases e)
    · rename_i a ty
      rw [teK_iff] at h
      obtain ⟨te, ht, h⟩ := h
      split at h
      · rename_i k off hk
        rw [getHK_iff] at h
        obtain ⟨o, ho, h⟩ := h
        split at h
        · obtain ⟨v, h, hv⟩ := rdK_sound hτ ht h
          refine cons h fun M R => ?_
          rename_i S w ι tmps
          have h1 := eo_rep0 (a := { tmps := tmps, defers := [] }) R (.tmp a) (fun g e => by cases e)
          simp only [eo, Act.eval, hk] at h1
          generalize he : tmps.getD a undef = x at h1
          cases h1 with
          | rp _ _ _ b hb =>
            obtain ⟨val, r1, r2⟩ := hv (M.lies ho hb)
            refine ⟨val, ?_, r2⟩
            rw [Nat.zero_add] at r1
            simp only [asAddr, he, Sem.run_bind, Sem.run_pure, Result.andThen]
            exact r1
        · exact h.elim
      · rename_i c off hk
        obtain ⟨v, h, hv⟩ := rdK_sound hτ ht h
        refine cons h fun M R => ?_
        rename_i S w ι tmps
        have h1 := eo_rep0 (a := { tmps := tmps, defers := [] }) R (.tmp a) (fun g e => by cases e)
        simp only [eo, Act.eval, hk] at h1
        generalize he : tmps.getD a undef = x at h1
        cases h1 with
        | ip _ _ _ b o hs hh =>
          obtain ⟨val, r1, r2⟩ := hv (Lies.of_imm (ι := ι) M.imm hs hh)
          refine ⟨val, ?_, r2⟩
          simp only [asAddr, he, Sem.run_bind, Sem.run_pure, Result.andThen]
          exact r1
      · exact h.elim
end
end Go.Eng
namespace Go.Eng
open Go.RowKit
set_option linter.unusedVariables false
set_option linter.unusedSimpArgs false
variable {P : Program} {τ : TypeId → Option TE} {B : Imm → World → Prop} {p : Nat}
theorem run_takeDeferred {w : World} {b : Nat} (h : w.heap[b]? = some (.deferred (some []))) : (Instr.takeDeferred b).run P w = .ok [] { w with heap := w.heap.setIfInBounds b (.deferred none) } := by
  simp [Instr.takeDeferred, getObj, setObj, Sem.run_bind, Sem.run, h, Result.andThen, Sem.bind]
/-- a state at the end of a body, its marks taken -/
theorem At.leave {S0 : Imm} {w0 : World} {ι0 : Ix} {H0 H : Hp} {env : Env} {tmps : Array Value} {fn : Func} {R : Ending → World → Prop} (hB : BOK B) : ∀ (ds : List Deferred) (w : World),
    At B p S0 w0 ι0 H0 env H { tmps := tmps, defers := ds } w → (∀ w', At B p S0 w0 ι0 H0 env H { tmps := tmps, defers := [] } w' → LeavesIn (Fw none) 0 P fn tmps R [] .returning w') →
      LeavesInM (Fw none) 0 P fn tmps R ds .returning w := by
  intro ds
  induction ds with
  | nil => intro w hA h; exact h w hA
  | cons d ds ih =>
    intro w hA h
    obtain ⟨S, ι, hb, M, RA, D, D', T⟩ := hA.ex
    obtain ⟨b, h1, h2, h3⟩ := D.all d (by simp)
    have hge := D' d (by simp) b h1
    have hlt := lt_of_heap h2
    have hset := MapKept.heap_set (o' := .deferred none) h2
    let w' : World := { w with heap := w.heap.setIfInBounds b (.deferred none) }
    have hnS : ∀ j, ¬ S b j := fun j hs => by have := M.imm b j hs; rw [rd_plain h2 rfl] at this; simp at this
    have hk : Keeps S w S w' := by
      refine ⟨fun b' j hs => ⟨hs, ?_⟩, fun b' j hs => ?_⟩
      · by_cases e : b' = b
        · subst e; exact absurd hs (hnS j)
        · exact rd_congr (hset.2 b' e) j
      · by_cases e : b' = b
        · subst e; rw [rd_plain h2 rfl] at hs; simp at hs
        · rw [rd_congr (hset.2 b' e) j]; exact hs
    have hbel : Bel w w' := .block b rfl rfl rfl (by simp [w']) hset.2 (by rw [h2]; exact unf_plain rfl) (by rw [hset.1]; exact unf_plain rfl) (fun _ => by unfold bsz; rw [h2]; show (match (w.heap.setIfInBounds b (Obj.deferred none))[b]? with | some (.cells c _ _) => some c.size | _ => none) = none; rw [hset.1])
    have hne : ∀ k o b', Hget H k = some o → o.has ι k b' → b' ≠ b := by
      intro k o b' ho hb' e
      subst e
      exact h3 ⟨k, o, ho, has_excl hb', hb'⟩
    refine ⟨by simp, .inl ⟨b, w', h1, run_takeDeferred h2, ih w' ⟨S, ι, hB _ _ _ _ hk hbel hb, ?_, RA.mono hk (.refl _), ?_, fun d' hd' => D' d' (by simp [hd']), ?_⟩ h⟩⟩
    · exact ⟨fun k o ho => (M.obj k o ho).mono hk (.refl _) hbel (fun b' hb' => hset.2 b' (hne k o b' ho hb')) (fun _ => rfl) rfl (fun _ _ _ h => h), M.liveO, M.liveT, M.dist, fun b' j hs => by rw [(hk.imm b' j hs).2]; exact M.imm b' j hs⟩
    · refine ⟨fun d' hd' => ?_, (List.pairwise_cons.1 D.nodup).2⟩
      obtain ⟨b', g1, g2, g3⟩ := D.all d' (by simp [hd'])
      have := (List.pairwise_cons.1 D.nodup).1 d' hd' b b' h1 g1
      exact ⟨b', g1, (hset.2 b' (Ne.symm this)).trans g2, g3⟩
    · exact ⟨T.below.trans hbel, fun b' hb' ho => (hset.2 b' (by omega)).trans (T.same b' hb' ho), T.keeps.trans hk, T.immN, T.own, T.protO, T.protT⟩
/-- a contract: values that hold no address of an object of anybody's own -/
structure POut (S : Imm) (w : World) (v : PV) (val : Value) (S' : Imm) (w' : World) : Prop where
  imm : ∀ b j, S' b j → (rd w' b j).isSome
  keeps : Keeps S w S' w'
  rep : Rep S' w' noI v val
  below : Bel w w'
  same : ∀ b, b < w.heap.size → w'.heap[b]? = w.heap[b]?
  immN : ∀ b j, b < w.heap.size → S' b j → S b j
def Enters (P : Program) (g : FuncId) : Prop := ∀ vs w, (callFunc g vs).run P w = .ok (.enter g vs) w
/-- in the worlds of B -/
def PSpecB (P : Program) (B : Imm → World → Prop) (g : FuncId) (args : List PV) (v : PV) : Prop :=
  ∀ (S : Imm) (w : World) (vs : Array Value), B S w → (∀ b j, S b j → (rd w b j).isSome) → RepA S w noI args vs →
    CallsIn (Fw none) 0 P g vs w fun e w' => ∃ val S', e = .returned val ∧ POut S w v val S' w'
def PSpec (P : Program) (g : FuncId) (args : List PV) (v : PV) : Prop := Enters P g ∧ PSpecB P gB g args v
theorem enters {g : FuncId} {fn : Func} (hf : P.funcs[g]? = some fn) (hn : (fn.name == "runtime.NumGoroutine") = false) (hb : fn.body.isNone = false) : Enters P g := by
  intro vs w
  have h1 : ¬ fn.name = "runtime.NumGoroutine" := fun e => by rw [e] at hn; simp at hn
  have h2 : ¬ fn.body = none := fun e => by rw [e] at hb; simp at hb
  simp [callFunc, hf, h1, h2, Result.andThen]
theorem resOf_rep {S : Imm} {w : World} {us : List PV} {vals : List Value} (hlen : us.length = vals.length) (h : ∀ i, i < us.length → Rep S w noI (getL us i) (vals.getD i undef)) :
    Rep S w noI (resOf us) (if h : vals.toArray.size = 1 then vals.toArray[0] else .tuple vals.toArray) := by
  match us, vals, hlen, h with
  | [], [], _, _ => exact .tup _ _ _ rfl (fun i hi => by simp at hi)
  | [u], [x], _, h => simpa [resOf, getL] using h 0 (by simp)
  | u :: u' :: us, x :: x' :: xs, hlen, h =>
    have : ¬ (x :: x' :: xs).toArray.size = 1 := by simp
    rw [dif_neg this]
    refine .tup _ _ _ (by simpa using hlen) (fun i hi => ?_)
    have := h i hi
    rw [Array.getD_eq_getD_getElem?]
    simpa using this
theorem anys_rep {S : Imm} {w : World} {ι : Ix} {args : List PV} {vs : Array Value} (h : RepA S w ι args vs) (n : Nat) : RepA S w ι (args ++ anys n) (vs ++ Array.replicate n undef) := by
  refine repA_append h ⟨by simp [anys_len], fun i hi => ?_⟩
  rw [anys_get]; exact .any _ _
/-- one value may be taken for another -/
structure Sup (p q : PV) : Prop where
  get : ∀ {S : Imm} {w : World} {ι : Ix} {v : Value}, Rep S w ι p v → Rep S w ι q v
theorem Sup.of {p q : PV} (h : p = q) : Sup p q := ⟨fun hr => h ▸ hr⟩
/-- the last word of a walk -/
structure Fin (q : Prop) : Prop where
  get : q
/-- what is to be reckoned at the end of a body -/
def retK (τ : TypeId → Option TE) (fn : Func) (v : PV) (e : Exit) (env : Env) (H : Hp) : Prop :=
  match e with
  | .normal => resK τ fn.results.toList env H fun vs => frzasK vs H fun us _ => Fin (Sup (resOf us) v)
  | .ret => resK τ fn.results.toList env H fun vs => frzasK vs H fun us _ => Fin (Sup (resOf us) v)
  | _ => False
theorem pspec_of_aw (hB : BOK B) (hτ : TabOK P τ) {g : FuncId} {fn : Func} {c : Code} {args : List PV} {v : PV} (hf : P.funcs[g]? = some fn) (hb : fn.body = some c)
    (h : AW P none B 0 c (retK τ fn v) (args ++ anys (fn.ntmps - args.length)) []) : PSpecB P B g args v := by
  intro S w vs hBw himm hr
  have M : Mem S w noI [] := ⟨fun k o h => by simp [Hget] at h, fun k b h => by simp [noI] at h, fun k x h => by simp [noI] at h, fun k k' o o' b h => by simp [Hget] at h, himm⟩
  have hA : At B 0 S w noI [] (args ++ anys (fn.ntmps - args.length)) [] { tmps := vs ++ Array.replicate (fn.ntmps - vs.size) undef, defers := [] } w :=
    ⟨S, noI, hBw, M, by rw [hr.1]; exact anys_rep hr _, .nil _ _ _, fun d hd => by simp at hd, .refl _ _ _ _ _⟩
  refine callsIn_of_wp_marks hf hb trivial (wpIn_mono (h S w noI [] _ w hA) ?_)
  rintro e ⟨tmps, ds⟩ w1 ⟨env', H', q, hA1⟩
  have fin : (resK τ fn.results.toList env' H' fun vs => frzasK vs H' fun us _ => Fin (Sup (resOf us) v)) → LeavesInM (Fw none) 0 P fn tmps (fun e w' => ∃ val S', e = .returned val ∧ POut S w v val S' w') ds .returning w1 := by
    intro q
    refine At.leave hB ds w1 hA1 fun w2 hA2 => ?_
    obtain ⟨S2, ι2, hb2, M2, R2, _, _, T2⟩ := hA2.ex
    obtain ⟨vs1, q, hs⟩ := resK_sound (P := P) hτ _ q
    obtain ⟨us, H3, q, hl, hz⟩ := frzasK_sound (P := P) _ q
    obtain ⟨vals, r1, r2, r3⟩ := hs M2 R2
    obtain ⟨S3, M3, K3, T3, R3⟩ := hz (fun i => vals.getD i undef) M2 r3
    have hT := T2.trans (T3 0)
    have hno : ∀ b, ¬ owned noI [] b := by rintro b ⟨k, o, h1, _⟩; simp [Hget] at h1
    have hrun : (results fn tmps).run P w2 = .ok (if h : vals.toArray.size = 1 then vals.toArray[0] else .tuple vals.toArray) w2 := by
      unfold results
      rw [Sem.run_bind, Array.mapM_eq_mapM_toList, ← bind_pure_comp, Sem.run_bind]
      have : (List.mapM (fun (x : ResultVar) => (match x with | .tmp t => pure (tmps.getD t undef) | .cell a t => do loadVar t (← asAddr (tmps.getD a undef)) : Sem Value)) fn.results.toList).run P w2 = .ok vals w2 := r1
      erw [this]
      simp only [Result.andThen, Function.comp, Sem.run_pure]
    refine ⟨_, hrun, _, S3, rfl, M3.imm, hT.keeps, ?_, hT.below, fun b hb => hT.same b hb (hno b), fun b j hb hs => (hT.immN b j hb hs).resolve_right (hno b)⟩
    exact q.get.get (resOf_rep (by omega) R3)
  cases e with
  | normal => exact fin q
  | ret => exact fin q
  | _ => exact q.elim
/-! a contract within the walk -/
/-- the arguments without addresses -/
def tok0 : PV → PV
  | .isl c _ => .isl c .none
  | .bool b => .bp b
  | .nils => .isl (.ints .i64 []) .none
  | p => p
def tok0s : List PV → List PV
  | [] => []
  | x :: xs => tok0 x :: tok0s xs
def tok1 : PV → PV
  | .agg cs => .agg (tok0s cs)
  | p => tok0 p
def tok1s : List PV → List PV
  | [] => []
  | x :: xs => tok1 x :: tok1s xs
theorem tok0_rep {S : Imm} {w : World} {ι : Ix} {p : PV} {v : Value} (h : Rep S w ι p v) : Rep S w ι (tok0 p) v := by
  unfold tok0; split
  · exact h.drop
  · cases h; exact .bp _ _
  · cases h; exact .islnil _ _ _ rfl
  · exact h
theorem tok0s_rep : ∀ (ps : List PV), (tok0s ps).length = ps.length ∧ ∀ i {S : Imm} {w : World} {ι : Ix} {v : Value}, Rep S w ι (getL ps i) v → Rep S w ι (getL (tok0s ps) i) v := by
  intro ps
  induction ps with
  | nil => exact ⟨rfl, fun i _ _ _ _ h => h⟩
  | cons p ps ih => exact ⟨by simp [tok0s, ih.1], fun i _ _ _ _ h => by cases i with | zero => exact tok0_rep h | succ i => exact ih.2 i h⟩
theorem tok1_rep {S : Imm} {w : World} {ι : Ix} {p : PV} {v : Value} (h : Rep S w ι p v) : Rep S w ι (tok1 p) v := by
  unfold tok1; split
  · cases h with | agg _ _ vs hl hh => exact .agg _ _ _ ((tok0s_rep _).1.trans hl) (fun i hi => (tok0s_rep _).2 i (hh i (by rw [(tok0s_rep _).1] at hi; exact hi)))
  · exact tok0_rep h
theorem tok1s_rep : ∀ (ps : List PV), (tok1s ps).length = ps.length ∧ ∀ i {S : Imm} {w : World} {ι : Ix} {v : Value}, Rep S w ι (getL ps i) v → Rep S w ι (getL (tok1s ps) i) v := by
  intro ps
  induction ps with
  | nil => exact ⟨rfl, fun i _ _ _ _ h => h⟩
  | cons p ps ih => exact ⟨by simp [tok1s, ih.1], fun i _ _ _ _ h => by cases i with | zero => exact tok1_rep h | succ i => exact ih.2 i h⟩
def pureK (args : List PV) (K : List PV → Prop) : Prop := match pureEs args with | some xs => forceL (tok1s xs) K | none => False
theorem callSound_of_pspec {g : FuncId} {args as : List PV} {H : Hp} {v : PV} (ha : pureEs args = some as) (h : PSpec P g (tok1s as) v) : CallSound P g args H v [] [] [] := by
  obtain ⟨hent, h⟩ := h
  refine ⟨hent, fun S w ι H' vs hg M hr _ _ => ?_⟩
  obtain ⟨h1, h2⟩ := pureEs_sound ha
  refine (h S w vs hg M.imm ⟨(tok1s_rep as).1.trans (h1.trans hr.1), fun i hi => (tok1s_rep as).2 i (h2 i (by rw [(tok1s_rep as).1] at hi; omega) (hr.2 i (by rw [(tok1s_rep as).1] at hi; omega)))⟩).mono ?_
  rintro e w' ⟨val, S', rfl, o⟩
  have hno : ∀ k ob b, Hget H' k = some ob → ob.has ι k b → b < w.heap.size := fun k ob b ho hb => (M.obj k ob ho).lt hb
  refine ⟨val, S', ι, rfl, ⟨fun k ob ho => (M.obj k ob ho).mono o.keeps (.refl _) o.below (fun b hb => o.same b (hno k ob b ho hb)) (fun _ => rfl) rfl (fun b j hb hs => o.immN b j (hno k ob b ho hb) hs), M.liveO, M.liveT, M.dist, o.imm⟩,
    .refl _, o.keeps, o.rep.up ι, fun p => ⟨o.below, fun b hb _ => o.same b hb, o.keeps, fun b j hb hs => .inl (o.immN b j hb hs), fun b h => .inl h, fun _ _ _ h => h, fun _ _ b n h => ⟨b, n, h, .inl ⟨rfl, Nat.le_refl _⟩⟩⟩⟩
end Go.Eng
namespace Go.Eng
/-! a table of types -/
inductive TT where
  | leaf (k : Nat) (te : TE)
  | node (m : Nat) (l r : TT)
def TT.get : TT → Nat → Option TE
  | .leaf k te, t => match Nat.beq t k with | true => some te | false => none
  | .node m l r, t => match Nat.blt t m with | true => l.get t | false => r.get t
def TT.All (f : Nat → TE → Prop) : TT → Prop
  | .leaf k te => f k te
  | .node _ l r => l.All f ∧ r.All f
theorem TT.get_all {f : Nat → TE → Prop} : ∀ (T : TT), T.All f → ∀ t te, T.get t = some te → f t te := by
  intro T
  induction T with
  | leaf k te' =>
    intro h t te hg
    simp only [TT.get] at hg
    cases hb : Nat.beq t k with
    | true => rw [hb] at hg; cases hg; rw [Nat.eq_of_beq_eq_true hb]; exact h
    | false => rw [hb] at hg; cases hg
  | node m l r ihl ihr =>
    intro h t te hg
    simp only [TT.get] at hg
    cases hb : Nat.blt t m with
    | true => rw [hb] at hg; exact ihl h.1 t te hg
    | false => rw [hb] at hg; exact ihr h.2 t te hg
def teOf (t u : TypeInfo) : TE := ⟨u.desc, t.zero.getD undef, t.size, t.bytes, none, t.methods.toList⟩
def teOfC (t u : TypeInfo) (ks : List CK) : TE := ⟨u.desc, t.zero.getD undef, t.size, t.bytes, some ks, t.methods.toList⟩
def LeafOK (P : Program) (k : Nat) (te : TE) : Prop :=
  P.underlying k = some te.und ∧ (∃ i, P.info? k = some i ∧ i.zero = some te.zero ∧ i.size = te.size ∧ i.bytes = te.bytes) ∧ te.zero.cells.size = te.size ∧ (∀ ks, te.cmp = some ks → CmpOK P k ks) ∧ ∃ i, P.info? k = some i ∧ i.methods.toList = te.meths
theorem info_of_run {P : Program} {t : TypeId} {i : TypeInfo} (h : ∀ w, (typeInfo t).run P w = .ok i w) : P.info? t = some i := by
  cases hi : P.info? t with
  | none => have := h default; simp [typeInfo, hi] at this
  | some j => have := h default; simp [typeInfo, hi] at this; rw [this]
theorem leafOK {P : Program} {k : Nat} {t u : TypeInfo} {d : TypeDesc} {z : Value} (h1 : P.underlying k = some d) (h2 : ∀ w, (typeInfo k).run P w = .ok t w) (h3 : u.desc = d) (h4 : t.zero = some z) (h5 : z.cells.size = t.size) : LeafOK P k (teOf t u) :=
  ⟨by rw [h1, ← h3]; rfl, ⟨t, info_of_run h2, by simp [teOf, h4], rfl, rfl⟩, by simp [teOf, h4, h5], fun ks h => (by cases h), t, info_of_run h2, rfl⟩
theorem EqT.mono {P : Program} {t : TypeId} {ks : List CK} {n m : Nat} (h : EqT P t ks n) (hm : n ≤ m) : EqT P t ks m := fun w d xs ys off hd => h w d xs ys off (by omega)
theorem EqFs.nil {P : Program} {n off : Nat} : EqFs P n [] off [] := rfl
theorem EqFs.cons {P : Program} {n off : Nat} {f : Field} {fs : List Field} {kf rest : List CK} (h1 : f.name ≠ "_") (h2 : f.offset = off) (h3 : EqT P f.type kf n) (h4 : EqFs P n fs (off + kf.length) rest) : EqFs P n (f :: fs) off (kf ++ rest) :=
  ⟨h1, h2, kf, rest, rfl, h3, h4⟩
theorem cells_of {P : Program} {t : TypeId} {i : TypeInfo} (h : ∀ w, (typeInfo t).run P w = .ok i w) : P.cellsOf t = i.size := by simp [Program.cellsOf, info_of_run h]
theorem leafOKC {P : Program} {k : Nat} {t u : TypeInfo} {d : TypeDesc} {z : Value} {ks : List CK} (hc : CmpOK P k ks) (h1 : P.underlying k = some d) (h2 : ∀ w, (typeInfo k).run P w = .ok t w) (h3 : u.desc = d) (h4 : t.zero = some z) (h5 : z.cells.size = t.size) : LeafOK P k (teOfC t u ks) :=
  ⟨by rw [h1, ← h3]; rfl, ⟨t, info_of_run h2, by simp [teOfC, h4], rfl, rfl⟩, by simp [teOfC, h4, h5], fun ks' h => (by cases h; exact hc), t, info_of_run h2, rfl⟩
theorem tabOK_of {P : Program} {T : TT} (h : T.All (LeafOK P)) : TabOK P T.get :=
  ⟨fun t te ht => (TT.get_all T h t te ht).1, fun t te ht => (TT.get_all T h t te ht).2.1, fun t te ht => (TT.get_all T h t te ht).2.2.1, fun t te ks ht => (TT.get_all T h t te ht).2.2.2.1 ks, fun t te ht => (TT.get_all T h t te ht).2.2.2.2⟩
end Go.Eng
namespace Go.Eng
theorem pspec_sup {P : Program} {g : FuncId} {xs : List PV} {u v : PV} (h : PSpec P g xs u) (hs : Sup u v) : PSpec P g xs v :=
  ⟨h.1, fun S w vs hb himm hA => (h.2 S w vs hb himm hA).mono fun _ _ ⟨val, S', h1, h2⟩ => ⟨val, S', h1, ⟨h2.imm, h2.keeps, hs.get h2.rep, h2.below, h2.same, h2.immN⟩⟩⟩
end Go.Eng
namespace Go.Eng
def noC : CPT := fun _ _ _ _ _ => False
def noY : YPT := fun _ _ _ _ _ _ _ => False
theorem noC_ok {P : Program} : CPOK P noC := fun _ _ _ _ _ h => h.elim
theorem noY_ok {P : Program} {r : Option Nat} {B : Imm → World → Prop} : YPOK P r B noY := fun _ _ _ _ _ _ _ h => h.elim
theorem anyB_ok : BOK anyB := ⟨fun _ _ _ _ k b h => gB_mono k b h, fun _ _ h => h⟩
/-- a function walked from its head to its results -/
def bodyK (P : Program) (B : Imm → World → Prop) (τ : TypeId → Option TE) (md : Nat) (rf : List Nat) (CP : CPT) (YP : YPT) (fn : Func) (args : List PV) (v : PV) : Prop :=
  ev P none B 0 τ md rf CP YP (fn.body.getD .skip) 0 (args ++ anys (fn.ntmps - args.length)) [] fun e env H _ => retK τ fn v e env H
theorem pspecB_of {P : Program} {τ : TypeId → Option TE} {B : Imm → World → Prop} (hB : BOK B) (hm : P.follows .mixedOrders = true) (hτ : TabOK P τ) {md rf CP YP} (hC : CPOKB P B CP) (hY : YPOK P none B YP) {g : FuncId} {fn : Func} {args : List PV} {v : PV}
    (hf : P.funcs[g]? = some fn) (hb : fn.body.isSome = true) (hok : codeOK (fn.body.getD .skip) = true) (h : bodyK P B τ md rf CP YP fn args v) : PSpecB P B g args v := by
  obtain ⟨c, hc⟩ := Option.isSome_iff_exists.1 hb
  unfold bodyK at h
  rw [hc] at h hok
  exact pspec_of_aw hB hτ hf hc ((ev_sound hB hm hτ hC hY c hok _ _ _ _ h).mono fun e env H ⟨n, h⟩ => h)
theorem pspec_of {P : Program} {τ : TypeId → Option TE} (hm : P.follows .mixedOrders = true) (hτ : TabOK P τ) {md rf CP} (hC : CPOK P CP) {g : FuncId} {fn : Func} {args : List PV} {v : PV}
    (hf : P.funcs[g]? = some fn) (hn : (fn.name == "runtime.NumGoroutine") = false) (hb : fn.body.isSome = true) (hok : codeOK (fn.body.getD .skip) = true) (h : bodyK P anyB τ md rf CP noY fn args v) : PSpec P g args v :=
  ⟨enters hf hn (by cases h : fn.body <;> simp_all), pspecB_of anyB_ok hm hτ hC noY_ok hf hb hok h⟩
end Go.Eng
namespace Go.Eng
open Go.RowKit
set_option linter.unusedVariables false
set_option linter.unusedSimpArgs false
abbrev Sg := List (Nat × Nat)
/-- the new name of an object -/
def sgF : Sg → Nat → Option Nat
  | [], _ => none
  | (a, b) :: r, k => match Nat.beq a k with | true => some b | false => sgF r k
/-- the old name -/
def sgB : Sg → Nat → Option Nat
  | [], _ => none
  | (a, b) :: r, k => match Nat.beq b k with | true => some a | false => sgB r k
/-- a value under new names -/
def renF (σ : Sg) : PV → Option PV
  | .rsl k o n => match sgF σ k with | some k' => some (.rsl k' o n) | none => none
  | .rp k o => match sgF σ k with | some k' => some (.rp k' o) | none => none
  | .rpe k m i j => match sgF σ k with | some k' => some (.rpe k' m i j) | none => none
  | .rm k => match sgF σ k with | some k' => some (.rm k') | none => none
  | .row k b n => match sgF σ k with | some k' => some (.row k' b n) | none => none
  | .rowp k b m i j => match sgF σ k with | some k' => some (.rowp k' b m i j) | none => none
  | .isl c t => match t with
    | .own k => match sgF σ k with | some k' => some (.isl c (.own k')) | none => some (.isl c .none)
    | .none => some (.isl c .none)
    | .full => some (.isl c .full)
  | .any => some .any
  | p => inlE p
def renFs (σ : Sg) : List PV → Option (List PV)
  | [] => some []
  | x :: xs => match renF σ x with
    | some y => match renFs σ xs with
      | some ys => some (y :: ys)
      | none => none
    | none => none
def renP (σ : Sg) : PV → Option PV
  | .agg cs => match renFs σ cs with | some ds => some (.agg ds) | none => none
  | .tup cs => match renFs σ cs with | some ds => some (.tup ds) | none => none
  | .fn f us vs => match renFs σ us with
    | some us => match renFs σ vs with
      | some vs => some (.fn f us vs)
      | none => none
    | none => none
  | p => renF σ p
/-- two names of what is meant to be the same -/
structure VC (q : Prop) : Prop where
  get : q
def eqT (t u : Tok) : Prop := match u with
  | .none => True
  | .full => match t with | .full => True | _ => False
  | .own k => match t with | .own k' => ifK (Nat.beq k k') True | _ => False
def eqPV (p q : PV) (K : Prop) : Prop :=
  match q with
  | .any => K
  | .int k a => match p with
    | .int k' b => ifK (decide (k' = k)) (VC (b = a) ∧ K)
    | _ => False
  | .bp a => match p with
    | .bp b => VC (b = a) ∧ K
    | .bool b => VC (b = a) ∧ K
    | _ => False
  | .str a => match p with
    | .str b => VC (b = a) ∧ K
    | _ => False
  | .isl c t => match p with
    | .isl d u => VC (d = c) ∧ eqT u t ∧ K
    | .nils => VC (c.cnt = 0) ∧ K
    | _ => False
  | .rsl k o n => match p with
    | .rsl k' o' n' => ifK (Nat.beq k k') (VC (o' = o ∧ n' = n) ∧ K)
    | _ => False
  | q => VC (p = q) ∧ K
def eqPVs : List PV → List PV → Prop → Prop
  | [], [], K => K
  | p :: ps, q :: qs, K => eqPV p q (eqPVs ps qs K)
  | _, _, _ => False
def matP (σ : Sg) (p q : PV) (K : Prop) : Prop :=
  match q with
  | .any => K
  | .agg ds => match renP σ p with
    | some (.agg cs) => eqPVs cs ds K
    | _ => False
  | .isl c t => match t with
    | .none => match p with
      | .isl d _ => VC (d = c) ∧ K
      | .nils => VC (c.cnt = 0) ∧ K
      | _ => False
    | t => match renP σ p with
      | some p' => eqPV p' (.isl c t) K
      | none => False
  | q => match renP σ p with
    | some p' => eqPV p' q K
    | none => False
def matPs (σ : Sg) : List PV → List PV → Prop → Prop
  | [], [], K => K
  | p :: ps, q :: qs, K => matP σ p q (matPs σ ps qs K)
  | _, _, _ => False
theorem sgF_sgB {σ : Sg} {k k' : Nat} (h : sgF σ k = some k') (hinj : ∀ x ∈ σ, sgB σ x.2 = some x.1) : sgB σ k' = some k := by
  have : (k, k') ∈ σ := by
    clear hinj
    induction σ with
    | nil => cases h
    | cons x r ih =>
      obtain ⟨a, b⟩ := x
      simp only [sgF] at h
      cases hb : Nat.beq a k with
      | true => rw [hb] at h; cases h; rw [Nat.eq_of_beq_eq_true hb]; simp
      | false => rw [hb] at h; exact List.mem_cons_of_mem _ (ih h)
  exact hinj _ this
/-- the blocks under the new names -/
def Ix.ren (ι : Ix) (σ : Sg) : Ix := ⟨fun k => (sgB σ k).bind ι.o, fun k => (sgB σ k).bind ι.t, fun k b => ∃ k0, sgB σ k = some k0 ∧ ι.x k0 b⟩
/-- blocks go along with new names -/
structure RenTo (σ : Sg) (ι ι1 : Ix) : Prop where
  o : ∀ k k' b, sgF σ k = some k' → ι.o k = some b → ι1.o k' = some b
  t : ∀ k k' x, sgF σ k = some k' → ι.t k = some x → ι1.t k' = some x
theorem renTo_ren {σ : Sg} (hinj : ∀ x ∈ σ, sgB σ x.2 = some x.1) (ι : Ix) : RenTo σ ι (ι.ren σ) :=
  ⟨fun k k' b h hb => by simp [Ix.ren, sgF_sgB h hinj, hb], fun k k' b h hb => by simp [Ix.ren, sgF_sgB h hinj, hb]⟩
section
variable {S : Imm} {w : World} {ι ι1 : Ix} {σ : Sg} (hinj : RenTo σ ι ι1)
include hinj
theorem renF_to {p q : PV} (h : renF σ p = some q) {v : Value} (hr : Rep S w ι p v) : Rep S w ι1 q v := by
  have key : ∀ {k k' b : Nat}, sgF σ k = some k' → ι.o k = some b → ι1.o k' = some b := fun h hb => hinj.o _ _ _ h hb
  have keyt : ∀ {k k' : Nat} {x}, sgF σ k = some k' → ι.t k = some x → ι1.t k' = some x := fun h hb => hinj.t _ _ _ h hb
  unfold renF at h
  split at h
  · split at h
    · rename_i hs; cases h
      cases hr with
      | rsl _ _ _ _ b cap hk hc hr => exact .rsl _ _ _ _ _ _ (key hs hk) hc hr
      | rslz _ _ _ b o hk => exact .rslz _ _ _ _ _ (key hs hk)
    · cases h
  · split at h
    · rename_i hs; cases h
      cases hr with | rp _ _ _ b hk => exact .rp _ _ _ _ (key hs hk)
    · cases h
  · split at h
    · rename_i hs; cases h
      cases hr with | rpe _ _ _ _ _ b hk => exact .rpe _ _ _ _ _ _ (key hs hk)
    · cases h
  · split at h
    · rename_i hs; cases h
      cases hr with | rm _ _ b hk => exact .rm _ _ _ (key hs hk)
    · cases h
  · split at h
    · rename_i hs; cases h
      cases hr with | row _ _ _ _ cap hc => exact .row _ _ _ _ _ hc
    · cases h
  · split at h
    · rename_i hs; cases h
      cases hr; exact .rowp _ _ _ _ _ _
    · cases h
  · rename_i c t
    split at h
    · rename_i k
      split at h
      · rename_i hs; cases h
        cases hr with
        | islnil _ _ _ hc => exact .islnil _ _ _ hc
        | isl _ _ _ b off cap hc hs' hh hf ho =>
          refine .isl _ _ _ _ _ _ hc hs' hh (fun e => by cases e) (fun k1 e => ?_)
          cases e
          rcases ho k rfl with h0 | ⟨b1, n, g1, g2⟩
          · exact .inl h0
          · exact .inr ⟨b1, n, keyt hs g1, g2⟩
      · cases h; exact (hr.drop.toNoI).up _
    · cases h; exact (hr.toNoI).up _
    · cases h; exact (inlE_sound (p := .isl c .full) rfl hr).up _
  · cases h; exact .any _ _
  · exact (inlE_sound h hr).up _
theorem renFs_to : ∀ {ps qs : List PV}, renFs σ ps = some qs → qs.length = ps.length ∧ ∀ i, i < ps.length → ∀ {v : Value}, Rep S w ι (getL ps i) v → Rep S w ι1 (getL qs i) v := by
  intro ps
  induction ps with
  | nil => intro qs h; simp [renFs] at h; subst h; exact ⟨rfl, fun i hi => by simp at hi⟩
  | cons p ps ih =>
    intro qs h
    unfold renFs at h
    split at h
    · rename_i y hy
      split at h
      · rename_i ys hys
        cases h
        obtain ⟨h1, h2⟩ := ih hys
        refine ⟨by simp [h1], fun i hi => ?_⟩
        cases i with
        | zero => intro v hr; exact renF_to hinj hy hr
        | succ i => exact h2 i (by simpa using hi)
      · cases h
    · cases h
theorem renP_to {p q : PV} (h : renP σ p = some q) {v : Value} (hr : Rep S w ι p v) : Rep S w ι1 q v := by
  unfold renP at h
  split at h
  · split at h
    · rename_i ds hds
      cases h
      obtain ⟨h1, h2⟩ := renFs_to hinj hds (S := S) (w := w)
      cases hr with | agg _ _ vs hl hh => exact .agg _ _ _ (h1.trans hl) (fun i hi => h2 i (by omega) (hh i (by omega)))
    · cases h
  · split at h
    · rename_i ds hds
      cases h
      obtain ⟨h1, h2⟩ := renFs_to hinj hds (S := S) (w := w)
      cases hr with | tup _ _ vs hl hh => exact .tup _ _ _ (h1.trans hl) (fun i hi => h2 i (by omega) (hh i (by omega)))
    · cases h
  · split at h
    · rename_i us hus
      split at h
      · rename_i vs hvs
        cases h
        obtain ⟨h1, h2⟩ := renFs_to hinj hus (S := S) (w := w)
        obtain ⟨g1, g2⟩ := renFs_to hinj hvs (S := S) (w := w)
        cases hr with | fn _ _ _ _ us' vs' hk hl hu hv => exact .fn _ _ _ _ _ _ (h1.trans hk) (g1.trans hl) (fun i hi => h2 i (by omega) (hu i (by omega))) (fun i hi => g2 i (by omega) (hv i (by omega)))
      · cases h
    · cases h
  · exact renF_to hinj h hr
end
theorem renP_sound {σ : Sg} (hinj : ∀ x ∈ σ, sgB σ x.2 = some x.1) {S : Imm} {w : World} {ι : Ix} {p q : PV} (h : renP σ p = some q) {v : Value} (hr : Rep S w ι p v) : Rep S w (ι.ren σ) q v := renP_to (renTo_ren hinj ι) h hr
theorem eqPV_sound {p q : PV} {K : Prop} (h : eqPV p q K) : K ∧ ∀ {S : Imm} {w : World} {ι : Ix} {v : Value}, Rep S w ι p v → Rep S w ι q v := by
  unfold eqPV at h
  split at h
  · exact ⟨h, fun _ => .any _ _⟩
  · split at h
    · rw [ifK_iff] at h
      obtain ⟨h1, ⟨h2⟩, h3⟩ := h
      have h1 := of_decide_eq_true h1; subst h1; subst h2
      exact ⟨h3, fun hr => hr⟩
    · exact h.elim
  · split at h
    · obtain ⟨⟨h1⟩, h2⟩ := h; subst h1; exact ⟨h2, fun hr => hr⟩
    · obtain ⟨⟨h1⟩, h2⟩ := h; subst h1; exact ⟨h2, fun hr => by cases hr; constructor⟩
    · exact h.elim
  · split at h
    · obtain ⟨⟨h1⟩, h2⟩ := h; subst h1; exact ⟨h2, fun hr => hr⟩
    · exact h.elim
  · rename_i c t
    split at h
    · rename_i d u
      obtain ⟨⟨h1⟩, h2, h3⟩ := h
      subst h1
      refine ⟨h3, fun hr => ?_⟩
      unfold eqT at h2
      split at h2
      · exact hr.drop
      · split at h2
        · exact hr
        · exact h2.elim
      · split at h2
        · rw [ifK_iff] at h2; have := Nat.eq_of_beq_eq_true h2.1; subst this; exact hr
        · exact h2.elim
    · obtain ⟨⟨h1⟩, h2⟩ := h
      exact ⟨h2, fun hr => by cases hr; exact .islnil _ _ _ h1⟩
    · exact h.elim
  · split at h
    · rw [ifK_iff] at h
      obtain ⟨h1, ⟨h2, h3⟩, h4⟩ := h
      have h1 := Nat.eq_of_beq_eq_true h1
      subst h1; subst h2; subst h3
      exact ⟨h4, fun hr => hr⟩
    · exact h.elim
  · obtain ⟨⟨h1⟩, h2⟩ := h; subst h1; exact ⟨h2, fun hr => hr⟩
theorem eqPVs_sound : ∀ {ps qs : List PV} {K : Prop}, eqPVs ps qs K → K ∧ ps.length = qs.length ∧ ∀ i {S : Imm} {w : World} {ι : Ix} {v : Value}, Rep S w ι (getL ps i) v → Rep S w ι (getL qs i) v := by
  intro ps
  induction ps with
  | nil => intro qs K h; cases qs with
    | nil => exact ⟨h, rfl, fun i _ _ _ _ hr => hr⟩
    | cons => exact h.elim
  | cons p ps ih => intro qs K h; cases qs with
    | nil => exact h.elim
    | cons q qs =>
      obtain ⟨h, h1⟩ := eqPV_sound h
      obtain ⟨h, h2, h3⟩ := ih h
      refine ⟨h, by simp [h2], fun i _ _ _ _ hr => ?_⟩
      cases i with
      | zero => exact h1 hr
      | succ i => exact h3 i hr
theorem matP_sound {σ : Sg} (hinj : ∀ x ∈ σ, sgB σ x.2 = some x.1) {p q : PV} {K : Prop} (h : matP σ p q K) : K ∧ ∀ {S : Imm} {w : World} {ι : Ix} {v : Value}, Rep S w ι p v → Rep S w (ι.ren σ) q v := by
  unfold matP at h
  split at h
  · exact ⟨h, fun _ => .any _ _⟩
  · split at h
    · rename_i cs hcs
      obtain ⟨h, h1, h2⟩ := eqPVs_sound h
      refine ⟨h, fun hr => ?_⟩
      have := renP_sound hinj hcs hr
      cases this with | agg _ _ vs hl hh => exact .agg _ _ _ (h1.symm.trans hl) (fun i hi => h2 i (hh i (by omega)))
    · exact h.elim
  · rename_i c t
    split at h
    · split at h
      · rename_i d u
        obtain ⟨⟨e⟩, h⟩ := h
        subst e
        exact ⟨h, fun hr => by
          have := hr.drop
          cases this with
          | islnil _ _ _ hc => exact .islnil _ _ _ hc
          | isl _ _ _ b off cap hc hs hh hf ho => exact .isl _ _ _ _ _ _ hc hs hh hf (fun k e => by cases e)⟩
      · obtain ⟨⟨e⟩, h⟩ := h
        exact ⟨h, fun hr => by cases hr; exact .islnil _ _ _ e⟩
      · exact h.elim
    · split at h
      · rename_i p' hp
        obtain ⟨h, h1⟩ := eqPV_sound h
        exact ⟨h, fun hr => h1 (renP_sound hinj hp hr)⟩
      · exact h.elim
  · split at h
    · rename_i p' hp
      obtain ⟨h, h1⟩ := eqPV_sound h
      exact ⟨h, fun hr => h1 (renP_sound hinj hp hr)⟩
    · exact h.elim
theorem matPs_sound {σ : Sg} (hinj : ∀ x ∈ σ, sgB σ x.2 = some x.1) : ∀ {ps qs : List PV} {K : Prop}, matPs σ ps qs K → K ∧ ps.length = qs.length ∧ ∀ i {S : Imm} {w : World} {ι : Ix} {v : Value}, Rep S w ι (getL ps i) v → Rep S w (ι.ren σ) (getL qs i) v := by
  intro ps
  induction ps with
  | nil => intro qs K h; cases qs with
    | nil => exact ⟨h, rfl, fun i _ _ _ _ hr => .any _ _⟩
    | cons => exact h.elim
  | cons p ps ih => intro qs K h; cases qs with
    | nil => exact h.elim
    | cons q qs =>
      obtain ⟨h, h1⟩ := matP_sound hinj h
      obtain ⟨h, h2, h3⟩ := ih h
      refine ⟨h, by simp [h2], fun i _ _ _ _ hr => ?_⟩
      cases i with
      | zero => exact h1 hr
      | succ i => exact h3 i hr
/-! results compared with what is told -/
def eqR1 (p q : PV) : Prop :=
  match q with
  | .agg qs => (match p with | .agg ps => eqPVs ps qs True | _ => False)
  | q => eqPV p q True
def eqRs : List PV → List PV → Prop
  | [], [] => True
  | p :: ps, q :: qs => eqR1 p q ∧ eqRs ps qs
  | _, _ => False
def eqR (p q : PV) : Prop :=
  match q with
  | .tup qs => (match p with | .tup ps => eqRs ps qs | _ => False)
  | q => eqR1 p q
theorem eqR1_sound {p q : PV} (h : eqR1 p q) {S : Imm} {w : World} {ι : Ix} {v : Value} (hr : Rep S w ι p v) : Rep S w ι q v := by
  unfold eqR1 at h
  split at h
  · split at h
    · obtain ⟨_, h1, h2⟩ := eqPVs_sound h
      cases hr with | agg _ _ vs hl hh => exact .agg _ _ _ (h1.symm.trans hl) (fun i hi => h2 i (hh i (by omega)))
    · exact h.elim
  · exact (eqPV_sound h).2 hr
theorem eqRs_sound : ∀ {ps qs : List PV}, eqRs ps qs → ps.length = qs.length ∧ ∀ i {S : Imm} {w : World} {ι : Ix} {v : Value}, Rep S w ι (getL ps i) v → Rep S w ι (getL qs i) v := by
  intro ps
  induction ps with
  | nil => intro qs h; cases qs with
    | nil => exact ⟨rfl, fun i _ _ _ _ hr => hr⟩
    | cons => exact h.elim
  | cons p ps ih => intro qs h; cases qs with
    | nil => exact h.elim
    | cons q qs =>
      obtain ⟨h1, h2⟩ := ih h.2
      refine ⟨by simp [h1], fun i _ _ _ _ hr => ?_⟩
      cases i with
      | zero => exact eqR1_sound h.1 hr
      | succ i => exact h2 i hr
theorem Sup.via {p q : PV} (h : eqR p q) : Sup p q := ⟨fun hr => by
  unfold eqR at h
  split at h
  · split at h
    · obtain ⟨h1, h2⟩ := eqRs_sound h
      cases hr with | tup _ _ vs hl hh => exact .tup _ _ _ (h1.symm.trans hl) (fun i hi => h2 i (hh i (by omega)))
    · exact h.elim
  · exact eqR1_sound h hr⟩
end Go.Eng
namespace Go.Eng
open Go.RowKit
set_option linter.unusedVariables false
set_option linter.unusedSimpArgs false
def matC (σ : Sg) (c c1 : CL) (K : Prop) : Prop :=
  match c1 with
  | .pv qs => match c with
    | .pv ps => matPs σ ps qs K
    | _ => False
  | .ints k ys => match c with
    | .ints k' xs => ifK (decide (k' = k)) (VC (xs = ys) ∧ K)
    | _ => False
  | .bools ys => match c with
    | .bools xs => VC (xs = ys) ∧ K
    | _ => False
  | .strs ys => match c with
    | .strs xs => VC (xs = ys) ∧ K
    | _ => False
  | .rows k ys => match c with
    | .rows k' xs => ifK (decide (k' = k)) (VC (xs = ys) ∧ K)
    | _ => False
  | .recs m ys => match c with
    | .recs m' xs => ifK (Nat.beq m' m) (VC (xs = ys ∧ inlRecs xs) ∧ K)
    | _ => False
  | _ => False
def matE (σ : Sg) : List (PV × PV) → List (PV × PV) → Prop → Prop
  | [], [], K => K
  | (p, u) :: ps, (q, v) :: qs, K => matP σ p q (matP σ u v (matE σ ps qs K))
  | _, _, _ => False
/-- the contents of rows, at some places -/
def rcEq (a b : RC) (D : Nat → Prop) (f : Nat → Nat) (K : Prop) : Prop :=
  match b with
  | .ints k c => match a with
    | .ints k' c' => ifK (decide (k' = k)) (VC (∀ i, D i → c' (f i) = c i) ∧ K)
    | _ => False
  | .recs m c => match a with
    | .recs m' c' => ifK (Nat.beq m' m) (VC (∀ i, D i → c' (f i) = c i) ∧ K)
    | _ => False
theorem rcEq_sound {a b : RC} {D : Nat → Prop} {f : Nat → Nat} {K : Prop} (h : rcEq a b D f K) : K ∧ a.kin b ∧ ∀ i, D i → a.at (f i) = b.at i := by
  unfold rcEq at h
  split at h
  · split at h
    · rw [ifK_iff] at h
      obtain ⟨h1, ⟨h2⟩, h3⟩ := h
      have h1 := of_decide_eq_true h1; subst h1
      exact ⟨h3, rfl, fun i hi => by simp only [RC.at]; rw [h2 i hi]⟩
    · exact h.elim
  · split at h
    · rw [ifK_iff] at h
      obtain ⟨h1, ⟨h2⟩, h3⟩ := h
      have h1 := Nat.eq_of_beq_eq_true h1; subst h1
      exact ⟨h3, rfl, fun i hi => by simp only [RC.at]; rw [h2 i hi]⟩
    · exact h.elim
theorem MatR.cong {S : Imm} {w : World} {ι ι1 : Ix} {k k1 : Nat} {all l : List Nat} {rc : RC} (h : MatR S w ι k all l rc) (ho : ι1.o k1 = ι.o k) (hx : ι1.x k1 = ι.x k) : MatR S w ι1 k1 all l rc := by
  obtain ⟨b, arr, e, h1, h2, h3, h4, h5, h6, h7, h8⟩ := h
  exact ⟨b, arr, e, ho.trans h1, h2, h3, h4, h5, fun b' => by rw [hx]; exact h6 b', h7, h8⟩
theorem MatR.with {S : Imm} {w : World} {ι : Ix} {k : Nat} {all l : List Nat} {rc rc' : RC} (h : MatR S w ι k all l rc) (hr : ∀ b, b ∈ all → rc.at b = rc'.at b) : MatR S w ι k all l rc' := by
  obtain ⟨b, arr, e, h1, h2, h3, h4, h5, h6, h7, h8⟩ := h
  refine ⟨b, arr, e, h1, h2, h3, h4, h5, h6, fun r hm => by rw [← hr r hm]; exact h7 r hm, fun i hi => ?_⟩
  obtain ⟨g1, cap, g2, g3⟩ := h8 i hi
  rw [← hr _ g1]
  exact ⟨g1, cap, g2, g3⟩
def matA (σ : Sg) (o o1 : AO) (K : Prop) : Prop :=
  match o1 with
  | .cells c1 fz1 => match o with
    | .cells c fz => match fz1 with
      | true => match fz with
        | true => VC (c = c1) ∧ K
        | false => False
      | false => match fz with
        | true => False
        | false => matC σ c c1 K
    | _ => False
  | .tok m n => match o with
    | .tok m' n' => ifK (Nat.beq m' m) (VC (n' = n) ∧ K)
    | _ => False
  | .map es => match o with
    | .map ds => matE σ ds es K
    | _ => False
  | .dfr => match o with
    | .dfr => K
    | _ => False
  | .ext G pre => match o with
    | .ext G' pre' => VC (G' = G ∧ pre' = pre) ∧ K
    | _ => False
  | .mat all l rc => match o with
    | .mat all' l' rc' => VC (all' = all ∧ l' = l) ∧ rcEq rc' rc (fun b => b ∈ all) (fun b => b) K
    | _ => False
  | .pmat n rc => match o with
    | .pmat n' rc' => VC (n' = n) ∧ rcEq rc' rc (fun i => i < n) (fun i => i) K
    | .mat all l rc' => VC (l.length = n ∧ l.Nodup ∧ ∀ b, b ∈ all → b ∈ l) ∧ rcEq rc' rc (fun i => i < n) (fun i => l.getD i 0) K
    | _ => False
  | _ => False
def matHK (σ : Sg) (H : Hp) : Nat → Hp → Prop → Prop
  | _, [], K => K
  | k1, o :: r, K => match o with
    | none => natK (k1 + 1) fun k2 => matHK σ H k2 r K
    | some o1 => match sgB σ k1 with
      | some k => getHK H k fun o => matA σ o o1 (natK (k1 + 1) fun k2 => matHK σ H k2 r K)
      | none => match o1 with
        | .tok _ 0 => natK (k1 + 1) fun k2 => matHK σ H k2 r K
        | _ => False
def isSomeB {α : Type} : Option α → Bool | some _ => true | none => false
def eqO : Option Nat → Nat → Bool | some a, b => Nat.beq a b | none, _ => false
def sgOK1 (σ : Sg) (H H1 : Hp) : Sg → Bool
  | [] => true
  | (a, b) :: r => match eqO (sgB σ b) a && eqO (sgF σ a) b && (!isSomeB (Hget H a) || isSomeB (Hget H1 b)) with | true => sgOK1 σ H H1 r | false => false
def sgId (σ : Sg) (H : Hp) : Nat → Bool
  | 0 => true
  | k + 1 => match !isSomeB (Hget H k) || eqO (sgB σ k) k with | true => sgId σ H k | false => false
def subK (σ : Sg) (p : Nat) (env : Env) (H : Hp) (env1 : Env) (H1 : Hp) (K : Prop) : Prop :=
  ifK (sgOK1 σ H H1 σ && sgId σ H p) (matPs σ env env1 (matHK σ H 0 H1 K))
theorem eqO_iff {o : Option Nat} {a : Nat} : eqO o a = true ↔ o = some a := by
  cases o with
  | none => simp [eqO]
  | some b => simp [eqO, Nat.beq_eq]
theorem sgOK1_sound {σ : Sg} {H H1 : Hp} : ∀ {r : Sg}, sgOK1 σ H H1 r = true → ∀ x ∈ r, sgB σ x.2 = some x.1 ∧ sgF σ x.1 = some x.2 ∧ ((Hget H x.1).isSome → (Hget H1 x.2).isSome) := by
  intro r
  induction r with
  | nil => intro _ x hx; simp at hx
  | cons y r ih =>
    intro h x hx
    obtain ⟨a, b⟩ := y
    simp only [sgOK1] at h
    split at h
    · rename_i hb
      rcases List.mem_cons.1 hx with e | hx
      · subst e
        simp only [Bool.and_eq_true, eqO_iff, Bool.or_eq_true] at hb
        refine ⟨hb.1.1, hb.1.2, fun hs => ?_⟩
        rcases hb.2 with h1 | h1
        · cases e : Hget H a with
          | none => rw [e] at hs; simp at hs
          | some o => rw [e] at h1; simp [isSomeB] at h1
        · cases e : Hget H1 b with
          | none => rw [e] at h1; simp [isSomeB] at h1
          | some o => rfl
      · exact ih h x hx
    · cases h
theorem sgId_sound {σ : Sg} {H : Hp} : ∀ {p : Nat}, sgId σ H p = true → ∀ k, k < p → Hget H k ≠ none → sgB σ k = some k := by
  intro p
  induction p with
  | zero => intro _ k hk; omega
  | succ p ih =>
    intro h k hk hne
    simp only [sgId] at h
    split at h
    · rename_i hb
      by_cases e : k = p
      · subst e
        cases hg : Hget H k with
        | none => exact absurd hg hne
        | some o => rw [hg] at hb; simpa [isSomeB, eqO_iff] using hb
      · exact ih h k (by omega) hne
    · cases h
theorem sgB_mem {σ : Sg} {k k1 : Nat} (h : sgB σ k1 = some k) : (k, k1) ∈ σ := by
  induction σ with
  | nil => cases h
  | cons x r ih =>
    obtain ⟨a, b⟩ := x
    simp only [sgB] at h
    cases hb : Nat.beq b k1 with
    | true => rw [hb] at h; cases h; rw [Nat.eq_of_beq_eq_true hb]; simp
    | false => rw [hb] at h; exact List.mem_cons_of_mem _ (ih h)
section
variable {σ : Sg} (hinj : ∀ x ∈ σ, sgB σ x.2 = some x.1)
include hinj
theorem matC_sound {c c1 : CL} {K : Prop} (h : matC σ c c1 K) : K ∧ c1.ncell = c.ncell ∧ ∀ j, j < c.ncell → ∀ {S : Imm} {w : World} {ι : Ix} {v : Value}, Rep S w ι (c.get j) v → Rep S w (ι.ren σ) (c1.get j) v := by
  unfold matC at h
  split at h
  · split at h
    · obtain ⟨h, h1, h2⟩ := matPs_sound hinj h
      exact ⟨h, h1.symm, fun j _ S w ι v hr => h2 j hr⟩
    · exact h.elim
  · split at h
    · rw [ifK_iff] at h
      obtain ⟨h1, ⟨h2⟩, h3⟩ := h
      have h1 := of_decide_eq_true h1; subst h1; subst h2
      exact ⟨h3, rfl, fun j _ S w ι v hr => by cases hr; exact .int _ _ _⟩
    · exact h.elim
  · split at h
    · obtain ⟨⟨h2⟩, h3⟩ := h; subst h2
      exact ⟨h3, rfl, fun j _ S w ι v hr => by cases hr; exact .bp _ _⟩
    · exact h.elim
  · split at h
    · obtain ⟨⟨h2⟩, h3⟩ := h; subst h2
      exact ⟨h3, rfl, fun j _ S w ι v hr => by cases hr; exact .str _ _⟩
    · exact h.elim
  · split at h
    · rw [ifK_iff] at h
      obtain ⟨h1, ⟨h2⟩, h3⟩ := h
      have h1 := of_decide_eq_true h1; subst h1; subst h2
      exact ⟨h3, rfl, fun j _ S w ι v hr => hr.toNoI.up _⟩
    · exact h.elim
  · split at h
    · rename_i m' xs
      rw [ifK_iff] at h
      obtain ⟨h1, ⟨h2, h4⟩, h3⟩ := h
      have h1 := Nat.eq_of_beq_eq_true h1; subst h1; subst h2
      have ht : typedK (.recs m' xs) (fun d => d = .recs m' xs) := ⟨h4, rfl⟩
      obtain ⟨d, rfl, d1, d2, d3⟩ := typedK_sound ht
      exact ⟨h3, rfl, fun j hj S w ι v hr => (d3 j hj hr).up _⟩
    · exact h.elim
  · exact h.elim
theorem matE_sound : ∀ {ds es : List (PV × PV)} {K : Prop}, matE σ ds es K → K ∧ ds.length = es.length ∧ ∀ i (h : i < ds.length) (h' : i < es.length) {S : Imm} {w : World} {ι : Ix} {u v : Value},
    Rep S w ι ds[i].1 u → Rep S w ι ds[i].2 v → Rep S w (ι.ren σ) es[i].1 u ∧ Rep S w (ι.ren σ) es[i].2 v := by
  intro ds
  induction ds with
  | nil => intro es K h; cases es with
    | nil => exact ⟨h, rfl, fun i hi => by simp at hi⟩
    | cons => exact h.elim
  | cons d ds ih => intro es K h; cases es with
    | nil => exact h.elim
    | cons e es =>
      obtain ⟨p, u⟩ := d
      obtain ⟨q, v⟩ := e
      obtain ⟨h, h1⟩ := matP_sound hinj h
      obtain ⟨h, h2⟩ := matP_sound hinj h
      obtain ⟨h, h3, h4⟩ := ih h
      refine ⟨h, by simp [h3], fun i hi hi' S w ι a b ha hb => ?_⟩
      cases i with
      | zero => exact ⟨h1 ha, h2 hb⟩
      | succ i => exact h4 i (by simpa using hi) (by simpa using hi') ha hb
theorem matA_sound {o o1 : AO} {K : Prop} (h : matA σ o o1 K) : K ∧ o1.isTok = o.isTok ∧ o1.isExt = o.isExt ∧ o1.excl = o.excl ∧ ∀ {S : Imm} {w : World} {ι : Ix} {k k1 : Nat}, sgB σ k1 = some k → ObjR S w ι k o → ObjR S w (ι.ren σ) k1 o1 := by
  have ko : ∀ {ι : Ix} {k k1 b : Nat}, sgB σ k1 = some k → ι.o k = some b → (ι.ren σ).o k1 = some b := fun h hb => by simp [Ix.ren, h, hb]
  have kt : ∀ {ι : Ix} {k k1 : Nat}, sgB σ k1 = some k → (ι.ren σ).t k1 = ι.t k := fun h => by simp [Ix.ren, h]
  unfold matA at h
  split at h
  · split at h
    · rename_i c1 fz1 c fz
      split at h
      · split at h
        · obtain ⟨⟨h1⟩, h⟩ := h
          subst h1
          exact ⟨h, rfl, rfl, rfl, fun hk ⟨b, g1, g2⟩ => ⟨b, ko hk g1, g2⟩⟩
        · exact h.elim
      · split at h
        · exact h.elim
        · obtain ⟨h, h1, h2⟩ := matC_sound hinj h
          refine ⟨h, rfl, rfl, rfl, fun hk ⟨b, arr, e, g1, g2, g3, g4, g5⟩ => ⟨b, arr, e, ko hk g1, g2, by omega, fun j hj => ?_, g5⟩⟩
          have := g4 j (by omega)
          exact h2 j (by omega) this
    · exact h.elim
  · split at h
    · rw [ifK_iff] at h
      obtain ⟨h1, ⟨h2⟩, h⟩ := h
      have h1 := Nat.eq_of_beq_eq_true h1; subst h1; subst h2
      refine ⟨h, rfl, rfl, rfl, fun hk ⟨g1, g2⟩ => ⟨fun hz => by rw [kt hk]; exact g1 hz, fun hz => ?_⟩⟩
      obtain ⟨b, arr, e, q1, q2, q3⟩ := g2 hz
      exact ⟨b, arr, e, by rw [kt hk]; exact q1, q2, q3⟩
    · exact h.elim
  · split at h
    · obtain ⟨h, h1, h2⟩ := matE_sound hinj h
      refine ⟨h, rfl, rfl, rfl, fun hk ⟨b, ents, clock, g1, g2, g3, g4⟩ => ⟨b, ents, clock, ko hk g1, g2, by omega, fun i hi hi' => ?_⟩⟩
      obtain ⟨q1, q2⟩ := g4 i (by omega) hi'
      exact h2 i (by omega) hi q1 q2
    · exact h.elim
  · split at h
    · exact ⟨h, rfl, rfl, rfl, fun hk ⟨b, g1, g2⟩ => ⟨b, ko hk g1, g2⟩⟩
    · exact h.elim
  · split at h
    · obtain ⟨⟨h1, h2⟩, h⟩ := h
      subst h1; subst h2
      refine ⟨h, rfl, rfl, rfl, fun {S w ι k k1} hk ⟨g1, g2, g3⟩ => ?_⟩
      have hx : (ι.ren σ).x k1 = ι.x k := by funext b; simp [Ix.ren, hk]
      exact ⟨by rw [hx]; exact g1, g2, by rw [hx]; exact g3⟩
    · exact h.elim
  · split at h
    · obtain ⟨⟨h1, h2⟩, h⟩ := h
      subst h1; subst h2
      obtain ⟨h, h3, h4⟩ := rcEq_sound h
      refine ⟨h, rfl, rfl, rfl, fun {S w ι k k1} hk hr => ?_⟩
      have hx : (ι.ren σ).x k1 = ι.x k := by funext b; simp [Ix.ren, hk]
      have hr : MatR S w ι k _ _ _ := hr
      exact (hr.cong (by simp [Ix.ren, hk]) hx).with h4
    · exact h.elim
  · split at h
    · obtain ⟨⟨h1⟩, h⟩ := h
      subst h1
      obtain ⟨h, h3, h4⟩ := rcEq_sound h
      refine ⟨h, rfl, rfl, rfl, fun {S w ι k k1} hk hr => ?_⟩
      have hx : (ι.ren σ).x k1 = ι.x k := by funext b; simp [Ix.ren, hk]
      obtain ⟨all, l, rc', g1, g2, g3, g4, g6, g5⟩ := hr
      exact ⟨all, l, rc', g1.cong (by simp [Ix.ren, hk]) hx, RC.kin_trans g2 h3, g3, g4, g6, fun i hi => (g5 i hi).trans (h4 i hi)⟩
    · rename_i all l rc'
      obtain ⟨⟨h1, h2, h6⟩, h⟩ := h
      obtain ⟨h, h3, h4⟩ := rcEq_sound h
      refine ⟨h, rfl, rfl, rfl, fun {S w ι k k1} hk hr => ?_⟩
      have hx : (ι.ren σ).x k1 = ι.x k := by funext b; simp [Ix.ren, hk]
      have hr : MatR S w ι k _ _ _ := hr
      exact ⟨all, l, rc', hr.cong (by simp [Ix.ren, hk]) hx, h3, h1, h2, h6, h4⟩
    · exact h.elim
  · exact h.elim
theorem matHK_sound {H : Hp} : ∀ {l : Hp} {k1 : Nat} {K : Prop}, matHK σ H k1 l K → K ∧ ∀ i o1, Hget l i = some o1 →
    (∃ k o, sgB σ (k1 + i) = some k ∧ Hget H k = some o ∧ o1.isTok = o.isTok ∧ o1.isExt = o.isExt ∧ o1.excl = o.excl ∧ ∀ {S : Imm} {w : World} {ι : Ix}, ObjR S w ι k o → ObjR S w (ι.ren σ) (k1 + i) o1) ∨
    (sgB σ (k1 + i) = none ∧ ∃ m, o1 = .tok m 0) := by
  intro l
  induction l with
  | nil => intro k1 K h; exact ⟨h, fun i o1 ho => by simp [Hget] at ho⟩
  | cons o l ih =>
    intro k1 K h
    unfold matHK at h
    have shift : ∀ i, k1 + 1 + i = k1 + (i + 1) := fun i => by omega
    split at h
    · rw [natK_eq] at h
      obtain ⟨h, h1⟩ := ih h
      refine ⟨h, fun i o1 ho => ?_⟩
      cases i with
      | zero => simp [Hget] at ho
      | succ i => rw [← shift]; exact h1 i o1 ho
    · rename_i o1
      split at h
      · rename_i k hk
        rw [getHK_iff] at h
        obtain ⟨ob, hob, h⟩ := h
        obtain ⟨h, a1, a2, a3, a4⟩ := matA_sound hinj h
        rw [natK_eq] at h
        obtain ⟨h, h1⟩ := ih h
        refine ⟨h, fun i o2 ho => ?_⟩
        cases i with
        | zero =>
          simp only [Hget, Option.some.injEq] at ho
          subst ho
          exact .inl ⟨k, ob, hk, hob, a1, a2, a3, fun hh => a4 hk hh⟩
        | succ i => rw [← shift]; exact h1 i o2 ho
      · rename_i hk
        split at h
        · rename_i m
          rw [natK_eq] at h
          obtain ⟨h, h1⟩ := ih h
          refine ⟨h, fun i o2 ho => ?_⟩
          cases i with
          | zero => simp only [Hget, Option.some.injEq] at ho; exact .inr ⟨hk, m, ho.symm⟩
          | succ i => rw [← shift]; exact h1 i o2 ho
        · exact h.elim
end
theorem subK_sound {B : Imm → World → Prop} {σ : Sg} {p : Nat} {env env1 : Env} {H H1 : Hp} {K : Prop} (h : subK σ p env H env1 H1 K) : K ∧ Sub B p env H env1 H1 := by
  unfold subK at h
  rw [ifK_iff, Bool.and_eq_true] at h
  obtain ⟨⟨h1, h2⟩, h⟩ := h
  have hs := sgOK1_sound h1
  have hinj : ∀ x ∈ σ, sgB σ x.2 = some x.1 := fun x hx => (hs x hx).1
  obtain ⟨h, h3, h4⟩ := matPs_sound hinj h
  obtain ⟨h, h5⟩ := matHK_sound hinj h
  simp only [Nat.zero_add] at h5
  refine ⟨h, fun S0 w0 ι0 H0 a w hA => ?_⟩
  obtain ⟨S, ι, hb, M, R, D, D', T⟩ := hA.ex
  have hfun : ∀ {k k1 k2 : Nat}, sgB σ k1 = some k → sgB σ k2 = some k → k1 = k2 := fun e1 e2 => by
    have a1 := (hs _ (sgB_mem e1)).2.1
    have a2 := (hs _ (sgB_mem e2)).2.1
    simp only at a1 a2
    rw [a1] at a2; exact Option.some.inj a2
  have hhas : ∀ {k k1 : Nat} {o o1 : AO} {b : Nat}, sgB σ k1 = some k → o1.isTok = o.isTok → o1.isExt = o.isExt → o1.excl = o.excl → (o1.has (ι.ren σ) k1 b ↔ o.has ι k b) := by
    intro k k1 o o1 b hk ht he hx
    exact has_congr (by simp [Ix.ren, hk]) (by simp [Ix.ren, hk]) (by funext b; simp [Ix.ren, hk]) ht he hx b
  have hvirg : ∀ {k1 b m : Nat}, sgB σ k1 = none → ¬ (AO.tok m 0).has (ι.ren σ) k1 b := by
    intro k1 b m hk hh
    obtain ⟨n, hh⟩ := hh
    simp [Ix.ren, hk] at hh
  have hown : ∀ b, owned (ι.ren σ) H1 b → owned ι H b := by
    rintro b ⟨k1, o1, g1, g2, g3⟩
    rcases h5 k1 o1 g1 with ⟨k, o, q1, q2, q3, q4, q5, q6⟩ | ⟨q1, m, rfl⟩
    · exact ⟨k, o, q2, q5 ▸ g2, (hhas q1 q3 q4 q5).1 g3⟩
    · exact absurd g3 (hvirg q1)
  refine ⟨S, ι.ren σ, hb, ⟨?_, ?_, ?_, ?_, M.imm⟩, ⟨h3 ▸ R.1, fun i hi => h4 i (R.2 i (by omega))⟩, ⟨fun d hd => ?_, D.nodup⟩, D', ?_⟩
  · intro k1 o1 g1
    rcases h5 k1 o1 g1 with ⟨k, o, q1, q2, q3, q4, q5, q6⟩ | ⟨q1, m, rfl⟩
    · exact q6 (M.obj k o q2)
    · exact ⟨fun _ => by simp [Ix.ren, q1], fun h => by omega⟩
  · intro k1 b g1
    cases e : sgB σ k1 with
    | none => simp [Ix.ren, e] at g1
    | some k =>
      simp only [Ix.ren, e, Option.bind_some] at g1
      obtain ⟨o, q1, q2⟩ := M.liveO k b g1
      have hsome := (hs _ (sgB_mem e)).2.2 (by simp [q1])
      obtain ⟨o1, ho1⟩ := Option.isSome_iff_exists.1 hsome
      rcases h5 k1 o1 ho1 with ⟨k', o', r1, r2, r3, _⟩ | ⟨r1, _⟩
      · rw [e] at r1; cases r1; rw [q1] at r2; cases r2; exact ⟨o1, ho1, r3.trans q2⟩
      · rw [e] at r1; cases r1
  · intro k1 b g1
    cases e : sgB σ k1 with
    | none => simp [Ix.ren, e] at g1
    | some k =>
      simp only [Ix.ren, e, Option.bind_some] at g1
      obtain ⟨o, q1, q2⟩ := M.liveT k b g1
      have hsome := (hs _ (sgB_mem e)).2.2 (by simp [q1])
      obtain ⟨o1, ho1⟩ := Option.isSome_iff_exists.1 hsome
      rcases h5 k1 o1 ho1 with ⟨k', o', r1, r2, r3, _⟩ | ⟨r1, _⟩
      · rw [e] at r1; cases r1; rw [q1] at r2; cases r2; exact ⟨o1, ho1, r3.trans q2⟩
      · rw [e] at r1; cases r1
  · intro k1 k2 o1 o2 b g1 g2 b1 b2
    rcases h5 k1 o1 g1 with ⟨ka, oa, q1, q2, q3, q4, q5, q6⟩ | ⟨q1, m, rfl⟩
    · rcases h5 k2 o2 g2 with ⟨kb, ob, r1, r2, r3, r4, r5, r6⟩ | ⟨r1, m, rfl⟩
      · have := M.dist ka kb oa ob b q2 r2 ((hhas q1 q3 q4 q5).1 b1) ((hhas r1 r3 r4 r5).1 b2)
        subst this
        exact hfun q1 r1
      · exact absurd b2 (hvirg r1)
    · exact absurd b1 (hvirg q1)
  · obtain ⟨b, q1, q2, q3⟩ := D.all d hd
    exact ⟨b, q1, q2, fun hh => q3 (hown b hh)⟩
  · refine ⟨T.below, T.same, T.keeps, T.immN, fun b hh => T.own b (hown b hh), fun k hk b hi => ?_, fun k hk b n hi => ?_⟩
    · have := T.protO k hk b hi
      obtain ⟨o, ho, _⟩ := M.liveO k b this
      simp [Ix.ren, sgId_sound h2 k hk (by rw [ho]; simp), this]
    · obtain ⟨b', n', r1, r2⟩ := T.protT k hk b n hi
      obtain ⟨o, ho, _⟩ := M.liveT k _ r1
      exact ⟨b', n', by simp [Ix.ren, sgId_sound h2 k hk (by rw [ho]; simp), r1], r2⟩
end Go.Eng
namespace Go.Eng
open Go.RowKit
set_option linter.unusedVariables false
set_option linter.unusedSimpArgs false
/-- the temporaries that code assigns -/
def dstsOps : List Oper → List Nat
  | [] => []
  | o :: r => match o.dst with | some d => d :: dstsOps r | none => dstsOps r
def dstsOf : Code → List Nat
  | .region _ ops _ => dstsOps ops.toList
  | .seq a b => dstsOf a ++ dstsOf b
  | .cond _ a b => dstsOf a ++ dstsOf b
  | .block _ c => dstsOf c
  | .loop c => dstsOf c
  | .scope c => dstsOf c
  | .rangeFunc _ ps a b => ps.toList ++ dstsOf a ++ dstsOf b
  | _ => []
def clrE : Nat → Env → List Nat → Env
  | _, [], _ => []
  | i, v :: r, ds => (match memN i ds with | true => .any | false => v) :: clrE (i + 1) r ds
def updE : Env → List (Nat × PV) → Env
  | env, [] => env
  | env, (i, v) :: r => updE (env.set i v) r
/-- the environment of a loop's state -/
def stE (c : Code) (env : Env) (us : List (Nat × PV)) : Env := updE (clrE 0 env (dstsOf c)) us
/-- old names for the objects of H1: as told, else the same -/
def sgOf (extra : Sg) (H : Hp) : Nat → Hp → Sg
  | _, [] => []
  | k, o :: r => match o with
    | none => sgOf extra H (k + 1) r
    | some _ => match sgB extra k with
      | some a => (a, k) :: sgOf extra H (k + 1) r
      | none => match Hget H k with
        | some _ => match sgF extra k with
          | none => (k, k) :: sgOf extra H (k + 1) r
          | some _ => sgOf extra H (k + 1) r
        | none => sgOf extra H (k + 1) r
def forceS (σ : Sg) (K : Sg → Prop) : Prop :=
  match σ with
  | [] => K []
  | (a, b) :: r => natK a fun a => natK b fun b => forceS r fun r => K ((a, b) :: r)
theorem forceS_eq (σ : Sg) (K : Sg → Prop) : forceS σ K = K σ := by
  induction σ generalizing K with
  | nil => rfl
  | cons x r ih => obtain ⟨a, b⟩ := x; simp only [forceS, natK_eq, ih]
/-- on to the next round -/
structure Nx (q : Prop) : Prop where
  get : q
structure Ok : Prop where
section
variable {P : Program} {r : Option Nat} {τ : TypeId → Option TE} {B : Imm → World → Prop} {p : Nat}
structure Walk (P : Program) (r : Option Nat) (B : Imm → World → Prop) (τ : TypeId → Option TE) (CP : CPT) (YP : YPT) : Prop where
  hB : BOK B
  hm : P.follows .mixedOrders = true
  hτ : TabOK P τ
  hC : CPOKB P B CP
  hY : YPOK P r B YP
theorem loop_of {X : Type} (I : X → Prop) (us : X → List (Nat × PV)) (hs : X → List (Nat × AO)) (μ : X → Nat) (x0 : X) {md rf CP YP} (W : Walk P r B τ CP YP)
    {c : Code} {n : Nat} {Q : Exit → Env → Hp → Prop} {env : Env} {H : Hp} (hok : codeOK c = true) (hI : I x0)
    (h0 : putsHK (hs x0) H fun H1 => forceL (stE c env (us x0)) fun env1 => forceS (sgOf [] H 0 H1) fun σ => subK σ p env H env1 H1 Ok)
    (hb : ∀ x, I x → putsHK (hs x) H fun H1 => forceL (stE c env (us x)) fun env1 => ev P r B p τ md rf CP YP c n env1 H1 fun e env' H' _ => match e with
      | .normal => Nx (∃ (x' : X) (extra : Sg), (I x' ∧ μ x' < μ x) ∧ putsHK (hs x') H fun H1 => forceL (stE c env (us x')) fun env1 => forceS (sgOf extra H' 0 H1) fun σ => subK σ p env' H' env1 H1 Ok)
      | e => Q e env' H') : Lp md rf CP YP n (AW P r B p (.loop c) Q env H) := by
  refine ⟨aw_loop (X := { x : X // I x }) (fun x => (stE c env (us x.1), Hputs H (hs x.1))) (fun x => μ x.1) ⟨x0, hI⟩ ?_ fun x => ?_⟩
  · simp only [putsHK_eq, forceL_eq, forceS_eq] at h0
    exact (subK_sound h0).2
  · have h := hb x.1 x.2
    simp only [putsHK_eq, forceL_eq, forceS_eq] at h
    refine (ev_sound W.hB W.hm W.hτ W.hC W.hY c hok _ _ _ _ h).mono ?_
    rintro e env' H' ⟨_, h⟩
    cases e with
    | normal =>
      obtain ⟨x', extra, ⟨h0, h1⟩, h2⟩ := h.get
      exact ⟨⟨x', h0⟩, h1, (subK_sound h2).2⟩
    | _ => exact h
end
/-! contracts in a table -/
abbrev CT := List PV → Nat → Hp → KR → Prop
def COK (P : Program) (g : FuncId) (C : CT) : Prop := ∀ args n H K, C args n H K → ∃ v sets accs news, K v sets accs news ∧ CallSound P g args H v sets accs news
def cpAdd (g : FuncId) (C : CT) (CP : CPT) : CPT := fun f args n H K => match Nat.beq f g with | true => C args n H K | false => CP f args n H K
theorem cpAdd_ok {P : Program} {g : FuncId} {C : CT} {CP : CPT} (h : COK P g C) (hC : CPOK P CP) : CPOK P (cpAdd g C CP) := by
  intro f args n H K hk
  unfold cpAdd at hk
  cases hb : Nat.beq f g with
  | true => rw [hb] at hk; rw [Nat.eq_of_beq_eq_true hb]; exact h _ _ _ _ hk
  | false => rw [hb] at hk; exact hC _ _ _ _ _ hk
/-- a function of values alone: its arguments' condition and its result -/
abbrev PSp := List PV → (PV → Prop) → Prop
def POK (P : Program) (g : FuncId) (C : PSp) : Prop := ∀ as K, C as K → ∃ v, K v ∧ PSpec P g as v
def pureCC (C : PSp) : CT := fun args n H K => pureK args fun as => C as fun v => K v [] [] []
theorem pureCC_ok {P : Program} {g : FuncId} {C : PSp} (h : POK P g C) : COK P g (pureCC C) := by
  intro args n H K hk
  unfold pureCC pureK at hk
  split at hk
  · rename_i as ha
    rw [forceL_eq] at hk
    obtain ⟨v, hK, hs⟩ := h _ _ hk
    exact ⟨v, [], [], [], hK, callSound_of_pspec ha hs⟩
  · exact hk.elim
end Go.Eng
namespace Go.Eng
open Go.RowKit
end Go.Eng
namespace Go.Eng
/-! loops of few rounds, walked round by round -/
structure Rn (md : Nat) (rf : List Nat) (CP : CPT) (YP : YPT) (n : Nat) (q : Prop) : Prop where
  get : q
section
variable {P : Program} {r : Option Nat} {τ : TypeId → Option TE} {B : Imm → World → Prop} {p : Nat}
def AWR (P : Program) (r : Option Nat) (B : Imm → World → Prop) (p : Nat) (m : Nat) (c : Code) (Q : Exit → Env → Hp → Prop) (env : Env) (H : Hp) : Prop :=
  ∀ (S0 : Imm) (w0 : World) (ι0 : Ix) (H0 : Hp) (a : Act) (w : World), At B p S0 w0 ι0 H0 env H a w →
    Code.roundsIn (Fw r) 0 P c (fun e a' w' => ∃ env' H', Q e env' H' ∧ At B p S0 w0 ι0 H0 env' H' a' w') m a w
theorem loop_rounds (m : Nat) {md rf CP YP} {c : Code} {n : Nat} {Q : Exit → Env → Hp → Prop} {env : Env} {H : Hp} (h : Rn md rf CP YP n (AWR P r B p m c Q env H)) : Lp md rf CP YP n (AW P r B p (.loop c) Q env H) :=
  ⟨fun S0 w0 ι0 H0 a w hA => wpIn_loop_rounds m (h.get S0 w0 ι0 H0 a w hA)⟩
theorem rounds_succ {md rf CP YP} (W : Walk P r B τ CP YP) {m : Nat} {c : Code} {n : Nat} {Q : Exit → Env → Hp → Prop} {env : Env} {H : Hp} (hok : codeOK c = true)
    (h : ev P r B p τ md rf CP YP c n env H fun e env' H' n' => match e with
      | .normal => Rn md rf CP YP n' (AWR P r B p m c Q env' H')
      | e => Q e env' H') : Rn md rf CP YP n (AWR P r B p (m + 1) c Q env H) := by
  refine ⟨fun S0 w0 ι0 H0 a w hA => ?_⟩
  rw [roundsIn_succ]
  refine wpIn_mono (ev_sound W.hB W.hm W.hτ W.hC W.hY c hok _ _ _ _ h S0 w0 ι0 H0 a w hA) ?_
  rintro e a' w' ⟨env', H', ⟨n', h⟩, hA'⟩
  cases e with
  | normal => exact h.get S0 w0 ι0 H0 a' w' hA'
  | _ => exact ⟨env', H', h, hA'⟩
end
end Go.Eng
namespace Go.Eng
open Go.RowKit
set_option linter.unusedVariables false
set_option linter.unusedSimpArgs false
def renPs (σ : Sg) : List PV → Option (List PV)
  | [] => some []
  | x :: xs => match renP σ x with
    | some y => match renPs σ xs with
      | some ys => some (y :: ys)
      | none => none
    | none => none
theorem renPs_to {S : Imm} {w : World} {σ : Sg} {ι ι1 : Ix} (R : RenTo σ ι ι1) : ∀ {ps qs : List PV}, renPs σ ps = some qs → qs.length = ps.length ∧ ∀ i, i < ps.length → ∀ {v : Value}, Rep S w ι (getL ps i) v → Rep S w ι1 (getL qs i) v := by
  intro ps
  induction ps with
  | nil => intro qs h; simp [renPs] at h; subst h; exact ⟨rfl, fun i hi => by simp at hi⟩
  | cons p ps ih =>
    intro qs h
    unfold renPs at h
    split at h
    · rename_i y hy
      split at h
      · rename_i ys hys
        cases h
        obtain ⟨h1, h2⟩ := ih hys
        refine ⟨by simp [h1], fun i hi => ?_⟩
        cases i with
        | zero => intro v hr; exact renP_to R hy hr
        | succ i => exact h2 i (by simpa using hi)
      · cases h
    · cases h
def renMs (σ : Sg) : List (PV × PV) → Option (List (PV × PV))
  | [] => some []
  | (p, u) :: xs => match renP σ p with
    | some q => match renP σ u with
      | some v => match renMs σ xs with
        | some ys => some ((q, v) :: ys)
        | none => none
      | none => none
    | none => none
theorem renMs_to {S : Imm} {w : World} {σ : Sg} {ι ι1 : Ix} (R : RenTo σ ι ι1) : ∀ {ps qs : List (PV × PV)}, renMs σ ps = some qs → qs.length = ps.length ∧
    ∀ i (h : i < ps.length) (h' : i < qs.length), (∀ {v : Value}, Rep S w ι ps[i].1 v → Rep S w ι1 qs[i].1 v) ∧ (∀ {v : Value}, Rep S w ι ps[i].2 v → Rep S w ι1 qs[i].2 v) := by
  intro ps
  induction ps with
  | nil => intro qs h; simp [renMs] at h; subst h; exact ⟨rfl, fun i hi => by simp at hi⟩
  | cons p ps ih =>
    intro qs h
    obtain ⟨p, u⟩ := p
    unfold renMs at h
    split at h
    · rename_i q hq
      split at h
      · rename_i y hy
        split at h
        · rename_i ys hys
          cases h
          obtain ⟨h1, h2⟩ := ih hys
          refine ⟨by simp [h1], fun i hi hi' => ?_⟩
          cases i with
          | zero => exact ⟨fun hr => renP_to R hq hr, fun hr => renP_to R hy hr⟩
          | succ i => exact h2 i (by simpa using hi) (by simpa using hi')
        · cases h
      · cases h
    · cases h
/-- an object under new names -/
def renO (σ : Sg) : AO → Option AO
  | .cells c fz => match fz with
    | true => some (.cells c true)
    | false => match c with
      | .pv ds => match renPs σ ds with | some es => some (.cells (.pv es) false) | none => none
      | .ints k xs => some (.cells (.ints k xs) false)
      | .bools xs => some (.cells (.bools xs) false)
      | .strs xs => some (.cells (.strs xs) false)
      | .rows k xs => some (.cells (.rows k xs) false)
      | _ => none
  | .tok m n => some (.tok m n)
  | .ext G pre => some (.ext G pre)
  | .mat all l rc => some (.mat all l rc)
  | .pmat n rc => some (.pmat n rc)
  | .map es => match renMs σ es with | some ds => some (.map ds) | none => none
  | _ => none
theorem renO_sound {σ : Sg} {ι ι1 : Ix} (R : RenTo σ ι ι1) {o o1 : AO} (h : renO σ o = some o1) {S : Imm} {w : World} {k k1 : Nat} (ho : ι1.o k1 = ι.o k) (ht : ι1.t k1 = ι.t k) (hx : ι1.x k1 = ι.x k) (hr : ObjR S w ι k o) :
    ObjR S w ι1 k1 o1 ∧ o1.isTok = o.isTok ∧ o1.isExt = o.isExt ∧ o1.excl = o.excl := by
  unfold renO at h
  split at h
  · rename_i c fz
    split at h
    · cases h
      obtain ⟨b, g1, g2⟩ := hr
      exact ⟨⟨b, ho.trans g1, g2⟩, rfl, rfl, rfl⟩
    · obtain ⟨b, arr, e, g1, g2, g3, g4, g5⟩ := hr
      have mk : ∀ c1 : CL, c1.ncell = c.ncell → (∀ j, j < c.ncell → ∀ v, Rep S w ι (c.get j) v → Rep S w ι1 (c1.get j) v) → ObjR S w ι1 k1 (.cells c1 false) :=
        fun c1 hn hc => ⟨b, arr, e, ho.trans g1, g2, by omega, fun j hj => hc j (by omega) _ (g4 j (by omega)), g5⟩
      split at h
      · split at h
        · rename_i ds es hes
          cases h
          obtain ⟨q1, q2⟩ := renPs_to R hes (S := S) (w := w)
          exact ⟨mk _ q1 (fun j hj v hv => q2 j hj hv), rfl, rfl, rfl⟩
        · cases h
      · cases h; exact ⟨mk _ rfl (fun j hj v hv => by cases hv; exact .int _ _ _), rfl, rfl, rfl⟩
      · cases h; exact ⟨mk _ rfl (fun j hj v hv => by cases hv; exact .bp _ _), rfl, rfl, rfl⟩
      · cases h; exact ⟨mk _ rfl (fun j hj v hv => by cases hv; exact .str _ _), rfl, rfl, rfl⟩
      · cases h; exact ⟨mk _ rfl (fun j hj v hv => hv.toNoI.up _), rfl, rfl, rfl⟩
      · cases h
  · cases h
    obtain ⟨g1, g2⟩ := hr
    refine ⟨⟨fun hz => ht.trans (g1 hz), fun hz => ?_⟩, rfl, rfl, rfl⟩
    obtain ⟨b, arr, e, q1, q2, q3⟩ := g2 hz
    exact ⟨b, arr, e, ht.trans q1, q2, q3⟩
  · cases h
    obtain ⟨g1, g2, g3⟩ := hr
    exact ⟨⟨fun b hb => g1 b (by rw [← hx]; exact hb), g2, by rw [hx]; exact g3⟩, rfl, rfl, rfl⟩
  · cases h
    have hr : MatR S w ι k _ _ _ := hr
    exact ⟨hr.cong ho hx, rfl, rfl, rfl⟩
  · cases h
    obtain ⟨all, l, rc', g1, g2⟩ := hr
    exact ⟨⟨all, l, rc', g1.cong ho hx, g2⟩, rfl, rfl, rfl⟩
  · split at h
    · rename_i ds hds
      cases h
      obtain ⟨b, ents, clock, g1, g2, g3, g4⟩ := hr
      obtain ⟨q1, q2⟩ := renMs_to (S := S) (w := w) R hds
      exact ⟨⟨b, ents, clock, ho.trans g1, g2, g3.trans q1.symm, fun i hl hl' => ⟨(q2 i (by omega) hl).1 (g4 i (by omega) hl').1, (q2 i (by omega) hl).2 (g4 i (by omega) hl').2⟩⟩, rfl, rfl, rfl⟩
    · cases h
  · cases h
/-- names that go both ways -/
structure SgOK (σ : Sg) : Prop where
  b : ∀ x ∈ σ, sgB σ x.2 = some x.1
  f : ∀ x ∈ σ, sgF σ x.1 = some x.2
theorem SgOK.inj {σ : Sg} (h : SgOK σ) {k k1 k2 : Nat} (e1 : sgB σ k1 = some k) (e2 : sgB σ k2 = some k) : k1 = k2 := by
  have a1 := h.f _ (sgB_mem e1)
  have a2 := h.f _ (sgB_mem e2)
  simp only at a1 a2
  rw [a1] at a2; exact Option.some.inj a2
theorem SgOK.fb {σ : Sg} (h : SgOK σ) {k k' : Nat} (e : sgF σ k = some k') : sgB σ k' = some k := sgF_sgB e h.b
theorem SgOK.bf {σ : Sg} (h : SgOK σ) {k k' : Nat} (e : sgB σ k' = some k) : sgF σ k = some k' := h.f _ (sgB_mem e)
/-- the objects that are lent, seen by the callee -/
theorem Mem.lend {S : Imm} {w : World} {ι : Ix} {H H1 : Hp} (M : Mem S w ι H) {σ : Sg} (hσ : SgOK σ) (hA : ∀ k1 o1, Hget H1 k1 = some o1 → ∃ k o, sgB σ k1 = some k ∧ Hget H k = some o ∧ renO σ o = some o1)
    (hB : ∀ k k1, sgB σ k1 = some k → (Hget H k).isSome → (Hget H1 k1).isSome) : Mem S w (ι.ren σ) H1 ∧ ∀ b, owned (ι.ren σ) H1 b → owned ι H b := by
  have R := renTo_ren hσ.b ι
  have eo : ∀ {k k1}, sgB σ k1 = some k → (ι.ren σ).o k1 = ι.o k := fun h => by simp [Ix.ren, h]
  have et : ∀ {k k1}, sgB σ k1 = some k → (ι.ren σ).t k1 = ι.t k := fun h => by simp [Ix.ren, h]
  have ex : ∀ {k k1}, sgB σ k1 = some k → (ι.ren σ).x k1 = ι.x k := fun h => by funext b; simp [Ix.ren, h]
  have all : ∀ k1 o1, Hget H1 k1 = some o1 → ∃ k o, sgB σ k1 = some k ∧ Hget H k = some o ∧ ObjR S w (ι.ren σ) k1 o1 ∧ o1.isTok = o.isTok ∧ o1.excl = o.excl ∧ ∀ b, o1.has (ι.ren σ) k1 b ↔ o.has ι k b := by
    intro k1 o1 h1
    obtain ⟨k, o, q1, q2, q3⟩ := hA k1 o1 h1
    obtain ⟨r1, r2, r3, r5⟩ := renO_sound R q3 (eo q1) (et q1) (ex q1) (M.obj k o q2)
    refine ⟨k, o, q1, q2, r1, r2, r5, fun b => ?_⟩
    exact has_congr (eo q1) (et q1) (ex q1) r2 r3 r5 b
  refine ⟨⟨fun k1 o1 h1 => ?_, fun k1 b h => ?_, fun k1 b h => ?_, fun k1 k2 o1 o2 b h1 h2 b1 b2 => ?_, M.imm⟩, ?_⟩
  · obtain ⟨k, o, _, _, r, _⟩ := all k1 o1 h1; exact r
  · cases e : sgB σ k1 with
    | none => simp [Ix.ren, e] at h
    | some k =>
      rw [eo e] at h
      obtain ⟨o, g1, g2⟩ := M.liveO k b h
      obtain ⟨o1, ho1⟩ := Option.isSome_iff_exists.1 (hB k k1 e (by simp [g1]))
      obtain ⟨k', o', q1, q2, _, q3, _⟩ := all k1 o1 ho1
      rw [e] at q1; cases q1; rw [g1] at q2; cases q2
      exact ⟨o1, ho1, q3.trans g2⟩
  · cases e : sgB σ k1 with
    | none => simp [Ix.ren, e] at h
    | some k =>
      rw [et e] at h
      obtain ⟨o, g1, g2⟩ := M.liveT k b h
      obtain ⟨o1, ho1⟩ := Option.isSome_iff_exists.1 (hB k k1 e (by simp [g1]))
      obtain ⟨k', o', q1, q2, _, q3, _⟩ := all k1 o1 ho1
      rw [e] at q1; cases q1; rw [g1] at q2; cases q2
      exact ⟨o1, ho1, q3.trans g2⟩
  · obtain ⟨ka, oa, p1, p2, _, _, _, p3⟩ := all k1 o1 h1
    obtain ⟨kb, ob, q1, q2, _, _, _, q3⟩ := all k2 o2 h2
    have := M.dist ka kb oa ob b p2 q2 ((p3 b).1 b1) ((q3 b).1 b2)
    subst this
    exact hσ.inj p1 q1
  · rintro b ⟨k1, o1, h1, h2, h3⟩
    obtain ⟨k, o, p1, p2, _, _, p4, p3⟩ := all k1 o1 h1
    exact ⟨k, o, p2, p4 ▸ h2, (p3 b).1 h3⟩
/-- blocks of the callee's names, the others as they were -/
def Ix.merge (ι ιl : Ix) (σ : Sg) : Ix :=
  ⟨fun k => match sgB σ k with | some i => ιl.o i | none => ι.o k, fun k => match sgB σ k with | some i => ιl.t i | none => ι.t k, fun k => match sgB σ k with | some i => ιl.x i | none => ι.x k⟩
theorem renTo_merge {σ : Sg} (hσ : SgOK σ) (ι ιl : Ix) : RenTo σ ιl (ι.merge ιl σ) :=
  ⟨fun k k' b h hb => by simp [Ix.merge, hσ.fb h, hb], fun k k' b h hb => by simp [Ix.merge, hσ.fb h, hb]⟩
/-- the objects that come back from a callee. σ: the callee's names to the caller's; below m: those that were lent -/
theorem Mem.back {S S' : Imm} {w w' : World} {ι ιl' : Ix} {H HL HL' H'' : Hp} {σ τn : Sg} {m : Nat} (M : Mem S w ι H) (hσ : SgOK σ) (hτ : SgOK τn) (M' : Mem S' w' ιl' HL') (T : Tr m S w (ι.ren τn) HL S' w' ιl' HL')
    (hown : ∀ b, owned (ι.ren τn) HL b → owned ι H b)
    (hlent : ∀ i k, sgB σ k = some i → (∃ o', Hget HL' i = some o') ∧ ((i < m ∧ sgB τn i = some k) ∨ Hget H k = none))
    (hleft : ∀ k, sgB σ k = none → Hget H'' k = Hget H k ∧ ∀ i, sgB τn i ≠ some k)
    (hback : ∀ i k, sgB σ k = some i → ∃ o' o'', Hget HL' i = some o' ∧ renO σ o' = some o'' ∧ Hget H'' k = some o'')
    (hLown : ∀ b, owned (ι.ren τn) HL b → ∃ i k, sgB τn i = some k ∧ i < m ∧ ∃ o, Hget H k = some o ∧ o.has ι k b) :
    Mem S' w' (ι.merge ιl' σ) H'' ∧ ι.le (ι.merge ιl' σ) ∧ ∀ p, Tr p S w ι H S' w' (ι.merge ιl' σ) H'' := by
  have R := renTo_merge hσ ι ιl'
  have eo : ∀ {i k}, sgB σ k = some i → (ι.merge ιl' σ).o k = ιl'.o i := fun h => by simp [Ix.merge, h]
  have et : ∀ {i k}, sgB σ k = some i → (ι.merge ιl' σ).t k = ιl'.t i := fun h => by simp [Ix.merge, h]
  have no : ∀ {k}, sgB σ k = none → (ι.merge ιl' σ).o k = ι.o k := fun h => by simp [Ix.merge, h]
  have nt : ∀ {k}, sgB σ k = none → (ι.merge ιl' σ).t k = ι.t k := fun h => by simp [Ix.merge, h]
  have ex : ∀ {i k}, sgB σ k = some i → (ι.merge ιl' σ).x k = ιl'.x i := fun h => by simp [Ix.merge, h]
  have nx : ∀ {k}, sgB σ k = none → (ι.merge ιl' σ).x k = ι.x k := fun h => by simp [Ix.merge, h]
  have le : ι.le (ι.merge ιl' σ) := by
    refine ⟨fun k b hb => ?_, fun k b n hb => ?_⟩
    · cases e : sgB σ k with
      | none => rw [no e]; exact hb
      | some i =>
        rw [eo e]
        rcases (hlent i k e).2 with ⟨h1, h2⟩ | h2
        · exact T.protO i h1 b (by simp [Ix.ren, h2, hb])
        · rw [M.none_o h2] at hb; cases hb
    · cases e : sgB σ k with
      | none => rw [nt e]; exact ⟨b, n, hb, .inl ⟨rfl, Nat.le_refl _⟩⟩
      | some i =>
        rw [et e]
        rcases (hlent i k e).2 with ⟨h1, h2⟩ | h2
        · exact T.protT i h1 b n (by simp [Ix.ren, h2, hb])
        · rw [M.none_t h2] at hb; cases hb
  -- the caller's other objects stand where they stood
  have away : ∀ k o b, sgB σ k = none → Hget H k = some o → o.has ι k b → b < w.heap.size ∧ ¬ owned (ι.ren τn) HL b := by
    intro k o b hk ho hb
    refine ⟨(M.obj k o ho).lt hb, fun h => ?_⟩
    obtain ⟨i, k', q1, q2, o', q3, q4⟩ := hLown b h
    have := M.dist k k' o o' b ho q3 hb q4
    subst this
    exact (hleft k hk).2 i q1
  have inn : ∀ i k o'', sgB σ k = some i → Hget H'' k = some o'' → ∃ o', Hget HL' i = some o' ∧ ObjR S' w' (ι.merge ιl' σ) k o'' ∧ o''.isTok = o'.isTok ∧ o''.excl = o'.excl ∧ ∀ b, o''.has (ι.merge ιl' σ) k b ↔ o'.has ιl' i b := by
    intro i k o'' hk h''
    obtain ⟨o', o2, p1, p2, p3⟩ := hback i k hk
    rw [h''] at p3; cases p3
    obtain ⟨r1, r2, r3, r5⟩ := renO_sound R p2 (eo hk) (et hk) (ex hk) (M'.obj i o' p1)
    refine ⟨o', p1, r1, r2, r5, fun b => ?_⟩
    exact has_congr (eo hk) (et hk) (ex hk) r2 r3 r5 b
  have nhas : ∀ {k o b}, sgB σ k = none → (AO.has (ι.merge ιl' σ) k o b ↔ AO.has ι k o b) := by
    intro k o b hk
    cases o <;> simp [AO.has, no hk, nt hk, nx hk]
  have mixed : ∀ i k1 k2 o1 o2 b, sgB σ k1 = some i → sgB σ k2 = none → Hget H'' k1 = some o1 → Hget H k2 = some o2 → o1.has (ι.merge ιl' σ) k1 b → o2.has ι k2 b → False := by
    intro i k1 k2 o1 o2 b e1 e2 h1 h2 b1 b2
    obtain ⟨hlt, hno⟩ := away k2 o2 b e2 h2 b2
    obtain ⟨o', p1, _, p3, p4, p5⟩ := inn i k1 o1 e1 h1
    have hb' := (p5 b).1 b1
    rcases T.own b ⟨i, o', p1, has_excl hb', hb'⟩ with h | h
    · exact hno h
    · omega
  refine ⟨⟨fun k o'' h'' => ?_, fun k b hb => ?_, fun k b hb => ?_, fun k1 k2 o1 o2 b h1 h2 b1 b2 => ?_, M'.imm⟩, le, fun p => ⟨T.below, fun b hb ho => T.same b hb (fun h => ho (hown b h)), T.keeps, fun b j hb hs => Or.imp id (hown b) (T.immN b j hb hs), ?_, fun k _ b hb => le.o k b hb, fun k _ b n hb => le.t k b n hb⟩⟩
  · cases e : sgB σ k with
    | some i => obtain ⟨_, _, r, _⟩ := inn i k o'' e h''; exact r
    | none =>
      rw [(hleft k e).1] at h''
      exact (M.obj k o'' h'').mono T.keeps le T.below (fun b hb => T.same b (away k o'' b e h'' hb).1 (away k o'' b e h'' hb).2) (fun _ => nt e) (nx e)
        (fun b j hb hs => (T.immN b j (away k o'' b e h'' hb).1 hs).resolve_right (away k o'' b e h'' hb).2)
  · cases e : sgB σ k with
    | some i =>
      rw [eo e] at hb
      obtain ⟨o', g1, g2⟩ := M'.liveO i b hb
      obtain ⟨o2, o'', p1, p2, p3⟩ := hback i k e
      obtain ⟨o3, q1, _, q3, _⟩ := inn i k o'' e p3
      rw [g1] at q1; cases q1
      exact ⟨o'', p3, q3.trans g2⟩
    | none => rw [no e] at hb; rw [(hleft k e).1]; exact M.liveO k b hb
  · cases e : sgB σ k with
    | some i =>
      rw [et e] at hb
      obtain ⟨o', g1, g2⟩ := M'.liveT i b hb
      obtain ⟨o2, o'', p1, p2, p3⟩ := hback i k e
      obtain ⟨o3, q1, _, q3, _⟩ := inn i k o'' e p3
      rw [g1] at q1; cases q1
      exact ⟨o'', p3, q3.trans g2⟩
    | none => rw [nt e] at hb; rw [(hleft k e).1]; exact M.liveT k b hb
  · cases e1 : sgB σ k1 with
    | some i1 =>
      cases e2 : sgB σ k2 with
      | some i2 =>
        obtain ⟨oa, p1, _, _, _, p5⟩ := inn i1 k1 o1 e1 h1
        obtain ⟨ob, q1, _, _, _, q5⟩ := inn i2 k2 o2 e2 h2
        have := M'.dist i1 i2 oa ob b p1 q1 ((p5 b).1 b1) ((q5 b).1 b2)
        subst this
        exact hσ.inj e1 e2
      | none => rw [(hleft k2 e2).1] at h2; exact (mixed i1 k1 k2 o1 o2 b e1 e2 h1 h2 b1 ((nhas e2).1 b2)).elim
    | none =>
      rw [(hleft k1 e1).1] at h1
      cases e2 : sgB σ k2 with
      | some i2 => exact (mixed i2 k2 k1 o2 o1 b e2 e1 h2 h1 b2 ((nhas e1).1 b1)).elim
      | none => rw [(hleft k2 e2).1] at h2; exact M.dist k1 k2 o1 o2 b h1 h2 ((nhas e1).1 b1) ((nhas e2).1 b2)
  · rintro b ⟨k, o'', h1, h2, h3⟩
    cases e : sgB σ k with
    | some i =>
      obtain ⟨o', p1, _, _, p4, p5⟩ := inn i k o'' e h1
      exact (T.own b ⟨i, o', p1, p4 ▸ h2, (p5 b).1 h3⟩).imp (hown b) id
    | none => rw [(hleft k e).1] at h1; exact .inl ⟨k, o'', h1, h2, (nhas e).1 h3⟩
end Go.Eng
namespace Go.Eng
open Go.RowKit
set_option linter.unusedVariables false
set_option linter.unusedSimpArgs false
def hpOf (l : List AO) : Hp := l.map some
theorem Hget_hpOf (l : List AO) : ∀ k, Hget (hpOf l) k = l[k]? := by
  induction l with
  | nil => intro k; rfl
  | cons o r ih => intro k; cases k with
    | zero => rfl
    | succ k => exact ih k
/-- a contract: values and objects by names 0, 1, .. -/
def LSpecB (P : Program) (B : Imm → World → Prop) (g : FuncId) (args : List PV) (objs : List AO) (rs : List PV) (objs' : List AO) : Prop :=
  ∀ (S : Imm) (w : World) (ι : Ix) (vs : Array Value), B S w → Mem S w ι (hpOf objs) → RepA S w ι args vs →
    CallsIn (Fw none) 0 P g vs w fun e w' => ∃ val S' ι', e = .returned val ∧ Mem S' w' ι' (hpOf objs') ∧ Rep S' w' ι' (resOf rs) val ∧ Tr objs.length S w ι (hpOf objs) S' w' ι' (hpOf objs')
def LSpec (P : Program) (g : FuncId) (args : List PV) (objs : List AO) (rs : List PV) (objs' : List AO) : Prop := Enters P g ∧ LSpecB P anyB g args objs rs objs'
/-- what is to be reckoned at the end of a body -/
def retLK (τ : TypeId → Option TE) (fn : Func) (m : Nat) (extra : Sg) (rs : List PV) (objs' : List AO) (e : Exit) (env : Env) (H : Hp) : Prop :=
  match e with
  | .normal => resK τ fn.results.toList env H fun vs => forceS (sgOf extra H 0 (hpOf objs')) fun σ => subK σ m vs H rs (hpOf objs') Ok
  | .ret => resK τ fn.results.toList env H fun vs => forceS (sgOf extra H 0 (hpOf objs')) fun σ => subK σ m vs H rs (hpOf objs') Ok
  | _ => False
theorem resOf_rep' {S : Imm} {w : World} {ι : Ix} {us : List PV} {vals : List Value} (hlen : us.length = vals.length) (h : ∀ i, i < us.length → Rep S w ι (getL us i) (vals.getD i undef)) :
    Rep S w ι (resOf us) (if h : vals.toArray.size = 1 then vals.toArray[0] else .tuple vals.toArray) := by
  match us, vals, hlen, h with
  | [], [], _, _ => exact .tup _ _ _ rfl (fun i hi => by simp at hi)
  | [u], [x], _, h => simpa [resOf, getL] using h 0 (by simp)
  | u :: u' :: us, x :: x' :: xs, hlen, h =>
    have : ¬ (x :: x' :: xs).toArray.size = 1 := by simp
    rw [dif_neg this]
    refine .tup _ _ _ (by simpa using hlen) (fun i hi => ?_)
    have := h i hi
    rw [Array.getD_eq_getD_getElem?]
    simpa using this
section
variable {P : Program} {τ : TypeId → Option TE} {B : Imm → World → Prop}
theorem lspec_of_aw (hB : BOK B) (hτ : TabOK P τ) {g : FuncId} {fn : Func} {c : Code} {args rs : List PV} {objs objs' : List AO} {extra : Sg} (hf : P.funcs[g]? = some fn) (hb : fn.body = some c)
    (h : AW P none B objs.length c (retLK τ fn objs.length extra rs objs') (args ++ anys (fn.ntmps - args.length)) (hpOf objs)) : LSpecB P B g args objs rs objs' := by
  intro S w ι vs hBw M hr
  have hA : At B objs.length S w ι (hpOf objs) (args ++ anys (fn.ntmps - args.length)) (hpOf objs) { tmps := vs ++ Array.replicate (fn.ntmps - vs.size) undef, defers := [] } w :=
    ⟨S, ι, hBw, M, by rw [hr.1]; exact anys_rep hr _, .nil _ _ _, fun d hd => by simp at hd, .refl _ _ _ _ _⟩
  refine callsIn_of_wp_marks hf hb trivial (wpIn_mono (h S w ι (hpOf objs) _ w hA) ?_)
  rintro e ⟨tmps, ds⟩ w1 ⟨env', H', q, hA1⟩
  have fin : (resK τ fn.results.toList env' H' fun vs => forceS (sgOf extra H' 0 (hpOf objs')) fun σ => subK σ objs.length vs H' rs (hpOf objs') Ok) →
      LeavesInM (Fw none) 0 P fn tmps (fun e w' => ∃ val S' ι', e = .returned val ∧ Mem S' w' ι' (hpOf objs') ∧ Rep S' w' ι' (resOf rs) val ∧ Tr objs.length S w ι (hpOf objs) S' w' ι' (hpOf objs')) ds .returning w1 := by
    intro q
    refine At.leave hB ds w1 hA1 fun w2 hA2 => ?_
    obtain ⟨S2, ι2, hb2, M2, R2, D2, D2', T2⟩ := hA2.ex
    obtain ⟨vs1, q, hs⟩ := resK_sound (P := P) hτ _ q
    rw [forceS_eq] at q
    obtain ⟨vals, r1, r2, r3⟩ := hs M2 R2
    have hA3 : At B objs.length S w ι (hpOf objs) vs1 H' { tmps := vals.toArray, defers := [] } w2 :=
      ⟨S2, ι2, hb2, M2, ⟨by simp [r2], fun i hi => by have := r3 i hi; simpa [Array.getD_eq_getD_getElem?] using this⟩, D2, D2', T2⟩
    have hA4 := (subK_sound (B := B) q).2 _ _ _ _ _ _ hA3
    obtain ⟨S4, ι4, hb4, M4, R4, _, _, T4⟩ := hA4.ex
    have hrun : (results fn tmps).run P w2 = .ok (if h : vals.toArray.size = 1 then vals.toArray[0] else .tuple vals.toArray) w2 := by
      unfold results
      rw [Sem.run_bind, Array.mapM_eq_mapM_toList, ← bind_pure_comp, Sem.run_bind]
      have : (List.mapM (fun (x : ResultVar) => (match x with | .tmp t => pure (tmps.getD t undef) | .cell a t => do loadVar t (← asAddr (tmps.getD a undef)) : Sem Value)) fn.results.toList).run P w2 = .ok vals w2 := r1
      erw [this]
      simp only [Result.andThen, Function.comp, Sem.run_pure]
    refine ⟨_, hrun, _, S4, ι4, rfl, M4, ?_, T4⟩
    have h1 := R4.1
    have h2 := R4.2
    exact resOf_rep' (by simpa using h1) (fun i hi => by have := h2 i hi; simpa [Array.getD_eq_getD_getElem?] using this)
  cases e with
  | normal => exact fin q
  | ret => exact fin q
  | _ => exact q.elim
end
/-- a function with objects walked from its head to its results -/
def bodyLK (P : Program) (B : Imm → World → Prop) (τ : TypeId → Option TE) (md : Nat) (rf : List Nat) (CP : CPT) (YP : YPT) (fn : Func) (args : List PV) (objs : List AO) (n0 : Nat) (extra : Sg) (rs : List PV) (objs' : List AO) : Prop :=
  ev P none B objs.length τ md rf CP YP (fn.body.getD .skip) n0 (args ++ anys (fn.ntmps - args.length)) (hpOf objs) fun e env H _ => retLK τ fn objs.length extra rs objs' e env H
theorem lspec_of {P : Program} {τ : TypeId → Option TE} (hm : P.follows .mixedOrders = true) (hτ : TabOK P τ) {md rf CP} (hC : CPOK P CP) {g : FuncId} {fn : Func} {args rs : List PV} {objs objs' : List AO} (n0 : Nat) (extra : Sg)
    (hf : P.funcs[g]? = some fn) (hn : (fn.name == "runtime.NumGoroutine") = false) (hb : fn.body.isSome = true) (hok : codeOK (fn.body.getD .skip) = true)
    (h : bodyLK P anyB τ md rf CP noY fn args objs n0 extra rs objs') : LSpec P g args objs rs objs' := by
  refine ⟨enters hf hn (by cases h : fn.body <;> simp_all), ?_⟩
  obtain ⟨c, hc⟩ := Option.isSome_iff_exists.1 hb
  unfold bodyLK at h
  rw [hc] at h hok
  exact lspec_of_aw anyB_ok hτ hf hc ((ev_sound anyB_ok hm hτ hC noY_ok c hok _ _ _ _ h).mono fun e env H ⟨n, h⟩ => h)
end Go.Eng
namespace Go.Eng
open Go.RowKit
set_option linter.unusedVariables false
set_option linter.unusedSimpArgs false
/-! the objects that a value leads to -/
def idsE : PV → List Nat
  | .rsl k _ _ => [k]
  | .rp k _ => [k]
  | .rpe k _ _ _ => [k]
  | .rm k => [k]
  | .yld k => [k]
  | .row k _ _ => [k]
  | .rowp k _ _ _ _ => [k]
  | .isl _ t => match t with
    | .own k => [k]
    | _ => []
  | _ => []
def idsEs : List PV → List Nat
  | [] => []
  | x :: xs => idsE x ++ idsEs xs
def idsP : PV → List Nat
  | .agg cs => idsEs cs
  | .tup cs => idsEs cs
  | .fn _ us vs => idsEs us ++ idsEs vs
  | p => idsE p
def idsPs : List PV → List Nat
  | [] => []
  | x :: xs => idsP x ++ idsPs xs
def idsO : AO → List Nat
  | .cells c _ => match c with
    | .pv ds => idsPs ds
    | _ => []
  | _ => []
def closN (H : Hp) : Nat → List Nat → List Nat → List Nat
  | 0, _, done => done
  | _ + 1, [], done => done
  | f + 1, k :: r, done => match memN k done with
    | true => closN H f r done
    | false => match Hget H k with
      | some o => closN H f (r ++ idsO o) (done ++ [k])
      | none => closN H f r done
/-! names -/
def zipS : List Nat → Nat → Sg
  | [], _ => []
  | k :: r, j => (k, j) :: zipS r (j + 1)
def swapS : Sg → Sg
  | [] => []
  | (a, b) :: r => (b, a) :: swapS r
def sgGood1 (σ : Sg) : Sg → Bool
  | [] => true
  | (a, b) :: r => match eqO (sgB σ b) a && eqO (sgF σ a) b with | true => sgGood1 σ r | false => false
theorem sgGood1_sound {σ : Sg} : ∀ {r : Sg}, sgGood1 σ r = true → ∀ x ∈ r, sgB σ x.2 = some x.1 ∧ sgF σ x.1 = some x.2 := by
  intro r
  induction r with
  | nil => intro _ x hx; simp at hx
  | cons y r ih =>
    intro h x hx
    obtain ⟨a, b⟩ := y
    simp only [sgGood1] at h
    split at h
    · rename_i hb
      rcases List.mem_cons.1 hx with e | hx
      · subst e
        simp only [Bool.and_eq_true, eqO_iff] at hb
        exact hb
      · exact ih h x hx
    · cases h
theorem sgGood {σ : Sg} (h : sgGood1 σ σ = true) : SgOK σ := ⟨fun x hx => (sgGood1_sound h x hx).1, fun x hx => (sgGood1_sound h x hx).2⟩
theorem sgB_zipS : ∀ (ks : List Nat) (j x : Nat), sgB (zipS ks j) (j + x) = ks[x]? := by
  intro ks
  induction ks with
  | nil => intro j x; rfl
  | cons k r ih =>
    intro j x
    simp only [zipS, sgB]
    cases x with
    | zero => simp
    | succ x =>
      have : Nat.beq j (j + (x + 1)) = false := by
        cases hb : Nat.beq j (j + (x + 1)) with
        | false => rfl
        | true => have := Nat.eq_of_beq_eq_true hb; omega
      rw [this]
      have := ih (j + 1) x
      simp only [List.getElem?_cons_succ]
      rw [← this]; congr 1; omega
theorem sgB_zip0 (ks : List Nat) (x : Nat) : sgB (zipS ks 0) x = ks[x]? := by
  have := sgB_zipS ks 0 x; simpa using this
theorem sgF_swap (σ : Sg) (x : Nat) : sgF (swapS σ) x = sgB σ x := by
  induction σ with
  | nil => rfl
  | cons y r ih => obtain ⟨a, b⟩ := y; simp only [swapS, sgF, sgB, ih]
/-! objects -/
def lendO (σ : Sg) (H : Hp) : List Nat → (List AO → Prop) → Prop
  | [], K => K []
  | k :: r, K => getHK H k fun o => match renO σ o with
    | some o1 => lendO σ H r fun os => K (o1 :: os)
    | none => False
theorem lendO_sound {σ : Sg} {H : Hp} : ∀ {ks : List Nat} {K : List AO → Prop}, lendO σ H ks K → ∃ os, K os ∧ os.length = ks.length ∧ ∀ (i k : Nat), ks[i]? = some k → ∃ o o1, Hget H k = some o ∧ renO σ o = some o1 ∧ os[i]? = some o1 := by
  intro ks
  induction ks with
  | nil => intro K h; exact ⟨_, h, rfl, fun i k hk => by simp at hk⟩
  | cons k r ih =>
    intro K h
    unfold lendO at h
    rw [getHK_iff] at h
    obtain ⟨o, ho, h⟩ := h
    split at h
    · rename_i o1 h1
      obtain ⟨os, hK, hl, hs⟩ := ih h
      refine ⟨_, hK, by simp [hl], fun i k' hk => ?_⟩
      cases i with
      | zero => simp at hk; subst hk; exact ⟨o, o1, ho, h1, by simp⟩
      | succ i => obtain ⟨a, b, c1, c2, c3⟩ := hs i k' (by simpa using hk); exact ⟨a, b, c1, c2, by simpa using c3⟩
    · exact h.elim
def backO (σ : Sg) : List Nat → List AO → (List (Nat × AO) → Prop) → Prop
  | [], [], K => K []
  | k :: ks, o :: os, K => match renO σ o with
    | some o1 => backO σ ks os fun r => K ((k, o1) :: r)
    | none => False
  | _, _, _ => False
theorem backO_sound {σ : Sg} : ∀ {ks : List Nat} {os : List AO} {K : List (Nat × AO) → Prop}, backO σ ks os K → ∃ sets, K sets ∧ os.length = ks.length ∧ keys sets = ks ∧
    ∀ (i k : Nat), ks[i]? = some k → ∃ o o1, os[i]? = some o ∧ renO σ o = some o1 ∧ (k, o1) ∈ sets := by
  intro ks
  induction ks with
  | nil => intro os K h; cases os with
    | nil => exact ⟨_, h, rfl, rfl, fun i k hk => by simp at hk⟩
    | cons => exact h.elim
  | cons k r ih => intro os K h; cases os with
    | nil => exact h.elim
    | cons o os =>
      unfold backO at h
      split at h
      · rename_i o1 h1
        obtain ⟨sets, hK, hl, hk, hs⟩ := ih h
        refine ⟨_, hK, by simp [hl], by simp [keys] at hk ⊢; exact hk, fun i k' hk' => ?_⟩
        cases i with
        | zero => simp at hk'; subst hk'; exact ⟨o, o1, by simp, h1, by simp⟩
        | succ i => obtain ⟨a, b, c1, c3, c4⟩ := hs i k' (by simpa using hk'); exact ⟨a, b, by simpa using c1, c3, List.mem_cons_of_mem _ c4⟩
      · exact h.elim
theorem Hget_puts_at : ∀ {sets : List (Nat × AO)} {H : Hp} {k : Nat} {o : AO}, (∀ (i j k : Nat), (keys sets)[i]? = some k → (keys sets)[j]? = some k → i = j) → (k, o) ∈ sets → Hget (Hputs H sets) k = some o := by
  intro sets
  induction sets with
  | nil => intro H k o _ h; simp at h
  | cons x r ih =>
    intro H k o hn h
    obtain ⟨k0, o0⟩ := x
    have h0 : k0 ∉ keys r := fun hm => by
      obtain ⟨j, hj⟩ := List.mem_iff_getElem?.1 hm
      have := hn 0 (j + 1) k0 (by simp [keys]) (by simpa [keys] using hj)
      omega
    have hr : ∀ (i j k : Nat), (keys r)[i]? = some k → (keys r)[j]? = some k → i = j := fun i j k hi hj => by
      have := hn (i + 1) (j + 1) k (by simpa [keys] using hi) (by simpa [keys] using hj)
      omega
    rcases List.mem_cons.1 h with e | h
    · cases e
      simp only [Hputs]
      rw [Hget_puts h0, Hget_put]; simp
    · exact ih hr h
def newsN : Nat → Nat → (List Nat → Prop) → Prop
  | _, 0, K => K []
  | n, d + 1, K => natK n fun n => newsN (n + 1) d fun r => K (n :: r)
def newsL : Nat → Nat → List Nat
  | _, 0 => []
  | n, d + 1 => n :: newsL (n + 1) d
theorem newsN_eq (n d : Nat) (K : List Nat → Prop) : newsN n d K = K (newsL n d) := by
  induction d generalizing n K with
  | zero => rfl
  | succ d ih => simp only [newsN, newsL, natK_eq, ih]
def renRs (σ : Sg) (rs : List PV) (K : PV → Prop) : Prop := match renPs σ rs with | some us => forceL us fun us => K (resOf us) | none => False
theorem renRs_sound {σ : Sg} {rs : List PV} {K : PV → Prop} (h : renRs σ rs K) : ∃ v, K v ∧ ∀ {ι ι1 : Ix}, RenTo σ ι ι1 → ∀ {S : Imm} {w : World} {val : Value}, Rep S w ι (resOf rs) val → Rep S w ι1 v val := by
  unfold renRs at h
  split at h
  · rename_i us hu
    rw [forceL_eq] at h
    refine ⟨_, h, fun {ι ι1} R {S w val} hr => ?_⟩
    obtain ⟨h1, h2⟩ := renPs_to R hu (S := S) (w := w)
    match rs, us, h1, h2, hr with
    | [], [], _, _, hr => cases hr with | tup _ _ vs hl hh => exact .tup _ _ _ hl (fun i hi => by simp at hi)
    | [r], [u], _, h2, hr => exact h2 0 (by simp) hr
    | r :: r' :: rs, u :: u' :: us, h1, h2, hr => cases hr with | tup _ _ vs hl hh => exact .tup _ _ _ (h1.trans hl) (fun i hi => h2 i (by omega) (hh i (by omega)))
  · exact h.elim
abbrev LSp := List PV → List AO → (List PV → List AO → Prop) → Prop
def LOK (P : Program) (g : FuncId) (L : LSp) : Prop := ∀ as objs K, L as objs K → ∃ rs objs', K rs objs' ∧ LSpec P g as objs rs objs'
def freshsK (H : Hp) : List Nat → Prop → Prop
  | [], K => K
  | k :: r, K => freshK H k (freshsK H r K)
def tokF : PV → PV
  | .isl c t => match t with
    | .full => .isl c .none
    | t => .isl c t
  | p => p
def tokFs : List PV → List PV
  | [] => []
  | x :: xs => tokF x :: tokFs xs
theorem tokFs_rep : ∀ (ps : List PV), (tokFs ps).length = ps.length ∧ ∀ i {S : Imm} {w : World} {ι : Ix} {v : Value}, Rep S w ι (getL ps i) v → Rep S w ι (getL (tokFs ps) i) v := by
  intro ps
  induction ps with
  | nil => exact ⟨rfl, fun i _ _ _ _ h => h⟩
  | cons p ps ih =>
    refine ⟨by simp [tokFs, ih.1], fun i S w ι v h => ?_⟩
    cases i with
    | zero =>
      simp only [getL, tokFs] at h ⊢
      unfold tokF; split
      · split
        · exact h.drop
        · exact h
      · exact h
    | succ i => exact ih.2 i h
def lendCC (ks0 : List Nat) (L : LSp) : CT := fun args n H K =>
  forceNL (closN H 60 (ks0 ++ idsPs args) []) fun ks => forceS (zipS ks 0) fun σ => ifK (sgGood1 σ σ) (match renPs σ args with
    | some as => forceL (tokFs as) fun as => lendO σ H ks fun objs => L as objs fun rs objs' =>
      newsN n (objs'.length - ks.length) fun ns => freshsK H ns (forceNL (ks ++ ns) fun kn => forceS (swapS (zipS kn 0)) fun σ' => ifK (sgGood1 σ' σ') (backO σ' kn objs' fun sets => renRs σ' rs fun v => K v sets ks ns))
    | none => False)
theorem freshsK_sound {H : Hp} : ∀ {ns : List Nat} {K : Prop}, freshsK H ns K → K := by
  intro ns
  induction ns with
  | nil => intro K h; exact h
  | cons k r ih => intro K h; unfold freshsK freshK at h; split at h
                   · exact ih h
                   · exact h.elim
theorem lendCC_ok {P : Program} {g : FuncId} {L : LSp} (ks0 : List Nat) (h : LOK P g L) : COK P g (lendCC ks0 L) := by
  intro args n H K hk
  unfold lendCC at hk
  simp only [forceNL_eq, forceS_eq, forceL_eq, newsN_eq] at hk
  generalize closN H 60 (ks0 ++ idsPs args) [] = ks at hk
  rw [ifK_iff] at hk
  obtain ⟨hg, hk⟩ := hk
  split at hk
  · rename_i as has
    obtain ⟨objs, hk, hol, hos⟩ := lendO_sound hk
    obtain ⟨rs, objs', hk, hent, hs⟩ := h _ _ _ hk
    generalize newsL n (objs'.length - ks.length) = ns at hk
    have hk := freshsK_sound hk
    rw [ifK_iff] at hk
    obtain ⟨hg', hk⟩ := hk
    obtain ⟨sets, hk, hl', hkeys, hbs⟩ := backO_sound hk
    obtain ⟨v, hk, hv⟩ := renRs_sound hk
    have hσ := sgGood hg
    have hσ' := sgGood hg'
    refine ⟨v, sets, ks, ns, hk, hent, fun S w ι H' vs hgb M hr ha hn => ?_⟩
    have at' : ∀ {i k}, sgB (swapS (zipS (ks ++ ns) 0)) k = some i ↔ (ks ++ ns)[i]? = some k := fun {i k} =>
      ⟨fun e => by have := hσ'.bf e; rwa [sgF_swap, sgB_zip0] at this, fun e => hσ'.fb (by rw [sgF_swap, sgB_zip0]; exact e)⟩
    have hget : ∀ {k}, k ∈ ks → Hget H' k = Hget H k := fun hm => ha _ hm
    have hL : ∀ k1 o1, Hget (hpOf objs) k1 = some o1 → ∃ k o, sgB (zipS ks 0) k1 = some k ∧ Hget H' k = some o ∧ renO (zipS ks 0) o = some o1 := by
      intro k1 o1 h1
      rw [Hget_hpOf] at h1
      have hlt : k1 < ks.length := by rw [← hol]; exact (List.getElem?_eq_some_iff.1 h1).1
      obtain ⟨o, o1', q1, q2, q3⟩ := hos k1 ks[k1] (List.getElem?_eq_getElem hlt)
      rw [h1] at q3; cases q3
      exact ⟨ks[k1], o, by rw [sgB_zip0, List.getElem?_eq_getElem hlt], by rw [hget (List.getElem_mem hlt)]; exact q1, q2⟩
    obtain ⟨ML, hown⟩ := M.lend (H1 := hpOf objs) hσ hL (fun k k1 hb hsome => by
      rw [sgB_zip0] at hb
      obtain ⟨o, o1, _, _, q3⟩ := hos k1 k hb
      rw [Hget_hpOf, q3]; rfl)
    have hA : RepA S w (ι.ren (zipS ks 0)) (tokFs as) vs := by
      obtain ⟨h1, h2⟩ := renPs_to (renTo_ren hσ.b ι) has (S := S) (w := w)
      exact ⟨(tokFs_rep as).1.trans (h1.trans hr.1), fun i hi => (tokFs_rep as).2 i (h2 i (by rw [(tokFs_rep as).1] at hi; omega) (hr.2 i (by rw [(tokFs_rep as).1] at hi; omega)))⟩
    refine (hs S w _ vs hgb ML hA).mono ?_
    rintro e w' ⟨val, S', ιl', rfl, M', R', T⟩
    have hinj : ∀ (i j k : Nat), (keys sets)[i]? = some k → (keys sets)[j]? = some k → i = j := fun i j k hi hj => by
      rw [hkeys] at hi hj
      have a := at'.2 hi
      have b := at'.2 hj
      rw [a] at b; exact Option.some.inj b
    obtain ⟨M2, le, T2⟩ := M.back (H'' := Hputs H' sets) hσ' hσ M' T hown
      (fun i k e => by
        have e := at'.1 e
        obtain ⟨o, o1, p1, p3, p4⟩ := hbs i k e
        refine ⟨⟨o, by rw [Hget_hpOf]; exact p1⟩, ?_⟩
        by_cases hi : i < ks.length
        · rw [List.getElem?_append_left hi] at e
          exact .inl ⟨by omega, by rw [sgB_zip0]; exact e⟩
        · rw [List.getElem?_append_right (by omega)] at e
          exact .inr (hn k (List.mem_of_getElem? e)))
      (fun k e => by
        have hno : k ∉ ks ++ ns := fun hm => by
          obtain ⟨i, hi⟩ := List.mem_iff_getElem?.1 hm
          rw [at'.2 hi] at e; cases e
        refine ⟨Hget_puts (by rw [hkeys]; exact hno), fun i hi => ?_⟩
        rw [sgB_zip0] at hi
        exact hno (List.mem_append_left _ (List.mem_of_getElem? hi)))
      (fun i k e => by
        obtain ⟨o, o1, p1, p3, p4⟩ := hbs i k (at'.1 e)
        exact ⟨o, o1, by rw [Hget_hpOf]; exact p1, p3, Hget_puts_at hinj p4⟩)
      (fun b hb => by
        obtain ⟨k1, o1, h1, h2, h3⟩ := hb
        obtain ⟨k, o, q1, q2, q3⟩ := hL k1 o1 h1
        have eo : (ι.ren (zipS ks 0)).o k1 = ι.o k := by simp [Ix.ren, q1]
        have et : (ι.ren (zipS ks 0)).t k1 = ι.t k := by simp [Ix.ren, q1]
        have ex : (ι.ren (zipS ks 0)).x k1 = ι.x k := by funext b; simp [Ix.ren, q1]
        obtain ⟨r1, r2, r3, r5⟩ := renO_sound (renTo_ren hσ.b ι) q3 eo et ex (M.obj k o q2)
        refine ⟨k1, k, q1, ?_, o, q2, ?_⟩
        · rw [Hget_hpOf] at h1; exact (List.getElem?_eq_some_iff.1 h1).1
        · exact (has_congr eo et ex r2 r3 r5 b).1 h3)
    exact ⟨val, S', _, rfl, M2, le, T.keeps, hv (renTo_merge hσ' ι ιl') R', T2⟩
  · exact hk.elim
end Go.Eng
namespace Go.Eng
open Go.RowKit
set_option linter.unusedVariables false
set_option linter.unusedSimpArgs false
variable {P : Program}
/-- the worlds that go on from one -/
def fromB (S0 : Imm) (w0 : World) : Imm → World → Prop := fun S w => Keeps S0 w0 S w ∧ gB S w
theorem fromB_ok {S0 : Imm} {w0 : World} : BOK (fromB S0 w0) := ⟨fun _ _ _ _ h b hb => ⟨Keeps.trans hb.1 h, gB_mono h b hb.2⟩, fun _ _ h => h.2⟩
theorem set_rep {S : Imm} {w : World} {ι : Ix} {args : List PV} {vs : Array Value} {i : Nat} {p : PV} (h : RepA S w ι args vs) (hp : Rep S w ι p (vs.getD i undef)) : RepA S w ι (args.set i p) vs := by
  refine ⟨by simpa using h.1, fun j hj => ?_⟩
  rw [getL_set]
  split
  · rename_i e; rw [e.1]; exact hp
  · exact h.2 j (by simpa using hj)
/-- a function's argument that is a function: a value of the model, of which the contract is known -/
theorem pspec_open {g : FuncId} {args : List PV} {v : PV} (i : Nat) {f : Fn} {fs cs : List PV} (he : Enters P g) (hi : getL args i = .fn f fs cs) (hlt : i < args.length)
    (h : ∀ S0 w0 us vs, RepA S0 w0 noI fs us → RepA S0 w0 noI cs vs → PSpecB P (fromB S0 w0) g (args.set i (.fv f us vs)) v) : PSpec P g args v := by
  refine ⟨he, fun S w vs hg himm hr => ?_⟩
  have hri := hr.2 i hlt
  rw [hi] at hri
  generalize hv : vs.getD i undef = val at hri
  cases hri with
  | fn _ _ _ _ us ws hk hl hu hvs =>
    exact h S w us ws ⟨hk, hu⟩ ⟨hl, hvs⟩ S w vs ⟨Keeps.refl _ _, hg⟩ himm (set_rep hr (by rw [hv]; exact .fv _ _ _ _))
theorem lspecB_open {B : Imm → World → Prop} {g : FuncId} {args : List PV} {objs : List AO} {rs : List PV} {objs' : List AO} (i : Nat) {f : Fn} {fs cs : List PV} (hi : getL args i = .fn f fs cs) (hlt : i < args.length)
    (hf : inlE.inlF fs = true) (hc : inlE.inlF cs = true)
    (h : ∀ S0 w0 us vs, RepA S0 w0 noI fs us → RepA S0 w0 noI cs vs → LSpecB P (fun S w => B S w ∧ fromB S0 w0 S w) g (args.set i (.fv f us vs)) objs rs objs') (hg : ∀ S w, B S w → gB S w := by first | exact fun _ _ h => h | exact fun _ _ h => h.2 | exact fun _ _ h => h.2.2) : LSpecB P B g args objs rs objs' := by
  intro S w ι vs hB M hr
  have hri := hr.2 i hlt
  rw [hi] at hri
  generalize hv : vs.getD i undef = val at hri
  have h0 : Rep S w noI (.fn f fs cs) val := inlE_sound (p := .fn f fs cs) (by simp [inlE, hf, hc]) hri
  cases h0 with
  | fn _ _ _ _ us ws hk hl hu hvs =>
    exact h S w us ws ⟨hk, hu⟩ ⟨hl, hvs⟩ S w ι vs ⟨hB, Keeps.refl _ _, hg _ _ hB⟩ M (set_rep hr (by rw [hv]; exact .fv _ _ _ _))
theorem andB_ok {B B' : Imm → World → Prop} (h : BOK B) (h' : BOK B') : BOK (fun S w => B S w ∧ B' S w) := ⟨fun _ _ _ _ k b hb => ⟨h _ _ _ _ k b hb.1, h' _ _ _ _ k b hb.2⟩, fun _ _ hb => h.glob _ _ hb.1⟩
/-- calls of such a value -/
def fnY (f : Nat) (us vs : Array Value) (C : PSp) : YPT := fun f' us' vs' args n H K => VC (f' = .func f ∧ us' = us ∧ vs' = vs) ∧ pureK args fun as => C as fun v => K v [] [] []
theorem fnY_ok {r : Option Nat} {B : Imm → World → Prop} {f : Nat} {us vs : Array Value} {fs cs : List PV} {C : PSp} (hB : ∀ S w, B S w → RepA S w noI fs us ∧ RepA S w noI cs vs)
    (hC : ∀ as K, C as K → ∃ v, K v ∧ PSpec P f (fs ++ as ++ cs) v) (hg : ∀ S w, B S w → gB S w := by first | exact fun _ _ h => h | exact fun _ _ h => h.2 | exact fun _ _ h => h.2.2) : YPOK P r B (fnY f us vs C) := by
  intro f' us' vs' args n H K h
  obtain ⟨⟨e1, e2, e3⟩, h⟩ := h
  subst e1; subst e2; subst e3
  unfold pureK at h
  split at h
  · rename_i as ha
    rw [forceL_eq] at h
    obtain ⟨v, hK, hent, hs⟩ := hC _ _ h
    refine ⟨v, [], [], [], hK, fun S w ι H' o c a next Q vals ho hb M hr _ _ hk => ?_⟩
    obtain ⟨h1, h2⟩ := pureEs_sound ha
    obtain ⟨b1, b2⟩ := hB S w hb
    have hA : RepA S w noI (tok1s as) vals := ⟨(tok1s_rep as).1.trans (h1.trans hr.1), fun i hi => (tok1s_rep as).2 i (h2 i (by rw [(tok1s_rep as).1] at hi; omega) (hr.2 i (by rw [(tok1s_rep as).1] at hi; omega)))⟩
    have hres : (invoke (.fn (.func f) vs') (us' ++ vals)).run P w = .ok (.enter f (us' ++ vals ++ vs')) w := by
      simp only [invoke, Sem.run_bind, Sem.run_pure, Result.andThen]
      exact hent _ _
    rw [hres, Oper.uponIn_enter]
    refine ⟨fun h => by simp [Fw, Fence.wide] at h, callsIn_Fw ((hs S w (us' ++ vals ++ vs') (hg _ _ hb) M.imm (repA_append (repA_append b1 hA) b2)).mono ?_)⟩
    rintro e w' ⟨val, S', rfl, ou⟩
    have hno : ∀ k ob b, Hget H' k = some ob → ob.has ι k b → b < w.heap.size := fun k ob b ho hb => (M.obj k ob ho).lt hb
    exact hk val S' w' ι ⟨fun k ob ho => (M.obj k ob ho).mono ou.keeps (.refl _) ou.below (fun b hb => ou.same b (hno k ob b ho hb)) (fun _ => rfl) rfl (fun b j hb hs => ou.immN b j (hno k ob b ho hb) hs), M.liveO, M.liveT, M.dist, ou.imm⟩
      (.refl _) ou.keeps (ou.rep.up ι) (fun p => ⟨ou.below, fun b hb _ => ou.same b hb, ou.keeps, fun b j hb hs => .inl (ou.immN b j hb hs), fun b h => .inl h, fun _ _ _ h => h, fun _ _ b n h => ⟨b, n, h, .inl ⟨rfl, Nat.le_refl _⟩⟩⟩)
  · exact h.elim
/-- a table of values: functions of the program, and yields -/
def funY (Y1 Y2 : YPT) : YPT := fun f us vs args n H K => match f with
  | .func g => Y1 (.func g) us vs args n H K
  | .yield b => Y2 (.yield b) us vs args n H K
  | _ => False
theorem funY_ok {r : Option Nat} {B : Imm → World → Prop} {Y1 Y2 : YPT} (h1 : YPOK P r B Y1) (h2 : YPOK P r B Y2) : YPOK P r B (funY Y1 Y2) := by
  intro f us vs args n H K h
  unfold funY at h
  split at h
  · exact h1 _ _ _ _ _ _ _ h
  · exact h2 _ _ _ _ _ _ _ h
  · exact h.elim
/-- a contract for functions of the program, of a function's argument that is a value here: a table in the worlds of B -/
def COKB (P : Program) (B : Imm → World → Prop) (g : FuncId) (C : CT) : Prop := ∀ args n H K, C args n H K → ∃ v sets accs news, K v sets accs news ∧ CallSoundB P B g args H v sets accs news
theorem COK.up {g : FuncId} {C : CT} (h : COK P g C) (B : Imm → World → Prop) (hg : ∀ S w, B S w → gB S w := by first | exact fun _ _ h => h | exact fun _ _ h => h.2 | exact fun _ _ h => h.2.2) : COKB P B g C := fun args n H K hk => by
  obtain ⟨v, sets, accs, news, h1, h2⟩ := h args n H K hk
  exact ⟨v, sets, accs, news, h1, CallSound.up h2 B hg⟩
end Go.Eng
namespace Go.Eng
open Go.RowKit
set_option linter.unusedVariables false
set_option linter.unusedSimpArgs false
/-! the elements that an iterator yields -/
def elOf : List PV → PV
  | [x] => x
  | xs => .tup xs
def unEl (m : Nat) (x : PV) : List PV := match m with
  | 1 => [x]
  | _ => match x with
    | .tup xs => xs
    | _ => []
theorem unEl_elOf (xs : List PV) : unEl xs.length (elOf xs) = xs := by
  match xs with
  | [] => rfl
  | [x] => rfl
  | x :: y :: r => rfl
def runG (go : List PV → Bool) : List PV → List PV → List PV
  | pre, [] => pre
  | pre, x :: l => match go (pre ++ [x]) with | true => runG go (pre ++ [x]) l | false => pre ++ [x]
/-- the rounds ahead of the i-th went on -/
def GoTo (go : List PV → Bool) (L : List PV) (i : Nat) : Prop := ∀ j, j < i → go (L.take (j + 1)) = true
def Nxt (go : List PV → Bool) (L pre : List PV) (x : PV) : Prop := ∃ i, i < L.length ∧ pre = L.take i ∧ L[i]? = some x ∧ GoTo go L i
theorem GoTo.zero {go : List PV → Bool} {L : List PV} : GoTo go L 0 := fun j h => by omega
theorem GoTo.succ {go : List PV → Bool} {L : List PV} {i : Nat} (h : GoTo go L i) (g : go (L.take (i + 1)) = true) : GoTo go L (i + 1) := fun j hj => by
  by_cases e : j = i
  · rw [e]; exact g
  · exact h j (by omega)
theorem take_succ' {L : List PV} {i : Nat} {x : PV} (h : L[i]? = some x) : L.take i ++ [x] = L.take (i + 1) := by
  rw [List.take_add_one, h]; rfl
theorem runG_goto {go : List PV → Bool} {L : List PV} : ∀ {i : Nat}, i ≤ L.length → GoTo go L i → runG go [] L = runG go (L.take i) (L.drop i) := by
  intro i
  induction i with
  | zero => intro _ _; simp
  | succ i ih =>
    intro hi h
    rw [ih (by omega) (fun j hj => h j (by omega)), List.drop_eq_getElem_cons (by omega), runG]
    have e : L.take i ++ [L[i]] = L.take (i + 1) := take_succ' (List.getElem?_eq_getElem (by omega))
    rw [e, h i (by omega)]
theorem runG_stop {go : List PV → Bool} {L : List PV} {i : Nat} (hi : i < L.length) (h : GoTo go L i) (g : go (L.take (i + 1)) = false) : runG go [] L = L.take (i + 1) := by
  rw [runG_goto (by omega) h, List.drop_eq_getElem_cons hi, runG]
  have e : L.take i ++ [L[i]] = L.take (i + 1) := take_succ' (List.getElem?_eq_getElem hi)
  rw [e, g]
theorem runG_all {go : List PV → Bool} {L : List PV} {i : Nat} (hi : L.length ≤ i) (h : GoTo go L i) : runG go [] L = L := by
  rw [runG_goto (Nat.le_refl L.length) (fun j hj => h j (by omega))]; simp [runG]
theorem runG_length {go : List PV → Bool} : ∀ (l pre : List PV), pre.length ≤ (runG go pre l).length := by
  intro l
  induction l with
  | nil => intro pre; exact Nat.le_refl _
  | cons x l ih =>
    intro pre
    rw [runG]
    split
    · have := ih (pre ++ [x]); simp at this; omega
    · simp
theorem runG_full {go : List PV → Bool} {L : List PV} {i : Nat} (hi : i ≤ L.length) (h : GoTo go L i) (e : runG go [] L = L.take i) : i = L.length := by
  rcases Nat.lt_or_ge i L.length with hlt | hge
  · rw [runG_goto hi h, List.drop_eq_getElem_cons hlt, runG] at e
    have hlen := congrArg List.length e
    split at hlen
    · have := runG_length (go := go) (L.drop (i + 1)) (L.take i ++ [L[i]])
      simp at this hlen; omega
    · simp at hlen; omega
  · omega
abbrev GT := List PV → (Nat → Prop) → Imm → World → Prop
def yldY (b m : Nat) (G : GT) (go : List PV → Bool) (L : List PV) : YPT := fun f us vs args n H K => VC (f = .yield b ∧ us = #[] ∧ vs = #[]) ∧ pureK args fun as => ifK (Nat.beq as.length m) (getHK H 0 fun o => match o with
  | .ext G' pre => forceK (elOf as) fun x => VC (G' = G ∧ Nxt go L pre x) ∧ K (.bp (go (pre ++ [x]))) [(0, .ext G (pre ++ [x]))] [0] []
  | _ => False)
def Yields (P : Program) (b m : Nat) (G : GT) (go : List PV → Bool) (L : List PV) : Prop := ∀ r B, YPOK P r B (yldY b m G go L)
/-- an iterator: its function, what it is bound to, how many values it yields at once, which ones -/
def ISpec (P : Program) (g : FuncId) (fs cs : List PV) (m : Nat) (L : List PV) : Prop :=
  Enters P g ∧ ∀ (G : GT) (go : List PV → Bool) (b : Nat), Yields P b m G go L → LSpecB P anyB g (fs ++ [.fv (.yield b) #[] #[]] ++ cs) [.ext G []] [] [.ext G (runG go [] L)]
/-! how worlds go on, but for some blocks -/
structure TrX (X : Nat → Prop) (p : Nat) (S : Imm) (w : World) (ι : Ix) (H : Hp) (S' : Imm) (w' : World) (ι' : Ix) (H' : Hp) : Prop where
  below : Bel w w'
  same : ∀ b, b < w.heap.size → ¬ owned ι H b → ¬ X b → w'.heap[b]? = w.heap[b]?
  keeps : Keeps S w S' w'
  immN : ∀ b j, b < w.heap.size → S' b j → S b j ∨ owned ι H b
  own : ∀ b, owned ι' H' b → owned ι H b ∨ w.heap.size ≤ b
  protO : ∀ k, k < p → ∀ b, ι.o k = some b → ι'.o k = some b
  protT : ∀ k, k < p → ∀ b n, ι.t k = some (b, n) → ∃ b' n', ι'.t k = some (b', n') ∧ ((b' = b ∧ n ≤ n') ∨ n < n')
theorem Tr.toX {X : Nat → Prop} {p : Nat} {S S' : Imm} {w w' : World} {ι ι' : Ix} {H H' : Hp} (h : Tr p S w ι H S' w' ι' H') : TrX X p S w ι H S' w' ι' H' :=
  ⟨h.below, fun b hb ho _ => h.same b hb ho, h.keeps, h.immN, h.own, h.protO, h.protT⟩
theorem protT_trans {ι ι' ι'' : Ix} {k : Nat} (h : ∀ b n, ι.t k = some (b, n) → ∃ b' n', ι'.t k = some (b', n') ∧ ((b' = b ∧ n ≤ n') ∨ n < n')) (g : ∀ b n, ι'.t k = some (b, n) → ∃ b' n', ι''.t k = some (b', n') ∧ ((b' = b ∧ n ≤ n') ∨ n < n')) :
    ∀ b n, ι.t k = some (b, n) → ∃ b' n', ι''.t k = some (b', n') ∧ ((b' = b ∧ n ≤ n') ∨ n < n') := by
  intro b n hi
  obtain ⟨x1, n1, h1, h2⟩ := h b n hi
  obtain ⟨x2, n2, g1, g2⟩ := g x1 n1 h1
  refine ⟨x2, n2, g1, ?_⟩
  rcases h2 with ⟨rfl, h2⟩ | h2
  · rcases g2 with ⟨rfl, g2⟩ | g2
    · exact .inl ⟨rfl, by omega⟩
    · exact .inr (by omega)
  · rcases g2 with ⟨rfl, g2⟩ | g2
    · exact .inr (by omega)
    · exact .inr (by omega)
theorem TrX.trans {X : Nat → Prop} {p : Nat} {S S' S'' : Imm} {w w' w'' : World} {ι ι' ι'' : Ix} {H H' H'' : Hp}
    (h : TrX X p S w ι H S' w' ι' H') (g : TrX X p S' w' ι' H' S'' w'' ι'' H'') : TrX X p S w ι H S'' w'' ι'' H'' := by
  have hsz := h.below.size
  refine ⟨h.below.trans g.below, fun b hb ho hx => ?_, h.keeps.trans g.keeps, fun b j hb hs => ?_, fun b ho => ?_, fun k hk b hi => g.protO k hk b (h.protO k hk b hi), fun k hk => protT_trans (h.protT k hk) (g.protT k hk)⟩
  · rw [g.same b (by omega) (fun ho' => ?_) hx]
    · exact h.same b hb ho hx
    · rcases h.own b ho' with h1 | h1
      · exact ho h1
      · omega
  · rcases g.immN b j (by omega) hs with h1 | h1
    · exact h.immN b j hb h1
    · rcases h.own b h1 with h2 | h2
      · exact .inr h2
      · omega
  · rcases g.own b ho with h1 | h1
    · exact h.own b h1
    · exact .inr (by omega)
/-- a block of nobody's is written -/
theorem Mem.aside {S : Imm} {w : World} {ι : Ix} {H : Hp} (M : Mem S w ι H) {b : Nat} {o o' : Obj} (hw : w.heap[b]? = some o) (hp : Obj.plain o = true) (hp' : Obj.plain o' = true) (hno : ¬ owned ι H b) (p : Nat) :
    Mem S (w.putObj b o') ι H ∧ TrX (· = b) p S w ι H S (w.putObj b o') ι H ∧ (w.putObj b o').heap[b]? = some o' ∧ ∀ b', b' ≠ b → (w.putObj b o').heap[b']? = w.heap[b']? := by
  have hlt := lt_of_heap hw
  have here : (w.putObj b o').heap[b]? = some o' := World.putObj_heap_same hlt
  have other : ∀ b', b' ≠ b → (w.putObj b o').heap[b']? = w.heap[b']? := fun b' h => World.putObj_heap_other h
  have hnS : ∀ j, ¬ S b j := fun j hs => by have := M.imm b j hs; rw [rd_plain hw hp] at this; simp at this
  have hk : Keeps S w S (w.putObj b o') := by
    refine ⟨fun b' j hs => ⟨hs, ?_⟩, fun b' j hs => ?_⟩
    · by_cases e : b' = b
      · subst e; exact absurd hs (hnS j)
      · exact rd_congr (other b' e) j
    · by_cases e : b' = b
      · subst e; rw [rd_plain hw hp] at hs; simp at hs
      · rw [rd_congr (other b' e) j]; exact hs
  have hbel : Bel w (w.putObj b o') := .block b rfl rfl rfl (by simp) other (by rw [hw]; exact unf_plain hp) (by rw [here]; exact unf_plain hp') (fun _ => by unfold bsz; rw [hw, here]; cases o <;> cases o' <;> first | rfl | (simp [Obj.plain] at hp; done) | (simp [Obj.plain] at hp'; done))
  refine ⟨⟨fun k o ho => (M.obj k o ho).mono hk (.refl _) hbel (fun b' hb' => other b' (fun e => hno (by subst e; exact ⟨k, o, ho, has_excl hb', hb'⟩))) (fun _ => rfl) rfl (fun _ _ _ h => h), M.liveO, M.liveT, M.dist, fun b' j hs => by rw [(hk.imm b' j hs).2]; exact M.imm b' j hs⟩,
    ⟨hbel, fun b' _ _ hx => other b' hx, hk, fun _ _ _ h => .inl h, fun _ h => .inl h, fun _ _ _ h => h, fun _ _ b n h => ⟨b, n, h, .inl ⟨rfl, Nat.le_refl _⟩⟩⟩, here, other⟩
/-- a foreign object goes on -/
theorem Mem.extStep {S : Imm} {w : World} {ι : Ix} {H : Hp} (M : Mem S w ι H) {k : Nat} {G : GT} {pre : List PV} (h0 : Hget H k = some (.ext G pre)) {S' : Imm} {w' : World} {D' : Nat → Prop} {pre' : List PV} (hst : ExtStable G) (hG : G pre' D' S' w')
    (below : Bel w w') (keeps : Keeps S w S' w') (same : ∀ b, b < w.heap.size → ¬ ι.x k b → w'.heap[b]? = w.heap[b]?) (immN : ∀ b j, b < w.heap.size → S' b j → S b j ∨ ι.x k b)
    (hD : ∀ b, D' b → ι.x k b ∨ w.heap.size ≤ b) (hlt : ∀ b, D' b → b < w'.heap.size) (himm : ∀ b j, S' b j → (rd w' b j).isSome) :
    Mem S' w' ⟨ι.o, ι.t, fun k' => if k' = k then D' else ι.x k'⟩ (Hput H k (.ext G pre')) ∧ ι.le ⟨ι.o, ι.t, fun k' => if k' = k then D' else ι.x k'⟩ ∧
      ∀ p, Tr p S w ι H S' w' ⟨ι.o, ι.t, fun k' => if k' = k then D' else ι.x k'⟩ (Hput H k (.ext G pre')) := by
  have hle : ι.le ⟨ι.o, ι.t, fun k' => if k' = k then D' else ι.x k'⟩ := ⟨fun _ _ h => h, fun _ b n h => ⟨b, n, h, .inl ⟨rfl, Nat.le_refl _⟩⟩⟩
  have hx : ∀ k', k' ≠ k → (if k' = k then D' else ι.x k') = ι.x k' := fun k' h => if_neg h
  have hhas : ∀ {k' o b}, k' ≠ k → (AO.has ⟨ι.o, ι.t, fun k' => if k' = k then D' else ι.x k'⟩ k' o b ↔ AO.has ι k' o b) := fun {k' o b} h => has_congr (ι := ι) (ι1 := ⟨ι.o, ι.t, fun k' => if k' = k then D' else ι.x k'⟩) (k := k') (k1 := k') (o := o) (o1 := o) rfl rfl (hx _ h) rfl rfl rfl b
  have hself : ∀ {b}, AO.has ⟨ι.o, ι.t, fun k' => if k' = k then D' else ι.x k'⟩ k (.ext G pre') b ↔ D' b := fun {b} => by simp [AO.has]
  have hother : ∀ k' o b, k' ≠ k → Hget H k' = some o → o.has ι k' b → b < w.heap.size ∧ ¬ ι.x k b := fun k' o b hne ho hb =>
    ⟨(M.obj k' o ho).lt hb, fun h => hne (M.dist k' k o (.ext G pre) b ho h0 hb h)⟩
  refine ⟨⟨fun k' o ho => ?_, fun k' b hb => ?_, fun k' b hb => ?_, fun k1 k2 o1 o2 b h1 h2 b1 b2 => ?_, himm⟩, hle, fun p => ⟨below, fun b hb ho => ?_, keeps, fun b j hb hs => ?_, ?_, fun _ _ _ h => h, fun _ _ b n h => ⟨b, n, h, .inl ⟨rfl, Nat.le_refl _⟩⟩⟩⟩
  · rw [Hget_put] at ho
    by_cases e : k' = k
    · subst e; simp at ho; subst ho
      exact ⟨fun b hb => hlt b (by simpa using hb), hst, by simpa using hG⟩
    · rw [if_neg e] at ho
      exact (M.obj k' o ho).mono keeps hle below (fun b hb => same b (hother k' o b e ho hb).1 (hother k' o b e ho hb).2) (fun _ => rfl) (hx k' e)
        (fun b j hb hs => (immN b j (hother k' o b e ho hb).1 hs).resolve_right (hother k' o b e ho hb).2)
  · obtain ⟨o, g1, g2⟩ := M.liveO k' b hb
    rw [Hget_put]
    by_cases e : k' = k
    · subst e; exact ⟨.ext G pre', by simp, rfl⟩
    · rw [if_neg e]; exact ⟨o, g1, g2⟩
  · obtain ⟨o, g1, g2⟩ := M.liveT k' b hb
    rw [Hget_put]
    by_cases e : k' = k
    · subst e; rw [h0] at g1; cases g1; simp [AO.isTok] at g2
    · rw [if_neg e]; exact ⟨o, g1, g2⟩
  · rw [Hget_put] at h1 h2
    by_cases e1 : k1 = k
    · by_cases e2 : k2 = k
      · rw [e1, e2]
      · subst e1; simp at h1; subst h1; rw [if_neg e2] at h2; rw [hhas e2] at b2; rw [hself] at b1
        obtain ⟨q1, q2⟩ := hother k2 o2 b e2 h2 b2
        rcases hD b b1 with h | h
        · exact absurd h q2
        · omega
    · rw [if_neg e1] at h1; rw [hhas e1] at b1
      by_cases e2 : k2 = k
      · subst e2; simp at h2; subst h2; rw [hself] at b2
        obtain ⟨q1, q2⟩ := hother k1 o1 b e1 h1 b1
        rcases hD b b2 with h | h
        · exact absurd h q2
        · omega
      · rw [if_neg e2] at h2; rw [hhas e2] at b2
        exact M.dist k1 k2 o1 o2 b h1 h2 b1 b2
  · exact same b hb (fun h => ho ⟨k, _, h0, rfl, h⟩)
  · rcases immN b j hb hs with h | h
    · exact .inl h
    · exact .inr ⟨k, _, h0, rfl, h⟩
  · rintro b ⟨k', o, h1, h2, h3⟩
    rw [Hget_put] at h1
    by_cases e : k' = k
    · subst e; simp at h1; subst h1; rw [hself] at h3
      rcases hD b h3 with h | h
      · exact .inl ⟨k', _, h0, rfl, h⟩
      · exact .inr h
    · rw [if_neg e] at h1; rw [hhas e] at h3
      exact .inl ⟨k', o, h1, h2, h3⟩
end Go.Eng
namespace Go.Eng
open Go.RowKit
set_option linter.unusedVariables false
set_option linter.unusedSimpArgs false
/-- the loop variables set -/
def setEs : Env → List Nat → List PV → Env
  | env, t :: ts, x :: xs => setEs (env.set t x) ts xs
  | env, _, _ => env
theorem setEs_rep {S : Imm} {w : World} {ι : Ix} : ∀ (ts : List Nat) (xs : List PV) {env : Env} {tmps : Array Value} {vs : List Value}, RepA S w ι env tmps → ts.length = vs.length → xs.length = vs.length → (∀ i, i < xs.length → Rep S w ι (getL xs i) (vs.getD i undef)) →
    RepA S w ι (setEs env ts xs) ((ts.zip vs).foldl (fun t (p : Nat × Value) => t.setIfInBounds p.1 p.2) tmps) := by
  intro ts
  induction ts with
  | nil => intro xs env tmps vs h h1 h2 h3; cases xs <;> simpa [setEs] using h
  | cons t ts ih =>
    intro xs env tmps vs h h1 h2 h3
    cases vs with
    | nil => simp at h1
    | cons v vs =>
      cases xs with
      | nil => simp at h2
      | cons x xs =>
        simp only [setEs, List.zip_cons_cons, List.foldl_cons]
        refine ih xs ?_ (by simpa using h1) (by simpa using h2) (fun i hi => by have := h3 (i + 1) (by simpa using hi); simpa [getL] using this)
        have h30 : Rep S w ι x v := by have := h3 0 (by simp); simpa [getL] using this
        have := put_repA (a := { tmps := tmps, defers := [] }) h (some t) h30
        simpa [putE, Act.put] using this
def anysL : Env → Env
  | [] => []
  | _ :: r => .any :: anysL r
/-- what lies beside an iterator: the state of the loop over it -/
def Guest (B : Imm → World → Prop) (S0 : Imm) (w0 : World) (ι0 : Ix) (H0 : Hp) (D0 L0 : Nat) (rec : LoopState → Option Code → Loop) (L : List PV) (st : Nat → Hp) (gi : Nat → Bool) (Q : Exit → Hp → Prop) : GT := fun pre D S w =>
  ∃ ι H sta pend, D = (fun b => owned ι0 H0 b ∨ owned ι H b ∨ b = D0 ∨ b = L0) ∧ (∀ k o, Hget H k = some o → ObjR S w ι k o) ∧ (∀ k b, ι.o k = some b → ∃ o, Hget H k = some o ∧ o.isTok = false) ∧
    (∀ k x, ι.t k = some x → ∃ o, Hget H k = some o ∧ o.isTok = true) ∧ (∀ k k' o o' b, Hget H k = some o → Hget H k' = some o' → o.has ι k b → o'.has ι k' b → k = k') ∧
    B S w ∧ ι0.le ι ∧ Keeps S0 w0 S w ∧ (∀ b, owned ι H b → b ≠ D0 ∧ b ≠ L0) ∧ (∀ b, owned ι H b → owned ι0 H0 b ∨ w0.heap.size ≤ b) ∧ (∀ b, owned ι0 H0 b → b < w.heap.size) ∧ w0.heap.size ≤ w.heap.size ∧
    w.heap[L0]? = some (.loop (rec sta pend)) ∧ w.heap[D0]? = some (.deferred (some [])) ∧
    ((sta = .ready ∧ pend = none ∧ ∃ i, i ≤ L.length ∧ pre = L.take i ∧ (∀ j, j < i → gi j = true) ∧ H = st i) ∨
     (sta = .done ∧ ∃ i e c, i < L.length ∧ pre = L.take (i + 1) ∧ gi i = false ∧ pend = some c ∧ ((e = .ret ∧ c = .ret) ∨ ∃ id, e = .exit id ∧ c = .exit id) ∧ Q e H))
theorem guest_stable {B : Imm → World → Prop} {S0 : Imm} {w0 : World} {ι0 : Ix} {H0 : Hp} {D0 L0 : Nat} {rec : LoopState → Option Code → Loop} {L : List PV} {st : Nat → Hp} {gi : Nat → Bool} {Q : Exit → Hp → Prop} (hB : BOK B) :
    ExtStable (Guest B S0 w0 ι0 H0 D0 L0 rec L st gi Q) := by
  rintro pre D S w S' w' hk hbel hsame hS ⟨ι, H, sta, pend, hD, hobj, hlo, hlt, hdi, hb, hle, hkeep, hne, hown, hsz, hszge, hL, hDk, hst⟩
  subst hD
  refine ⟨ι, H, sta, pend, rfl, fun k o ho => (hobj k o ho).mono hk (.refl _) hbel (fun b hb' => hsame b (.inr (.inl ⟨k, o, ho, has_excl hb', hb'⟩))) (fun _ => rfl) rfl (fun b j hb' hs => hS b j (.inr (.inl ⟨k, o, ho, has_excl hb', hb'⟩)) hs), hlo, hlt, hdi,
    hB _ _ _ _ hk hbel hb, hle, hkeep.trans hk, hne, hown, fun b hb' => Nat.lt_of_lt_of_le (hsz b hb') hbel.size, Nat.le_trans hszge hbel.size, (hsame _ (.inr (.inr (.inr rfl)))).trans hL, (hsame _ (.inr (.inr (.inl rfl)))).trans hDk, hst⟩
/-- a list of rounds that go on: by the number of the round -/
def goOf (gi : Nat → Bool) : List PV → Bool := fun pre => gi (pre.length - 1)
theorem goOf_take {gi : Nat → Bool} {L : List PV} {i : Nat} (h : i < L.length) : goOf gi (L.take (i + 1)) = gi i := by
  unfold goOf; rw [List.length_take, Nat.min_eq_left (by omega)]; simp
section
variable {P : Program} {τ : TypeId → Option TE} {B : Imm → World → Prop} {p : Nat}
/-- one round after another -/
theorem guest_yields (hB : BOK B) (hm : P.follows .mixedOrders = true) (hτ : TabOK P τ) {md rf CP YP} (hC : CPOKB P B CP) (hY : ∀ r, YPOK P r B YP)
    {S0 : Imm} {w0 : World} {ι0 : Ix} {H0 : Hp} {D0 L0 : Nat} {fn : FuncId} {tmps : Array Value} {ps : Array Tmp} {assign body : Code} {db : Nat} {env : Env} {n : Nat} {L : List PV} {st : Nat → Hp} {gi : Nat → Bool} {Q : Exit → Hp → Prop}
    (hR0 : RepA S0 w0 ι0 env tmps) (hn : ∀ k b, ι0.o k = some b → k < n) (hn' : ∀ k b, ι0.t k = some b → k < n) (hDL : D0 ≠ L0) (hnL : ¬ owned ι0 H0 L0)  (hnD : ¬ owned ι0 H0 D0) (hok1 : codeOK assign = true) (hok2 : codeOK body = true)
    {KN : Nat → Env → Hp → Prop} {KR : Nat → Hp → Prop} {KX : Nat → Nat → Hp → Prop} (hKN : ∀ i env' H', KN i env' H' → gi i = true ∧ Sub B n env' H' (anysL env) (st (i + 1))) (hKR : ∀ i H', KR i H' → gi i = false ∧ Q .ret H') (hKX : ∀ i id H', KX i id H' → gi i = false ∧ Q (.exit id) H')
    (hb : ∀ i x, L[i]? = some x → (∀ j, j < i → gi j = true) → ∀ l, ev P (some l) B n τ md rf CP YP assign n (setEs env ps.toList (unEl ps.size x)) (st i) fun e env2 H2 n2 => match e with
      | .normal => ev P (some l) B n τ md rf CP YP body n2 env2 H2 fun e env' H' _ => match e with
        | .normal => KN i env' H'
        | .ret => KR i H'
        | .exit id => KX i id H'
        | _ => False
      | _ => False) :
    Yields P L0 ps.size (Guest B S0 w0 ι0 H0 D0 L0 (fun sta pe => { state := sta, pending := pe, fn := fn, tmps := tmps, params := ps, assign := assign, body := body, defers := db }) L st gi Q) (goOf gi) L := by
  intro r B' f us vs args nn HH K h
  obtain ⟨rec, hrec⟩ : ∃ rec : LoopState → Option Code → Loop, (fun sta pe => { state := sta, pending := pe, fn := fn, tmps := tmps, params := ps, assign := assign, body := body, defers := db }) = rec := ⟨_, rfl⟩
  rw [hrec] at h
  obtain ⟨⟨e1, e2, e3⟩, h⟩ := h
  subst e1; subst e2; subst e3
  unfold pureK at h
  split at h
  rotate_left
  · exact h.elim
  rename_i as ha
  rw [forceL_eq, ifK_iff, getHK_iff] at h
  obtain ⟨hlen, ob, hob, h⟩ := h
  have hlen := Nat.eq_of_beq_eq_true hlen
  split at h
  rotate_left
  · exact h.elim
  rename_i G' pre
  rw [forceK_eq] at h
  obtain ⟨⟨hG', i, hi, hpre, hx, hgo⟩, hK⟩ := h
  subst hG'
  refine ⟨_, _, _, _, hK, fun S w ι H o c a next QQ vals ho hbw M hr hacc hnew hk => ?_⟩
  have h0 : Hget H 0 = some _ := (hacc 0 (by simp)).trans hob
  obtain ⟨hlt0, hst0, hG⟩ := M.obj 0 _ h0
  have hGs := hG
  obtain ⟨ιc, Hc, sta, pend, hD, hobj, hlo, hlt, hdi, hBc, hle, hkeep, hne, hown, hsz, hszge, hL, hDk, hstat⟩ := hG
  -- the loop is ready
  have hready : sta = .ready ∧ pend = none ∧ (∀ j, j < i → gi j = true) ∧ Hc = st i := by
    rcases hstat with ⟨s1, s2, i', hi', hp, hall, hH⟩ | ⟨s1, i', e, c', hi', hp, hgf, _⟩
    · have : i' = i := by
        have := congrArg List.length (hp.symm.trans hpre)
        simp [List.length_take] at this; omega
      subst this
      exact ⟨s1, s2, hall, hH⟩
    · have : i = i' + 1 := by
        have := congrArg List.length (hpre.symm.trans hp)
        simp [List.length_take] at this; omega
      have h2 := hgo i' (by omega)
      rw [goOf_take (by omega)] at h2
      rw [h2] at hgf; cases hgf
  obtain ⟨hs1, hs2, hall, hH⟩ := hready
  subst hs1; subst hs2
  have Mc : Mem S w ιc Hc := ⟨hobj, hlo, hlt, hdi, M.imm⟩
  obtain ⟨a1, a2⟩ := pureEs_sound ha
  have hA : RepA S w noI (tok1s as) vals := ⟨(tok1s_rep as).1.trans (a1.trans hr.1), fun i hi => (tok1s_rep as).2 i (a2 i (by rw [(tok1s_rep as).1] at hi; omega) (hr.2 i (by rw [(tok1s_rep as).1] at hi; omega)))⟩
  have hxe : unEl ps.size (elOf (tok1s as)) = tok1s as := by rw [← hlen]; exact unEl_elOf _
  have hbi := hb i _ hx hall L0
  rw [hxe, ← hH] at hbi
  have hyl : (invoke (.fn (.yield L0) #[]) (#[] ++ vals)).run P w = .ok (.round L0 fn ((ps.zip vals).foldl (fun tmps (t, a) => tmps.setIfInBounds t a) tmps) assign body) w := by
    have := run_yield (P := P) (args := vals) hL (by rw [← hrec]; show vals.size = ps.size; rw [← hA.1, hlen])
    rw [← hrec] at this
    simpa [invoke] using this
  rw [hyl, Oper.uponIn_round]
  refine ⟨fun h => by simp [Fw, Fence.wide] at h, roundIn_of_wpIn (F := Fw r) trivial ?_⟩
  have hle0 : RepA S w ιc env tmps := hR0.mono hkeep hle
  have hR1 : RepA S w ιc (setEs env ps.toList (tok1s as)) ((ps.zip vals).foldl (fun tmps (t, a) => tmps.setIfInBounds t a) tmps) := by
    have := setEs_rep ps.toList (tok1s as) (vs := vals.toList) hle0 (by simp; rw [← hlen]; exact hA.1) (by simpa using hA.1) (fun i hi => by have := (hA.2 i hi).up ιc; simpa [Array.getD_eq_getD_getElem?] using this)
    rw [← Array.foldl_toList, Array.toList_zip]; exact this
  have hA1 : At B n S w ιc Hc (setEs env ps.toList (tok1s as)) Hc { tmps := (ps.zip vals).foldl (fun tmps (t, a) => tmps.setIfInBounds t a) tmps, defers := [] } w :=
    ⟨S, ιc, hBc, Mc, hR1, .nil _ _ _, fun d hd => by simp at hd, .refl _ _ _ _ _⟩
  refine wpIn_mono (ev_sound (r := some L0) hB hm hτ hC (hY _) assign hok1 _ _ _ _ hbi _ _ _ _ _ _ hA1) ?_
  rintro e aa w1 ⟨env2, H2, ⟨n2, hk2⟩, hA2⟩
  cases e with
  | normal =>
    obtain ⟨S2, ι2, hb2, M2, R2, D2, D2', T2⟩ := hA2.ex
    have hnoL : ∀ {b}, (b = L0 ∨ b = D0) → ¬ owned ιc Hc b := fun hb' ho => by rcases hb' with rfl | rfl; exact (hne _ ho).2 rfl; exact (hne _ ho).1 rfl
    have hltL := lt_of_heap hL
    have hltD := lt_of_heap hDk
    have hL2 : w1.heap[L0]? = some (.loop (rec .ready none)) := (T2.same _ hltL (hnoL (.inl rfl))).trans hL
    have hD2 : w1.heap[D0]? = some (.deferred (some [])) := (T2.same _ hltD (hnoL (.inr rfl))).trans hDk
    have hno2 : ∀ {b}, (b = L0 ∨ b = D0) → ¬ owned ι2 H2 b := fun {b} hb' ho => by
      rcases T2.own b ho with h | h
      · exact hnoL hb' h
      · rcases hb' with rfl | rfl <;> omega
    refine ⟨_, run_beginRound hL2 (by rw [← hrec]), ?_⟩
    obtain ⟨M3, TX3, hL3, hO3⟩ := M2.aside (o' := .loop { rec .ready none with state := .busy }) hL2 rfl rfl (hno2 (.inl rfl)) n
    obtain ⟨Mw, TXw, hLw, hOw⟩ := Mc.aside (o' := .loop { rec .ready none with state := .busy }) hL rfl rfl (hnoL (.inl rfl)) n
    have hD3 := (hO3 D0 hDL).trans hD2
    have hszw : (w.putObj L0 (.loop { rec .ready none with state := .busy })).heap.size = w.heap.size := by simp
    have hrdw : ∀ b j, rd (w.putObj L0 (.loop { rec .ready none with state := .busy })) b j = rd w b j := fun b j => by
      by_cases e : b = L0
      · subst e; rw [rd_plain hLw rfl, rd_plain hL rfl]
      · exact rd_congr (hOw b e) j
    have hrd3 : ∀ b j, rd (w1.putObj L0 (.loop { rec .ready none with state := .busy })) b j = rd w1 b j := fun b j => by
      by_cases e : b = L0
      · subst e; rw [rd_plain hL3 rfl, rd_plain hL2 rfl]
      · exact rd_congr (hO3 b e) j
    have TB : Tr n S (w.putObj L0 (.loop { rec .ready none with state := .busy })) ιc Hc S2 (w1.putObj L0 (.loop { rec .ready none with state := .busy })) ι2 H2 := by
      refine ⟨⟨T2.below.os, T2.below.tape, T2.below.output, by simpa using T2.below.size, fun ad had => (TX3.below.frz ad (Nat.lt_of_lt_of_le (by simpa using had) T2.below.size)).trans ((T2.below.frz ad (by simpa using had)).trans (TXw.below.frz ad (by simpa using had)).symm), fun b hb' => ?_⟩, fun b hb' ho => ?_, ⟨fun b j hs => ⟨(T2.keeps.imm b j hs).1, ?_⟩, fun b j hs => ?_⟩, fun b j hb' hs => T2.immN b j (by omega) hs, fun b ho => by rw [hszw]; exact T2.own b ho, T2.protO, T2.protT⟩
      · by_cases e : b = L0
        · subst e; unfold bsz; rw [hL3, hLw]
        · exact (bsz_congr (hO3 b e)).trans ((T2.below.len b (by omega)).trans (bsz_congr (hOw b e)).symm)
      · by_cases e : b = L0
        · subst e; exact hL3.trans hLw.symm
        · exact (hO3 b e).trans ((T2.same b (by omega) ho).trans (hOw b e).symm)
      · rw [hrdw, hrd3]; exact (T2.keeps.imm b j hs).2
      · rw [hrdw] at hs; rw [hrd3]; exact T2.keeps.cells b j hs
    have hA3 : At B n S (w.putObj L0 (.loop { rec .ready none with state := .busy })) ιc Hc env2 H2 aa (w1.putObj L0 (.loop { rec .ready none with state := .busy })) :=
      ⟨S2, ι2, hB _ _ _ _ TX3.keeps TX3.below hb2, M3, R2.mono TX3.keeps (.refl _), ⟨fun d hd => by
          obtain ⟨b, h1, h2, h3⟩ := D2.all d hd
          refine ⟨b, h1, ?_, h3⟩
          rw [hO3 b (fun e => by rw [e, hL2] at h2; cases h2)]; exact h2, D2.nodup⟩, fun d hd b hb => by rw [hszw]; exact D2' d hd b hb, TB⟩
    refine wpIn_mono (ev_sound (r := some L0) hB hm hτ hC (hY _) body hok2 _ _ _ _ hk2 _ _ _ _ _ _ hA3) ?_
    rintro e a3 w3 ⟨env', H', ⟨n3, hk3⟩, hA4⟩
    -- the round's end
    have fin : ∀ (jump : Option Code) (env4 : Env) (H4 : Hp), At B n S (w.putObj L0 (.loop { rec .ready none with state := .busy })) ιc Hc env4 H4 a3 w3 → goOf gi (pre ++ [elOf (tok1s as)]) = jump.isNone →
        ((jump = none ∧ gi i = true ∧ H4 = st (i + 1)) ∨ (∃ e c, gi i = false ∧ jump = some c ∧ ((e = .ret ∧ c = .ret) ∨ ∃ id, e = .exit id ∧ c = .exit id) ∧ Q e H4)) →
        ∃ v w', (Instr.endRound L0 jump).run P w3 = .ok v w' ∧ next (a.put o.dst v) w' := by
      intro jump env4 H4 hA5 hgo5 hst5
      obtain ⟨S5, ι5, hb5, M5, R5, D5, D5', T5⟩ := hA5.ex
      have hL5 : w3.heap[L0]? = some (.loop { rec .ready none with state := .busy }) := (T5.same _ (by omega) (hnoL (.inl rfl))).trans hLw
      have hD5 : w3.heap[D0]? = some (.deferred (some [])) := (T5.same _ (by omega) (hnoL (.inr rfl))).trans ((hOw D0 hDL).trans hDk)
      have hno5 : ∀ {b}, (b = L0 ∨ b = D0) → ¬ owned ι5 H4 b := fun {b} hb' ho => by
        rcases T5.own b ho with h | h
        · exact hnoL hb' h
        · rcases hb' with rfl | rfl <;> omega
      obtain ⟨M6, TX6, hL6, hO6⟩ := M5.aside (o' := .loop (rec (if jump.isNone then .ready else .done) jump)) hL5 rfl rfl (hno5 (.inl rfl)) n
      have TT := (TXw.trans T5.toX).trans TX6
      have hpre' : pre ++ [elOf (tok1s as)] = L.take (i + 1) := by rw [hpre]; exact take_succ' hx
      have hlt' : ∀ b, (owned ι0 H0 b ∨ owned ι5 H4 b ∨ b = D0 ∨ b = L0) → b < (w3.putObj L0 (.loop (rec (if jump.isNone then .ready else .done) jump))).heap.size := by
        rintro b (h | ⟨k, o, h1, h2, h3⟩ | rfl | rfl)
        · exact Nat.lt_of_lt_of_le (hsz b h) TT.below.size
        · exact (M6.obj k o h1).lt h3
        · exact Nat.lt_of_lt_of_le hltD TT.below.size
        · exact Nat.lt_of_lt_of_le hltL TT.below.size
      have hG6 : Guest B S0 w0 ι0 H0 D0 L0 rec L st gi Q (pre ++ [elOf (tok1s as)]) (fun b => owned ι0 H0 b ∨ owned ι5 H4 b ∨ b = D0 ∨ b = L0) S5 (w3.putObj L0 (.loop (rec (if jump.isNone then .ready else .done) jump))) := by
        refine ⟨ι5, H4, _, _, rfl, M6.obj, M6.liveO, M6.liveT, M6.dist, hB _ _ _ _ TX6.keeps TX6.below hb5, ⟨fun k b hkb => TT.protO k (hn k b hkb) b (hle.o k b hkb), fun k b m hkb => ?_⟩, hkeep.trans TT.keeps,
          fun b ho => ⟨fun e => hno5 (.inr e) ho, fun e => hno5 (.inl e) ho⟩, fun b ho => ?_, fun b ho => hlt' b (.inl ho), Nat.le_trans hszge TT.below.size, hL6, (hO6 D0 hDL).trans hD5, ?_⟩
        · obtain ⟨b', m', q1, q2⟩ := hle.t k b m hkb
          obtain ⟨b2, m2, q3, q4⟩ := TT.protT k (hn' k _ hkb) b' m' q1
          refine ⟨b2, m2, q3, ?_⟩
          rcases q2 with ⟨rfl, q2⟩ | q2
          · rcases q4 with ⟨rfl, q4⟩ | q4
            · exact .inl ⟨rfl, by omega⟩
            · exact .inr (by omega)
          · rcases q4 with ⟨rfl, q4⟩ | q4
            · exact .inr (by omega)
            · exact .inr (by omega)
        · rcases TT.own b ho with h | h
          · exact hown b h
          · exact .inr (Nat.le_trans hszge h)
        · rcases hst5 with ⟨rfl, g1, g2⟩ | ⟨e, c, g1, rfl, g2, g3⟩
          · refine .inl ⟨rfl, rfl, i + 1, by omega, hpre', fun j hj => ?_, g2⟩
            by_cases e : j = i
            · rw [e]; exact g1
            · exact hall j (by omega)
          · exact .inr ⟨rfl, i, e, c, hi, hpre', g1, rfl, g2, g3⟩
      have hxD : ι.x 0 = fun b => owned ι0 H0 b ∨ owned ιc Hc b ∨ b = D0 ∨ b = L0 := hD
      obtain ⟨M7, L7, T7⟩ := M.extStep (k := 0) h0 hst0 hG6 TT.below TT.keeps
        (fun b hb' hno => TT.same b hb' (fun ho => hno (by rw [hxD]; exact .inr (.inl ho))) (fun e => hno (by rw [hxD]; exact .inr (.inr (.inr e)))))
        (fun b j hb' hs => (TT.immN b j hb' hs).imp id (fun ho => by rw [hxD]; exact .inr (.inl ho)))
        (fun b hb' => by
          rw [hxD]
          rcases hb' with h | h | h | h
          · exact .inl (.inl h)
          · rcases TT.own b h with h | h
            · exact .inl (.inr (.inl h))
            · exact .inr h
          · exact .inl (.inr (.inr (.inl h)))
          · exact .inl (.inr (.inr (.inr h)))) hlt' M6.imm
      have hend : (Instr.endRound L0 jump).run P w3 = .ok (.bool jump.isNone) (w3.putObj L0 (.loop (rec (if jump.isNone then .ready else .done) jump))) := by
        have := run_endRound (P := P) jump hL5
        rw [← hrec] at this ⊢; exact this
      refine ⟨_, _, hend, ?_⟩
      refine hk _ S5 _ _ M7 L7 TT.keeps ?_ T7
      rw [hgo5]; exact .bp _ _
    cases e with
    | normal =>
      obtain ⟨g1, g2⟩ := hKN _ _ _ hk3
      have hgo6 : goOf gi (pre ++ [elOf (tok1s as)]) = true := by rw [hpre, take_succ' hx, goOf_take hi]; exact g1
      exact fin none _ _ (g2 _ _ _ _ _ _ hA4) hgo6 (.inl ⟨rfl, g1, rfl⟩)
    | ret =>
      obtain ⟨g1, g2⟩ := hKR _ _ hk3
      have hgo6 : goOf gi (pre ++ [elOf (tok1s as)]) = false := by rw [hpre, take_succ' hx, goOf_take hi]; exact g1
      exact fin (some .ret) _ _ hA4 hgo6 (.inr ⟨.ret, .ret, g1, rfl, .inl ⟨rfl, rfl⟩, g2⟩)
    | exit id =>
      obtain ⟨g1, g2⟩ := hKX _ _ _ hk3
      have hgo6 : goOf gi (pre ++ [elOf (tok1s as)]) = false := by rw [hpre, take_succ' hx, goOf_take hi]; exact g1
      exact fin (some (.exit id)) _ _ hA4 hgo6 (.inr ⟨.exit id, .exit id, g1, rfl, .inr ⟨id, rfl, rfl⟩, g2⟩)
    | _ => exact hk3.elim
  | _ => exact hk2.elim
theorem Hget_lt : ∀ {H : Hp} {k : Nat} {o : AO}, Hget H k = some o → k < H.length := by
  intro H
  induction H with
  | nil => intro k o h; simp [Hget] at h
  | cons x H ih =>
    intro k o h
    cases k with
    | zero => simp
    | succ k => have := ih (k := k) (o := o) (by simpa [Hget] using h); simp; omega
theorem Mem.push {S : Imm} {w : World} {ι : Ix} {H : Hp} (M : Mem S w ι H) (o : Obj) (hp : Obj.plain o = true) :
    Mem S (w.alloc o) ι H ∧ Keeps S w S (w.alloc o) ∧ Bel w (w.alloc o) ∧ (w.alloc o).heap[w.heap.size]? = some o ∧ (w.alloc o).heap.size = w.heap.size + 1 ∧ ∀ b, b < w.heap.size → (w.alloc o).heap[b]? = w.heap[b]? := by
  have hk : Keeps S w S (w.alloc o) := push_keeps M.imm (w := w) o
  have hbel : Bel w (w.alloc o) := push_below _ _ (unf_plain hp)
  have old : ∀ b, b < w.heap.size → (w.alloc o).heap[b]? = w.heap[b]? := fun b hb => heap_push_old hb
  exact ⟨⟨fun k ob ho => (M.obj k ob ho).mono hk (.refl _) hbel (fun b hb => old b ((M.obj k ob ho).lt hb)) (fun _ => rfl) rfl (fun _ _ _ h => h), M.liveO, M.liveT, M.dist, fun b j hs => by rw [(hk.imm b j hs).2]; exact M.imm b j hs⟩,
    hk, hbel, heap_push_new _ _, by simp, old⟩
theorem range_of (hB : BOK B) (hm : P.follows .mixedOrders = true) (hτ : TabOK P τ) {md rf CP YP} (hC : CPOKB P B CP) (hY : ∀ r, YPOK P r B YP)
    {g : Operand} {ps : Array Tmp} {assign body : Code} {n : Nat} {Q : Exit → Env → Hp → Prop} {env : Env} {H : Hp} {gf : Nat} {fs0 cs0 fs cs : List PV} (L : List PV) (gi : Nat → Bool) (hs : Nat → List (Nat × AO))
    (hg : eo env g = .fn (.func gf) fs0 cs0) (hfs : pureEs fs0 = some fs) (hcs : pureEs cs0 = some cs) (hI : ISpec P gf (tok1s fs) (tok1s cs) ps.size L)
    (hok1 : codeOK assign = true) (hok2 : codeOK body = true) (hlen : Nat.ble H.length n = true) (hp : Nat.ble p n = true)
    (h0 : putsHK (hs 0) H fun H1 => forceS (sgOf [] H 0 H1) fun σ => subK σ n env H (anysL env) H1 Ok)
    (hend : (∀ j, j < L.length → gi j = true) → putsHK (hs L.length) H fun H1 => Q .normal env H1)
    (hb : ∀ i x, L[i]? = some x → (∀ j, j < i → gi j = true) → ∀ l, putsHK (hs i) H fun H1 => forceL (setEs env ps.toList (unEl ps.size x)) fun env1 => ev P (some l) B n τ md rf CP YP assign n env1 H1 fun e env2 H2 n2 => match e with
      | .normal => ev P (some l) B n τ md rf CP YP body n2 env2 H2 fun e env' H' _ => match e with
        | .normal => Nx (∃ extra : Sg, gi i = true ∧ putsHK (hs (i + 1)) H fun H1 => forceS (sgOf extra H' 0 H1) fun σ => subK σ n env' H' (anysL env) H1 Ok)
        | .ret => VC (gi i = false) ∧ Q .ret env H'
        | .exit id => VC (gi i = false) ∧ Q (.exit id) env H'
        | _ => False
      | _ => False) : Lp md rf CP YP n (AW P none B p (.rangeFunc g ps assign body) Q env H) := by
  refine ⟨fun S0 w0 ι0 H0 a w hA => ?_⟩
  have hlen := Nat.le_of_ble_eq_true hlen
  have hp := Nat.le_of_ble_eq_true hp
  obtain ⟨S, ι, hbw, M, R, D, D', T⟩ := hA.ex
  have hn : ∀ k b, ι.o k = some b → k < n := fun k b h => by obtain ⟨o, h1, _⟩ := M.liveO k b h; have := Hget_lt h1; omega
  have hn' : ∀ k b, ι.t k = some b → k < n := fun k b h => by obtain ⟨o, h1, _⟩ := M.liveT k b h; have := Hget_lt h1; omega
  simp only [putsHK_eq, forceS_eq] at h0
  have hAs : At B n S w ι H env H { tmps := a.tmps, defers := [] } w := ⟨S, ι, hbw, M, R, .nil _ _ _, fun d hd => by simp at hd, .refl _ _ _ _ _⟩
  obtain ⟨S1, ι1, hb1, M1, R1, _, _, T1⟩ := ((subK_sound (B := B) h0).2 _ _ _ _ _ _ hAs).ex
  refine wpIn_rangeFunc fun fn hfn => ?_
  obtain ⟨rec, hrec⟩ : ∃ rec : LoopState → Option Code → Loop, (fun sta pe => { state := sta, pending := pe, fn := fn, tmps := a.tmps, params := ps, assign := assign, body := body, defers := w.heap.size }) = rec := ⟨_, rfl⟩
  obtain ⟨Ma, Ka, Ba, ha1, ha2, ha3⟩ := M1.push (.deferred (some [])) rfl
  obtain ⟨Mb, Kb, Bb, hb1', hb2', hb3'⟩ := Ma.push (.loop (rec .ready none)) rfl
  obtain ⟨W1, hW1⟩ : ∃ W1, (w.alloc (.deferred (some []))).alloc (.loop (rec .ready none)) = W1 := ⟨_, rfl⟩
  rw [hW1] at Mb Kb Bb hb1' hb2' hb3'
  rw [ha2] at hb1' hb2' hb3'
  have hD1 : W1.heap[w.heap.size]? = some (.deferred (some [])) := (hb3' _ (by omega)).trans ha1
  have hold : ∀ b, b < w.heap.size → W1.heap[b]? = w.heap[b]? := fun b hb => (hb3' b (by omega)).trans (ha3 b hb)
  have hK1 : Keeps S w S1 W1 := T1.keeps.trans (Ka.trans Kb)
  have hBel1 : Bel w W1 := Ba.trans Bb
  have hnoH : ∀ b, owned ι H b → b < w.heap.size := by rintro b ⟨k, o, h1, _, h3⟩; exact (M.obj k o h1).lt h3
  have hno1 : ∀ b, owned ι1 (Hputs H (hs 0)) b → b < w.heap.size := by rintro b ⟨k, o, h1, _, h3⟩; exact (M1.obj k o h1).lt h3
  -- the value that is ranged over
  have hgv := eo_rep0 R g (fun x e => by subst e; simp only [eo] at hg; cases hh : globT x <;> rw [hh] at hg <;> cases hg)
  rw [hg] at hgv
  generalize hev : a.eval g = gv at hgv
  cases hgv with
  | fn _ _ _ _ us vs hk hl hu hvs =>
    have hle1 : ι.le ι1 := ⟨fun k b h => T1.protO k (hn k b h) b h, fun k b m h => T1.protT k (hn' k _ h) b m h⟩
    have hGs := guest_stable (S0 := S) (w0 := w) (ι0 := ι) (H0 := H) (D0 := w.heap.size) (L0 := w.heap.size + 1) (rec := rec) (L := L) (st := fun i => Hputs H (hs i)) (gi := gi) (Q := fun e H' => Q e env H') hB
    have hYi : Yields P (w.heap.size + 1) ps.size (Guest B S w ι H w.heap.size (w.heap.size + 1) rec L (fun i => Hputs H (hs i)) gi (fun e H' => Q e env H')) (goOf gi) L := by
      rw [← hrec]
      refine guest_yields hB hm hτ hC hY (md := md) (rf := rf) R hn (fun k b h => hn' k b h) (by omega) (fun h => by have := hnoH _ h; omega) (fun h => by have := hnoH _ h; omega) hok1 hok2
        (KN := fun i env' H' => Nx (∃ extra : Sg, gi i = true ∧ putsHK (hs (i + 1)) H fun H1 => forceS (sgOf extra H' 0 H1) fun σ => subK σ n env' H' (anysL env) H1 Ok)) (KR := fun i H' => VC (gi i = false) ∧ Q .ret env H') (KX := fun i id H' => VC (gi i = false) ∧ Q (.exit id) env H')
        (fun i env' H' h => ?_) (fun i H' h => ⟨h.1.get, h.2⟩) (fun i id H' h => ⟨h.1.get, h.2⟩) fun i x hx hall l => ?_
      · obtain ⟨extra, h1, h2⟩ := h.get
        simp only [putsHK_eq, forceS_eq] at h2
        exact ⟨h1, (subK_sound h2).2⟩
      · have := hb i x hx hall l
        rw [putsHK_eq, forceL_eq] at this
        exact this
    have hG0 : Guest B S w ι H w.heap.size (w.heap.size + 1) rec L (fun i => Hputs H (hs i)) gi (fun e H' => Q e env H') [] (fun b => owned ι H b ∨ owned ι1 (Hputs H (hs 0)) b ∨ b = w.heap.size ∨ b = w.heap.size + 1) S1 W1 :=
      ⟨ι1, Hputs H (hs 0), .ready, none, rfl, Mb.obj, Mb.liveO, Mb.liveT, Mb.dist, hB _ _ _ _ (Ka.trans Kb) hBel1 hb1, hle1, hK1, fun b h => by have := hno1 b h; omega, T1.own, fun b h => by have := hnoH b h; omega, by omega, hb1', hD1,
        .inl ⟨rfl, rfl, 0, Nat.zero_le _, by simp, fun j hj => by omega, rfl⟩⟩
    let ιi : Ix := ⟨fun _ => none, fun _ => none, fun k b => k = 0 ∧ (owned ι H b ∨ owned ι1 (Hputs H (hs 0)) b ∨ b = w.heap.size ∨ b = w.heap.size + 1)⟩
    have hxi : ιi.x 0 = fun b => owned ι H b ∨ owned ι1 (Hputs H (hs 0)) b ∨ b = w.heap.size ∨ b = w.heap.size + 1 := by funext b; simp [ιi]
    have Mi : Mem S1 W1 ιi (hpOf [.ext (Guest B S w ι H w.heap.size (w.heap.size + 1) rec L (fun i => Hputs H (hs i)) gi (fun e H' => Q e env H')) []]) := by
      have only : ∀ {k o}, Hget (hpOf [.ext (Guest B S w ι H w.heap.size (w.heap.size + 1) rec L (fun i => Hputs H (hs i)) gi (fun e H' => Q e env H')) []]) k = some o → k = 0 ∧ o = .ext (Guest B S w ι H w.heap.size (w.heap.size + 1) rec L (fun i => Hputs H (hs i)) gi (fun e H' => Q e env H')) [] := by
        intro k o h
        rw [Hget_hpOf] at h
        cases k with
        | zero => simp at h; exact ⟨rfl, h.symm⟩
        | succ k => simp at h
      refine ⟨fun k o h => ?_, fun k b h => by simp [ιi] at h, fun k b h => by simp [ιi] at h, fun k k' o o' b h h' _ _ => by rw [(only h).1, (only h').1], Mb.imm⟩
      obtain ⟨rfl, rfl⟩ := only h
      refine ⟨fun b hb => ?_, hGs, by rw [hxi]; exact hG0⟩
      rw [hxi] at hb
      rcases hb with h | h | h | h
      · have := hnoH b h; omega
      · have := hno1 b h; omega
      · omega
      · omega
    obtain ⟨f1, f2⟩ := pureEs_sound hfs
    obtain ⟨c1, c2⟩ := pureEs_sound hcs
    have hAi : RepA S1 W1 ιi (tok1s fs ++ [.fv (.yield (w.heap.size + 1)) #[] #[]] ++ tok1s cs) (us ++ #[.func (.yield (w.heap.size + 1)) #[] #[]] ++ vs) := by
      refine repA_append (repA_append ⟨(tok1s_rep fs).1.trans (f1.trans hk), fun i hi => ?_⟩ ⟨rfl, fun i hi => ?_⟩) ⟨(tok1s_rep cs).1.trans (c1.trans hl), fun i hi => ?_⟩
      · rw [(tok1s_rep fs).1] at hi
        exact Rep.up (((tok1s_rep fs).2 i (f2 i (by omega) (hu i (by omega)))).mono hK1 _ (.refl _)) _
      · have : i = 0 := by simp at hi; omega
        subst this; exact .fv _ _ _ _
      · rw [(tok1s_rep cs).1] at hi
        exact Rep.up (((tok1s_rep cs).2 i (c2 i (by omega) (hvs i (by omega)))).mono hK1 _ (.refl _)) _
    refine ⟨w.heap.size + 1, [{ target := .collected w.heap.size, args := #[] }], W1, { target := .fn (.func gf) vs, args := us ++ #[.func (.yield (w.heap.size + 1)) #[] #[]] }, W1, gf, us ++ #[.func (.yield (w.heap.size + 1)) #[] #[]] ++ vs, W1, ?_, ?_, ?_, ?_, fun h => by simp [Fw, Fence.wide] at h, ?_⟩
    · rw [← hW1, ← hrec]; exact run_enterLoop_outer _ _ _ _ _
    · simp only [resolve, hev, Deferred.ofValue, Sem.run_bind, Sem.run_pure, Result.andThen]
      simp [go_sem]
    · intro f' _; trivial
    · simp only [invoke, Sem.run_bind, Sem.run_pure, Result.andThen]
      exact hI.1 _ _
    · refine CallsIn.mono (hI.2 _ _ _ hYi S1 W1 ιi _ (gB_mono hK1 hBel1 (hB.glob _ _ hbw)) Mi hAi) ?_
      rintro e w5 ⟨val, S5, ι5, rfl, M5, R5, T5⟩
      obtain ⟨_, _, hG5⟩ := M5.obj 0 _ (by rw [Hget_hpOf]; rfl)
      obtain ⟨ιc, Hc, sta, pend, hD5, hobj, hlo, hlt, hdi, hBc, hle, hkeep, hne, hown, hsz, hszge, hL, hDk, hstat⟩ := hG5
      have Mc : Mem S5 w5 ιc Hc := ⟨hobj, hlo, hlt, hdi, M5.imm⟩
      have hst' : sta ≠ .busy := by rcases hstat with ⟨h, _⟩ | ⟨h, _⟩ <;> rw [h] <;> simp
      have hend' : (Instr.endLoop (w.heap.size + 1)).run P w5 = .ok pend (w5.putObj (w.heap.size + 1) (.loop { rec sta pend with state := .exhausted })) := by
        have := run_endLoop (P := P) hL (by rw [← hrec]; exact hst')
        rw [← hrec] at this ⊢; exact this
      obtain ⟨M6, TX6, hL6, hO6⟩ := Mc.aside (o' := .loop { rec sta pend with state := .exhausted }) hL rfl rfl (fun h => (hne _ h).2 rfl) p
      have hDi : ∀ b, b < w.heap.size → owned ιi (hpOf [.ext (Guest B S w ι H w.heap.size (w.heap.size + 1) rec L (fun i => Hputs H (hs i)) gi (fun e H' => Q e env H')) []]) b → owned ι H b := by
        rintro b hbl ⟨k, o, h1, _, h3⟩
        rw [Hget_hpOf] at h1
        cases k with
        | succ k => simp at h1
        | zero =>
          simp at h1; subst h1
          have h3 : ιi.x 0 b := h3
          rw [hxi] at h3
          rcases h3 with h | h | h | h
          · exact h
          · rcases T1.own b h with h | h
            · exact h
            · omega
          · omega
          · omega
      have TF : Tr p S w ι H S5 (w5.putObj (w.heap.size + 1) (.loop { rec sta pend with state := .exhausted })) ιc Hc := by
        refine ⟨hBel1.trans (T5.below.trans TX6.below), fun b hbl ho => ?_, hkeep.trans TX6.keeps, fun b j hbl hs => ?_, hown, fun k hk b hkb => hle.o k b hkb, fun k hk b m hkb => hle.t k b m hkb⟩
        · rw [hO6 b (by omega), T5.same b (by omega) (fun h => ho (hDi b hbl h)), hold b hbl]
        · rcases T5.immN b j (by omega) hs with h | h
          · exact T1.immN b j hbl h
          · exact .inr (hDi b hbl h)
      have hAt : At B p S0 w0 ι0 H0 env Hc { a with defers := [{ target := .collected w.heap.size, args := #[] }] ++ a.defers } (w5.putObj (w.heap.size + 1) (.loop { rec sta pend with state := .exhausted })) := by
        refine ⟨S5, ιc, hB _ _ _ _ TX6.keeps TX6.below hBc, M6, R.mono (hkeep.trans TX6.keeps) hle, ⟨fun d hd => ?_, ?_⟩, fun d hd b hb => ?_, T.trans TF⟩
        · rcases List.mem_cons.1 hd with rfl | hd
          · exact ⟨w.heap.size, rfl, (hO6 _ (by omega)).trans hDk, fun h => (hne _ h).1 rfl⟩
          · exact (D.tr TF).all d hd
        · refine List.pairwise_cons.2 ⟨fun d hd b b' h1 h2 e => ?_, D.nodup⟩
          obtain ⟨b2, q1, q2, q3⟩ := D.all d hd
          rw [q1] at h2; cases h2; cases h1
          have := lt_of_heap q2
          omega
        · rcases List.mem_cons.1 hd with rfl | hd
          · cases hb; exact T.below.size
          · exact D' d hd b hb
      refine ⟨pend, _, hend', ?_⟩
      rcases hstat with ⟨s1, rfl, i, hi, hpre, hall, hH⟩ | ⟨s1, i, e, c, hi, hpre, hgf, rfl, hec, hQ⟩
      · have : i = L.length := runG_full hi (fun j hj => by rw [goOf_take (by omega)]; exact hall j hj) hpre
        subst this
        have := hend hall
        rw [putsHK_eq] at this
        exact ⟨env, Hc, by rw [hH]; exact this, hAt⟩
      · rcases hec with ⟨rfl, rfl⟩ | ⟨id, rfl, rfl⟩
        · exact wpIn_ret ⟨env, Hc, hQ, hAt⟩
        · exact wpIn_exit ⟨env, Hc, hQ, hAt⟩
end
end Go.Eng
namespace Go.Eng
open Go.RowKit
set_option linter.unusedVariables false
variable {P : Program} {τ : TypeId → Option TE}
theorem lspecB_of {B : Imm → World → Prop} (hB : BOK B) (hm : P.follows .mixedOrders = true) (hτ : TabOK P τ) {md rf CP YP} (hC : CPOKB P B CP) (hY : YPOK P none B YP) {g : FuncId} {fn : Func} {args rs : List PV} {objs objs' : List AO} (n0 : Nat) (extra : Sg)
    (hf : P.funcs[g]? = some fn) (hb : fn.body.isSome = true) (hok : codeOK (fn.body.getD .skip) = true)
    (h : bodyLK P B τ md rf CP YP fn args objs n0 extra rs objs') : LSpecB P B g args objs rs objs' := by
  obtain ⟨c, hc⟩ := Option.isSome_iff_exists.1 hb
  unfold bodyLK at h
  rw [hc] at h hok
  exact lspec_of_aw hB hτ hf hc ((ev_sound hB hm hτ hC hY c hok _ _ _ _ h).mono fun e env H ⟨n, h⟩ => h)
theorem enters' {g : FuncId} {fn : Func} (hf : P.funcs[g]? = some fn) (hn : (fn.name == "runtime.NumGoroutine") = false) (hb : fn.body.isSome = true) : Enters P g := enters hf hn (by cases h : fn.body <;> simp_all)
/-- an iterator from its body -/
theorem ispec_of (hm : P.follows .mixedOrders = true) (hτ : TabOK P τ) {g : FuncId} {fn : Func} {fs cs L : List PV} {m : Nat} {md : Nat} {rf : List Nat}
    (hf : P.funcs[g]? = some fn) (hn : (fn.name == "runtime.NumGoroutine") = false) (hb : fn.body.isSome = true) (hok : codeOK (fn.body.getD .skip) = true)
    (h : ∀ (G : GT) (go : List PV → Bool) (b : Nat), Yields P b m G go L → ∃ CP, CPOK P CP ∧ bodyLK P anyB τ md rf CP (yldY b m G go L) fn (fs ++ [.fv (.yield b) #[] #[]] ++ cs) [.ext G []] 1 [] [] [.ext G (runG go [] L)]) : ISpec P g fs cs m L :=
  ⟨enters' hf hn hb, fun G go b hY => by
    obtain ⟨CP, hC, h⟩ := h G go b hY
    exact lspecB_of anyB_ok hm hτ hC (hY _ _) 1 [] hf hb hok h⟩
end Go.Eng
namespace Go.Eng
open Go.RowKit
set_option linter.unusedVariables false
set_option linter.unusedSimpArgs false
def viewC (c : CL) (K : CL → Prop) : Prop :=
  match c with
  | .pv cs => match intsOf .i64 cs with
    | some l => K (.ints .i64 l)
    | none => match boolsOf cs with
      | some l => K (.bools l)
      | none => False
  | .ints k xs => K (.ints k xs)
  | .bools xs => K (.bools xs)
  | .strs xs => K (.strs xs)
  | .rows k xs => K (.rows k xs)
  | _ => False
theorem viewC_sound {c : CL} {K : CL → Prop} (h : viewC c K) : ∃ d, K d ∧ d.esz = 1 ∧ d.ncell = c.ncell ∧ d.cnt = d.ncell ∧ ∀ j, j < c.ncell → ∀ {S : Imm} {w : World} {ι : Ix} {v : Value}, Rep S w ι (c.get j) v → Rep S w noI (d.get j) v := by
  unfold viewC at h
  split at h
  · split at h
    · rename_i l hl
      obtain ⟨h1, h2⟩ := intsOf_sound hl
      exact ⟨_, h, rfl, h1, rfl, fun j hj S w ι v hr => h2 j hj hr⟩
    · split at h
      · rename_i l hl
        obtain ⟨h1, h2⟩ := boolsOf_sound hl
        exact ⟨_, h, rfl, h1, rfl, fun j hj S w ι v hr => h2 j hj hr⟩
      · exact h.elim
  · exact ⟨_, h, rfl, rfl, rfl, fun j hj S w ι v hr => by cases hr; exact .int _ _ _⟩
  · exact ⟨_, h, rfl, rfl, rfl, fun j hj S w ι v hr => by cases hr; exact .bp _ _⟩
  · exact ⟨_, h, rfl, rfl, rfl, fun j hj S w ι v hr => by cases hr; exact .str _ _⟩
  · exact ⟨_, h, rfl, rfl, rfl, fun j hj S w ι v hr => hr.toNoI⟩
  · exact h.elim
/-- what may be said of cells that are only looked at -/
def viewEs : List PV → List PV
  | [] => []
  | x :: xs => (match inlE x with | some y => y | none => .any) :: viewEs xs
theorem viewEs_sound : ∀ {ds : List PV}, (viewEs ds).length = ds.length ∧ ∀ i {S : Imm} {w : World} {ι : Ix} {v : Value}, Rep S w ι (getL ds i) v → Rep S w noI (getL (viewEs ds) i) v := by
  intro ds
  induction ds with
  | nil => exact ⟨rfl, fun i S w ι v h => .any _ _⟩
  | cons x xs ih =>
    refine ⟨by simp [viewEs, ih.1], fun i S w ι v h => ?_⟩
    cases i with
    | succ i => exact ih.2 i h
    | zero =>
      simp only [viewEs, getL] at h ⊢
      split
      · rename_i y hy; exact inlE_sound hy h
      · exact .any _ _
def viewP (H : Hp) (p : PV) (K : PV → List Nat → Prop) : Prop :=
  match p with
  | .rsl k off n => getHK H k fun o => match o with
    | .cells c fz => viewC c fun d => cntK d fun dn => off + n ≤ dn ∧ K (.isl (d.sub off (off + n)) .none) [k]
    | _ => False
  | .rp k off => getHK H k fun o => match o with
    | .cells c fz => match c with
      | .pv ds => forceL (viewEs ds) fun us => K (.ip (.pv us) off) [k]
      | _ => False
    | _ => False
  | p => match pureE p with
    | some q => K q []
    | none => False
def viewPs (H : Hp) : List PV → (List PV → List Nat → Prop) → Prop
  | [], K => K [] []
  | p :: r, K => viewP H p fun q a => viewPs H r fun qs as => K (q :: qs) (a ++ as)
/-- cells that nobody writes now -/
def nowS (S : Imm) (ι : Ix) (H : Hp) : Imm := fun b j => S b j ∨ ∃ k c fz, Hget H k = some (.cells c fz) ∧ ι.o k = some b ∧ j < c.ncell
theorem nowS_keeps {S : Imm} {w : World} {ι : Ix} {H : Hp} : Keeps S w (nowS S ι H) w := ⟨fun b j h => ⟨.inl h, rfl⟩, fun b j h => h⟩
theorem nowS_imm {S : Imm} {w : World} {ι : Ix} {H : Hp} (M : Mem S w ι H) (b j : Nat) (h : nowS S ι H b j) : (rd w b j).isSome := by
  rcases h with h | ⟨k, c, fz, h1, h2, h3⟩
  · exact M.imm b j h
  · have := (M.lies h1 h2 j h3).1; simpa using this
theorem viewP_sound {H : Hp} {p : PV} {K : PV → List Nat → Prop} (h : viewP H p K) : ∃ q a, K q a ∧ ∀ {S : Imm} {w : World} {ι : Ix} {H' : Hp} {v : Value}, Mem S w ι H' → (∀ k ∈ a, Hget H' k = Hget H k) → Rep S w ι p v → Rep (nowS S ι H') w noI q v := by
  unfold viewP at h
  split at h
  · rename_i k off n
    rw [getHK_iff] at h
    obtain ⟨ob, hob, h⟩ := h
    split at h
    · rename_i c fz
      obtain ⟨d, h, d1, d2, d3, d4⟩ := viewC_sound h
      rw [cntK_eq] at h
      obtain ⟨hn, h⟩ := h
      refine ⟨_, _, h, fun {S w ι H' v} M ha hr => ?_⟩
      have hob' : Hget H' k = some (.cells c fz) := (ha k (by simp)).trans hob
      have conv : ∀ b, ι.o k = some b → ∀ j, j < d.ncell → nowS S ι H' b (0 + j) ∧ Rep (nowS S ι H') w noI (d.get j) (rdv w b (0 + j)) := fun b hb j hj =>
        ⟨.inr ⟨k, c, fz, hob', hb, by omega⟩, (d4 j (by omega) (M.lies hob' hb j (by omega)).2).mono nowS_keeps _ (.refl _)⟩
      cases hr with
      | rsl _ _ _ _ b cap hk hc _ =>
        have := sub_rep (S := nowS S ι H') (w := w) (c := d) (b := b) (off := 0) (fun j hj => (conv b hk j hj).1) (fun j hj => (conv b hk j hj).2) (x := off) (y := off + n) (by omega) hn (cap := cap) (by omega) noI
        rw [d1] at this
        simpa using this
      | rslz _ _ _ b o hk => exact empty_rep _ (by rw [sub_cnt _ hn]; omega) (.inr ⟨b, o, rfl⟩) noI
    · exact h.elim
  · rename_i k off
    rw [getHK_iff] at h
    obtain ⟨ob, hob, h⟩ := h
    split at h
    · rename_i c fz
      split at h
      · rename_i ds
        rw [forceL_eq] at h
        refine ⟨_, _, h, fun {S w ι H' v} M ha hr => ?_⟩
        have hob' : Hget H' k = some (.cells (.pv ds) fz) := (ha k (by simp)).trans hob
        obtain ⟨e1, e2⟩ := viewEs_sound (ds := ds)
        cases hr with
        | rp _ _ _ b hk =>
          have := Rep.ip (S := nowS S ι H') (w := w) noI (.pv (viewEs ds)) off b 0
            (fun j hj => .inr ⟨k, .pv ds, fz, hob', hk, by simp only [CL.ncell] at hj ⊢; omega⟩)
            (fun j hj => by
              have hj' : j < ds.length := by simp only [CL.ncell] at hj; omega
              exact (e2 j (M.lies hob' hk j (by simpa [CL.ncell] using hj')).2).mono nowS_keeps _ (.refl _))
          simpa using this
      · exact h.elim
    · exact h.elim
  · split at h
    · rename_i q hq
      exact ⟨_, _, h, fun {S w ι H' v} M ha hr => (pureE_sound hq hr).mono nowS_keeps _ (.refl _)⟩
    · exact h.elim
theorem viewPs_sound {H : Hp} : ∀ {ps : List PV} {K : List PV → List Nat → Prop}, viewPs H ps K → ∃ qs a, K qs a ∧ qs.length = ps.length ∧ ∀ {S : Imm} {w : World} {ι : Ix} {H' : Hp}, Mem S w ι H' → (∀ k ∈ a, Hget H' k = Hget H k) → ∀ i, i < ps.length → ∀ v, Rep S w ι (getL ps i) v → Rep (nowS S ι H') w noI (getL qs i) v := by
  intro ps
  induction ps with
  | nil => intro K h; exact ⟨_, _, h, rfl, fun M _ i hi => by simp at hi⟩
  | cons p r ih =>
    intro K h
    obtain ⟨q, a, h, hq⟩ := viewP_sound h
    obtain ⟨qs, as, h, hl, hs⟩ := ih h
    refine ⟨_, _, h, by simp [hl], fun {S w ι H'} M ha i hi v hr => ?_⟩
    cases i with
    | zero => exact hq M (fun k hk => ha k (by simp [hk])) hr
    | succ i => exact hs M (fun k hk => ha k (by simp [hk])) i (by simpa using hi) v hr
/-- values without addresses -/
def plainE : PV → Bool
  | .int _ _ => true
  | .bool _ => true
  | .bp _ => true
  | .str _ => true
  | _ => false
def plainEs : List PV → Bool
  | [] => true
  | x :: xs => match plainE x with | true => plainEs xs | false => false
def plainP : PV → Bool
  | .tup vs => plainEs vs
  | v => plainE v
theorem plainE_sound {p : PV} (h : plainE p = true) {S S' : Imm} {w w' : World} {ι ι' : Ix} {v : Value} (hr : Rep S w ι p v) : Rep S' w' ι' p v := by
  cases p <;> simp [plainE] at h <;> cases hr <;> constructor
theorem plainEs_sound : ∀ {ps : List PV}, plainEs ps = true → ∀ i, i < ps.length → plainE (getL ps i) = true := by
  intro ps
  induction ps with
  | nil => intro _ i hi; simp at hi
  | cons p ps ih =>
    intro h i hi
    unfold plainEs at h
    split at h
    · rename_i hp
      cases i with
      | zero => exact hp
      | succ i => exact ih h i (by simpa using hi)
    · cases h
theorem plainP_sound {p : PV} (h : plainP p = true) {S S' : Imm} {w w' : World} {ι ι' : Ix} {v : Value} (hr : Rep S w ι p v) : Rep S' w' ι' p v := by
  unfold plainP at h
  split at h
  · cases hr with | tup _ _ vs hl hh => exact .tup _ _ _ hl (fun i hi => plainE_sound (plainEs_sound h i hi) (hh i hi))
  · exact plainE_sound h hr
def viewCC (C : PSp) : CT := fun args n H K => viewPs H args fun xs a => forceL (tok1s xs) fun xs => C xs fun v => ifK (plainP v) (K v [] a [])
theorem viewCC_ok {P : Program} {g : FuncId} {C : PSp} (h : POK P g C) : COK P g (viewCC C) := by
  intro args n H K hk
  unfold viewCC at hk
  obtain ⟨xs, a, hk, hl, hs⟩ := viewPs_sound hk
  rw [forceL_eq] at hk
  obtain ⟨v, hk, hent, hv⟩ := h _ _ hk
  rw [ifK_iff] at hk
  obtain ⟨hp, hk⟩ := hk
  refine ⟨v, [], a, [], hk, hent, fun S w ι H' vs hgb M hr ha _ => ?_⟩
  have hA : RepA (nowS S ι H') w noI (tok1s xs) vs := ⟨(tok1s_rep xs).1.trans (hl.trans hr.1), fun i hi => (tok1s_rep xs).2 i (hs M ha i (by rw [(tok1s_rep xs).1] at hi; omega) _ (hr.2 i (by rw [(tok1s_rep xs).1] at hi; omega)))⟩
  refine (hv (nowS S ι H') w vs (gB_mono nowS_keeps (.refl _) hgb) (nowS_imm M) hA).mono ?_
  rintro e w' ⟨val, S', rfl, o⟩
  have hno : ∀ k ob b, Hget H' k = some ob → ob.has ι k b → b < w.heap.size := fun k ob b ho hb => (M.obj k ob ho).lt hb
  have hk0 : Keeps S w S w' := ⟨fun b j hs => ⟨hs, (o.keeps.imm b j (.inl hs)).2⟩, o.keeps.cells⟩
  refine ⟨val, S, ι, rfl, ⟨fun k ob ho => (M.obj k ob ho).mono hk0 (.refl _) o.below (fun b hb => o.same b (hno k ob b ho hb)) (fun _ => rfl) rfl (fun b j hb hs => hs), M.liveO, M.liveT, M.dist, fun b j hs => by rw [(hk0.imm b j hs).2]; exact M.imm b j hs⟩,
    .refl _, hk0, plainP_sound hp o.rep, fun p => ⟨o.below, fun b hb _ => o.same b hb, hk0, fun b j hb hs => .inl hs, fun b h => .inl h, fun _ _ _ h => h, fun _ _ b n h => ⟨b, n, h, .inl ⟨rfl, Nat.le_refl _⟩⟩⟩⟩
end Go.Eng
