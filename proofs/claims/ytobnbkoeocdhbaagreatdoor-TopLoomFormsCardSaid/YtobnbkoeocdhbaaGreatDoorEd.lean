/-
  An engine that walks through a function of the program with symbolic values, and the proofs that it is sound. No condition.
-/
import Derived.Sort.Grow
import Derived.Below
import Derived.Test.YtobnbkoeocdhbaaGreatDoorEc
namespace Go.Eng
open Go.RowKit Go.Sort
set_option linter.unusedVariables false
set_option linter.unusedSimpArgs false
theorem Mem.write' {S : Imm} {w w' : World} {ι : Ix} {H : Hp} (M : Mem S w ι H) {k b : Nat} {c c' : CL} {arr arr' : Array Value} {e : TypeId}
    (ho : Hget H k = some (.cells c false)) (hk : ι.o k = some b) (h : w.heap[b]? = some (.cells arr e (0, 0))) (below : Bel w w') (other : ∀ b', b' < w.heap.size → b' ≠ b → w'.heap[b']? = w.heap[b']?) (here : w'.heap[b]? = some (.cells arr' e (0, 0))) (hsz : arr.size ≤ arr'.size)
    (hn : c'.ncell ≤ arr'.size) (hc : ∀ j, j < c'.ncell → Rep S w ι (c'.get j) (arr'.getD j undef)) :
    Mem S w' ι (Hput H k (.cells c' false)) ∧ Keeps S w S w' ∧ ∀ p, Tr p S w ι H S w' ι (Hput H k (.cells c' false)) := by
  obtain ⟨b0, arr0, e0, h1, h2, h3, h4, h5⟩ := M.obj k _ ho
  rw [hk] at h1; cases h1
  have hlt : ∀ b' j, (rd w b' j).isSome → b' < w.heap.size := fun b' j hs => by
    rcases Nat.lt_or_ge b' w.heap.size with h6 | h6
    · exact h6
    · unfold rd at hs; rw [Array.getElem?_eq_none h6] at hs; simp at hs
  have hkeep : Keeps S w S w' := ⟨fun b' j hs => ⟨hs, rd_congr (other b' (hlt b' j (M.imm b' j hs)) (fun e => by subst e; exact h5 j hs)) j⟩, fun b' j hs => by
    by_cases eb : b' = b
    · subst eb
      rw [rd_of_heap h] at hs
      rw [rd_of_heap here]
      have : j < arr.size := by
        rcases Nat.lt_or_ge j arr.size with h1 | h1
        · exact h1
        · rw [Array.getElem?_eq_none h1] at hs; simp at hs
      rw [Array.getElem?_eq_getElem (by omega)]; rfl
    · rw [rd_congr (other b' (hlt b' j hs) eb) j]; exact hs⟩
  have ht : ι.t k = none := by
    cases et : ι.t k with
    | none => rfl
    | some x => obtain ⟨o, g1, g2⟩ := M.liveT k x et; rw [ho] at g1; cases g1; simp [AO.isTok] at g2
  have := M.step (S' := S) (w' := w') (ι' := ι) (k := k) (o' := .cells c' false) (b := b) below other hkeep (fun b' j h => .inl h) (fun j hs => absurd hs (h5 j)) (.refl _) (fun _ _ => rfl) (fun _ _ => rfl)
    rfl (.inr ⟨_, ho, rfl, hk⟩) (fun b' => by simp [AO.has, hk, eq_comm]) (by simp [AO.isTok]) (fun _ => ht) ⟨b, arr', e, hk, here, hn, fun j hj => (hc j hj).mono hkeep _ (.refl _), h5⟩
  exact ⟨this.1, hkeep, this.2⟩
/-- a list of integers in order -/
def sortI (l : List Int) : List Int := l.mergeSort fun x y => decide (x ≤ y)
theorem sortI_len (l : List Int) : (sortI l).length = l.length := List.length_mergeSort l
def sortCC : CT := fun args n H K => match args with
  | [p] => match p with
    | .rsl k off m => getHK H k fun o => match o with
      | .cells c fz => match fz with
        | true => False
        | false => match c with
          | .ints q xs => ifK (decide (q = .i64) && Nat.beq off 0) ((m = xs.length ∧ xs.length < 4611686018427387904) ∧ K (.tup []) [(k, .cells (.ints .i64 (sortI xs)) false)] [k] [])
          | _ => False
      | _ => False
    | _ => False
  | _ => False
theorem sortCC_ok {P : Program} {g : FuncId} (hent : ∀ vs w, (callFunc g vs).run P w = .ok (.enter g vs) w)
    (hS : ∀ (blk off cap : Nat) (zs : List Int) (w : World), Holds (Value.int .i64) w blk off zs.toArray → blk < w.heap.size → zs.length < 4611686018427387904 →
      Calls P g #[.slice (some ⟨blk, off, none⟩) zs.length cap] w fun e w' => e = .returned (.tuple #[]) ∧ ∃ n os, w' = grow (Sort.putRow (Value.int .i64) (Sort.ahead w n) blk off (zs.mergeSort fun x y => decide (x ≤ y)).toArray) os) : COK P g sortCC := by
  intro args n H K hk
  unfold sortCC at hk
  split at hk
  · split at hk
    · rename_i k off m
      rw [getHK_iff] at hk
      obtain ⟨ob, hob, hk⟩ := hk
      split at hk
      · rename_i c fz
        split at hk
        · exact hk.elim
        · split at hk
          · rename_i q xs
            simp only [ifK_iff, Bool.and_eq_true, decide_eq_true_eq] at hk
            obtain ⟨⟨rfl, hoff⟩, ⟨rfl, hlen⟩, hk⟩ := hk
            have hoff := Nat.eq_of_beq_eq_true hoff
            subst hoff
            refine ⟨_, _, _, [], hk, hent, fun S w ι H' vs _ M hr ha _ => ?_⟩
            have hob' := (ha k (by simp)).trans hob
            obtain ⟨b, arr, e, g1, g2, g3, g4, g5⟩ := M.obj k _ hob'
            have hv0 : ∃ o cap, vs = #[.slice (some ⟨b, o, none⟩) xs.length cap] ∧ (o = 0 ∨ xs.length = 0) := by
              have h0 := hr.2 0 (by simp)
              have hsz : vs.size = 1 := hr.1.symm
              simp only [getL] at h0
              have hvs : vs = #[vs.getD 0 undef] := by
                apply Array.ext (by simp [hsz])
                intro i h1 h2
                have : i = 0 := by omega
                subst this
                simp [Array.getD_eq_getD_getElem?, h1]
              rw [hvs]
              generalize vs.getD 0 undef = v0 at h0
              generalize hml : xs.length = ml at h0
              cases h0 with
              | rsl _ _ _ _ b' cap hk' hc _ => rw [g1] at hk'; cases hk'; exact ⟨0, cap, rfl, .inl rfl⟩
              | rslz _ _ _ b' o hk' => rw [g1] at hk'; cases hk'; exact ⟨o, 0, rfl, .inr rfl⟩
            obtain ⟨off, cap, rfl, ho⟩ := hv0
            have hbw : b < w.heap.size := by
              rcases Nat.lt_or_ge b w.heap.size with h6 | h6
              · exact h6
              · rw [Array.getElem?_eq_none h6] at g2; cases g2
            have hg4 : ∀ j, j < xs.length → arr[j]? = some (.int .i64 (xs.getD j 0)) := fun j hj => by
              have h7 := g4 j hj
              have h8 : j < arr.size := Nat.lt_of_lt_of_le hj g3
              rw [Array.getD_eq_getD_getElem?, Array.getElem?_eq_getElem h8] at h7
              rw [Array.getElem?_eq_getElem h8]
              simp only [CL.get, Option.getD_some] at h7
              generalize arr[j] = y at h7
              cases h7; rfl
            have hH : Holds (Value.int .i64) w b off xs.toArray := fun j hj => by
              have hj' : j < xs.length := by simpa using hj
              have h9 : off = 0 := by rcases ho with h | h; exact h; omega
              subst h9
              rw [Nat.zero_add]
              refine ⟨?_, by simp [World.frozen?, g2]⟩
              rw [cell?_eq, rd_of_heap g2, hg4 j hj']
              simp [List.getD_eq_getElem?_getD, List.getElem?_eq_getElem hj']
            refine (callsIn_wide.2 (hS b off cap xs w hH hbw hlen)).mono ?_
            rintro ex w' ⟨rfl, n', os, hw'⟩
            have hsl : (sortI xs).length = xs.length := sortI_len xs
            obtain ⟨arr', harr, hsz', hget⟩ : ∃ arr', w'.heap[b]? = some (.cells arr' e (0, 0)) ∧ arr'.size = arr.size ∧ ∀ j, j < xs.length → arr'[j]? = some (.int .i64 ((sortI xs).getD j 0)) := by
              refine ⟨putCells (Value.int .i64) off (sortI xs).toArray arr, ?_, by simp [putCells], fun j hj => ?_⟩
              · rw [hw', heap_grow_old _ _ (by simpa [Sort.ahead] using hbw)]
                show (mapBlock (Sort.ahead w n') b _).heap[b]? = _
                simp only [mapBlock, Sort.ahead, Array.getElem?_modify, if_true, g2, Option.map_some, onCells]
                rfl
              · have h9 : off = 0 := by rcases ho with h | h; exact h; omega
                subst h9
                have h8 : j < arr.size := Nat.lt_of_lt_of_le hj g3
                simp only [putCells, Array.getElem?_mapIdx, Array.getElem?_eq_getElem h8, Option.map_some, Nat.zero_le, Nat.zero_add, true_and, List.size_toArray, hsl, if_pos hj, Nat.sub_zero]
                simp [List.getD_eq_getElem?_getD, List.getElem?_eq_getElem (by omega : j < (sortI xs).length), hsl, hj]
            have hbel : Bel w w' := by
              rw [hw']
              exact ⟨rfl, rfl, rfl, by simp [Sort.ahead], fun a hal => by rw [frozen?_grow _ _ _ (by simpa [Sort.ahead] using hal), Sort.frozen?_putRow, Sort.frozen?_ahead]⟩
            have hoth : ∀ b', b' < w.heap.size → b' ≠ b → w'.heap[b']? = w.heap[b']? := fun b' h1 h2 => by
              rw [hw', heap_grow_old _ _ (by simpa [Sort.ahead] using h1)]
              show (mapBlock (Sort.ahead w n') b _).heap[b']? = _
              simp only [mapBlock, Sort.ahead, Array.getElem?_modify, if_neg (Ne.symm h2)]
            obtain ⟨M', K', T'⟩ := M.write' (c' := .ints .i64 (sortI xs)) hob' g1 g2 hbel hoth harr (by omega) (by simp only [CL.ncell, hsl]; simp only [CL.ncell] at g3; omega) (fun j hj => by
              simp only [CL.ncell, hsl] at hj
              rw [Array.getD_eq_getD_getElem?, hget j hj]
              exact .int _ _ _)
            exact ⟨_, S, ι, rfl, M', .refl _, K', .tup _ _ _ rfl (fun i hi => by simp at hi), T'⟩
          · exact hk.elim
      · exact hk.elim
    · exact hk.elim
  · exact hk.elim
end Go.Eng
namespace Go.Eng
open Go.RowKit
set_option linter.unusedVariables false
set_option linter.unusedSimpArgs false
section
variable {P : Program} {r : Option Nat} {B : Imm → World → Prop} {p : Nat}
theorem At.freeze {S0 : Imm} {w0 : World} {ι0 : Ix} {H0 H : Hp} {env : Env} {a : Act} {w : World} (h : At B p S0 w0 ι0 H0 env H a w) (hB : BOK B) {k : Nat} {x d : CL} (hx : Hget H k = some (.cells x false)) (hn : d.ncell = x.ncell)
    (hc : ∀ j, j < x.ncell → ∀ {S : Imm} {w : World} {ι : Ix} {v : Value}, Rep S w ι (x.get j) v → Rep S w noI (d.get j) v) : At B p S0 w0 ι0 H0 env (Hput H k (.cells d true)) a w := by
  obtain ⟨S, ι, hb, M, R, D, D', T⟩ := h.ex
  obtain ⟨S', M', K', T', _⟩ := M.freeze hx hn hc
  exact ⟨S', ι, hB _ _ _ _ K' (.refl _) hb, M', R.mono K' (.refl _), D.tr (T' p), D', T.trans (T' p)⟩
def frzNow (H : Hp) (k : Nat) (K : Hp → Prop) : Prop := getHK H k fun o => match o with
  | .cells x fz => match fz with
    | true => False
    | false => typedK x fun d => putsHK [(k, .cells d true)] H K
  | _ => False
theorem lp_freeze (hB : BOK B) {md rf CP YP} {c : Code} {n : Nat} {Q : Exit → Env → Hp → Prop} {env : Env} {H : Hp} (k : Nat) (h : frzNow H k fun H1 => Lp md rf CP YP n (AW P r B p c Q env H1)) : Lp md rf CP YP n (AW P r B p c Q env H) := by
  unfold frzNow at h
  rw [getHK_iff] at h
  obtain ⟨o, ho, h⟩ := h
  split at h
  · split at h
    · exact h.elim
    · obtain ⟨d, h, d1, d2, d3⟩ := typedK_sound h
      rw [putsHK_eq] at h
      exact ⟨fun S0 w0 ι0 H0 a w hA => h.get S0 w0 ι0 H0 a w (hA.freeze hB ho d2 (fun j hj => by intro S w ι v hr; exact d3 j hj hr))⟩
  · exact h.elim
end
end Go.Eng
namespace Go.Eng
open Go.RowKit
set_option linter.unusedVariables false
set_option linter.unusedSimpArgs false
theorem rd_lt1 {w : World} {b j : Nat} (hs : (rd w b j).isSome) : b < w.heap.size := by
  rcases Nat.lt_or_ge b w.heap.size with h | h
  · exact h
  · unfold rd at hs; rw [Array.getElem?_eq_none h] at hs; simp at hs
theorem pout_below {S : Imm} {w w' : World} {v : PV} {val : Value} (himm : ∀ b j, S b j → (rd w b j).isSome) (hB : Below w.heap.size w w') (hr : Rep S w noI v val) : POut S w v val S w' := by
  have hk : Keeps S w S w' := ⟨fun b j hs => ⟨hs, rd_congr (hB.block b (rd_lt1 (himm b j hs))) j⟩, fun b j hs => by rw [rd_congr (hB.block b (rd_lt1 hs)) j]; exact hs⟩
  refine ⟨fun b j hs => by rw [(hk.imm b j hs).2]; exact himm b j hs, hk, hr.mono hk _ (.refl _), ⟨hB.os, hB.tape, hB.output, hB.size, fun a ha => by unfold World.frozen?; rw [hB.block _ ha]⟩, hB.block, fun b j _ hs => hs⟩
theorem pspec_of_below {P : Program} {g : FuncId} {xs : List PV} {u : PV} (hent : Enters P g)
    (h : ∀ (S : Imm) (w : World) (vs : Array Value), (∀ b j, S b j → (rd w b j).isSome) → RepA S w noI xs vs → ∃ val, Rep S w noI u val ∧ Calls P g vs w fun e w' => e = .returned val ∧ Below w.heap.size w w') : PSpec P g xs u := by
  refine ⟨hent, fun S w vs _ himm hA => ?_⟩
  obtain ⟨val, hr, hc⟩ := h S w vs himm hA
  refine (callsIn_wide.2 hc).mono ?_
  rintro e w' ⟨rfl, hB⟩
  exact ⟨val, S, rfl, pout_below himm hB hr⟩
/-- one argument, a list of strings that nobody writes -/
theorem strs_open {S : Imm} {w : World} {ι : Ix} {xs : List ByteArray} {t : Tok} {v : Value} (himm : ∀ b j, S b j → (rd w b j).isSome) (h : Rep S w ι (.isl (.strs xs) t) v) :
    (v = .slice none 0 0 ∧ xs = []) ∨ ∃ b off cap, v = .slice (some ⟨b, off, none⟩) xs.length cap ∧ xs.length ≤ cap ∧ (∀ (j : Nat) x, xs[j]? = some x → w.cell? ⟨b, off + j, none⟩ = some (.string x)) ∧ (0 < xs.length → b < w.heap.size) := by
  cases h with
  | islnil _ _ _ h => exact .inl ⟨rfl, List.eq_nil_of_length_eq_zero h⟩
  | isl _ _ _ b off cap hc hs h hf ho =>
    refine .inr ⟨b, off, cap, rfl, hc, fun j x hx => ?_, fun h0 => rd_lt1 (himm b (off + 0) (hs 0 h0))⟩
    have hj : j < xs.length := (List.getElem?_eq_some_iff.1 hx).1
    have h1 := h j hj
    have h2 := himm b (off + j) (hs j hj)
    rw [cell?_eq]
    obtain ⟨y, hy⟩ := Option.isSome_iff_exists.1 h2
    have h3 : rdv w b (off + j) = y := by unfold rdv; rw [hy]; rfl
    rw [h3] at h1
    rw [hy]
    have h4 : (CL.strs xs).get j = .str x := by simp only [CL.get]; rw [List.getD_eq_getElem?_getD, hx]; rfl
    rw [h4] at h1
    cases h1; rfl
end Go.Eng
namespace Go.Eng
open Go.RowKit
set_option linter.unusedVariables false
set_option linter.unusedSimpArgs false
/-- a call with slices of the caller's own, which are written no more -/
def giveAll (C : PSp) : CT := fun args n H K => frzF H args fun us sets => C us fun v => K v sets (keys sets) []
theorem giveAll_ok {P : Program} {g : FuncId} {C : PSp} (h : POK P g C) : COK P g (giveAll C) := by
  intro args n H K hk
  unfold giveAll at hk
  obtain ⟨us, sets, hk, hl, hs⟩ := frzF_sound hk
  obtain ⟨v, hk, hent, hv⟩ := h _ _ hk
  refine ⟨v, _, _, [], hk, hent, fun S w ι H' vs _ M hr ha _ => ?_⟩
  obtain ⟨S1, M1, K1, T1, R1⟩ := hs (fun i => vs.getD i undef) M (fun j hj => ha j hj) (fun i hi => hr.2 i hi)
  have hA : RepA S1 w noI us vs := ⟨hl.trans hr.1, fun i hi => R1 i hi⟩
  refine (hv S1 w vs trivial M1.imm hA).mono ?_
  rintro ex w' ⟨val, S', rfl, o⟩
  have hno : ∀ k' ob b, Hget (Hputs H' sets) k' = some ob → ob.has ι k' b → b < w.heap.size := fun k' ob b ho hb => (M1.obj k' ob ho).lt hb
  have T3 : ∀ p, Tr p S1 w ι (Hputs H' sets) S' w' ι (Hputs H' sets) := fun p =>
    ⟨o.below, fun b hb _ => o.same b hb, o.keeps, fun b j hb hs => .inl (o.immN b j hb hs), fun b h => .inl h, fun _ _ _ h => h, fun _ _ b n h => ⟨b, n, h, .inl ⟨rfl, Nat.le_refl _⟩⟩⟩
  exact ⟨val, S', ι, rfl, ⟨fun k' ob ho => (M1.obj k' ob ho).mono o.keeps (.refl _) o.below (fun b hb => o.same b (hno k' ob b ho hb)) (fun _ => rfl) rfl (fun b j hb hs => o.immN b j (hno k' ob b ho hb) hs), M1.liveO, M1.liveT, M1.dist, o.imm⟩,
    .refl _, K1.trans o.keeps, o.rep.up ι, fun p => (T1 p).trans (T3 p)⟩
end Go.Eng
namespace Go.Eng
open Go.RowKit
set_option linter.unusedVariables false
set_option linter.unusedSimpArgs false
theorem callSound_raw {P : Program} {g : FuncId} {args as : List PV} {H : Hp} {v : PV} (ha : pureEs args = some as) (h : PSpec P g as v) : CallSound P g args H v [] [] [] := by
  obtain ⟨hent, h⟩ := h
  refine ⟨hent, fun S w ι H' vs _ M hr _ _ => ?_⟩
  obtain ⟨h1, h2⟩ := pureEs_sound ha
  refine (h S w vs trivial M.imm ⟨h1.trans hr.1, fun i hi => h2 i (by omega) (hr.2 i (by omega))⟩).mono ?_
  rintro e w' ⟨val, S', rfl, o⟩
  have hno : ∀ k ob b, Hget H' k = some ob → ob.has ι k b → b < w.heap.size := fun k ob b ho hb => (M.obj k ob ho).lt hb
  refine ⟨val, S', ι, rfl, ⟨fun k ob ho => (M.obj k ob ho).mono o.keeps (.refl _) o.below (fun b hb => o.same b (hno k ob b ho hb)) (fun _ => rfl) rfl (fun b j hb hs => o.immN b j (hno k ob b ho hb) hs), M.liveO, M.liveT, M.dist, o.imm⟩,
    .refl _, o.keeps, o.rep.up ι, fun p => ⟨o.below, fun b hb _ => o.same b hb, o.keeps, fun b j hb hs => .inl (o.immN b j hb hs), fun b h => .inl h, fun _ _ _ h => h, fun _ _ b n h => ⟨b, n, h, .inl ⟨rfl, Nat.le_refl _⟩⟩⟩⟩
def rawCC (C : PSp) : CT := fun args n H K => match pureEs args with | some xs => forceL xs fun as => C as fun v => K v [] [] [] | none => False
theorem rawCC_ok {P : Program} {g : FuncId} {C : PSp} (h : POK P g C) : COK P g (rawCC C) := by
  intro args n H K hk
  unfold rawCC at hk
  split at hk
  · rename_i as ha
    rw [forceL_eq] at hk
    obtain ⟨v, hK, hs⟩ := h _ _ hk
    exact ⟨v, [], [], [], hK, callSound_raw ha hs⟩
  · exact hk.elim
end Go.Eng
