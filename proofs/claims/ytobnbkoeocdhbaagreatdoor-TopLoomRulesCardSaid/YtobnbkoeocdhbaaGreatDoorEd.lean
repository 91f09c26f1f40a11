/-
  An engine that walks through a function of the program with symbolic values, and the proofs that it is sound. No condition.
-/
import Derived.Below
import Derived.Test.YtobnbkoeocdhbaaGreatDoorEc
namespace Go.Eng
open Go.RowKit
set_option linter.unusedVariables false
set_option linter.unusedSimpArgs false
section
variable {P : Program} {r : Option Nat} {B : Imm → World → Prop} {p : Nat}
theorem At.freeze {S0 : Imm} {w0 : World} {ι0 : Ix} {H0 H : Hp} {env : Env} {a : Act} {w : World} (h : At B p S0 w0 ι0 H0 env H a w) (hB : BOK B) {k : Nat} {x d : CL} (hx : Hget H k = some (.cells x false)) (hn : d.ncell = x.ncell)
    (hc : ∀ j, j < x.ncell → ∀ {S : Imm} {w : World} {ι : Ix} {v : Value}, Rep S w ι (x.get j) v → Rep S w noI (d.get j) v) : At B p S0 w0 ι0 H0 env (Hput H k (.cells d true)) a w := by
  obtain ⟨S, ι, hb, M, R, D, D', T⟩ := h.ex
  obtain ⟨S', M', K', T', _⟩ := M.freeze hx hn hc
  exact ⟨S', ι, hB _ _ _ _ K' (.refl _) hb, M', R.mono K' (.refl _), D.tr (T' p), D', T.trans (T' p)⟩
def frzNow (H : Hp) (k : Nat) (K : Hp → Prop) : Prop := getHK H k fun o => match o with
  | .cells x fz => match fz with
    | true => False
    | false => typedK x fun d => putsHK [(k, .cells d true)] H K
  | _ => False
theorem lp_freeze (hB : BOK B) {md rf CP YP} {c : Code} {n : Nat} {Q : Exit → Env → Hp → Prop} {env : Env} {H : Hp} (k : Nat) (h : frzNow H k fun H1 => Lp md rf CP YP n (AW P r B p c Q env H1)) : Lp md rf CP YP n (AW P r B p c Q env H) := by
  unfold frzNow at h
  rw [getHK_iff] at h
  obtain ⟨o, ho, h⟩ := h
  split at h
  · split at h
    · exact h.elim
    · obtain ⟨d, h, d1, d2, d3⟩ := typedK_sound h
      rw [putsHK_eq] at h
      exact ⟨fun S0 w0 ι0 H0 a w hA => h.get S0 w0 ι0 H0 a w (hA.freeze hB ho d2 (fun j hj => by intro S w ι v hr; exact d3 j hj hr))⟩
  · exact h.elim
end
end Go.Eng
namespace Go.Eng
open Go.RowKit
set_option linter.unusedVariables false
set_option linter.unusedSimpArgs false
theorem rd_lt1 {w : World} {b j : Nat} (hs : (rd w b j).isSome) : b < w.heap.size := by
  rcases Nat.lt_or_ge b w.heap.size with h | h
  · exact h
  · unfold rd at hs; rw [Array.getElem?_eq_none h] at hs; simp at hs
theorem pout_below {S : Imm} {w w' : World} {v : PV} {val : Value} (himm : ∀ b j, S b j → (rd w b j).isSome) (hB : Below w.heap.size w w') (hr : Rep S w noI v val) : POut S w v val S w' := by
  have hk : Keeps S w S w' := ⟨fun b j hs => ⟨hs, rd_congr (hB.block b (rd_lt1 (himm b j hs))) j⟩, fun b j hs => by rw [rd_congr (hB.block b (rd_lt1 hs)) j]; exact hs⟩
  refine ⟨fun b j hs => by rw [(hk.imm b j hs).2]; exact himm b j hs, hk, hr.mono hk _ (.refl _), ⟨hB.os, hB.tape, hB.output, hB.size, fun a ha => by unfold World.frozen?; rw [hB.block _ ha]⟩, hB.block, fun b j _ hs => hs⟩
theorem pspec_of_below {P : Program} {g : FuncId} {xs : List PV} {u : PV} (hent : Enters P g)
    (h : ∀ (S : Imm) (w : World) (vs : Array Value), (∀ b j, S b j → (rd w b j).isSome) → RepA S w noI xs vs → ∃ val, Rep S w noI u val ∧ Calls P g vs w fun e w' => e = .returned val ∧ Below w.heap.size w w') : PSpec P g xs u := by
  refine ⟨hent, fun S w vs _ himm hA => ?_⟩
  obtain ⟨val, hr, hc⟩ := h S w vs himm hA
  refine (callsIn_wide.2 hc).mono ?_
  rintro e w' ⟨rfl, hB⟩
  exact ⟨val, S, rfl, pout_below himm hB hr⟩
/-- one argument, a list of strings that nobody writes -/
theorem strs_open {S : Imm} {w : World} {ι : Ix} {xs : List ByteArray} {t : Tok} {v : Value} (himm : ∀ b j, S b j → (rd w b j).isSome) (h : Rep S w ι (.isl (.strs xs) t) v) :
    (v = .slice none 0 0 ∧ xs = []) ∨ ∃ b off cap, v = .slice (some ⟨b, off, none⟩) xs.length cap ∧ xs.length ≤ cap ∧ (∀ (j : Nat) x, xs[j]? = some x → w.cell? ⟨b, off + j, none⟩ = some (.string x)) ∧ (0 < xs.length → b < w.heap.size) := by
  cases h with
  | islnil _ _ _ h => exact .inl ⟨rfl, List.eq_nil_of_length_eq_zero h⟩
  | isl _ _ _ b off cap hc hs h hf ho =>
    refine .inr ⟨b, off, cap, rfl, hc, fun j x hx => ?_, fun h0 => rd_lt1 (himm b (off + 0) (hs 0 h0))⟩
    have hj : j < xs.length := (List.getElem?_eq_some_iff.1 hx).1
    have h1 := h j hj
    have h2 := himm b (off + j) (hs j hj)
    rw [cell?_eq]
    obtain ⟨y, hy⟩ := Option.isSome_iff_exists.1 h2
    have h3 : rdv w b (off + j) = y := by unfold rdv; rw [hy]; rfl
    rw [h3] at h1
    rw [hy]
    have h4 : (CL.strs xs).get j = .str x := by simp only [CL.get]; rw [List.getD_eq_getElem?_getD, hx]; rfl
    rw [h4] at h1
    cases h1; rfl
end Go.Eng
namespace Go.Eng
open Go.RowKit
set_option linter.unusedVariables false
set_option linter.unusedSimpArgs false
/-- a call with slices of the caller's own, which are written no more -/
def giveAll (C : PSp) : CT := fun args n H K => frzF H args fun us sets => C us fun v => K v sets (keys sets) []
theorem giveAll_ok {P : Program} {g : FuncId} {C : PSp} (h : POK P g C) : COK P g (giveAll C) := by
  intro args n H K hk
  unfold giveAll at hk
  obtain ⟨us, sets, hk, hl, hs⟩ := frzF_sound hk
  obtain ⟨v, hk, hent, hv⟩ := h _ _ hk
  refine ⟨v, _, _, [], hk, hent, fun S w ι H' vs _ M hr ha _ => ?_⟩
  obtain ⟨S1, M1, K1, T1, R1⟩ := hs (fun i => vs.getD i undef) M (fun j hj => ha j hj) (fun i hi => hr.2 i hi)
  have hA : RepA S1 w noI us vs := ⟨hl.trans hr.1, fun i hi => R1 i hi⟩
  refine (hv S1 w vs trivial M1.imm hA).mono ?_
  rintro ex w' ⟨val, S', rfl, o⟩
  have hno : ∀ k' ob b, Hget (Hputs H' sets) k' = some ob → ob.has ι k' b → b < w.heap.size := fun k' ob b ho hb => (M1.obj k' ob ho).lt hb
  have T3 : ∀ p, Tr p S1 w ι (Hputs H' sets) S' w' ι (Hputs H' sets) := fun p =>
    ⟨o.below, fun b hb _ => o.same b hb, o.keeps, fun b j hb hs => .inl (o.immN b j hb hs), fun b h => .inl h, fun _ _ _ h => h, fun _ _ b n h => ⟨b, n, h, .inl ⟨rfl, Nat.le_refl _⟩⟩⟩
  exact ⟨val, S', ι, rfl, ⟨fun k' ob ho => (M1.obj k' ob ho).mono o.keeps (.refl _) o.below (fun b hb => o.same b (hno k' ob b ho hb)) (fun _ => rfl) rfl (fun b j hb hs => o.immN b j (hno k' ob b ho hb) hs), M1.liveO, M1.liveT, M1.dist, o.imm⟩,
    .refl _, K1.trans o.keeps, o.rep.up ι, fun p => (T1 p).trans (T3 p)⟩
end Go.Eng
namespace Go.Eng
open Go.RowKit
set_option linter.unusedVariables false
set_option linter.unusedSimpArgs false
theorem callSound_raw {P : Program} {g : FuncId} {args as : List PV} {H : Hp} {v : PV} (ha : pureEs args = some as) (h : PSpec P g as v) : CallSound P g args H v [] [] [] := by
  obtain ⟨hent, h⟩ := h
  refine ⟨hent, fun S w ι H' vs _ M hr _ _ => ?_⟩
  obtain ⟨h1, h2⟩ := pureEs_sound ha
  refine (h S w vs trivial M.imm ⟨h1.trans hr.1, fun i hi => h2 i (by omega) (hr.2 i (by omega))⟩).mono ?_
  rintro e w' ⟨val, S', rfl, o⟩
  have hno : ∀ k ob b, Hget H' k = some ob → ob.has ι k b → b < w.heap.size := fun k ob b ho hb => (M.obj k ob ho).lt hb
  refine ⟨val, S', ι, rfl, ⟨fun k ob ho => (M.obj k ob ho).mono o.keeps (.refl _) o.below (fun b hb => o.same b (hno k ob b ho hb)) (fun _ => rfl) rfl (fun b j hb hs => o.immN b j (hno k ob b ho hb) hs), M.liveO, M.liveT, M.dist, o.imm⟩,
    .refl _, o.keeps, o.rep.up ι, fun p => ⟨o.below, fun b hb _ => o.same b hb, o.keeps, fun b j hb hs => .inl (o.immN b j hb hs), fun b h => .inl h, fun _ _ _ h => h, fun _ _ b n h => ⟨b, n, h, .inl ⟨rfl, Nat.le_refl _⟩⟩⟩⟩
def rawCC (C : PSp) : CT := fun args n H K => match pureEs args with | some xs => forceL xs fun as => C as fun v => K v [] [] [] | none => False
theorem rawCC_ok {P : Program} {g : FuncId} {C : PSp} (h : POK P g C) : COK P g (rawCC C) := by
  intro args n H K hk
  unfold rawCC at hk
  split at hk
  · rename_i as ha
    rw [forceL_eq] at hk
    obtain ⟨v, hK, hs⟩ := h _ _ hk
    exact ⟨v, [], [], [], hK, callSound_raw ha hs⟩
  · exact hk.elim
end Go.Eng
