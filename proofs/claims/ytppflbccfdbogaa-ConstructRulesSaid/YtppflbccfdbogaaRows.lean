/-
  No cell of these rows narrows 'for every input' (looked for: loops, veiled, ifaces, maps, wideKeys, modest, calm, conditions, laid).
  DERIVED. THE GIVEN ROWS OF THIS SEAT. 13 by the template 'for every input the law returns true; each argument reads behind the call as it read before'; 0 by the template 'total and deterministic' (their statements: YtppflbccfdbogaaTotals.lean).
  GIVEN WITH THE SEED: the statements are not yours to turn. If you find one false, say at which input.
  Laid BY PROGRAM, IN A SANDBOX (cutbox-rows.mjs): the forced cells as the released guide's own fill.sh prints them over the translation c0c83dca8b9e808b… (all of the seat's roots in one cut). By AI agents, Wed Nov 11 2026. No macro, syntax, notation, axiom, sorry.
-/
import Derived.Test.YtppflbccfdbogaaChecked
import GoSem.Claim
import GoSem.ClaimJoined
import GoSem.ClaimMapViews
import Derived.JoinedTies
import Derived.KernelRfl
namespace Go.Proofs.Ytppflbccfdbogaa
/- THE CELL 'sum', in the pinned program and in every row, IS THE sha256 OF THE DUMP (.gsa) THAT YtppflbccfdbogaaProg.lean LOADS. Nothing in Lean hashes anything: it is a label: what it is worth is what the hold of that sum in a sandbox is worth. -/
noncomputable def Try.pinned : Pinned := { name := "ytppflbccfdbogaa", sum := "c0c83dca8b9e808b51f3613ee8e69b0ecf53623818b99bd17ebbc860e686efea", checked := Try.checked }
namespace Rows
def none {H : Type} : Left H := { results := [], args := [] }

/-- 'talismanlaw03.ConstructConditions': WHATEVER THE INPUT: true; the input reads as it did. -/
def constructConditionsSpec : ChangeSpec := { name := "constructConditions", fn := fun _ => fun
  | [d1, d2] => { results := [.lit (.bool true)], args := [d1, d2] }
  | _ => none }
def constructConditionsRow : OpenClaim := { program := "ytppflbccfdbogaa", sum := "c0c83dca8b9e808b51f3613ee8e69b0ecf53623818b99bd17ebbc860e686efea", func := "talisman/talismanlaw03.ConstructConditions", spec := "constructConditions", unfollowed := true, recurses := true, apart := false }
def ConstructConditionsSaid : Prop := constructConditionsRow.holds Try.pinned (OpenSpec.ofChange constructConditionsSpec)

/-- ITS FALSE NEIGHBOUR: 'it returns false'. Refute it at one input. -/
def constructConditionsWrong : ChangeSpec := { name := "constructConditions", fn := fun _ => fun
  | [d1, d2] => { results := [.lit (.bool false)], args := [d1, d2] }
  | _ => none }
def ConstructConditionsWrongFalsely : Prop := constructConditionsRow.holds Try.pinned (OpenSpec.ofChange constructConditionsWrong)

/-- 'talismanlaw03.ConstructBorders': WHATEVER THE INPUT: true; the input reads as it did. -/
def constructBordersSpec : ChangeSpec := { name := "constructBorders", fn := fun _ => fun
  | [d1, d2] => { results := [.lit (.bool true)], args := [d1, d2] }
  | _ => none }
def constructBordersRow : OpenClaim := { program := "ytppflbccfdbogaa", sum := "c0c83dca8b9e808b51f3613ee8e69b0ecf53623818b99bd17ebbc860e686efea", func := "talisman/talismanlaw03.ConstructBorders", spec := "constructBorders", unfollowed := true, recurses := true, apart := false }
def ConstructBordersSaid : Prop := constructBordersRow.holds Try.pinned (OpenSpec.ofChange constructBordersSpec)

/-- ITS FALSE NEIGHBOUR: 'it returns false'. Refute it at one input. -/
def constructBordersWrong : ChangeSpec := { name := "constructBorders", fn := fun _ => fun
  | [d1, d2] => { results := [.lit (.bool false)], args := [d1, d2] }
  | _ => none }
def ConstructBordersWrongFalsely : Prop := constructBordersRow.holds Try.pinned (OpenSpec.ofChange constructBordersWrong)

/-- 'talismanlaw03.ConstructOrders': WHATEVER THE INPUT: true; the input reads as it did. -/
def constructOrdersSpec : ChangeSpec := { name := "constructOrders", fn := fun _ => fun
  | [d] => { results := [.lit (.bool true)], args := [d] }
  | _ => none }
def constructOrdersRow : OpenClaim := { program := "ytppflbccfdbogaa", sum := "c0c83dca8b9e808b51f3613ee8e69b0ecf53623818b99bd17ebbc860e686efea", func := "talisman/talismanlaw03.ConstructOrders", spec := "constructOrders", unfollowed := true, recurses := true, apart := false }
def ConstructOrdersSaid : Prop := constructOrdersRow.holds Try.pinned (OpenSpec.ofChange constructOrdersSpec)

/-- ITS FALSE NEIGHBOUR: 'it returns false'. Refute it at one input. -/
def constructOrdersWrong : ChangeSpec := { name := "constructOrders", fn := fun _ => fun
  | [d] => { results := [.lit (.bool false)], args := [d] }
  | _ => none }
def ConstructOrdersWrongFalsely : Prop := constructOrdersRow.holds Try.pinned (OpenSpec.ofChange constructOrdersWrong)

/-- 'talismanlaw03.ConstructMagic': WHATEVER THE INPUT: true; the input reads as it did. -/
def constructMagicSpec : ChangeSpec := { name := "constructMagic", fn := fun _ => fun
  | [d] => { results := [.lit (.bool true)], args := [d] }
  | _ => none }
def constructMagicRow : OpenClaim := { program := "ytppflbccfdbogaa", sum := "c0c83dca8b9e808b51f3613ee8e69b0ecf53623818b99bd17ebbc860e686efea", func := "talisman/talismanlaw03.ConstructMagic", spec := "constructMagic", unfollowed := true, recurses := true, apart := false }
def ConstructMagicSaid : Prop := constructMagicRow.holds Try.pinned (OpenSpec.ofChange constructMagicSpec)

/-- ITS FALSE NEIGHBOUR: 'it returns false'. Refute it at one input. -/
def constructMagicWrong : ChangeSpec := { name := "constructMagic", fn := fun _ => fun
  | [d] => { results := [.lit (.bool false)], args := [d] }
  | _ => none }
def ConstructMagicWrongFalsely : Prop := constructMagicRow.holds Try.pinned (OpenSpec.ofChange constructMagicWrong)

/-- 'talismanlaw03.ConstructSteps': WHATEVER THE INPUT: true; the input reads as it did. -/
def constructStepsSpec : ChangeSpec := { name := "constructSteps", fn := fun _ => fun
  | [d1, d2] => { results := [.lit (.bool true)], args := [d1, d2] }
  | _ => none }
def constructStepsRow : OpenClaim := { program := "ytppflbccfdbogaa", sum := "c0c83dca8b9e808b51f3613ee8e69b0ecf53623818b99bd17ebbc860e686efea", func := "talisman/talismanlaw03.ConstructSteps", spec := "constructSteps", unfollowed := true, recurses := true, apart := false }
def ConstructStepsSaid : Prop := constructStepsRow.holds Try.pinned (OpenSpec.ofChange constructStepsSpec)

/-- ITS FALSE NEIGHBOUR: 'it returns false'. Refute it at one input. -/
def constructStepsWrong : ChangeSpec := { name := "constructSteps", fn := fun _ => fun
  | [d1, d2] => { results := [.lit (.bool false)], args := [d1, d2] }
  | _ => none }
def ConstructStepsWrongFalsely : Prop := constructStepsRow.holds Try.pinned (OpenSpec.ofChange constructStepsWrong)

/-- 'talismanlaw03.ConstructComposes': WHATEVER THE INPUT: true; the input reads as it did. -/
def constructComposesSpec : ChangeSpec := { name := "constructComposes", fn := fun _ => fun
  | [d1, d2, d3] => { results := [.lit (.bool true)], args := [d1, d2, d3] }
  | _ => none }
def constructComposesRow : OpenClaim := { program := "ytppflbccfdbogaa", sum := "c0c83dca8b9e808b51f3613ee8e69b0ecf53623818b99bd17ebbc860e686efea", func := "talisman/talismanlaw03.ConstructComposes", spec := "constructComposes", unfollowed := true, recurses := true, apart := false }
def ConstructComposesSaid : Prop := constructComposesRow.holds Try.pinned (OpenSpec.ofChange constructComposesSpec)

/-- ITS FALSE NEIGHBOUR: 'it returns false'. Refute it at one input. -/
def constructComposesWrong : ChangeSpec := { name := "constructComposes", fn := fun _ => fun
  | [d1, d2, d3] => { results := [.lit (.bool false)], args := [d1, d2, d3] }
  | _ => none }
def ConstructComposesWrongFalsely : Prop := constructComposesRow.holds Try.pinned (OpenSpec.ofChange constructComposesWrong)

/-- 'talismanlaw03.ConstructRules': WHATEVER THE INPUT: true; the input reads as it did. -/
def constructRulesSpec : ChangeSpec := { name := "constructRules", fn := fun _ => fun
  | [d1, d2] => { results := [.lit (.bool true)], args := [d1, d2] }
  | _ => none }
def constructRulesRow : OpenClaim := { program := "ytppflbccfdbogaa", sum := "c0c83dca8b9e808b51f3613ee8e69b0ecf53623818b99bd17ebbc860e686efea", func := "talisman/talismanlaw03.ConstructRules", spec := "constructRules", unfollowed := true, recurses := true, apart := false }
def ConstructRulesSaid : Prop := constructRulesRow.holds Try.pinned (OpenSpec.ofChange constructRulesSpec)

/-- ITS FALSE NEIGHBOUR: 'it returns false'. Refute it at one input. -/
def constructRulesWrong : ChangeSpec := { name := "constructRules", fn := fun _ => fun
  | [d1, d2] => { results := [.lit (.bool false)], args := [d1, d2] }
  | _ => none }
def ConstructRulesWrongFalsely : Prop := constructRulesRow.holds Try.pinned (OpenSpec.ofChange constructRulesWrong)

/-- 'talismanlaw03.ConstructDigits': WHATEVER THE INPUT: true; the input reads as it did. -/
def constructDigitsSpec : ChangeSpec := { name := "constructDigits", fn := fun _ => fun
  | [d1, d2, d3] => { results := [.lit (.bool true)], args := [d1, d2, d3] }
  | _ => none }
def constructDigitsRow : OpenClaim := { program := "ytppflbccfdbogaa", sum := "c0c83dca8b9e808b51f3613ee8e69b0ecf53623818b99bd17ebbc860e686efea", func := "talisman/talismanlaw03.ConstructDigits", spec := "constructDigits", unfollowed := true, recurses := true, apart := false }
def ConstructDigitsSaid : Prop := constructDigitsRow.holds Try.pinned (OpenSpec.ofChange constructDigitsSpec)

/-- ITS FALSE NEIGHBOUR: 'it returns false'. Refute it at one input. -/
def constructDigitsWrong : ChangeSpec := { name := "constructDigits", fn := fun _ => fun
  | [d1, d2, d3] => { results := [.lit (.bool false)], args := [d1, d2, d3] }
  | _ => none }
def ConstructDigitsWrongFalsely : Prop := constructDigitsRow.holds Try.pinned (OpenSpec.ofChange constructDigitsWrong)

/-- 'talismanlaw03.ConstructHalves': WHATEVER THE INPUT: true; the input reads as it did. -/
def constructHalvesSpec : ChangeSpec := { name := "constructHalves", fn := fun _ => fun
  | [d1, d2] => { results := [.lit (.bool true)], args := [d1, d2] }
  | _ => none }
def constructHalvesRow : OpenClaim := { program := "ytppflbccfdbogaa", sum := "c0c83dca8b9e808b51f3613ee8e69b0ecf53623818b99bd17ebbc860e686efea", func := "talisman/talismanlaw03.ConstructHalves", spec := "constructHalves", unfollowed := true, recurses := true, apart := false }
def ConstructHalvesSaid : Prop := constructHalvesRow.holds Try.pinned (OpenSpec.ofChange constructHalvesSpec)

/-- ITS FALSE NEIGHBOUR: 'it returns false'. Refute it at one input. -/
def constructHalvesWrong : ChangeSpec := { name := "constructHalves", fn := fun _ => fun
  | [d1, d2] => { results := [.lit (.bool false)], args := [d1, d2] }
  | _ => none }
def ConstructHalvesWrongFalsely : Prop := constructHalvesRow.holds Try.pinned (OpenSpec.ofChange constructHalvesWrong)

/-- 'talismanlaw03.ConstructPerfect': WHATEVER THE INPUT: true; the input reads as it did. -/
def constructPerfectSpec : ChangeSpec := { name := "constructPerfect", fn := fun _ => fun
  | [d1, d2, d3] => { results := [.lit (.bool true)], args := [d1, d2, d3] }
  | _ => none }
def constructPerfectRow : OpenClaim := { program := "ytppflbccfdbogaa", sum := "c0c83dca8b9e808b51f3613ee8e69b0ecf53623818b99bd17ebbc860e686efea", func := "talisman/talismanlaw03.ConstructPerfect", spec := "constructPerfect", unfollowed := true, recurses := true, apart := false }
def ConstructPerfectSaid : Prop := constructPerfectRow.holds Try.pinned (OpenSpec.ofChange constructPerfectSpec)

/-- ITS FALSE NEIGHBOUR: 'it returns false'. Refute it at one input. -/
def constructPerfectWrong : ChangeSpec := { name := "constructPerfect", fn := fun _ => fun
  | [d1, d2, d3] => { results := [.lit (.bool false)], args := [d1, d2, d3] }
  | _ => none }
def ConstructPerfectWrongFalsely : Prop := constructPerfectRow.holds Try.pinned (OpenSpec.ofChange constructPerfectWrong)

/-- 'talismanlaw03.ConstructComposite': WHATEVER THE INPUT: true; the input reads as it did. -/
def constructCompositeSpec : ChangeSpec := { name := "constructComposite", fn := fun _ => fun
  | [d1, d2] => { results := [.lit (.bool true)], args := [d1, d2] }
  | _ => none }
def constructCompositeRow : OpenClaim := { program := "ytppflbccfdbogaa", sum := "c0c83dca8b9e808b51f3613ee8e69b0ecf53623818b99bd17ebbc860e686efea", func := "talisman/talismanlaw03.ConstructComposite", spec := "constructComposite", unfollowed := true, recurses := true, apart := false }
def ConstructCompositeSaid : Prop := constructCompositeRow.holds Try.pinned (OpenSpec.ofChange constructCompositeSpec)

/-- ITS FALSE NEIGHBOUR: 'it returns false'. Refute it at one input. -/
def constructCompositeWrong : ChangeSpec := { name := "constructComposite", fn := fun _ => fun
  | [d1, d2] => { results := [.lit (.bool false)], args := [d1, d2] }
  | _ => none }
def ConstructCompositeWrongFalsely : Prop := constructCompositeRow.holds Try.pinned (OpenSpec.ofChange constructCompositeWrong)

/-- 'talismanlaw03.ConstructRefusals': WHATEVER THE INPUT: true; the input reads as it did. -/
def constructRefusalsSpec : ChangeSpec := { name := "constructRefusals", fn := fun _ => fun
  | [d1, d2, d3] => { results := [.lit (.bool true)], args := [d1, d2, d3] }
  | _ => none }
def constructRefusalsRow : OpenClaim := { program := "ytppflbccfdbogaa", sum := "c0c83dca8b9e808b51f3613ee8e69b0ecf53623818b99bd17ebbc860e686efea", func := "talisman/talismanlaw03.ConstructRefusals", spec := "constructRefusals", unfollowed := true, recurses := true, apart := false }
def ConstructRefusalsSaid : Prop := constructRefusalsRow.holds Try.pinned (OpenSpec.ofChange constructRefusalsSpec)

/-- ITS FALSE NEIGHBOUR: 'it returns false'. Refute it at one input. -/
def constructRefusalsWrong : ChangeSpec := { name := "constructRefusals", fn := fun _ => fun
  | [d1, d2, d3] => { results := [.lit (.bool false)], args := [d1, d2, d3] }
  | _ => none }
def ConstructRefusalsWrongFalsely : Prop := constructRefusalsRow.holds Try.pinned (OpenSpec.ofChange constructRefusalsWrong)

/-- 'talismanlaw03.ConstructExact': WHATEVER THE INPUT: true; the input reads as it did. -/
def constructExactSpec : ChangeSpec := { name := "constructExact", fn := fun _ => fun
  | [d1, d2] => { results := [.lit (.bool true)], args := [d1, d2] }
  | _ => none }
def constructExactRow : OpenClaim := { program := "ytppflbccfdbogaa", sum := "c0c83dca8b9e808b51f3613ee8e69b0ecf53623818b99bd17ebbc860e686efea", func := "talisman/talismanlaw03.ConstructExact", spec := "constructExact", unfollowed := true, recurses := true, apart := false }
def ConstructExactSaid : Prop := constructExactRow.holds Try.pinned (OpenSpec.ofChange constructExactSpec)

/-- ITS FALSE NEIGHBOUR: 'it returns false'. Refute it at one input. -/
def constructExactWrong : ChangeSpec := { name := "constructExact", fn := fun _ => fun
  | [d1, d2] => { results := [.lit (.bool false)], args := [d1, d2] }
  | _ => none }
def ConstructExactWrongFalsely : Prop := constructExactRow.holds Try.pinned (OpenSpec.ofChange constructExactWrong)

/- THE SECOND FORM. 'bulk': how many values and letters a reading holds, each counted each time it is reached (what is shared counts as often as it is met; a slice's spare places count too). A statement '..UptoSaid' is the law's where the arguments, and the package variables that the reading takes, are together of bulk at most 1048576: NARROWER than '..Said'. Prove '..Said' where nothing that the law and all that it calls make is longer than what came in: it says more and counts as full. Else prove '..UptoSaid'. A law counts once. -/
mutual
def uptoBulk {H : Type} : DataW H → Nat
  | .lit (.string bytes) => bytes.length + 1
  | .lit _ => 1
  | .nil => 1
  | .ptr d => uptoBulk d + 1
  | .slice elems spare => uptoBulkAll elems + uptoBulkAll spare + 1
  | .agg parts => uptoBulkAll parts + 1
  | .iface _ d => uptoBulk d + 1
  | .map entries => uptoBulkEntries entries + 1
  | .held _ => 1
def uptoBulkAll {H : Type} : List (DataW H) → Nat
  | [] => 0
  | d :: r => uptoBulk d + uptoBulkAll r
def uptoBulkEntries {H : Type} : List (Lit × DataW H) → Nat
  | [] => 0
  | x :: r => uptoBulkEntry x + uptoBulkEntries r
def uptoBulkEntry {H : Type} : Lit × DataW H → Nat
  | (.string bytes, d) => bytes.length + uptoBulk d + 1
  | (_, d) => uptoBulk d + 1
 end
def uptoSmall : (H : Type) → List (DataW H) → Bool := fun _ ds => decide (uptoBulkAll ds ≤ 1048576)
def OpenSpec.upto (s : _root_.Go.ChangeSpec) : _root_.Go.OpenSpec := { _root_.Go.OpenSpec.ofChange s with cond := some uptoSmall }

/-- 'talismanlaw03.ConstructConditions', WHERE WHAT IT READS IS OF BULK AT MOST 1048576: true; the input reads as it did. -/
def constructConditionsUptoRow : OpenClaim := { program := "ytppflbccfdbogaa", sum := "c0c83dca8b9e808b51f3613ee8e69b0ecf53623818b99bd17ebbc860e686efea", func := "talisman/talismanlaw03.ConstructConditions", spec := "constructConditions", unfollowed := true, recurses := true, apart := false, narrowed := true }
def ConstructConditionsUptoSaid : Prop := constructConditionsUptoRow.holds Try.pinned (OpenSpec.upto constructConditionsSpec)

/-- 'talismanlaw03.ConstructBorders', WHERE WHAT IT READS IS OF BULK AT MOST 1048576: true; the input reads as it did. -/
def constructBordersUptoRow : OpenClaim := { program := "ytppflbccfdbogaa", sum := "c0c83dca8b9e808b51f3613ee8e69b0ecf53623818b99bd17ebbc860e686efea", func := "talisman/talismanlaw03.ConstructBorders", spec := "constructBorders", unfollowed := true, recurses := true, apart := false, narrowed := true }
def ConstructBordersUptoSaid : Prop := constructBordersUptoRow.holds Try.pinned (OpenSpec.upto constructBordersSpec)

/-- 'talismanlaw03.ConstructOrders', WHERE WHAT IT READS IS OF BULK AT MOST 1048576: true; the input reads as it did. -/
def constructOrdersUptoRow : OpenClaim := { program := "ytppflbccfdbogaa", sum := "c0c83dca8b9e808b51f3613ee8e69b0ecf53623818b99bd17ebbc860e686efea", func := "talisman/talismanlaw03.ConstructOrders", spec := "constructOrders", unfollowed := true, recurses := true, apart := false, narrowed := true }
def ConstructOrdersUptoSaid : Prop := constructOrdersUptoRow.holds Try.pinned (OpenSpec.upto constructOrdersSpec)

/-- 'talismanlaw03.ConstructMagic', WHERE WHAT IT READS IS OF BULK AT MOST 1048576: true; the input reads as it did. -/
def constructMagicUptoRow : OpenClaim := { program := "ytppflbccfdbogaa", sum := "c0c83dca8b9e808b51f3613ee8e69b0ecf53623818b99bd17ebbc860e686efea", func := "talisman/talismanlaw03.ConstructMagic", spec := "constructMagic", unfollowed := true, recurses := true, apart := false, narrowed := true }
def ConstructMagicUptoSaid : Prop := constructMagicUptoRow.holds Try.pinned (OpenSpec.upto constructMagicSpec)

/-- 'talismanlaw03.ConstructSteps', WHERE WHAT IT READS IS OF BULK AT MOST 1048576: true; the input reads as it did. -/
def constructStepsUptoRow : OpenClaim := { program := "ytppflbccfdbogaa", sum := "c0c83dca8b9e808b51f3613ee8e69b0ecf53623818b99bd17ebbc860e686efea", func := "talisman/talismanlaw03.ConstructSteps", spec := "constructSteps", unfollowed := true, recurses := true, apart := false, narrowed := true }
def ConstructStepsUptoSaid : Prop := constructStepsUptoRow.holds Try.pinned (OpenSpec.upto constructStepsSpec)

/-- 'talismanlaw03.ConstructComposes', WHERE WHAT IT READS IS OF BULK AT MOST 1048576: true; the input reads as it did. -/
def constructComposesUptoRow : OpenClaim := { program := "ytppflbccfdbogaa", sum := "c0c83dca8b9e808b51f3613ee8e69b0ecf53623818b99bd17ebbc860e686efea", func := "talisman/talismanlaw03.ConstructComposes", spec := "constructComposes", unfollowed := true, recurses := true, apart := false, narrowed := true }
def ConstructComposesUptoSaid : Prop := constructComposesUptoRow.holds Try.pinned (OpenSpec.upto constructComposesSpec)

/-- 'talismanlaw03.ConstructRules', WHERE WHAT IT READS IS OF BULK AT MOST 1048576: true; the input reads as it did. -/
def constructRulesUptoRow : OpenClaim := { program := "ytppflbccfdbogaa", sum := "c0c83dca8b9e808b51f3613ee8e69b0ecf53623818b99bd17ebbc860e686efea", func := "talisman/talismanlaw03.ConstructRules", spec := "constructRules", unfollowed := true, recurses := true, apart := false, narrowed := true }
def ConstructRulesUptoSaid : Prop := constructRulesUptoRow.holds Try.pinned (OpenSpec.upto constructRulesSpec)

/-- 'talismanlaw03.ConstructDigits', WHERE WHAT IT READS IS OF BULK AT MOST 1048576: true; the input reads as it did. -/
def constructDigitsUptoRow : OpenClaim := { program := "ytppflbccfdbogaa", sum := "c0c83dca8b9e808b51f3613ee8e69b0ecf53623818b99bd17ebbc860e686efea", func := "talisman/talismanlaw03.ConstructDigits", spec := "constructDigits", unfollowed := true, recurses := true, apart := false, narrowed := true }
def ConstructDigitsUptoSaid : Prop := constructDigitsUptoRow.holds Try.pinned (OpenSpec.upto constructDigitsSpec)

/-- 'talismanlaw03.ConstructHalves', WHERE WHAT IT READS IS OF BULK AT MOST 1048576: true; the input reads as it did. -/
def constructHalvesUptoRow : OpenClaim := { program := "ytppflbccfdbogaa", sum := "c0c83dca8b9e808b51f3613ee8e69b0ecf53623818b99bd17ebbc860e686efea", func := "talisman/talismanlaw03.ConstructHalves", spec := "constructHalves", unfollowed := true, recurses := true, apart := false, narrowed := true }
def ConstructHalvesUptoSaid : Prop := constructHalvesUptoRow.holds Try.pinned (OpenSpec.upto constructHalvesSpec)

/-- 'talismanlaw03.ConstructPerfect', WHERE WHAT IT READS IS OF BULK AT MOST 1048576: true; the input reads as it did. -/
def constructPerfectUptoRow : OpenClaim := { program := "ytppflbccfdbogaa", sum := "c0c83dca8b9e808b51f3613ee8e69b0ecf53623818b99bd17ebbc860e686efea", func := "talisman/talismanlaw03.ConstructPerfect", spec := "constructPerfect", unfollowed := true, recurses := true, apart := false, narrowed := true }
def ConstructPerfectUptoSaid : Prop := constructPerfectUptoRow.holds Try.pinned (OpenSpec.upto constructPerfectSpec)

/-- 'talismanlaw03.ConstructComposite', WHERE WHAT IT READS IS OF BULK AT MOST 1048576: true; the input reads as it did. -/
def constructCompositeUptoRow : OpenClaim := { program := "ytppflbccfdbogaa", sum := "c0c83dca8b9e808b51f3613ee8e69b0ecf53623818b99bd17ebbc860e686efea", func := "talisman/talismanlaw03.ConstructComposite", spec := "constructComposite", unfollowed := true, recurses := true, apart := false, narrowed := true }
def ConstructCompositeUptoSaid : Prop := constructCompositeUptoRow.holds Try.pinned (OpenSpec.upto constructCompositeSpec)

/-- 'talismanlaw03.ConstructRefusals', WHERE WHAT IT READS IS OF BULK AT MOST 1048576: true; the input reads as it did. -/
def constructRefusalsUptoRow : OpenClaim := { program := "ytppflbccfdbogaa", sum := "c0c83dca8b9e808b51f3613ee8e69b0ecf53623818b99bd17ebbc860e686efea", func := "talisman/talismanlaw03.ConstructRefusals", spec := "constructRefusals", unfollowed := true, recurses := true, apart := false, narrowed := true }
def ConstructRefusalsUptoSaid : Prop := constructRefusalsUptoRow.holds Try.pinned (OpenSpec.upto constructRefusalsSpec)

/-- 'talismanlaw03.ConstructExact', WHERE WHAT IT READS IS OF BULK AT MOST 1048576: true; the input reads as it did. -/
def constructExactUptoRow : OpenClaim := { program := "ytppflbccfdbogaa", sum := "c0c83dca8b9e808b51f3613ee8e69b0ecf53623818b99bd17ebbc860e686efea", func := "talisman/talismanlaw03.ConstructExact", spec := "constructExact", unfollowed := true, recurses := true, apart := false, narrowed := true }
def ConstructExactUptoSaid : Prop := constructExactUptoRow.holds Try.pinned (OpenSpec.upto constructExactSpec)

end Rows
end Go.Proofs.Ytppflbccfdbogaa
