/-
  No cell of these rows narrows 'for every input' (looked for: loops, veiled, ifaces, maps, wideKeys, modest, calm, conditions, laid).
  DERIVED. THE GIVEN ROWS OF THIS SEAT. 12 by the template 'for every input the law returns true; each argument reads behind the call as it read before'; 0 by the template 'total and deterministic' (their statements: YtjkjhaiemephdaaTotals.lean).
  GIVEN WITH THE SEED: the statements are not yours to turn. If you find one false, say at which input.
  Laid BY PROGRAM, IN A SANDBOX (cutbox-rows.mjs): the forced cells as the released guide's own fill.sh prints them over the translation 0ab27950d0f002f8… (all of the seat's roots in one cut). By AI agents, Wed Nov 11 2026. No macro, syntax, notation, axiom, sorry.
-/
import Derived.Test.YtjkjhaiemephdaaChecked
import GoSem.Claim
import GoSem.ClaimJoined
import GoSem.ClaimMapViews
import Derived.JoinedTies
import Derived.KernelRfl
namespace Go.Proofs.Ytjkjhaiemephdaa
/- THE CELL 'sum', in the pinned program and in every row, IS THE sha256 OF THE DUMP (.gsa) THAT YtjkjhaiemephdaaProg.lean LOADS. Nothing in Lean hashes anything: it is a label: what it is worth is what the hold of that sum in a sandbox is worth. -/
noncomputable def Try.pinned : Pinned := { name := "ytjkjhaiemephdaa", sum := "0ab27950d0f002f82d9d2e756029b214cfe91ac1cf68951b93bf6506ed45e1ef", checked := Try.checked }
namespace Rows
def none {H : Type} : Left H := { results := [], args := [] }

/-- 'laws.FnExactBetter': WHATEVER THE INPUT: true; the input reads as it did. -/
def fnExactBetterSpec : ChangeSpec := { name := "fnExactBetter", fn := fun _ => fun
  | [d1, d2] => { results := [.lit (.bool true)], args := [d1, d2] }
  | _ => none }
def fnExactBetterRow : OpenClaim := { program := "ytjkjhaiemephdaa", sum := "0ab27950d0f002f82d9d2e756029b214cfe91ac1cf68951b93bf6506ed45e1ef", func := "loop.example/g00177/laws.FnExactBetter", spec := "fnExactBetter", apart := false }
def FnExactBetterSaid : Prop := fnExactBetterRow.holds Try.pinned (OpenSpec.ofChange fnExactBetterSpec)

/-- ITS FALSE NEIGHBOUR: 'it returns false'. Refute it at one input. -/
def fnExactBetterWrong : ChangeSpec := { name := "fnExactBetter", fn := fun _ => fun
  | [d1, d2] => { results := [.lit (.bool false)], args := [d1, d2] }
  | _ => none }
def FnExactBetterWrongFalsely : Prop := fnExactBetterRow.holds Try.pinned (OpenSpec.ofChange fnExactBetterWrong)

/-- 'laws.FnExactUnsealed': WHATEVER THE INPUT: true; the input reads as it did. -/
def fnExactUnsealedSpec : ChangeSpec := { name := "fnExactUnsealed", fn := fun _ => fun
  | [d] => { results := [.lit (.bool true)], args := [d] }
  | _ => none }
def fnExactUnsealedRow : OpenClaim := { program := "ytjkjhaiemephdaa", sum := "0ab27950d0f002f82d9d2e756029b214cfe91ac1cf68951b93bf6506ed45e1ef", func := "loop.example/g00177/laws.FnExactUnsealed", spec := "fnExactUnsealed", apart := false }
def FnExactUnsealedSaid : Prop := fnExactUnsealedRow.holds Try.pinned (OpenSpec.ofChange fnExactUnsealedSpec)

/-- ITS FALSE NEIGHBOUR: 'it returns false'. Refute it at one input. -/
def fnExactUnsealedWrong : ChangeSpec := { name := "fnExactUnsealed", fn := fun _ => fun
  | [d] => { results := [.lit (.bool false)], args := [d] }
  | _ => none }
def FnExactUnsealedWrongFalsely : Prop := fnExactUnsealedRow.holds Try.pinned (OpenSpec.ofChange fnExactUnsealedWrong)

/-- 'laws.FnExactReadShort': WHATEVER THE INPUT: true; the input reads as it did. -/
def fnExactReadShortSpec : ChangeSpec := { name := "fnExactReadShort", fn := fun _ => fun
  | [d1, d2] => { results := [.lit (.bool true)], args := [d1, d2] }
  | _ => none }
def fnExactReadShortRow : OpenClaim := { program := "ytjkjhaiemephdaa", sum := "0ab27950d0f002f82d9d2e756029b214cfe91ac1cf68951b93bf6506ed45e1ef", func := "loop.example/g00177/laws.FnExactReadShort", spec := "fnExactReadShort", apart := false }
def FnExactReadShortSaid : Prop := fnExactReadShortRow.holds Try.pinned (OpenSpec.ofChange fnExactReadShortSpec)

/-- ITS FALSE NEIGHBOUR: 'it returns false'. Refute it at one input. -/
def fnExactReadShortWrong : ChangeSpec := { name := "fnExactReadShort", fn := fun _ => fun
  | [d1, d2] => { results := [.lit (.bool false)], args := [d1, d2] }
  | _ => none }
def FnExactReadShortWrongFalsely : Prop := fnExactReadShortRow.holds Try.pinned (OpenSpec.ofChange fnExactReadShortWrong)

/-- 'laws.FnTurned': WHATEVER THE INPUT: true; the input reads as it did. -/
def fnTurnedSpec : ChangeSpec := { name := "fnTurned", fn := fun _ => fun
  | [d] => { results := [.lit (.bool true)], args := [d] }
  | _ => none }
def fnTurnedRow : OpenClaim := { program := "ytjkjhaiemephdaa", sum := "0ab27950d0f002f82d9d2e756029b214cfe91ac1cf68951b93bf6506ed45e1ef", func := "loop.example/g00177/laws.FnTurned", spec := "fnTurned", apart := false }
def FnTurnedSaid : Prop := fnTurnedRow.holds Try.pinned (OpenSpec.ofChange fnTurnedSpec)

/-- ITS FALSE NEIGHBOUR: 'it returns false'. Refute it at one input. -/
def fnTurnedWrong : ChangeSpec := { name := "fnTurned", fn := fun _ => fun
  | [d] => { results := [.lit (.bool false)], args := [d] }
  | _ => none }
def FnTurnedWrongFalsely : Prop := fnTurnedRow.holds Try.pinned (OpenSpec.ofChange fnTurnedWrong)

/-- 'laws.FnExactSameKey': WHATEVER THE INPUT: true; the input reads as it did. -/
def fnExactSameKeySpec : ChangeSpec := { name := "fnExactSameKey", fn := fun _ => fun
  | [d1, d2] => { results := [.lit (.bool true)], args := [d1, d2] }
  | _ => none }
def fnExactSameKeyRow : OpenClaim := { program := "ytjkjhaiemephdaa", sum := "0ab27950d0f002f82d9d2e756029b214cfe91ac1cf68951b93bf6506ed45e1ef", func := "loop.example/g00177/laws.FnExactSameKey", spec := "fnExactSameKey", apart := false }
def FnExactSameKeySaid : Prop := fnExactSameKeyRow.holds Try.pinned (OpenSpec.ofChange fnExactSameKeySpec)

/-- ITS FALSE NEIGHBOUR: 'it returns false'. Refute it at one input. -/
def fnExactSameKeyWrong : ChangeSpec := { name := "fnExactSameKey", fn := fun _ => fun
  | [d1, d2] => { results := [.lit (.bool false)], args := [d1, d2] }
  | _ => none }
def FnExactSameKeyWrongFalsely : Prop := fnExactSameKeyRow.holds Try.pinned (OpenSpec.ofChange fnExactSameKeyWrong)

/-- 'laws.FnExactLearn': WHATEVER THE INPUT: true; the input reads as it did. -/
def fnExactLearnSpec : ChangeSpec := { name := "fnExactLearn", fn := fun _ => fun
  | [d1, d2] => { results := [.lit (.bool true)], args := [d1, d2] }
  | _ => none }
def fnExactLearnRow : OpenClaim := { program := "ytjkjhaiemephdaa", sum := "0ab27950d0f002f82d9d2e756029b214cfe91ac1cf68951b93bf6506ed45e1ef", func := "loop.example/g00177/laws.FnExactLearn", spec := "fnExactLearn", apart := false }
def FnExactLearnSaid : Prop := fnExactLearnRow.holds Try.pinned (OpenSpec.ofChange fnExactLearnSpec)

/-- ITS FALSE NEIGHBOUR: 'it returns false'. Refute it at one input. -/
def fnExactLearnWrong : ChangeSpec := { name := "fnExactLearn", fn := fun _ => fun
  | [d1, d2] => { results := [.lit (.bool false)], args := [d1, d2] }
  | _ => none }
def FnExactLearnWrongFalsely : Prop := fnExactLearnRow.holds Try.pinned (OpenSpec.ofChange fnExactLearnWrong)

/-- 'laws.FnExactBefore': WHATEVER THE INPUT: true; the input reads as it did. -/
def fnExactBeforeSpec : ChangeSpec := { name := "fnExactBefore", fn := fun _ => fun
  | [d1, d2] => { results := [.lit (.bool true)], args := [d1, d2] }
  | _ => none }
def fnExactBeforeRow : OpenClaim := { program := "ytjkjhaiemephdaa", sum := "0ab27950d0f002f82d9d2e756029b214cfe91ac1cf68951b93bf6506ed45e1ef", func := "loop.example/g00177/laws.FnExactBefore", spec := "fnExactBefore", apart := false }
def FnExactBeforeSaid : Prop := fnExactBeforeRow.holds Try.pinned (OpenSpec.ofChange fnExactBeforeSpec)

/-- ITS FALSE NEIGHBOUR: 'it returns false'. Refute it at one input. -/
def fnExactBeforeWrong : ChangeSpec := { name := "fnExactBefore", fn := fun _ => fun
  | [d1, d2] => { results := [.lit (.bool false)], args := [d1, d2] }
  | _ => none }
def FnExactBeforeWrongFalsely : Prop := fnExactBeforeRow.holds Try.pinned (OpenSpec.ofChange fnExactBeforeWrong)

/-- 'laws.FnExactSameBody': WHATEVER THE INPUT: true; the input reads as it did. -/
def fnExactSameBodySpec : ChangeSpec := { name := "fnExactSameBody", fn := fun _ => fun
  | [d1, d2] => { results := [.lit (.bool true)], args := [d1, d2] }
  | _ => none }
def fnExactSameBodyRow : OpenClaim := { program := "ytjkjhaiemephdaa", sum := "0ab27950d0f002f82d9d2e756029b214cfe91ac1cf68951b93bf6506ed45e1ef", func := "loop.example/g00177/laws.FnExactSameBody", spec := "fnExactSameBody", apart := false }
def FnExactSameBodySaid : Prop := fnExactSameBodyRow.holds Try.pinned (OpenSpec.ofChange fnExactSameBodySpec)

/-- ITS FALSE NEIGHBOUR: 'it returns false'. Refute it at one input. -/
def fnExactSameBodyWrong : ChangeSpec := { name := "fnExactSameBody", fn := fun _ => fun
  | [d1, d2] => { results := [.lit (.bool false)], args := [d1, d2] }
  | _ => none }
def FnExactSameBodyWrongFalsely : Prop := fnExactSameBodyRow.holds Try.pinned (OpenSpec.ofChange fnExactSameBodyWrong)

/-- 'laws.FnExactRecordOk': WHATEVER THE INPUT: true; the input reads as it did. -/
def fnExactRecordOkSpec : ChangeSpec := { name := "fnExactRecordOk", fn := fun _ => fun
  | [d] => { results := [.lit (.bool true)], args := [d] }
  | _ => none }
def fnExactRecordOkRow : OpenClaim := { program := "ytjkjhaiemephdaa", sum := "0ab27950d0f002f82d9d2e756029b214cfe91ac1cf68951b93bf6506ed45e1ef", func := "loop.example/g00177/laws.FnExactRecordOk", spec := "fnExactRecordOk", apart := false }
def FnExactRecordOkSaid : Prop := fnExactRecordOkRow.holds Try.pinned (OpenSpec.ofChange fnExactRecordOkSpec)

/-- ITS FALSE NEIGHBOUR: 'it returns false'. Refute it at one input. -/
def fnExactRecordOkWrong : ChangeSpec := { name := "fnExactRecordOk", fn := fun _ => fun
  | [d] => { results := [.lit (.bool false)], args := [d] }
  | _ => none }
def FnExactRecordOkWrongFalsely : Prop := fnExactRecordOkRow.holds Try.pinned (OpenSpec.ofChange fnExactRecordOkWrong)

/-- 'laws.FnExactWayTo': WHATEVER THE INPUT: true; the input reads as it did. -/
def fnExactWayToSpec : ChangeSpec := { name := "fnExactWayTo", fn := fun _ => fun
  | [d1, d2] => { results := [.lit (.bool true)], args := [d1, d2] }
  | _ => none }
def fnExactWayToRow : OpenClaim := { program := "ytjkjhaiemephdaa", sum := "0ab27950d0f002f82d9d2e756029b214cfe91ac1cf68951b93bf6506ed45e1ef", func := "loop.example/g00177/laws.FnExactWayTo", spec := "fnExactWayTo", apart := false }
def FnExactWayToSaid : Prop := fnExactWayToRow.holds Try.pinned (OpenSpec.ofChange fnExactWayToSpec)

/-- ITS FALSE NEIGHBOUR: 'it returns false'. Refute it at one input. -/
def fnExactWayToWrong : ChangeSpec := { name := "fnExactWayTo", fn := fun _ => fun
  | [d1, d2] => { results := [.lit (.bool false)], args := [d1, d2] }
  | _ => none }
def FnExactWayToWrongFalsely : Prop := fnExactWayToRow.holds Try.pinned (OpenSpec.ofChange fnExactWayToWrong)

/-- 'laws.FnExactHopsTo': WHATEVER THE INPUT: true; the input reads as it did. -/
def fnExactHopsToSpec : ChangeSpec := { name := "fnExactHopsTo", fn := fun _ => fun
  | [d1, d2, d3] => { results := [.lit (.bool true)], args := [d1, d2, d3] }
  | _ => none }
def fnExactHopsToRow : OpenClaim := { program := "ytjkjhaiemephdaa", sum := "0ab27950d0f002f82d9d2e756029b214cfe91ac1cf68951b93bf6506ed45e1ef", func := "loop.example/g00177/laws.FnExactHopsTo", spec := "fnExactHopsTo", apart := false }
def FnExactHopsToSaid : Prop := fnExactHopsToRow.holds Try.pinned (OpenSpec.ofChange fnExactHopsToSpec)

/-- ITS FALSE NEIGHBOUR: 'it returns false'. Refute it at one input. -/
def fnExactHopsToWrong : ChangeSpec := { name := "fnExactHopsTo", fn := fun _ => fun
  | [d1, d2, d3] => { results := [.lit (.bool false)], args := [d1, d2, d3] }
  | _ => none }
def FnExactHopsToWrongFalsely : Prop := fnExactHopsToRow.holds Try.pinned (OpenSpec.ofChange fnExactHopsToWrong)

/-- 'laws.FnAhead': WHATEVER THE INPUT: true; the input reads as it did. -/
def fnAheadSpec : ChangeSpec := { name := "fnAhead", fn := fun _ => fun
  | [d] => { results := [.lit (.bool true)], args := [d] }
  | _ => none }
def fnAheadRow : OpenClaim := { program := "ytjkjhaiemephdaa", sum := "0ab27950d0f002f82d9d2e756029b214cfe91ac1cf68951b93bf6506ed45e1ef", func := "loop.example/g00177/laws.FnAhead", spec := "fnAhead", apart := false }
def FnAheadSaid : Prop := fnAheadRow.holds Try.pinned (OpenSpec.ofChange fnAheadSpec)

/-- ITS FALSE NEIGHBOUR: 'it returns false'. Refute it at one input. -/
def fnAheadWrong : ChangeSpec := { name := "fnAhead", fn := fun _ => fun
  | [d] => { results := [.lit (.bool false)], args := [d] }
  | _ => none }
def FnAheadWrongFalsely : Prop := fnAheadRow.holds Try.pinned (OpenSpec.ofChange fnAheadWrong)

/- THE SECOND FORM. 'bulk': how many values and letters a reading holds, each counted each time it is reached (what is shared counts as often as it is met; a slice's spare places count too). A statement '..UptoSaid' is the law's where the arguments, and the package variables that the reading takes, are together of bulk at most 1048576: NARROWER than '..Said'. Prove '..Said' where nothing that the law and all that it calls make is longer than what came in: it says more and counts as full. Else prove '..UptoSaid'. A law counts once. -/
mutual
def uptoBulk {H : Type} : DataW H → Nat
  | .lit (.string bytes) => bytes.length + 1
  | .lit _ => 1
  | .nil => 1
  | .ptr d => uptoBulk d + 1
  | .slice elems spare => uptoBulkAll elems + uptoBulkAll spare + 1
  | .agg parts => uptoBulkAll parts + 1
  | .iface _ d => uptoBulk d + 1
  | .map entries => uptoBulkEntries entries + 1
  | .held _ => 1
def uptoBulkAll {H : Type} : List (DataW H) → Nat
  | [] => 0
  | d :: r => uptoBulk d + uptoBulkAll r
def uptoBulkEntries {H : Type} : List (Lit × DataW H) → Nat
  | [] => 0
  | x :: r => uptoBulkEntry x + uptoBulkEntries r
def uptoBulkEntry {H : Type} : Lit × DataW H → Nat
  | (.string bytes, d) => bytes.length + uptoBulk d + 1
  | (_, d) => uptoBulk d + 1
 end
def uptoSmall : (H : Type) → List (DataW H) → Bool := fun _ ds => decide (uptoBulkAll ds ≤ 1048576)
def OpenSpec.upto (s : _root_.Go.ChangeSpec) : _root_.Go.OpenSpec := { _root_.Go.OpenSpec.ofChange s with cond := some uptoSmall }

/-- 'laws.FnExactBetter', WHERE WHAT IT READS IS OF BULK AT MOST 1048576: true; the input reads as it did. -/
def fnExactBetterUptoRow : OpenClaim := { program := "ytjkjhaiemephdaa", sum := "0ab27950d0f002f82d9d2e756029b214cfe91ac1cf68951b93bf6506ed45e1ef", func := "loop.example/g00177/laws.FnExactBetter", spec := "fnExactBetter", apart := false, narrowed := true }
def FnExactBetterUptoSaid : Prop := fnExactBetterUptoRow.holds Try.pinned (OpenSpec.upto fnExactBetterSpec)

/-- 'laws.FnExactUnsealed', WHERE WHAT IT READS IS OF BULK AT MOST 1048576: true; the input reads as it did. -/
def fnExactUnsealedUptoRow : OpenClaim := { program := "ytjkjhaiemephdaa", sum := "0ab27950d0f002f82d9d2e756029b214cfe91ac1cf68951b93bf6506ed45e1ef", func := "loop.example/g00177/laws.FnExactUnsealed", spec := "fnExactUnsealed", apart := false, narrowed := true }
def FnExactUnsealedUptoSaid : Prop := fnExactUnsealedUptoRow.holds Try.pinned (OpenSpec.upto fnExactUnsealedSpec)

/-- 'laws.FnExactReadShort', WHERE WHAT IT READS IS OF BULK AT MOST 1048576: true; the input reads as it did. -/
def fnExactReadShortUptoRow : OpenClaim := { program := "ytjkjhaiemephdaa", sum := "0ab27950d0f002f82d9d2e756029b214cfe91ac1cf68951b93bf6506ed45e1ef", func := "loop.example/g00177/laws.FnExactReadShort", spec := "fnExactReadShort", apart := false, narrowed := true }
def FnExactReadShortUptoSaid : Prop := fnExactReadShortUptoRow.holds Try.pinned (OpenSpec.upto fnExactReadShortSpec)

/-- 'laws.FnTurned', WHERE WHAT IT READS IS OF BULK AT MOST 1048576: true; the input reads as it did. -/
def fnTurnedUptoRow : OpenClaim := { program := "ytjkjhaiemephdaa", sum := "0ab27950d0f002f82d9d2e756029b214cfe91ac1cf68951b93bf6506ed45e1ef", func := "loop.example/g00177/laws.FnTurned", spec := "fnTurned", apart := false, narrowed := true }
def FnTurnedUptoSaid : Prop := fnTurnedUptoRow.holds Try.pinned (OpenSpec.upto fnTurnedSpec)

/-- 'laws.FnExactSameKey', WHERE WHAT IT READS IS OF BULK AT MOST 1048576: true; the input reads as it did. -/
def fnExactSameKeyUptoRow : OpenClaim := { program := "ytjkjhaiemephdaa", sum := "0ab27950d0f002f82d9d2e756029b214cfe91ac1cf68951b93bf6506ed45e1ef", func := "loop.example/g00177/laws.FnExactSameKey", spec := "fnExactSameKey", apart := false, narrowed := true }
def FnExactSameKeyUptoSaid : Prop := fnExactSameKeyUptoRow.holds Try.pinned (OpenSpec.upto fnExactSameKeySpec)

/-- 'laws.FnExactLearn', WHERE WHAT IT READS IS OF BULK AT MOST 1048576: true; the input reads as it did. -/
def fnExactLearnUptoRow : OpenClaim := { program := "ytjkjhaiemephdaa", sum := "0ab27950d0f002f82d9d2e756029b214cfe91ac1cf68951b93bf6506ed45e1ef", func := "loop.example/g00177/laws.FnExactLearn", spec := "fnExactLearn", apart := false, narrowed := true }
def FnExactLearnUptoSaid : Prop := fnExactLearnUptoRow.holds Try.pinned (OpenSpec.upto fnExactLearnSpec)

/-- 'laws.FnExactBefore', WHERE WHAT IT READS IS OF BULK AT MOST 1048576: true; the input reads as it did. -/
def fnExactBeforeUptoRow : OpenClaim := { program := "ytjkjhaiemephdaa", sum := "0ab27950d0f002f82d9d2e756029b214cfe91ac1cf68951b93bf6506ed45e1ef", func := "loop.example/g00177/laws.FnExactBefore", spec := "fnExactBefore", apart := false, narrowed := true }
def FnExactBeforeUptoSaid : Prop := fnExactBeforeUptoRow.holds Try.pinned (OpenSpec.upto fnExactBeforeSpec)

/-- 'laws.FnExactSameBody', WHERE WHAT IT READS IS OF BULK AT MOST 1048576: true; the input reads as it did. -/
def fnExactSameBodyUptoRow : OpenClaim := { program := "ytjkjhaiemephdaa", sum := "0ab27950d0f002f82d9d2e756029b214cfe91ac1cf68951b93bf6506ed45e1ef", func := "loop.example/g00177/laws.FnExactSameBody", spec := "fnExactSameBody", apart := false, narrowed := true }
def FnExactSameBodyUptoSaid : Prop := fnExactSameBodyUptoRow.holds Try.pinned (OpenSpec.upto fnExactSameBodySpec)

/-- 'laws.FnExactRecordOk', WHERE WHAT IT READS IS OF BULK AT MOST 1048576: true; the input reads as it did. -/
def fnExactRecordOkUptoRow : OpenClaim := { program := "ytjkjhaiemephdaa", sum := "0ab27950d0f002f82d9d2e756029b214cfe91ac1cf68951b93bf6506ed45e1ef", func := "loop.example/g00177/laws.FnExactRecordOk", spec := "fnExactRecordOk", apart := false, narrowed := true }
def FnExactRecordOkUptoSaid : Prop := fnExactRecordOkUptoRow.holds Try.pinned (OpenSpec.upto fnExactRecordOkSpec)

/-- 'laws.FnExactWayTo', WHERE WHAT IT READS IS OF BULK AT MOST 1048576: true; the input reads as it did. -/
def fnExactWayToUptoRow : OpenClaim := { program := "ytjkjhaiemephdaa", sum := "0ab27950d0f002f82d9d2e756029b214cfe91ac1cf68951b93bf6506ed45e1ef", func := "loop.example/g00177/laws.FnExactWayTo", spec := "fnExactWayTo", apart := false, narrowed := true }
def FnExactWayToUptoSaid : Prop := fnExactWayToUptoRow.holds Try.pinned (OpenSpec.upto fnExactWayToSpec)

/-- 'laws.FnExactHopsTo', WHERE WHAT IT READS IS OF BULK AT MOST 1048576: true; the input reads as it did. -/
def fnExactHopsToUptoRow : OpenClaim := { program := "ytjkjhaiemephdaa", sum := "0ab27950d0f002f82d9d2e756029b214cfe91ac1cf68951b93bf6506ed45e1ef", func := "loop.example/g00177/laws.FnExactHopsTo", spec := "fnExactHopsTo", apart := false, narrowed := true }
def FnExactHopsToUptoSaid : Prop := fnExactHopsToUptoRow.holds Try.pinned (OpenSpec.upto fnExactHopsToSpec)

/-- 'laws.FnAhead', WHERE WHAT IT READS IS OF BULK AT MOST 1048576: true; the input reads as it did. -/
def fnAheadUptoRow : OpenClaim := { program := "ytjkjhaiemephdaa", sum := "0ab27950d0f002f82d9d2e756029b214cfe91ac1cf68951b93bf6506ed45e1ef", func := "loop.example/g00177/laws.FnAhead", spec := "fnAhead", apart := false, narrowed := true }
def FnAheadUptoSaid : Prop := fnAheadUptoRow.holds Try.pinned (OpenSpec.upto fnAheadSpec)

end Rows
end Go.Proofs.Ytjkjhaiemephdaa
