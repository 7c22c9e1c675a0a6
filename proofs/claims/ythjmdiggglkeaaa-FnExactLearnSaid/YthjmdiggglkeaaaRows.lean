/-
  No cell of these rows narrows 'for every input' (looked for: loops, veiled, ifaces, maps, wideKeys, modest, calm, conditions, laid).
  DERIVED. THE GIVEN ROWS OF THIS SEAT. 12 by the template 'for every input the law returns true; each argument reads behind the call as it read before'; 0 by the template 'total and deterministic' (their statements: YthjmdiggglkeaaaTotals.lean).
  GIVEN WITH THE SEED: the statements are not yours to turn. If you find one false, say at which input.
  Laid BY PROGRAM, IN A SANDBOX (cutbox-rows.mjs): the forced cells as the released guide's own fill.sh prints them over the translation a944c55c73a266bf… (all of the seat's roots in one cut). By AI agents, Wed Nov 11 2026. No macro, syntax, notation, axiom, sorry.
-/
import Derived.Test.YthjmdiggglkeaaaChecked
import GoSem.Claim
import GoSem.ClaimJoined
import GoSem.ClaimMapViews
import Derived.JoinedTies
import Derived.KernelRfl
namespace Go.Proofs.Ythjmdiggglkeaaa
/- THE CELL 'sum', in the pinned program and in every row, IS THE sha256 OF THE DUMP (.gsa) THAT YthjmdiggglkeaaaProg.lean LOADS. Nothing in Lean hashes anything: it is a label: what it is worth is what the hold of that sum in a sandbox is worth. -/
noncomputable def Try.pinned : Pinned := { name := "ythjmdiggglkeaaa", sum := "a944c55c73a266bf39fef1d5a8be89b2aff27769c4669b81271309042d007e84", checked := Try.checked }
namespace Rows
def none {H : Type} : Left H := { results := [], args := [] }

/-- 'laws.FnExactNetOk': WHATEVER THE INPUT: true; the input reads as it did. -/
def fnExactNetOkSpec : ChangeSpec := { name := "fnExactNetOk", fn := fun _ => fun
  | [d] => { results := [.lit (.bool true)], args := [d] }
  | _ => none }
def fnExactNetOkRow : OpenClaim := { program := "ythjmdiggglkeaaa", sum := "a944c55c73a266bf39fef1d5a8be89b2aff27769c4669b81271309042d007e84", func := "loop.example/g00177/laws.FnExactNetOk", spec := "fnExactNetOk", apart := false }
def FnExactNetOkSaid : Prop := fnExactNetOkRow.holds Try.pinned (OpenSpec.ofChange fnExactNetOkSpec)

/-- ITS FALSE NEIGHBOUR: 'it returns false'. Refute it at one input. -/
def fnExactNetOkWrong : ChangeSpec := { name := "fnExactNetOk", fn := fun _ => fun
  | [d] => { results := [.lit (.bool false)], args := [d] }
  | _ => none }
def FnExactNetOkWrongFalsely : Prop := fnExactNetOkRow.holds Try.pinned (OpenSpec.ofChange fnExactNetOkWrong)

/-- 'laws.FnExactSelfOk': WHATEVER THE INPUT: true; the input reads as it did. -/
def fnExactSelfOkSpec : ChangeSpec := { name := "fnExactSelfOk", fn := fun _ => fun
  | [d] => { results := [.lit (.bool true)], args := [d] }
  | _ => none }
def fnExactSelfOkRow : OpenClaim := { program := "ythjmdiggglkeaaa", sum := "a944c55c73a266bf39fef1d5a8be89b2aff27769c4669b81271309042d007e84", func := "loop.example/g00177/laws.FnExactSelfOk", spec := "fnExactSelfOk", apart := false }
def FnExactSelfOkSaid : Prop := fnExactSelfOkRow.holds Try.pinned (OpenSpec.ofChange fnExactSelfOkSpec)

/-- ITS FALSE NEIGHBOUR: 'it returns false'. Refute it at one input. -/
def fnExactSelfOkWrong : ChangeSpec := { name := "fnExactSelfOk", fn := fun _ => fun
  | [d] => { results := [.lit (.bool false)], args := [d] }
  | _ => none }
def FnExactSelfOkWrongFalsely : Prop := fnExactSelfOkRow.holds Try.pinned (OpenSpec.ofChange fnExactSelfOkWrong)

/-- 'laws.FnExactLearn': WHATEVER THE INPUT: true; the input reads as it did. -/
def fnExactLearnSpec : ChangeSpec := { name := "fnExactLearn", fn := fun _ => fun
  | [d1, d2] => { results := [.lit (.bool true)], args := [d1, d2] }
  | _ => none }
def fnExactLearnRow : OpenClaim := { program := "ythjmdiggglkeaaa", sum := "a944c55c73a266bf39fef1d5a8be89b2aff27769c4669b81271309042d007e84", func := "loop.example/g00177/laws.FnExactLearn", spec := "fnExactLearn", apart := false }
def FnExactLearnSaid : Prop := fnExactLearnRow.holds Try.pinned (OpenSpec.ofChange fnExactLearnSpec)

/-- ITS FALSE NEIGHBOUR: 'it returns false'. Refute it at one input. -/
def fnExactLearnWrong : ChangeSpec := { name := "fnExactLearn", fn := fun _ => fun
  | [d1, d2] => { results := [.lit (.bool false)], args := [d1, d2] }
  | _ => none }
def FnExactLearnWrongFalsely : Prop := fnExactLearnRow.holds Try.pinned (OpenSpec.ofChange fnExactLearnWrong)

/-- 'laws.FnExactFind': WHATEVER THE INPUT: true; the input reads as it did. -/
def fnExactFindSpec : ChangeSpec := { name := "fnExactFind", fn := fun _ => fun
  | [d1, d2] => { results := [.lit (.bool true)], args := [d1, d2] }
  | _ => none }
def fnExactFindRow : OpenClaim := { program := "ythjmdiggglkeaaa", sum := "a944c55c73a266bf39fef1d5a8be89b2aff27769c4669b81271309042d007e84", func := "loop.example/g00177/laws.FnExactFind", spec := "fnExactFind", apart := false }
def FnExactFindSaid : Prop := fnExactFindRow.holds Try.pinned (OpenSpec.ofChange fnExactFindSpec)

/-- ITS FALSE NEIGHBOUR: 'it returns false'. Refute it at one input. -/
def fnExactFindWrong : ChangeSpec := { name := "fnExactFind", fn := fun _ => fun
  | [d1, d2] => { results := [.lit (.bool false)], args := [d1, d2] }
  | _ => none }
def FnExactFindWrongFalsely : Prop := fnExactFindRow.holds Try.pinned (OpenSpec.ofChange fnExactFindWrong)

/-- 'laws.FnExactInstall': WHATEVER THE INPUT: true; the input reads as it did. -/
def fnExactInstallSpec : ChangeSpec := { name := "fnExactInstall", fn := fun _ => fun
  | [d1, d2] => { results := [.lit (.bool true)], args := [d1, d2] }
  | _ => none }
def fnExactInstallRow : OpenClaim := { program := "ythjmdiggglkeaaa", sum := "a944c55c73a266bf39fef1d5a8be89b2aff27769c4669b81271309042d007e84", func := "loop.example/g00177/laws.FnExactInstall", spec := "fnExactInstall", apart := false }
def FnExactInstallSaid : Prop := fnExactInstallRow.holds Try.pinned (OpenSpec.ofChange fnExactInstallSpec)

/-- ITS FALSE NEIGHBOUR: 'it returns false'. Refute it at one input. -/
def fnExactInstallWrong : ChangeSpec := { name := "fnExactInstall", fn := fun _ => fun
  | [d1, d2] => { results := [.lit (.bool false)], args := [d1, d2] }
  | _ => none }
def FnExactInstallWrongFalsely : Prop := fnExactInstallRow.holds Try.pinned (OpenSpec.ofChange fnExactInstallWrong)

/-- 'laws.FnExactMerge': WHATEVER THE INPUT: true; the input reads as it did. -/
def fnExactMergeSpec : ChangeSpec := { name := "fnExactMerge", fn := fun _ => fun
  | [d1, d2] => { results := [.lit (.bool true)], args := [d1, d2] }
  | _ => none }
def fnExactMergeRow : OpenClaim := { program := "ythjmdiggglkeaaa", sum := "a944c55c73a266bf39fef1d5a8be89b2aff27769c4669b81271309042d007e84", func := "loop.example/g00177/laws.FnExactMerge", spec := "fnExactMerge", apart := false }
def FnExactMergeSaid : Prop := fnExactMergeRow.holds Try.pinned (OpenSpec.ofChange fnExactMergeSpec)

/-- ITS FALSE NEIGHBOUR: 'it returns false'. Refute it at one input. -/
def fnExactMergeWrong : ChangeSpec := { name := "fnExactMerge", fn := fun _ => fun
  | [d1, d2] => { results := [.lit (.bool false)], args := [d1, d2] }
  | _ => none }
def FnExactMergeWrongFalsely : Prop := fnExactMergeRow.holds Try.pinned (OpenSpec.ofChange fnExactMergeWrong)

/-- 'laws.FnExactHeaders': WHATEVER THE INPUT: true; the input reads as it did. -/
def fnExactHeadersSpec : ChangeSpec := { name := "fnExactHeaders", fn := fun _ => fun
  | [d1, d2] => { results := [.lit (.bool true)], args := [d1, d2] }
  | _ => none }
def fnExactHeadersRow : OpenClaim := { program := "ythjmdiggglkeaaa", sum := "a944c55c73a266bf39fef1d5a8be89b2aff27769c4669b81271309042d007e84", func := "loop.example/g00177/laws.FnExactHeaders", spec := "fnExactHeaders", apart := false }
def FnExactHeadersSaid : Prop := fnExactHeadersRow.holds Try.pinned (OpenSpec.ofChange fnExactHeadersSpec)

/-- ITS FALSE NEIGHBOUR: 'it returns false'. Refute it at one input. -/
def fnExactHeadersWrong : ChangeSpec := { name := "fnExactHeaders", fn := fun _ => fun
  | [d1, d2] => { results := [.lit (.bool false)], args := [d1, d2] }
  | _ => none }
def FnExactHeadersWrongFalsely : Prop := fnExactHeadersRow.holds Try.pinned (OpenSpec.ofChange fnExactHeadersWrong)

/-- 'laws.FnStores': WHATEVER THE INPUT: true; the input reads as it did. -/
def fnStoresSpec : ChangeSpec := { name := "fnStores", fn := fun _ => fun
  | [d] => { results := [.lit (.bool true)], args := [d] }
  | _ => none }
def fnStoresRow : OpenClaim := { program := "ythjmdiggglkeaaa", sum := "a944c55c73a266bf39fef1d5a8be89b2aff27769c4669b81271309042d007e84", func := "loop.example/g00177/laws.FnStores", spec := "fnStores", apart := false }
def FnStoresSaid : Prop := fnStoresRow.holds Try.pinned (OpenSpec.ofChange fnStoresSpec)

/-- ITS FALSE NEIGHBOUR: 'it returns false'. Refute it at one input. -/
def fnStoresWrong : ChangeSpec := { name := "fnStores", fn := fun _ => fun
  | [d] => { results := [.lit (.bool false)], args := [d] }
  | _ => none }
def FnStoresWrongFalsely : Prop := fnStoresRow.holds Try.pinned (OpenSpec.ofChange fnStoresWrong)

/-- 'laws.FnMerges': WHATEVER THE INPUT: true; the input reads as it did. -/
def fnMergesSpec : ChangeSpec := { name := "fnMerges", fn := fun _ => fun
  | [d] => { results := [.lit (.bool true)], args := [d] }
  | _ => none }
def fnMergesRow : OpenClaim := { program := "ythjmdiggglkeaaa", sum := "a944c55c73a266bf39fef1d5a8be89b2aff27769c4669b81271309042d007e84", func := "loop.example/g00177/laws.FnMerges", spec := "fnMerges", apart := false }
def FnMergesSaid : Prop := fnMergesRow.holds Try.pinned (OpenSpec.ofChange fnMergesSpec)

/-- ITS FALSE NEIGHBOUR: 'it returns false'. Refute it at one input. -/
def fnMergesWrong : ChangeSpec := { name := "fnMerges", fn := fun _ => fun
  | [d] => { results := [.lit (.bool false)], args := [d] }
  | _ => none }
def FnMergesWrongFalsely : Prop := fnMergesRow.holds Try.pinned (OpenSpec.ofChange fnMergesWrong)

/-- 'laws.FnHeaders': WHATEVER THE INPUT: true; the input reads as it did. -/
def fnHeadersSpec : ChangeSpec := { name := "fnHeaders", fn := fun _ => fun
  | [d] => { results := [.lit (.bool true)], args := [d] }
  | _ => none }
def fnHeadersRow : OpenClaim := { program := "ythjmdiggglkeaaa", sum := "a944c55c73a266bf39fef1d5a8be89b2aff27769c4669b81271309042d007e84", func := "loop.example/g00177/laws.FnHeaders", spec := "fnHeaders", apart := false }
def FnHeadersSaid : Prop := fnHeadersRow.holds Try.pinned (OpenSpec.ofChange fnHeadersSpec)

/-- ITS FALSE NEIGHBOUR: 'it returns false'. Refute it at one input. -/
def fnHeadersWrong : ChangeSpec := { name := "fnHeaders", fn := fun _ => fun
  | [d] => { results := [.lit (.bool false)], args := [d] }
  | _ => none }
def FnHeadersWrongFalsely : Prop := fnHeadersRow.holds Try.pinned (OpenSpec.ofChange fnHeadersWrong)

/-- 'laws.FnNets': WHATEVER THE INPUT: true; the input reads as it did. -/
def fnNetsSpec : ChangeSpec := { name := "fnNets", fn := fun _ => fun
  | [d] => { results := [.lit (.bool true)], args := [d] }
  | _ => none }
def fnNetsRow : OpenClaim := { program := "ythjmdiggglkeaaa", sum := "a944c55c73a266bf39fef1d5a8be89b2aff27769c4669b81271309042d007e84", func := "loop.example/g00177/laws.FnNets", spec := "fnNets", apart := false }
def FnNetsSaid : Prop := fnNetsRow.holds Try.pinned (OpenSpec.ofChange fnNetsSpec)

/-- ITS FALSE NEIGHBOUR: 'it returns false'. Refute it at one input. -/
def fnNetsWrong : ChangeSpec := { name := "fnNets", fn := fun _ => fun
  | [d] => { results := [.lit (.bool false)], args := [d] }
  | _ => none }
def FnNetsWrongFalsely : Prop := fnNetsRow.holds Try.pinned (OpenSpec.ofChange fnNetsWrong)

/-- 'laws.FnAhead': WHATEVER THE INPUT: true; the input reads as it did. -/
def fnAheadSpec : ChangeSpec := { name := "fnAhead", fn := fun _ => fun
  | [d] => { results := [.lit (.bool true)], args := [d] }
  | _ => none }
def fnAheadRow : OpenClaim := { program := "ythjmdiggglkeaaa", sum := "a944c55c73a266bf39fef1d5a8be89b2aff27769c4669b81271309042d007e84", func := "loop.example/g00177/laws.FnAhead", spec := "fnAhead", apart := false }
def FnAheadSaid : Prop := fnAheadRow.holds Try.pinned (OpenSpec.ofChange fnAheadSpec)

/-- ITS FALSE NEIGHBOUR: 'it returns false'. Refute it at one input. -/
def fnAheadWrong : ChangeSpec := { name := "fnAhead", fn := fun _ => fun
  | [d] => { results := [.lit (.bool false)], args := [d] }
  | _ => none }
def FnAheadWrongFalsely : Prop := fnAheadRow.holds Try.pinned (OpenSpec.ofChange fnAheadWrong)

/- THE SECOND FORM. 'bulk': how many values and letters a reading holds, each counted each time it is reached (what is shared counts as often as it is met; a slice's spare places count too). A statement '..UptoSaid' is the law's where the arguments, and the package variables that the reading takes, are together of bulk at most 1048576: NARROWER than '..Said'. Prove '..Said' where nothing that the law and all that it calls make is longer than what came in: it says more and counts as full. Else prove '..UptoSaid'. A law counts once. -/
mutual
def uptoBulk {H : Type} : DataW H → Nat
  | .lit (.string bytes) => bytes.length + 1
  | .lit _ => 1
  | .nil => 1
  | .ptr d => uptoBulk d + 1
  | .slice elems spare => uptoBulkAll elems + uptoBulkAll spare + 1
  | .agg parts => uptoBulkAll parts + 1
  | .iface _ d => uptoBulk d + 1
  | .map entries => uptoBulkEntries entries + 1
  | .held _ => 1
def uptoBulkAll {H : Type} : List (DataW H) → Nat
  | [] => 0
  | d :: r => uptoBulk d + uptoBulkAll r
def uptoBulkEntries {H : Type} : List (Lit × DataW H) → Nat
  | [] => 0
  | x :: r => uptoBulkEntry x + uptoBulkEntries r
def uptoBulkEntry {H : Type} : Lit × DataW H → Nat
  | (.string bytes, d) => bytes.length + uptoBulk d + 1
  | (_, d) => uptoBulk d + 1
 end
def uptoSmall : (H : Type) → List (DataW H) → Bool := fun _ ds => decide (uptoBulkAll ds ≤ 1048576)
def OpenSpec.upto (s : _root_.Go.ChangeSpec) : _root_.Go.OpenSpec := { _root_.Go.OpenSpec.ofChange s with cond := some uptoSmall }

/-- 'laws.FnExactNetOk', WHERE WHAT IT READS IS OF BULK AT MOST 1048576: true; the input reads as it did. -/
def fnExactNetOkUptoRow : OpenClaim := { program := "ythjmdiggglkeaaa", sum := "a944c55c73a266bf39fef1d5a8be89b2aff27769c4669b81271309042d007e84", func := "loop.example/g00177/laws.FnExactNetOk", spec := "fnExactNetOk", apart := false, narrowed := true }
def FnExactNetOkUptoSaid : Prop := fnExactNetOkUptoRow.holds Try.pinned (OpenSpec.upto fnExactNetOkSpec)

/-- 'laws.FnExactSelfOk', WHERE WHAT IT READS IS OF BULK AT MOST 1048576: true; the input reads as it did. -/
def fnExactSelfOkUptoRow : OpenClaim := { program := "ythjmdiggglkeaaa", sum := "a944c55c73a266bf39fef1d5a8be89b2aff27769c4669b81271309042d007e84", func := "loop.example/g00177/laws.FnExactSelfOk", spec := "fnExactSelfOk", apart := false, narrowed := true }
def FnExactSelfOkUptoSaid : Prop := fnExactSelfOkUptoRow.holds Try.pinned (OpenSpec.upto fnExactSelfOkSpec)

/-- 'laws.FnExactLearn', WHERE WHAT IT READS IS OF BULK AT MOST 1048576: true; the input reads as it did. -/
def fnExactLearnUptoRow : OpenClaim := { program := "ythjmdiggglkeaaa", sum := "a944c55c73a266bf39fef1d5a8be89b2aff27769c4669b81271309042d007e84", func := "loop.example/g00177/laws.FnExactLearn", spec := "fnExactLearn", apart := false, narrowed := true }
def FnExactLearnUptoSaid : Prop := fnExactLearnUptoRow.holds Try.pinned (OpenSpec.upto fnExactLearnSpec)

/-- 'laws.FnExactFind', WHERE WHAT IT READS IS OF BULK AT MOST 1048576: true; the input reads as it did. -/
def fnExactFindUptoRow : OpenClaim := { program := "ythjmdiggglkeaaa", sum := "a944c55c73a266bf39fef1d5a8be89b2aff27769c4669b81271309042d007e84", func := "loop.example/g00177/laws.FnExactFind", spec := "fnExactFind", apart := false, narrowed := true }
def FnExactFindUptoSaid : Prop := fnExactFindUptoRow.holds Try.pinned (OpenSpec.upto fnExactFindSpec)

/-- 'laws.FnExactInstall', WHERE WHAT IT READS IS OF BULK AT MOST 1048576: true; the input reads as it did. -/
def fnExactInstallUptoRow : OpenClaim := { program := "ythjmdiggglkeaaa", sum := "a944c55c73a266bf39fef1d5a8be89b2aff27769c4669b81271309042d007e84", func := "loop.example/g00177/laws.FnExactInstall", spec := "fnExactInstall", apart := false, narrowed := true }
def FnExactInstallUptoSaid : Prop := fnExactInstallUptoRow.holds Try.pinned (OpenSpec.upto fnExactInstallSpec)

/-- 'laws.FnExactMerge', WHERE WHAT IT READS IS OF BULK AT MOST 1048576: true; the input reads as it did. -/
def fnExactMergeUptoRow : OpenClaim := { program := "ythjmdiggglkeaaa", sum := "a944c55c73a266bf39fef1d5a8be89b2aff27769c4669b81271309042d007e84", func := "loop.example/g00177/laws.FnExactMerge", spec := "fnExactMerge", apart := false, narrowed := true }
def FnExactMergeUptoSaid : Prop := fnExactMergeUptoRow.holds Try.pinned (OpenSpec.upto fnExactMergeSpec)

/-- 'laws.FnExactHeaders', WHERE WHAT IT READS IS OF BULK AT MOST 1048576: true; the input reads as it did. -/
def fnExactHeadersUptoRow : OpenClaim := { program := "ythjmdiggglkeaaa", sum := "a944c55c73a266bf39fef1d5a8be89b2aff27769c4669b81271309042d007e84", func := "loop.example/g00177/laws.FnExactHeaders", spec := "fnExactHeaders", apart := false, narrowed := true }
def FnExactHeadersUptoSaid : Prop := fnExactHeadersUptoRow.holds Try.pinned (OpenSpec.upto fnExactHeadersSpec)

/-- 'laws.FnStores', WHERE WHAT IT READS IS OF BULK AT MOST 1048576: true; the input reads as it did. -/
def fnStoresUptoRow : OpenClaim := { program := "ythjmdiggglkeaaa", sum := "a944c55c73a266bf39fef1d5a8be89b2aff27769c4669b81271309042d007e84", func := "loop.example/g00177/laws.FnStores", spec := "fnStores", apart := false, narrowed := true }
def FnStoresUptoSaid : Prop := fnStoresUptoRow.holds Try.pinned (OpenSpec.upto fnStoresSpec)

/-- 'laws.FnMerges', WHERE WHAT IT READS IS OF BULK AT MOST 1048576: true; the input reads as it did. -/
def fnMergesUptoRow : OpenClaim := { program := "ythjmdiggglkeaaa", sum := "a944c55c73a266bf39fef1d5a8be89b2aff27769c4669b81271309042d007e84", func := "loop.example/g00177/laws.FnMerges", spec := "fnMerges", apart := false, narrowed := true }
def FnMergesUptoSaid : Prop := fnMergesUptoRow.holds Try.pinned (OpenSpec.upto fnMergesSpec)

/-- 'laws.FnHeaders', WHERE WHAT IT READS IS OF BULK AT MOST 1048576: true; the input reads as it did. -/
def fnHeadersUptoRow : OpenClaim := { program := "ythjmdiggglkeaaa", sum := "a944c55c73a266bf39fef1d5a8be89b2aff27769c4669b81271309042d007e84", func := "loop.example/g00177/laws.FnHeaders", spec := "fnHeaders", apart := false, narrowed := true }
def FnHeadersUptoSaid : Prop := fnHeadersUptoRow.holds Try.pinned (OpenSpec.upto fnHeadersSpec)

/-- 'laws.FnNets', WHERE WHAT IT READS IS OF BULK AT MOST 1048576: true; the input reads as it did. -/
def fnNetsUptoRow : OpenClaim := { program := "ythjmdiggglkeaaa", sum := "a944c55c73a266bf39fef1d5a8be89b2aff27769c4669b81271309042d007e84", func := "loop.example/g00177/laws.FnNets", spec := "fnNets", apart := false, narrowed := true }
def FnNetsUptoSaid : Prop := fnNetsUptoRow.holds Try.pinned (OpenSpec.upto fnNetsSpec)

/-- 'laws.FnAhead', WHERE WHAT IT READS IS OF BULK AT MOST 1048576: true; the input reads as it did. -/
def fnAheadUptoRow : OpenClaim := { program := "ythjmdiggglkeaaa", sum := "a944c55c73a266bf39fef1d5a8be89b2aff27769c4669b81271309042d007e84", func := "loop.example/g00177/laws.FnAhead", spec := "fnAhead", apart := false, narrowed := true }
def FnAheadUptoSaid : Prop := fnAheadUptoRow.holds Try.pinned (OpenSpec.upto fnAheadSpec)

end Rows
end Go.Proofs.Ythjmdiggglkeaaa
