/-
  No cell of these rows narrows 'for every input' (looked for: loops, veiled, ifaces, maps, wideKeys, modest, calm, conditions, laid).
  DERIVED. THE GIVEN ROWS OF THIS SEAT. 11 by the template 'for every input the law returns true; each argument reads behind the call as it read before'; 0 by the template 'total and deterministic' (their statements: YtjkjhaiemephdabTotals.lean).
  GIVEN WITH THE SEED: the statements are not yours to turn. If you find one false, say at which input.
  Laid BY PROGRAM, IN A SANDBOX (cutbox-rows.mjs): the forced cells as the released guide's own fill.sh prints them over the translation e94602a3f1f06855… (all of the seat's roots in one cut). By AI agents, Wed Nov 11 2026. No macro, syntax, notation, axiom, sorry.
-/
import Derived.Test.YtjkjhaiemephdabChecked
import GoSem.Claim
import GoSem.ClaimJoined
import GoSem.ClaimMapViews
import Derived.JoinedTies
import Derived.KernelRfl
namespace Go.Proofs.Ytjkjhaiemephdab
/- THE CELL 'sum', in the pinned program and in every row, IS THE sha256 OF THE DUMP (.gsa) THAT YtjkjhaiemephdabProg.lean LOADS. Nothing in Lean hashes anything: it is a label: what it is worth is what the hold of that sum in a sandbox is worth. -/
noncomputable def Try.pinned : Pinned := { name := "ytjkjhaiemephdab", sum := "e94602a3f1f0685520f54463dc0b2d80673961d93791b0662abfff75d65cfdeb", checked := Try.checked }
namespace Rows
def none {H : Type} : Left H := { results := [], args := [] }

/-- 'laws.FnExactCostTo': WHATEVER THE INPUT: true; the input reads as it did. -/
def fnExactCostToSpec : ChangeSpec := { name := "fnExactCostTo", fn := fun _ => fun
  | [d1, d2, d3, d4] => { results := [.lit (.bool true)], args := [d1, d2, d3, d4] }
  | _ => none }
def fnExactCostToRow : OpenClaim := { program := "ytjkjhaiemephdab", sum := "e94602a3f1f0685520f54463dc0b2d80673961d93791b0662abfff75d65cfdeb", func := "loop.example/g00177/laws.FnExactCostTo", spec := "fnExactCostTo", apart := false }
def FnExactCostToSaid : Prop := fnExactCostToRow.holds Try.pinned (OpenSpec.ofChange fnExactCostToSpec)

/-- ITS FALSE NEIGHBOUR: 'it returns false'. Refute it at one input. -/
def fnExactCostToWrong : ChangeSpec := { name := "fnExactCostTo", fn := fun _ => fun
  | [d1, d2, d3, d4] => { results := [.lit (.bool false)], args := [d1, d2, d3, d4] }
  | _ => none }
def FnExactCostToWrongFalsely : Prop := fnExactCostToRow.holds Try.pinned (OpenSpec.ofChange fnExactCostToWrong)

/-- 'laws.FnExactLinked': WHATEVER THE INPUT: true; the input reads as it did. -/
def fnExactLinkedSpec : ChangeSpec := { name := "fnExactLinked", fn := fun _ => fun
  | [d1, d2, d3, d4] => { results := [.lit (.bool true)], args := [d1, d2, d3, d4] }
  | _ => none }
def fnExactLinkedRow : OpenClaim := { program := "ytjkjhaiemephdab", sum := "e94602a3f1f0685520f54463dc0b2d80673961d93791b0662abfff75d65cfdeb", func := "loop.example/g00177/laws.FnExactLinked", spec := "fnExactLinked", apart := false }
def FnExactLinkedSaid : Prop := fnExactLinkedRow.holds Try.pinned (OpenSpec.ofChange fnExactLinkedSpec)

/-- ITS FALSE NEIGHBOUR: 'it returns false'. Refute it at one input. -/
def fnExactLinkedWrong : ChangeSpec := { name := "fnExactLinked", fn := fun _ => fun
  | [d1, d2, d3, d4] => { results := [.lit (.bool false)], args := [d1, d2, d3, d4] }
  | _ => none }
def FnExactLinkedWrongFalsely : Prop := fnExactLinkedRow.holds Try.pinned (OpenSpec.ofChange fnExactLinkedWrong)

/-- 'laws.FnExactNetOk': WHATEVER THE INPUT: true; the input reads as it did. -/
def fnExactNetOkSpec : ChangeSpec := { name := "fnExactNetOk", fn := fun _ => fun
  | [d] => { results := [.lit (.bool true)], args := [d] }
  | _ => none }
def fnExactNetOkRow : OpenClaim := { program := "ytjkjhaiemephdab", sum := "e94602a3f1f0685520f54463dc0b2d80673961d93791b0662abfff75d65cfdeb", func := "loop.example/g00177/laws.FnExactNetOk", spec := "fnExactNetOk", apart := false }
def FnExactNetOkSaid : Prop := fnExactNetOkRow.holds Try.pinned (OpenSpec.ofChange fnExactNetOkSpec)

/-- ITS FALSE NEIGHBOUR: 'it returns false'. Refute it at one input. -/
def fnExactNetOkWrong : ChangeSpec := { name := "fnExactNetOk", fn := fun _ => fun
  | [d] => { results := [.lit (.bool false)], args := [d] }
  | _ => none }
def FnExactNetOkWrongFalsely : Prop := fnExactNetOkRow.holds Try.pinned (OpenSpec.ofChange fnExactNetOkWrong)

/-- 'laws.FnExactRecordText': WHATEVER THE INPUT: true; the input reads as it did. -/
def fnExactRecordTextSpec : ChangeSpec := { name := "fnExactRecordText", fn := fun _ => fun
  | [d] => { results := [.lit (.bool true)], args := [d] }
  | _ => none }
def fnExactRecordTextRow : OpenClaim := { program := "ytjkjhaiemephdab", sum := "e94602a3f1f0685520f54463dc0b2d80673961d93791b0662abfff75d65cfdeb", func := "loop.example/g00177/laws.FnExactRecordText", spec := "fnExactRecordText", apart := false }
def FnExactRecordTextSaid : Prop := fnExactRecordTextRow.holds Try.pinned (OpenSpec.ofChange fnExactRecordTextSpec)

/-- ITS FALSE NEIGHBOUR: 'it returns false'. Refute it at one input. -/
def fnExactRecordTextWrong : ChangeSpec := { name := "fnExactRecordText", fn := fun _ => fun
  | [d] => { results := [.lit (.bool false)], args := [d] }
  | _ => none }
def FnExactRecordTextWrongFalsely : Prop := fnExactRecordTextRow.holds Try.pinned (OpenSpec.ofChange fnExactRecordTextWrong)

/-- 'laws.FnStores': WHATEVER THE INPUT: true; the input reads as it did. -/
def fnStoresSpec : ChangeSpec := { name := "fnStores", fn := fun _ => fun
  | [d] => { results := [.lit (.bool true)], args := [d] }
  | _ => none }
def fnStoresRow : OpenClaim := { program := "ytjkjhaiemephdab", sum := "e94602a3f1f0685520f54463dc0b2d80673961d93791b0662abfff75d65cfdeb", func := "loop.example/g00177/laws.FnStores", spec := "fnStores", apart := false }
def FnStoresSaid : Prop := fnStoresRow.holds Try.pinned (OpenSpec.ofChange fnStoresSpec)

/-- ITS FALSE NEIGHBOUR: 'it returns false'. Refute it at one input. -/
def fnStoresWrong : ChangeSpec := { name := "fnStores", fn := fun _ => fun
  | [d] => { results := [.lit (.bool false)], args := [d] }
  | _ => none }
def FnStoresWrongFalsely : Prop := fnStoresRow.holds Try.pinned (OpenSpec.ofChange fnStoresWrong)

/-- 'laws.FnNets': WHATEVER THE INPUT: true; the input reads as it did. -/
def fnNetsSpec : ChangeSpec := { name := "fnNets", fn := fun _ => fun
  | [d] => { results := [.lit (.bool true)], args := [d] }
  | _ => none }
def fnNetsRow : OpenClaim := { program := "ytjkjhaiemephdab", sum := "e94602a3f1f0685520f54463dc0b2d80673961d93791b0662abfff75d65cfdeb", func := "loop.example/g00177/laws.FnNets", spec := "fnNets", apart := false }
def FnNetsSaid : Prop := fnNetsRow.holds Try.pinned (OpenSpec.ofChange fnNetsSpec)

/-- ITS FALSE NEIGHBOUR: 'it returns false'. Refute it at one input. -/
def fnNetsWrong : ChangeSpec := { name := "fnNets", fn := fun _ => fun
  | [d] => { results := [.lit (.bool false)], args := [d] }
  | _ => none }
def FnNetsWrongFalsely : Prop := fnNetsRow.holds Try.pinned (OpenSpec.ofChange fnNetsWrong)

/-- 'laws.FnExactStoreOk': WHATEVER THE INPUT: true; the input reads as it did. -/
def fnExactStoreOkSpec : ChangeSpec := { name := "fnExactStoreOk", fn := fun _ => fun
  | [d] => { results := [.lit (.bool true)], args := [d] }
  | _ => none }
def fnExactStoreOkRow : OpenClaim := { program := "ytjkjhaiemephdab", sum := "e94602a3f1f0685520f54463dc0b2d80673961d93791b0662abfff75d65cfdeb", func := "loop.example/g00177/laws.FnExactStoreOk", spec := "fnExactStoreOk", apart := false }
def FnExactStoreOkSaid : Prop := fnExactStoreOkRow.holds Try.pinned (OpenSpec.ofChange fnExactStoreOkSpec)

/-- ITS FALSE NEIGHBOUR: 'it returns false'. Refute it at one input. -/
def fnExactStoreOkWrong : ChangeSpec := { name := "fnExactStoreOk", fn := fun _ => fun
  | [d] => { results := [.lit (.bool false)], args := [d] }
  | _ => none }
def FnExactStoreOkWrongFalsely : Prop := fnExactStoreOkRow.holds Try.pinned (OpenSpec.ofChange fnExactStoreOkWrong)

/-- 'laws.FnExactFind': WHATEVER THE INPUT: true; the input reads as it did. -/
def fnExactFindSpec : ChangeSpec := { name := "fnExactFind", fn := fun _ => fun
  | [d1, d2] => { results := [.lit (.bool true)], args := [d1, d2] }
  | _ => none }
def fnExactFindRow : OpenClaim := { program := "ytjkjhaiemephdab", sum := "e94602a3f1f0685520f54463dc0b2d80673961d93791b0662abfff75d65cfdeb", func := "loop.example/g00177/laws.FnExactFind", spec := "fnExactFind", apart := false }
def FnExactFindSaid : Prop := fnExactFindRow.holds Try.pinned (OpenSpec.ofChange fnExactFindSpec)

/-- ITS FALSE NEIGHBOUR: 'it returns false'. Refute it at one input. -/
def fnExactFindWrong : ChangeSpec := { name := "fnExactFind", fn := fun _ => fun
  | [d1, d2] => { results := [.lit (.bool false)], args := [d1, d2] }
  | _ => none }
def FnExactFindWrongFalsely : Prop := fnExactFindRow.holds Try.pinned (OpenSpec.ofChange fnExactFindWrong)

/-- 'laws.FnExactScope': WHATEVER THE INPUT: true; the input reads as it did. -/
def fnExactScopeSpec : ChangeSpec := { name := "fnExactScope", fn := fun _ => fun
  | [d1, d2] => { results := [.lit (.bool true)], args := [d1, d2] }
  | _ => none }
def fnExactScopeRow : OpenClaim := { program := "ytjkjhaiemephdab", sum := "e94602a3f1f0685520f54463dc0b2d80673961d93791b0662abfff75d65cfdeb", func := "loop.example/g00177/laws.FnExactScope", spec := "fnExactScope", apart := false }
def FnExactScopeSaid : Prop := fnExactScopeRow.holds Try.pinned (OpenSpec.ofChange fnExactScopeSpec)

/-- ITS FALSE NEIGHBOUR: 'it returns false'. Refute it at one input. -/
def fnExactScopeWrong : ChangeSpec := { name := "fnExactScope", fn := fun _ => fun
  | [d1, d2] => { results := [.lit (.bool false)], args := [d1, d2] }
  | _ => none }
def FnExactScopeWrongFalsely : Prop := fnExactScopeRow.holds Try.pinned (OpenSpec.ofChange fnExactScopeWrong)

/-- 'laws.FnExactNewer': WHATEVER THE INPUT: true; the input reads as it did. -/
def fnExactNewerSpec : ChangeSpec := { name := "fnExactNewer", fn := fun _ => fun
  | [d1, d2] => { results := [.lit (.bool true)], args := [d1, d2] }
  | _ => none }
def fnExactNewerRow : OpenClaim := { program := "ytjkjhaiemephdab", sum := "e94602a3f1f0685520f54463dc0b2d80673961d93791b0662abfff75d65cfdeb", func := "loop.example/g00177/laws.FnExactNewer", spec := "fnExactNewer", apart := false }
def FnExactNewerSaid : Prop := fnExactNewerRow.holds Try.pinned (OpenSpec.ofChange fnExactNewerSpec)

/-- ITS FALSE NEIGHBOUR: 'it returns false'. Refute it at one input. -/
def fnExactNewerWrong : ChangeSpec := { name := "fnExactNewer", fn := fun _ => fun
  | [d1, d2] => { results := [.lit (.bool false)], args := [d1, d2] }
  | _ => none }
def FnExactNewerWrongFalsely : Prop := fnExactNewerRow.holds Try.pinned (OpenSpec.ofChange fnExactNewerWrong)

/-- 'laws.FnExactHeaders': WHATEVER THE INPUT: true; the input reads as it did. -/
def fnExactHeadersSpec : ChangeSpec := { name := "fnExactHeaders", fn := fun _ => fun
  | [d1, d2] => { results := [.lit (.bool true)], args := [d1, d2] }
  | _ => none }
def fnExactHeadersRow : OpenClaim := { program := "ytjkjhaiemephdab", sum := "e94602a3f1f0685520f54463dc0b2d80673961d93791b0662abfff75d65cfdeb", func := "loop.example/g00177/laws.FnExactHeaders", spec := "fnExactHeaders", apart := false }
def FnExactHeadersSaid : Prop := fnExactHeadersRow.holds Try.pinned (OpenSpec.ofChange fnExactHeadersSpec)

/-- ITS FALSE NEIGHBOUR: 'it returns false'. Refute it at one input. -/
def fnExactHeadersWrong : ChangeSpec := { name := "fnExactHeaders", fn := fun _ => fun
  | [d1, d2] => { results := [.lit (.bool false)], args := [d1, d2] }
  | _ => none }
def FnExactHeadersWrongFalsely : Prop := fnExactHeadersRow.holds Try.pinned (OpenSpec.ofChange fnExactHeadersWrong)

/- THE SECOND FORM. 'bulk': how many values and letters a reading holds, each counted each time it is reached (what is shared counts as often as it is met; a slice's spare places count too). A statement '..UptoSaid' is the law's where the arguments, and the package variables that the reading takes, are together of bulk at most 1048576: NARROWER than '..Said'. Prove '..Said' where nothing that the law and all that it calls make is longer than what came in: it says more and counts as full. Else prove '..UptoSaid'. A law counts once. -/
mutual
def uptoBulk {H : Type} : DataW H → Nat
  | .lit (.string bytes) => bytes.length + 1
  | .lit _ => 1
  | .nil => 1
  | .ptr d => uptoBulk d + 1
  | .slice elems spare => uptoBulkAll elems + uptoBulkAll spare + 1
  | .agg parts => uptoBulkAll parts + 1
  | .iface _ d => uptoBulk d + 1
  | .map entries => uptoBulkEntries entries + 1
  | .held _ => 1
def uptoBulkAll {H : Type} : List (DataW H) → Nat
  | [] => 0
  | d :: r => uptoBulk d + uptoBulkAll r
def uptoBulkEntries {H : Type} : List (Lit × DataW H) → Nat
  | [] => 0
  | x :: r => uptoBulkEntry x + uptoBulkEntries r
def uptoBulkEntry {H : Type} : Lit × DataW H → Nat
  | (.string bytes, d) => bytes.length + uptoBulk d + 1
  | (_, d) => uptoBulk d + 1
 end
def uptoSmall : (H : Type) → List (DataW H) → Bool := fun _ ds => decide (uptoBulkAll ds ≤ 1048576)
def OpenSpec.upto (s : _root_.Go.ChangeSpec) : _root_.Go.OpenSpec := { _root_.Go.OpenSpec.ofChange s with cond := some uptoSmall }

/-- 'laws.FnExactCostTo', WHERE WHAT IT READS IS OF BULK AT MOST 1048576: true; the input reads as it did. -/
def fnExactCostToUptoRow : OpenClaim := { program := "ytjkjhaiemephdab", sum := "e94602a3f1f0685520f54463dc0b2d80673961d93791b0662abfff75d65cfdeb", func := "loop.example/g00177/laws.FnExactCostTo", spec := "fnExactCostTo", apart := false, narrowed := true }
def FnExactCostToUptoSaid : Prop := fnExactCostToUptoRow.holds Try.pinned (OpenSpec.upto fnExactCostToSpec)

/-- 'laws.FnExactLinked', WHERE WHAT IT READS IS OF BULK AT MOST 1048576: true; the input reads as it did. -/
def fnExactLinkedUptoRow : OpenClaim := { program := "ytjkjhaiemephdab", sum := "e94602a3f1f0685520f54463dc0b2d80673961d93791b0662abfff75d65cfdeb", func := "loop.example/g00177/laws.FnExactLinked", spec := "fnExactLinked", apart := false, narrowed := true }
def FnExactLinkedUptoSaid : Prop := fnExactLinkedUptoRow.holds Try.pinned (OpenSpec.upto fnExactLinkedSpec)

/-- 'laws.FnExactNetOk', WHERE WHAT IT READS IS OF BULK AT MOST 1048576: true; the input reads as it did. -/
def fnExactNetOkUptoRow : OpenClaim := { program := "ytjkjhaiemephdab", sum := "e94602a3f1f0685520f54463dc0b2d80673961d93791b0662abfff75d65cfdeb", func := "loop.example/g00177/laws.FnExactNetOk", spec := "fnExactNetOk", apart := false, narrowed := true }
def FnExactNetOkUptoSaid : Prop := fnExactNetOkUptoRow.holds Try.pinned (OpenSpec.upto fnExactNetOkSpec)

/-- 'laws.FnExactRecordText', WHERE WHAT IT READS IS OF BULK AT MOST 1048576: true; the input reads as it did. -/
def fnExactRecordTextUptoRow : OpenClaim := { program := "ytjkjhaiemephdab", sum := "e94602a3f1f0685520f54463dc0b2d80673961d93791b0662abfff75d65cfdeb", func := "loop.example/g00177/laws.FnExactRecordText", spec := "fnExactRecordText", apart := false, narrowed := true }
def FnExactRecordTextUptoSaid : Prop := fnExactRecordTextUptoRow.holds Try.pinned (OpenSpec.upto fnExactRecordTextSpec)

/-- 'laws.FnStores', WHERE WHAT IT READS IS OF BULK AT MOST 1048576: true; the input reads as it did. -/
def fnStoresUptoRow : OpenClaim := { program := "ytjkjhaiemephdab", sum := "e94602a3f1f0685520f54463dc0b2d80673961d93791b0662abfff75d65cfdeb", func := "loop.example/g00177/laws.FnStores", spec := "fnStores", apart := false, narrowed := true }
def FnStoresUptoSaid : Prop := fnStoresUptoRow.holds Try.pinned (OpenSpec.upto fnStoresSpec)

/-- 'laws.FnNets', WHERE WHAT IT READS IS OF BULK AT MOST 1048576: true; the input reads as it did. -/
def fnNetsUptoRow : OpenClaim := { program := "ytjkjhaiemephdab", sum := "e94602a3f1f0685520f54463dc0b2d80673961d93791b0662abfff75d65cfdeb", func := "loop.example/g00177/laws.FnNets", spec := "fnNets", apart := false, narrowed := true }
def FnNetsUptoSaid : Prop := fnNetsUptoRow.holds Try.pinned (OpenSpec.upto fnNetsSpec)

/-- 'laws.FnExactStoreOk', WHERE WHAT IT READS IS OF BULK AT MOST 1048576: true; the input reads as it did. -/
def fnExactStoreOkUptoRow : OpenClaim := { program := "ytjkjhaiemephdab", sum := "e94602a3f1f0685520f54463dc0b2d80673961d93791b0662abfff75d65cfdeb", func := "loop.example/g00177/laws.FnExactStoreOk", spec := "fnExactStoreOk", apart := false, narrowed := true }
def FnExactStoreOkUptoSaid : Prop := fnExactStoreOkUptoRow.holds Try.pinned (OpenSpec.upto fnExactStoreOkSpec)

/-- 'laws.FnExactFind', WHERE WHAT IT READS IS OF BULK AT MOST 1048576: true; the input reads as it did. -/
def fnExactFindUptoRow : OpenClaim := { program := "ytjkjhaiemephdab", sum := "e94602a3f1f0685520f54463dc0b2d80673961d93791b0662abfff75d65cfdeb", func := "loop.example/g00177/laws.FnExactFind", spec := "fnExactFind", apart := false, narrowed := true }
def FnExactFindUptoSaid : Prop := fnExactFindUptoRow.holds Try.pinned (OpenSpec.upto fnExactFindSpec)

/-- 'laws.FnExactScope', WHERE WHAT IT READS IS OF BULK AT MOST 1048576: true; the input reads as it did. -/
def fnExactScopeUptoRow : OpenClaim := { program := "ytjkjhaiemephdab", sum := "e94602a3f1f0685520f54463dc0b2d80673961d93791b0662abfff75d65cfdeb", func := "loop.example/g00177/laws.FnExactScope", spec := "fnExactScope", apart := false, narrowed := true }
def FnExactScopeUptoSaid : Prop := fnExactScopeUptoRow.holds Try.pinned (OpenSpec.upto fnExactScopeSpec)

/-- 'laws.FnExactNewer', WHERE WHAT IT READS IS OF BULK AT MOST 1048576: true; the input reads as it did. -/
def fnExactNewerUptoRow : OpenClaim := { program := "ytjkjhaiemephdab", sum := "e94602a3f1f0685520f54463dc0b2d80673961d93791b0662abfff75d65cfdeb", func := "loop.example/g00177/laws.FnExactNewer", spec := "fnExactNewer", apart := false, narrowed := true }
def FnExactNewerUptoSaid : Prop := fnExactNewerUptoRow.holds Try.pinned (OpenSpec.upto fnExactNewerSpec)

/-- 'laws.FnExactHeaders', WHERE WHAT IT READS IS OF BULK AT MOST 1048576: true; the input reads as it did. -/
def fnExactHeadersUptoRow : OpenClaim := { program := "ytjkjhaiemephdab", sum := "e94602a3f1f0685520f54463dc0b2d80673961d93791b0662abfff75d65cfdeb", func := "loop.example/g00177/laws.FnExactHeaders", spec := "fnExactHeaders", apart := false, narrowed := true }
def FnExactHeadersUptoSaid : Prop := fnExactHeadersUptoRow.holds Try.pinned (OpenSpec.upto fnExactHeadersSpec)

end Rows
end Go.Proofs.Ytjkjhaiemephdab
