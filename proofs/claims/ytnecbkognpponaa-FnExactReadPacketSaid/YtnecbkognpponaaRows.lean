/-
  No cell of these rows narrows 'for every input' (looked for: loops, veiled, ifaces, maps, wideKeys, modest, calm, conditions, laid).
  DERIVED. THE GIVEN ROWS OF THIS SEAT. 6 by the template 'for every input the law returns true; each argument reads behind the call as it read before'; 0 by the template 'total and deterministic' (their statements: YtnecbkognpponaaTotals.lean).
  GIVEN WITH THE SEED: the statements are not yours to turn. If you find one false, say at which input.
  Laid BY PROGRAM, IN A SANDBOX (cutbox-rows.mjs): the forced cells as the released guide's own fill.sh prints them over the translation 9e1a02f8a2f5340a… (all of the seat's roots in one cut). By AI agents, Wed Nov 11 2026. No macro, syntax, notation, axiom, sorry.
-/
import Derived.Test.YtnecbkognpponaaChecked
import GoSem.Claim
import GoSem.ClaimJoined
import GoSem.ClaimMapViews
import Derived.JoinedTies
import Derived.KernelRfl
namespace Go.Proofs.Ytnecbkognpponaa
/- THE CELL 'sum', in the pinned program and in every row, IS THE sha256 OF THE DUMP (.gsa) THAT YtnecbkognpponaaProg.lean LOADS. Nothing in Lean hashes anything: it is a label: what it is worth is what the hold of that sum in a sandbox is worth. -/
noncomputable def Try.pinned : Pinned := { name := "ytnecbkognpponaa", sum := "9e1a02f8a2f5340a6ceb59fa812b20b9d866e721d4993e4d678ca0abbb3954f1", checked := Try.checked }
namespace Rows
def none {H : Type} : Left H := { results := [], args := [] }

/-- 'laws.FnExactReadRecord': WHATEVER THE INPUT: true; the input reads as it did. -/
def fnExactReadRecordSpec : ChangeSpec := { name := "fnExactReadRecord", fn := fun _ => fun
  | [d] => { results := [.lit (.bool true)], args := [d] }
  | _ => none }
def fnExactReadRecordRow : OpenClaim := { program := "ytnecbkognpponaa", sum := "9e1a02f8a2f5340a6ceb59fa812b20b9d866e721d4993e4d678ca0abbb3954f1", func := "loop.example/g00177/laws.FnExactReadRecord", spec := "fnExactReadRecord", apart := false }
def FnExactReadRecordSaid : Prop := fnExactReadRecordRow.holds Try.pinned (OpenSpec.ofChange fnExactReadRecordSpec)

/-- ITS FALSE NEIGHBOUR: 'it returns false'. Refute it at one input. -/
def fnExactReadRecordWrong : ChangeSpec := { name := "fnExactReadRecord", fn := fun _ => fun
  | [d] => { results := [.lit (.bool false)], args := [d] }
  | _ => none }
def FnExactReadRecordWrongFalsely : Prop := fnExactReadRecordRow.holds Try.pinned (OpenSpec.ofChange fnExactReadRecordWrong)

/-- 'laws.FnExactPacketText': WHATEVER THE INPUT: true; the input reads as it did. -/
def fnExactPacketTextSpec : ChangeSpec := { name := "fnExactPacketText", fn := fun _ => fun
  | [d] => { results := [.lit (.bool true)], args := [d] }
  | _ => none }
def fnExactPacketTextRow : OpenClaim := { program := "ytnecbkognpponaa", sum := "9e1a02f8a2f5340a6ceb59fa812b20b9d866e721d4993e4d678ca0abbb3954f1", func := "loop.example/g00177/laws.FnExactPacketText", spec := "fnExactPacketText", apart := false }
def FnExactPacketTextSaid : Prop := fnExactPacketTextRow.holds Try.pinned (OpenSpec.ofChange fnExactPacketTextSpec)

/-- ITS FALSE NEIGHBOUR: 'it returns false'. Refute it at one input. -/
def fnExactPacketTextWrong : ChangeSpec := { name := "fnExactPacketText", fn := fun _ => fun
  | [d] => { results := [.lit (.bool false)], args := [d] }
  | _ => none }
def FnExactPacketTextWrongFalsely : Prop := fnExactPacketTextRow.holds Try.pinned (OpenSpec.ofChange fnExactPacketTextWrong)

/-- 'laws.FnExactReadPacket': WHATEVER THE INPUT: true; the input reads as it did. -/
def fnExactReadPacketSpec : ChangeSpec := { name := "fnExactReadPacket", fn := fun _ => fun
  | [d] => { results := [.lit (.bool true)], args := [d] }
  | _ => none }
def fnExactReadPacketRow : OpenClaim := { program := "ytnecbkognpponaa", sum := "9e1a02f8a2f5340a6ceb59fa812b20b9d866e721d4993e4d678ca0abbb3954f1", func := "loop.example/g00177/laws.FnExactReadPacket", spec := "fnExactReadPacket", apart := false }
def FnExactReadPacketSaid : Prop := fnExactReadPacketRow.holds Try.pinned (OpenSpec.ofChange fnExactReadPacketSpec)

/-- ITS FALSE NEIGHBOUR: 'it returns false'. Refute it at one input. -/
def fnExactReadPacketWrong : ChangeSpec := { name := "fnExactReadPacket", fn := fun _ => fun
  | [d] => { results := [.lit (.bool false)], args := [d] }
  | _ => none }
def FnExactReadPacketWrongFalsely : Prop := fnExactReadPacketRow.holds Try.pinned (OpenSpec.ofChange fnExactReadPacketWrong)

/-- 'laws.FnRecords': WHATEVER THE INPUT: true; the input reads as it did. -/
def fnRecordsSpec : ChangeSpec := { name := "fnRecords", fn := fun _ => fun
  | [d] => { results := [.lit (.bool true)], args := [d] }
  | _ => none }
def fnRecordsRow : OpenClaim := { program := "ytnecbkognpponaa", sum := "9e1a02f8a2f5340a6ceb59fa812b20b9d866e721d4993e4d678ca0abbb3954f1", func := "loop.example/g00177/laws.FnRecords", spec := "fnRecords", apart := false }
def FnRecordsSaid : Prop := fnRecordsRow.holds Try.pinned (OpenSpec.ofChange fnRecordsSpec)

/-- ITS FALSE NEIGHBOUR: 'it returns false'. Refute it at one input. -/
def fnRecordsWrong : ChangeSpec := { name := "fnRecords", fn := fun _ => fun
  | [d] => { results := [.lit (.bool false)], args := [d] }
  | _ => none }
def FnRecordsWrongFalsely : Prop := fnRecordsRow.holds Try.pinned (OpenSpec.ofChange fnRecordsWrong)

/-- 'laws.FnExactPacketOk': WHATEVER THE INPUT: true; the input reads as it did. -/
def fnExactPacketOkSpec : ChangeSpec := { name := "fnExactPacketOk", fn := fun _ => fun
  | [d] => { results := [.lit (.bool true)], args := [d] }
  | _ => none }
def fnExactPacketOkRow : OpenClaim := { program := "ytnecbkognpponaa", sum := "9e1a02f8a2f5340a6ceb59fa812b20b9d866e721d4993e4d678ca0abbb3954f1", func := "loop.example/g00177/laws.FnExactPacketOk", spec := "fnExactPacketOk", apart := false }
def FnExactPacketOkSaid : Prop := fnExactPacketOkRow.holds Try.pinned (OpenSpec.ofChange fnExactPacketOkSpec)

/-- ITS FALSE NEIGHBOUR: 'it returns false'. Refute it at one input. -/
def fnExactPacketOkWrong : ChangeSpec := { name := "fnExactPacketOk", fn := fun _ => fun
  | [d] => { results := [.lit (.bool false)], args := [d] }
  | _ => none }
def FnExactPacketOkWrongFalsely : Prop := fnExactPacketOkRow.holds Try.pinned (OpenSpec.ofChange fnExactPacketOkWrong)

/-- 'laws.FnTurned': WHATEVER THE INPUT: true; the input reads as it did. -/
def fnTurnedSpec : ChangeSpec := { name := "fnTurned", fn := fun _ => fun
  | [d] => { results := [.lit (.bool true)], args := [d] }
  | _ => none }
def fnTurnedRow : OpenClaim := { program := "ytnecbkognpponaa", sum := "9e1a02f8a2f5340a6ceb59fa812b20b9d866e721d4993e4d678ca0abbb3954f1", func := "loop.example/g00177/laws.FnTurned", spec := "fnTurned", apart := false }
def FnTurnedSaid : Prop := fnTurnedRow.holds Try.pinned (OpenSpec.ofChange fnTurnedSpec)

/-- ITS FALSE NEIGHBOUR: 'it returns false'. Refute it at one input. -/
def fnTurnedWrong : ChangeSpec := { name := "fnTurned", fn := fun _ => fun
  | [d] => { results := [.lit (.bool false)], args := [d] }
  | _ => none }
def FnTurnedWrongFalsely : Prop := fnTurnedRow.holds Try.pinned (OpenSpec.ofChange fnTurnedWrong)

/- THE SECOND FORM. 'bulk': how many values and letters a reading holds, each counted each time it is reached (what is shared counts as often as it is met; a slice's spare places count too). A statement '..UptoSaid' is the law's where the arguments, and the package variables that the reading takes, are together of bulk at most 1048576: NARROWER than '..Said'. Prove '..Said' where nothing that the law and all that it calls make is longer than what came in: it says more and counts as full. Else prove '..UptoSaid'. A law counts once. -/
mutual
def uptoBulk {H : Type} : DataW H → Nat
  | .lit (.string bytes) => bytes.length + 1
  | .lit _ => 1
  | .nil => 1
  | .ptr d => uptoBulk d + 1
  | .slice elems spare => uptoBulkAll elems + uptoBulkAll spare + 1
  | .agg parts => uptoBulkAll parts + 1
  | .iface _ d => uptoBulk d + 1
  | .map entries => uptoBulkEntries entries + 1
  | .held _ => 1
def uptoBulkAll {H : Type} : List (DataW H) → Nat
  | [] => 0
  | d :: r => uptoBulk d + uptoBulkAll r
def uptoBulkEntries {H : Type} : List (Lit × DataW H) → Nat
  | [] => 0
  | x :: r => uptoBulkEntry x + uptoBulkEntries r
def uptoBulkEntry {H : Type} : Lit × DataW H → Nat
  | (.string bytes, d) => bytes.length + uptoBulk d + 1
  | (_, d) => uptoBulk d + 1
 end
def uptoSmall : (H : Type) → List (DataW H) → Bool := fun _ ds => decide (uptoBulkAll ds ≤ 1048576)
def OpenSpec.upto (s : _root_.Go.ChangeSpec) : _root_.Go.OpenSpec := { _root_.Go.OpenSpec.ofChange s with cond := some uptoSmall }

/-- 'laws.FnExactReadRecord', WHERE WHAT IT READS IS OF BULK AT MOST 1048576: true; the input reads as it did. -/
def fnExactReadRecordUptoRow : OpenClaim := { program := "ytnecbkognpponaa", sum := "9e1a02f8a2f5340a6ceb59fa812b20b9d866e721d4993e4d678ca0abbb3954f1", func := "loop.example/g00177/laws.FnExactReadRecord", spec := "fnExactReadRecord", apart := false, narrowed := true }
def FnExactReadRecordUptoSaid : Prop := fnExactReadRecordUptoRow.holds Try.pinned (OpenSpec.upto fnExactReadRecordSpec)

/-- 'laws.FnExactPacketText', WHERE WHAT IT READS IS OF BULK AT MOST 1048576: true; the input reads as it did. -/
def fnExactPacketTextUptoRow : OpenClaim := { program := "ytnecbkognpponaa", sum := "9e1a02f8a2f5340a6ceb59fa812b20b9d866e721d4993e4d678ca0abbb3954f1", func := "loop.example/g00177/laws.FnExactPacketText", spec := "fnExactPacketText", apart := false, narrowed := true }
def FnExactPacketTextUptoSaid : Prop := fnExactPacketTextUptoRow.holds Try.pinned (OpenSpec.upto fnExactPacketTextSpec)

/-- 'laws.FnExactReadPacket', WHERE WHAT IT READS IS OF BULK AT MOST 1048576: true; the input reads as it did. -/
def fnExactReadPacketUptoRow : OpenClaim := { program := "ytnecbkognpponaa", sum := "9e1a02f8a2f5340a6ceb59fa812b20b9d866e721d4993e4d678ca0abbb3954f1", func := "loop.example/g00177/laws.FnExactReadPacket", spec := "fnExactReadPacket", apart := false, narrowed := true }
def FnExactReadPacketUptoSaid : Prop := fnExactReadPacketUptoRow.holds Try.pinned (OpenSpec.upto fnExactReadPacketSpec)

/-- 'laws.FnRecords', WHERE WHAT IT READS IS OF BULK AT MOST 1048576: true; the input reads as it did. -/
def fnRecordsUptoRow : OpenClaim := { program := "ytnecbkognpponaa", sum := "9e1a02f8a2f5340a6ceb59fa812b20b9d866e721d4993e4d678ca0abbb3954f1", func := "loop.example/g00177/laws.FnRecords", spec := "fnRecords", apart := false, narrowed := true }
def FnRecordsUptoSaid : Prop := fnRecordsUptoRow.holds Try.pinned (OpenSpec.upto fnRecordsSpec)

/-- 'laws.FnExactPacketOk', WHERE WHAT IT READS IS OF BULK AT MOST 1048576: true; the input reads as it did. -/
def fnExactPacketOkUptoRow : OpenClaim := { program := "ytnecbkognpponaa", sum := "9e1a02f8a2f5340a6ceb59fa812b20b9d866e721d4993e4d678ca0abbb3954f1", func := "loop.example/g00177/laws.FnExactPacketOk", spec := "fnExactPacketOk", apart := false, narrowed := true }
def FnExactPacketOkUptoSaid : Prop := fnExactPacketOkUptoRow.holds Try.pinned (OpenSpec.upto fnExactPacketOkSpec)

/-- 'laws.FnTurned', WHERE WHAT IT READS IS OF BULK AT MOST 1048576: true; the input reads as it did. -/
def fnTurnedUptoRow : OpenClaim := { program := "ytnecbkognpponaa", sum := "9e1a02f8a2f5340a6ceb59fa812b20b9d866e721d4993e4d678ca0abbb3954f1", func := "loop.example/g00177/laws.FnTurned", spec := "fnTurned", apart := false, narrowed := true }
def FnTurnedUptoSaid : Prop := fnTurnedUptoRow.holds Try.pinned (OpenSpec.upto fnTurnedSpec)

end Rows
end Go.Proofs.Ytnecbkognpponaa
