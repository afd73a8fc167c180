/-
  No cell of these rows narrows 'for every input' (looked for: loops, veiled, ifaces, maps, wideKeys, modest, calm, conditions, laid).
  DERIVED. THE GIVEN ROWS OF THIS SEAT. 8 by the template 'for every input the law returns true; each argument reads behind the call as it read before'; 0 by the template 'total and deterministic' (their statements: YtcjjhiafcefocaaTotals.lean).
  GIVEN WITH THE SEED: the statements are not yours to turn. If you find one false, say at which input.
  Laid BY PROGRAM, IN A SANDBOX (cutbox-rows.mjs): the forced cells as the released guide's own fill.sh prints them over the translation 00f63d6572470415… (all of the seat's roots in one cut). By AI agents, Wed Nov 11 2026. No macro, syntax, notation, axiom, sorry.
-/
import Derived.Test.YtcjjhiafcefocaaChecked
import GoSem.Claim
import GoSem.ClaimJoined
import GoSem.ClaimMapViews
import Derived.JoinedTies
import Derived.KernelRfl
namespace Go.Proofs.Ytcjjhiafcefocaa
/- THE CELL 'sum', in the pinned program and in every row, IS THE sha256 OF THE DUMP (.gsa) THAT YtcjjhiafcefocaaProg.lean LOADS. Nothing in Lean hashes anything: it is a label: what it is worth is what the hold of that sum in a sandbox is worth. -/
noncomputable def Try.pinned : Pinned := { name := "ytcjjhiafcefocaa", sum := "00f63d65724704157be3ebb2545b6f4a73a25e00198e7a8abfa17f019260ebf0", checked := Try.checked }
namespace Rows
def none {H : Type} : Left H := { results := [], args := [] }

/-- 'almonerlaw02.ShasTaken': WHATEVER THE INPUT: true; the input reads as it did. -/
def shasTakenSpec : ChangeSpec := { name := "shasTaken", fn := fun _ => fun
  | [d] => { results := [.lit (.bool true)], args := [d] }
  | _ => none }
def shasTakenRow : OpenClaim := { program := "ytcjjhiafcefocaa", sum := "00f63d65724704157be3ebb2545b6f4a73a25e00198e7a8abfa17f019260ebf0", func := "almoner/almonerlaw02.ShasTaken", spec := "shasTaken", apart := false }
def ShasTakenSaid : Prop := shasTakenRow.holds Try.pinned (OpenSpec.ofChange shasTakenSpec)

/-- ITS FALSE NEIGHBOUR: 'it returns false'. Refute it at one input. -/
def shasTakenWrong : ChangeSpec := { name := "shasTaken", fn := fun _ => fun
  | [d] => { results := [.lit (.bool false)], args := [d] }
  | _ => none }
def ShasTakenWrongFalsely : Prop := shasTakenRow.holds Try.pinned (OpenSpec.ofChange shasTakenWrong)

/-- 'almonerlaw02.ShasGoOn': WHATEVER THE INPUT: true; the input reads as it did. -/
def shasGoOnSpec : ChangeSpec := { name := "shasGoOn", fn := fun _ => fun
  | [d1, d2] => { results := [.lit (.bool true)], args := [d1, d2] }
  | _ => none }
def shasGoOnRow : OpenClaim := { program := "ytcjjhiafcefocaa", sum := "00f63d65724704157be3ebb2545b6f4a73a25e00198e7a8abfa17f019260ebf0", func := "almoner/almonerlaw02.ShasGoOn", spec := "shasGoOn", apart := false }
def ShasGoOnSaid : Prop := shasGoOnRow.holds Try.pinned (OpenSpec.ofChange shasGoOnSpec)

/-- ITS FALSE NEIGHBOUR: 'it returns false'. Refute it at one input. -/
def shasGoOnWrong : ChangeSpec := { name := "shasGoOn", fn := fun _ => fun
  | [d1, d2] => { results := [.lit (.bool false)], args := [d1, d2] }
  | _ => none }
def ShasGoOnWrongFalsely : Prop := shasGoOnRow.holds Try.pinned (OpenSpec.ofChange shasGoOnWrong)

/-- 'almonerlaw02.ShasNil': WHATEVER THE INPUT: true; the input reads as it did. -/
def shasNilSpec : ChangeSpec := { name := "shasNil", fn := fun _ => fun
  | [d] => { results := [.lit (.bool true)], args := [d] }
  | _ => none }
def shasNilRow : OpenClaim := { program := "ytcjjhiafcefocaa", sum := "00f63d65724704157be3ebb2545b6f4a73a25e00198e7a8abfa17f019260ebf0", func := "almoner/almonerlaw02.ShasNil", spec := "shasNil", apart := false }
def ShasNilSaid : Prop := shasNilRow.holds Try.pinned (OpenSpec.ofChange shasNilSpec)

/-- ITS FALSE NEIGHBOUR: 'it returns false'. Refute it at one input. -/
def shasNilWrong : ChangeSpec := { name := "shasNil", fn := fun _ => fun
  | [d] => { results := [.lit (.bool false)], args := [d] }
  | _ => none }
def ShasNilWrongFalsely : Prop := shasNilRow.holds Try.pinned (OpenSpec.ofChange shasNilWrong)

/-- 'almonerlaw02.ShasRun': WHATEVER THE INPUT: true; the input reads as it did. -/
def shasRunSpec : ChangeSpec := { name := "shasRun", fn := fun _ => fun
  | [d] => { results := [.lit (.bool true)], args := [d] }
  | _ => none }
def shasRunRow : OpenClaim := { program := "ytcjjhiafcefocaa", sum := "00f63d65724704157be3ebb2545b6f4a73a25e00198e7a8abfa17f019260ebf0", func := "almoner/almonerlaw02.ShasRun", spec := "shasRun", apart := false }
def ShasRunSaid : Prop := shasRunRow.holds Try.pinned (OpenSpec.ofChange shasRunSpec)

/-- ITS FALSE NEIGHBOUR: 'it returns false'. Refute it at one input. -/
def shasRunWrong : ChangeSpec := { name := "shasRun", fn := fun _ => fun
  | [d] => { results := [.lit (.bool false)], args := [d] }
  | _ => none }
def ShasRunWrongFalsely : Prop := shasRunRow.holds Try.pinned (OpenSpec.ofChange shasRunWrong)

/-- 'almonerlaw02.ShasWritten': WHATEVER THE INPUT: true; the input reads as it did. -/
def shasWrittenSpec : ChangeSpec := { name := "shasWritten", fn := fun _ => fun
  | [d1, d2] => { results := [.lit (.bool true)], args := [d1, d2] }
  | _ => none }
def shasWrittenRow : OpenClaim := { program := "ytcjjhiafcefocaa", sum := "00f63d65724704157be3ebb2545b6f4a73a25e00198e7a8abfa17f019260ebf0", func := "almoner/almonerlaw02.ShasWritten", spec := "shasWritten", apart := false }
def ShasWrittenSaid : Prop := shasWrittenRow.holds Try.pinned (OpenSpec.ofChange shasWrittenSpec)

/-- ITS FALSE NEIGHBOUR: 'it returns false'. Refute it at one input. -/
def shasWrittenWrong : ChangeSpec := { name := "shasWritten", fn := fun _ => fun
  | [d1, d2] => { results := [.lit (.bool false)], args := [d1, d2] }
  | _ => none }
def ShasWrittenWrongFalsely : Prop := shasWrittenRow.holds Try.pinned (OpenSpec.ofChange shasWrittenWrong)

/-- 'almonerlaw03.MacsBlocks': WHATEVER THE INPUT: true; the input reads as it did. -/
def macsBlocksSpec : ChangeSpec := { name := "macsBlocks", fn := fun _ => fun
  | [d1, d2] => { results := [.lit (.bool true)], args := [d1, d2] }
  | _ => none }
def macsBlocksRow : OpenClaim := { program := "ytcjjhiafcefocaa", sum := "00f63d65724704157be3ebb2545b6f4a73a25e00198e7a8abfa17f019260ebf0", func := "almoner/almonerlaw03.MacsBlocks", spec := "macsBlocks", apart := false }
def MacsBlocksSaid : Prop := macsBlocksRow.holds Try.pinned (OpenSpec.ofChange macsBlocksSpec)

/-- ITS FALSE NEIGHBOUR: 'it returns false'. Refute it at one input. -/
def macsBlocksWrong : ChangeSpec := { name := "macsBlocks", fn := fun _ => fun
  | [d1, d2] => { results := [.lit (.bool false)], args := [d1, d2] }
  | _ => none }
def MacsBlocksWrongFalsely : Prop := macsBlocksRow.holds Try.pinned (OpenSpec.ofChange macsBlocksWrong)

/-- 'almonerlaw03.MacsTurned': WHATEVER THE INPUT: true; the input reads as it did. -/
def macsTurnedSpec : ChangeSpec := { name := "macsTurned", fn := fun _ => fun
  | [d1, d2] => { results := [.lit (.bool true)], args := [d1, d2] }
  | _ => none }
def macsTurnedRow : OpenClaim := { program := "ytcjjhiafcefocaa", sum := "00f63d65724704157be3ebb2545b6f4a73a25e00198e7a8abfa17f019260ebf0", func := "almoner/almonerlaw03.MacsTurned", spec := "macsTurned", apart := false }
def MacsTurnedSaid : Prop := macsTurnedRow.holds Try.pinned (OpenSpec.ofChange macsTurnedSpec)

/-- ITS FALSE NEIGHBOUR: 'it returns false'. Refute it at one input. -/
def macsTurnedWrong : ChangeSpec := { name := "macsTurned", fn := fun _ => fun
  | [d1, d2] => { results := [.lit (.bool false)], args := [d1, d2] }
  | _ => none }
def MacsTurnedWrongFalsely : Prop := macsTurnedRow.holds Try.pinned (OpenSpec.ofChange macsTurnedWrong)

/-- 'almonerlaw03.MacsLong': WHATEVER THE INPUT: true; the input reads as it did. -/
def macsLongSpec : ChangeSpec := { name := "macsLong", fn := fun _ => fun
  | [d1, d2, d3] => { results := [.lit (.bool true)], args := [d1, d2, d3] }
  | _ => none }
def macsLongRow : OpenClaim := { program := "ytcjjhiafcefocaa", sum := "00f63d65724704157be3ebb2545b6f4a73a25e00198e7a8abfa17f019260ebf0", func := "almoner/almonerlaw03.MacsLong", spec := "macsLong", apart := false }
def MacsLongSaid : Prop := macsLongRow.holds Try.pinned (OpenSpec.ofChange macsLongSpec)

/-- ITS FALSE NEIGHBOUR: 'it returns false'. Refute it at one input. -/
def macsLongWrong : ChangeSpec := { name := "macsLong", fn := fun _ => fun
  | [d1, d2, d3] => { results := [.lit (.bool false)], args := [d1, d2, d3] }
  | _ => none }
def MacsLongWrongFalsely : Prop := macsLongRow.holds Try.pinned (OpenSpec.ofChange macsLongWrong)

/- THE SECOND FORM. 'bulk': how many values and letters a reading holds, each counted each time it is reached (what is shared counts as often as it is met; a slice's spare places count too). A statement '..UptoSaid' is the law's where the arguments, and the package variables that the reading takes, are together of bulk at most 1048576: NARROWER than '..Said'. Prove '..Said' where nothing that the law and all that it calls make is longer than what came in: it says more and counts as full. Else prove '..UptoSaid'. A law counts once. -/
mutual
def uptoBulk {H : Type} : DataW H → Nat
  | .lit (.string bytes) => bytes.length + 1
  | .lit _ => 1
  | .nil => 1
  | .ptr d => uptoBulk d + 1
  | .slice elems spare => uptoBulkAll elems + uptoBulkAll spare + 1
  | .agg parts => uptoBulkAll parts + 1
  | .iface _ d => uptoBulk d + 1
  | .map entries => uptoBulkEntries entries + 1
  | .held _ => 1
def uptoBulkAll {H : Type} : List (DataW H) → Nat
  | [] => 0
  | d :: r => uptoBulk d + uptoBulkAll r
def uptoBulkEntries {H : Type} : List (Lit × DataW H) → Nat
  | [] => 0
  | x :: r => uptoBulkEntry x + uptoBulkEntries r
def uptoBulkEntry {H : Type} : Lit × DataW H → Nat
  | (.string bytes, d) => bytes.length + uptoBulk d + 1
  | (_, d) => uptoBulk d + 1
 end
def uptoSmall : (H : Type) → List (DataW H) → Bool := fun _ ds => decide (uptoBulkAll ds ≤ 1048576)
def OpenSpec.upto (s : _root_.Go.ChangeSpec) : _root_.Go.OpenSpec := { _root_.Go.OpenSpec.ofChange s with cond := some uptoSmall }

/-- 'almonerlaw02.ShasTaken', WHERE WHAT IT READS IS OF BULK AT MOST 1048576: true; the input reads as it did. -/
def shasTakenUptoRow : OpenClaim := { program := "ytcjjhiafcefocaa", sum := "00f63d65724704157be3ebb2545b6f4a73a25e00198e7a8abfa17f019260ebf0", func := "almoner/almonerlaw02.ShasTaken", spec := "shasTaken", apart := false, narrowed := true }
def ShasTakenUptoSaid : Prop := shasTakenUptoRow.holds Try.pinned (OpenSpec.upto shasTakenSpec)

/-- 'almonerlaw02.ShasGoOn', WHERE WHAT IT READS IS OF BULK AT MOST 1048576: true; the input reads as it did. -/
def shasGoOnUptoRow : OpenClaim := { program := "ytcjjhiafcefocaa", sum := "00f63d65724704157be3ebb2545b6f4a73a25e00198e7a8abfa17f019260ebf0", func := "almoner/almonerlaw02.ShasGoOn", spec := "shasGoOn", apart := false, narrowed := true }
def ShasGoOnUptoSaid : Prop := shasGoOnUptoRow.holds Try.pinned (OpenSpec.upto shasGoOnSpec)

/-- 'almonerlaw02.ShasNil', WHERE WHAT IT READS IS OF BULK AT MOST 1048576: true; the input reads as it did. -/
def shasNilUptoRow : OpenClaim := { program := "ytcjjhiafcefocaa", sum := "00f63d65724704157be3ebb2545b6f4a73a25e00198e7a8abfa17f019260ebf0", func := "almoner/almonerlaw02.ShasNil", spec := "shasNil", apart := false, narrowed := true }
def ShasNilUptoSaid : Prop := shasNilUptoRow.holds Try.pinned (OpenSpec.upto shasNilSpec)

/-- 'almonerlaw02.ShasRun', WHERE WHAT IT READS IS OF BULK AT MOST 1048576: true; the input reads as it did. -/
def shasRunUptoRow : OpenClaim := { program := "ytcjjhiafcefocaa", sum := "00f63d65724704157be3ebb2545b6f4a73a25e00198e7a8abfa17f019260ebf0", func := "almoner/almonerlaw02.ShasRun", spec := "shasRun", apart := false, narrowed := true }
def ShasRunUptoSaid : Prop := shasRunUptoRow.holds Try.pinned (OpenSpec.upto shasRunSpec)

/-- 'almonerlaw02.ShasWritten', WHERE WHAT IT READS IS OF BULK AT MOST 1048576: true; the input reads as it did. -/
def shasWrittenUptoRow : OpenClaim := { program := "ytcjjhiafcefocaa", sum := "00f63d65724704157be3ebb2545b6f4a73a25e00198e7a8abfa17f019260ebf0", func := "almoner/almonerlaw02.ShasWritten", spec := "shasWritten", apart := false, narrowed := true }
def ShasWrittenUptoSaid : Prop := shasWrittenUptoRow.holds Try.pinned (OpenSpec.upto shasWrittenSpec)

/-- 'almonerlaw03.MacsBlocks', WHERE WHAT IT READS IS OF BULK AT MOST 1048576: true; the input reads as it did. -/
def macsBlocksUptoRow : OpenClaim := { program := "ytcjjhiafcefocaa", sum := "00f63d65724704157be3ebb2545b6f4a73a25e00198e7a8abfa17f019260ebf0", func := "almoner/almonerlaw03.MacsBlocks", spec := "macsBlocks", apart := false, narrowed := true }
def MacsBlocksUptoSaid : Prop := macsBlocksUptoRow.holds Try.pinned (OpenSpec.upto macsBlocksSpec)

/-- 'almonerlaw03.MacsTurned', WHERE WHAT IT READS IS OF BULK AT MOST 1048576: true; the input reads as it did. -/
def macsTurnedUptoRow : OpenClaim := { program := "ytcjjhiafcefocaa", sum := "00f63d65724704157be3ebb2545b6f4a73a25e00198e7a8abfa17f019260ebf0", func := "almoner/almonerlaw03.MacsTurned", spec := "macsTurned", apart := false, narrowed := true }
def MacsTurnedUptoSaid : Prop := macsTurnedUptoRow.holds Try.pinned (OpenSpec.upto macsTurnedSpec)

/-- 'almonerlaw03.MacsLong', WHERE WHAT IT READS IS OF BULK AT MOST 1048576: true; the input reads as it did. -/
def macsLongUptoRow : OpenClaim := { program := "ytcjjhiafcefocaa", sum := "00f63d65724704157be3ebb2545b6f4a73a25e00198e7a8abfa17f019260ebf0", func := "almoner/almonerlaw03.MacsLong", spec := "macsLong", apart := false, narrowed := true }
def MacsLongUptoSaid : Prop := macsLongUptoRow.holds Try.pinned (OpenSpec.upto macsLongSpec)

end Rows
end Go.Proofs.Ytcjjhiafcefocaa
