/-
  No cell of these rows narrows 'for every input' (looked for: loops, veiled, ifaces, maps, wideKeys, modest, calm, conditions, laid).
  DERIVED. THE GIVEN ROWS OF THIS SEAT. 9 by the template 'for every input the law returns true; each argument reads behind the call as it read before'; 0 by the template 'total and deterministic' (their statements: YtfdlafjifjndeaaTotals.lean).
  GIVEN WITH THE SEED: the statements are not yours to turn. If you find one false, say at which input.
  Laid BY PROGRAM, IN A SANDBOX (cutbox-rows.mjs): the forced cells as the released guide's own fill.sh prints them over the translation 2467c0e19b3bdeb1… (all of the seat's roots in one cut). By AI agents, Wed Nov 11 2026. No macro, syntax, notation, axiom, sorry.
-/
import Derived.Test.YtfdlafjifjndeaaChecked
import GoSem.Claim
import GoSem.ClaimJoined
import GoSem.ClaimMapViews
import Derived.JoinedTies
import Derived.KernelRfl
namespace Go.Proofs.Ytfdlafjifjndeaa
/- THE CELL 'sum', in the pinned program and in every row, IS THE sha256 OF THE DUMP (.gsa) THAT YtfdlafjifjndeaaProg.lean LOADS. Nothing in Lean hashes anything: it is a label: what it is worth is what the hold of that sum in a sandbox is worth. -/
noncomputable def Try.pinned : Pinned := { name := "ytfdlafjifjndeaa", sum := "2467c0e19b3bdeb16eedc2daa2c1ae72e259b72bb1140f7a6c0371e2ed69462a", checked := Try.checked }
namespace Rows
def none {H : Type} : Left H := { results := [], args := [] }

/-- 'almonerlaw19.OncesFrom': WHATEVER THE INPUT: true; the input reads as it did. -/
def oncesFromSpec : ChangeSpec := { name := "oncesFrom", fn := fun _ => fun
  | [d1, d2] => { results := [.lit (.bool true)], args := [d1, d2] }
  | _ => none }
def oncesFromRow : OpenClaim := { program := "ytfdlafjifjndeaa", sum := "2467c0e19b3bdeb16eedc2daa2c1ae72e259b72bb1140f7a6c0371e2ed69462a", func := "almoner/almonerlaw19.OncesFrom", spec := "oncesFrom", unfollowed := true, recurses := true, apart := false }
def OncesFromSaid : Prop := oncesFromRow.holds Try.pinned (OpenSpec.ofChange oncesFromSpec)

/-- ITS FALSE NEIGHBOUR: 'it returns false'. Refute it at one input. -/
def oncesFromWrong : ChangeSpec := { name := "oncesFrom", fn := fun _ => fun
  | [d1, d2] => { results := [.lit (.bool false)], args := [d1, d2] }
  | _ => none }
def OncesFromWrongFalsely : Prop := oncesFromRow.holds Try.pinned (OpenSpec.ofChange oncesFromWrong)

/-- 'almonerlaw19.OncesBack': WHATEVER THE INPUT: true; the input reads as it did. -/
def oncesBackSpec : ChangeSpec := { name := "oncesBack", fn := fun _ => fun
  | [d] => { results := [.lit (.bool true)], args := [d] }
  | _ => none }
def oncesBackRow : OpenClaim := { program := "ytfdlafjifjndeaa", sum := "2467c0e19b3bdeb16eedc2daa2c1ae72e259b72bb1140f7a6c0371e2ed69462a", func := "almoner/almonerlaw19.OncesBack", spec := "oncesBack", unfollowed := true, recurses := true, apart := false }
def OncesBackSaid : Prop := oncesBackRow.holds Try.pinned (OpenSpec.ofChange oncesBackSpec)

/-- ITS FALSE NEIGHBOUR: 'it returns false'. Refute it at one input. -/
def oncesBackWrong : ChangeSpec := { name := "oncesBack", fn := fun _ => fun
  | [d] => { results := [.lit (.bool false)], args := [d] }
  | _ => none }
def OncesBackWrongFalsely : Prop := oncesBackRow.holds Try.pinned (OpenSpec.ofChange oncesBackWrong)

/-- 'almonerlaw19.OncesSides': WHATEVER THE INPUT: true; the input reads as it did. -/
def oncesSidesSpec : ChangeSpec := { name := "oncesSides", fn := fun _ => fun
  | [d1, d2, d3] => { results := [.lit (.bool true)], args := [d1, d2, d3] }
  | _ => none }
def oncesSidesRow : OpenClaim := { program := "ytfdlafjifjndeaa", sum := "2467c0e19b3bdeb16eedc2daa2c1ae72e259b72bb1140f7a6c0371e2ed69462a", func := "almoner/almonerlaw19.OncesSides", spec := "oncesSides", unfollowed := true, recurses := true, apart := false }
def OncesSidesSaid : Prop := oncesSidesRow.holds Try.pinned (OpenSpec.ofChange oncesSidesSpec)

/-- ITS FALSE NEIGHBOUR: 'it returns false'. Refute it at one input. -/
def oncesSidesWrong : ChangeSpec := { name := "oncesSides", fn := fun _ => fun
  | [d1, d2, d3] => { results := [.lit (.bool false)], args := [d1, d2, d3] }
  | _ => none }
def OncesSidesWrongFalsely : Prop := oncesSidesRow.holds Try.pinned (OpenSpec.ofChange oncesSidesWrong)

/-- 'almonerlaw19.OncesTurned': WHATEVER THE INPUT: true; the input reads as it did. -/
def oncesTurnedSpec : ChangeSpec := { name := "oncesTurned", fn := fun _ => fun
  | [d] => { results := [.lit (.bool true)], args := [d] }
  | _ => none }
def oncesTurnedRow : OpenClaim := { program := "ytfdlafjifjndeaa", sum := "2467c0e19b3bdeb16eedc2daa2c1ae72e259b72bb1140f7a6c0371e2ed69462a", func := "almoner/almonerlaw19.OncesTurned", spec := "oncesTurned", unfollowed := true, recurses := true, apart := false }
def OncesTurnedSaid : Prop := oncesTurnedRow.holds Try.pinned (OpenSpec.ofChange oncesTurnedSpec)

/-- ITS FALSE NEIGHBOUR: 'it returns false'. Refute it at one input. -/
def oncesTurnedWrong : ChangeSpec := { name := "oncesTurned", fn := fun _ => fun
  | [d] => { results := [.lit (.bool false)], args := [d] }
  | _ => none }
def OncesTurnedWrongFalsely : Prop := oncesTurnedRow.holds Try.pinned (OpenSpec.ofChange oncesTurnedWrong)

/-- 'almonerlaw22.CountsAll': WHATEVER THE INPUT: true; the input reads as it did. -/
def countsAllSpec : ChangeSpec := { name := "countsAll", fn := fun _ => fun
  | [d1, d2] => { results := [.lit (.bool true)], args := [d1, d2] }
  | _ => none }
def countsAllRow : OpenClaim := { program := "ytfdlafjifjndeaa", sum := "2467c0e19b3bdeb16eedc2daa2c1ae72e259b72bb1140f7a6c0371e2ed69462a", func := "almoner/almonerlaw22.CountsAll", spec := "countsAll", unfollowed := true, recurses := true, apart := false }
def CountsAllSaid : Prop := countsAllRow.holds Try.pinned (OpenSpec.ofChange countsAllSpec)

/-- ITS FALSE NEIGHBOUR: 'it returns false'. Refute it at one input. -/
def countsAllWrong : ChangeSpec := { name := "countsAll", fn := fun _ => fun
  | [d1, d2] => { results := [.lit (.bool false)], args := [d1, d2] }
  | _ => none }
def CountsAllWrongFalsely : Prop := countsAllRow.holds Try.pinned (OpenSpec.ofChange countsAllWrong)

/-- 'almonerlaw22.CountsForm': WHATEVER THE INPUT: true; the input reads as it did. -/
def countsFormSpec : ChangeSpec := { name := "countsForm", fn := fun _ => fun
  | [d1, d2, d3] => { results := [.lit (.bool true)], args := [d1, d2, d3] }
  | _ => none }
def countsFormRow : OpenClaim := { program := "ytfdlafjifjndeaa", sum := "2467c0e19b3bdeb16eedc2daa2c1ae72e259b72bb1140f7a6c0371e2ed69462a", func := "almoner/almonerlaw22.CountsForm", spec := "countsForm", unfollowed := true, recurses := true, apart := false }
def CountsFormSaid : Prop := countsFormRow.holds Try.pinned (OpenSpec.ofChange countsFormSpec)

/-- ITS FALSE NEIGHBOUR: 'it returns false'. Refute it at one input. -/
def countsFormWrong : ChangeSpec := { name := "countsForm", fn := fun _ => fun
  | [d1, d2, d3] => { results := [.lit (.bool false)], args := [d1, d2, d3] }
  | _ => none }
def CountsFormWrongFalsely : Prop := countsFormRow.holds Try.pinned (OpenSpec.ofChange countsFormWrong)

/-- 'almonerlaw22.CountsOnce': WHATEVER THE INPUT: true; the input reads as it did. -/
def countsOnceSpec : ChangeSpec := { name := "countsOnce", fn := fun _ => fun
  | [d] => { results := [.lit (.bool true)], args := [d] }
  | _ => none }
def countsOnceRow : OpenClaim := { program := "ytfdlafjifjndeaa", sum := "2467c0e19b3bdeb16eedc2daa2c1ae72e259b72bb1140f7a6c0371e2ed69462a", func := "almoner/almonerlaw22.CountsOnce", spec := "countsOnce", unfollowed := true, recurses := true, apart := false }
def CountsOnceSaid : Prop := countsOnceRow.holds Try.pinned (OpenSpec.ofChange countsOnceSpec)

/-- ITS FALSE NEIGHBOUR: 'it returns false'. Refute it at one input. -/
def countsOnceWrong : ChangeSpec := { name := "countsOnce", fn := fun _ => fun
  | [d] => { results := [.lit (.bool false)], args := [d] }
  | _ => none }
def CountsOnceWrongFalsely : Prop := countsOnceRow.holds Try.pinned (OpenSpec.ofChange countsOnceWrong)

/-- 'almonerlaw22.CountsApart': WHATEVER THE INPUT: true; the input reads as it did. -/
def countsApartSpec : ChangeSpec := { name := "countsApart", fn := fun _ => fun
  | [d1, d2, d3] => { results := [.lit (.bool true)], args := [d1, d2, d3] }
  | _ => none }
def countsApartRow : OpenClaim := { program := "ytfdlafjifjndeaa", sum := "2467c0e19b3bdeb16eedc2daa2c1ae72e259b72bb1140f7a6c0371e2ed69462a", func := "almoner/almonerlaw22.CountsApart", spec := "countsApart", unfollowed := true, recurses := true, apart := false }
def CountsApartSaid : Prop := countsApartRow.holds Try.pinned (OpenSpec.ofChange countsApartSpec)

/-- ITS FALSE NEIGHBOUR: 'it returns false'. Refute it at one input. -/
def countsApartWrong : ChangeSpec := { name := "countsApart", fn := fun _ => fun
  | [d1, d2, d3] => { results := [.lit (.bool false)], args := [d1, d2, d3] }
  | _ => none }
def CountsApartWrongFalsely : Prop := countsApartRow.holds Try.pinned (OpenSpec.ofChange countsApartWrong)

/-- 'almonerlaw22.CountsPlay': WHATEVER THE INPUT: true; the input reads as it did. -/
def countsPlaySpec : ChangeSpec := { name := "countsPlay", fn := fun _ => fun
  | [d1, d2] => { results := [.lit (.bool true)], args := [d1, d2] }
  | _ => none }
def countsPlayRow : OpenClaim := { program := "ytfdlafjifjndeaa", sum := "2467c0e19b3bdeb16eedc2daa2c1ae72e259b72bb1140f7a6c0371e2ed69462a", func := "almoner/almonerlaw22.CountsPlay", spec := "countsPlay", unfollowed := true, recurses := true, apart := false }
def CountsPlaySaid : Prop := countsPlayRow.holds Try.pinned (OpenSpec.ofChange countsPlaySpec)

/-- ITS FALSE NEIGHBOUR: 'it returns false'. Refute it at one input. -/
def countsPlayWrong : ChangeSpec := { name := "countsPlay", fn := fun _ => fun
  | [d1, d2] => { results := [.lit (.bool false)], args := [d1, d2] }
  | _ => none }
def CountsPlayWrongFalsely : Prop := countsPlayRow.holds Try.pinned (OpenSpec.ofChange countsPlayWrong)

/- THE SECOND FORM. 'bulk': how many values and letters a reading holds, each counted each time it is reached (what is shared counts as often as it is met; a slice's spare places count too). A statement '..UptoSaid' is the law's where the arguments, and the package variables that the reading takes, are together of bulk at most 1048576: NARROWER than '..Said'. Prove '..Said' where nothing that the law and all that it calls make is longer than what came in: it says more and counts as full. Else prove '..UptoSaid'. A law counts once. -/
mutual
def uptoBulk {H : Type} : DataW H → Nat
  | .lit (.string bytes) => bytes.length + 1
  | .lit _ => 1
  | .nil => 1
  | .ptr d => uptoBulk d + 1
  | .slice elems spare => uptoBulkAll elems + uptoBulkAll spare + 1
  | .agg parts => uptoBulkAll parts + 1
  | .iface _ d => uptoBulk d + 1
  | .map entries => uptoBulkEntries entries + 1
  | .held _ => 1
def uptoBulkAll {H : Type} : List (DataW H) → Nat
  | [] => 0
  | d :: r => uptoBulk d + uptoBulkAll r
def uptoBulkEntries {H : Type} : List (Lit × DataW H) → Nat
  | [] => 0
  | x :: r => uptoBulkEntry x + uptoBulkEntries r
def uptoBulkEntry {H : Type} : Lit × DataW H → Nat
  | (.string bytes, d) => bytes.length + uptoBulk d + 1
  | (_, d) => uptoBulk d + 1
 end
def uptoSmall : (H : Type) → List (DataW H) → Bool := fun _ ds => decide (uptoBulkAll ds ≤ 1048576)
def OpenSpec.upto (s : _root_.Go.ChangeSpec) : _root_.Go.OpenSpec := { _root_.Go.OpenSpec.ofChange s with cond := some uptoSmall }

/-- 'almonerlaw19.OncesFrom', WHERE WHAT IT READS IS OF BULK AT MOST 1048576: true; the input reads as it did. -/
def oncesFromUptoRow : OpenClaim := { program := "ytfdlafjifjndeaa", sum := "2467c0e19b3bdeb16eedc2daa2c1ae72e259b72bb1140f7a6c0371e2ed69462a", func := "almoner/almonerlaw19.OncesFrom", spec := "oncesFrom", unfollowed := true, recurses := true, apart := false, narrowed := true }
def OncesFromUptoSaid : Prop := oncesFromUptoRow.holds Try.pinned (OpenSpec.upto oncesFromSpec)

/-- 'almonerlaw19.OncesBack', WHERE WHAT IT READS IS OF BULK AT MOST 1048576: true; the input reads as it did. -/
def oncesBackUptoRow : OpenClaim := { program := "ytfdlafjifjndeaa", sum := "2467c0e19b3bdeb16eedc2daa2c1ae72e259b72bb1140f7a6c0371e2ed69462a", func := "almoner/almonerlaw19.OncesBack", spec := "oncesBack", unfollowed := true, recurses := true, apart := false, narrowed := true }
def OncesBackUptoSaid : Prop := oncesBackUptoRow.holds Try.pinned (OpenSpec.upto oncesBackSpec)

/-- 'almonerlaw19.OncesSides', WHERE WHAT IT READS IS OF BULK AT MOST 1048576: true; the input reads as it did. -/
def oncesSidesUptoRow : OpenClaim := { program := "ytfdlafjifjndeaa", sum := "2467c0e19b3bdeb16eedc2daa2c1ae72e259b72bb1140f7a6c0371e2ed69462a", func := "almoner/almonerlaw19.OncesSides", spec := "oncesSides", unfollowed := true, recurses := true, apart := false, narrowed := true }
def OncesSidesUptoSaid : Prop := oncesSidesUptoRow.holds Try.pinned (OpenSpec.upto oncesSidesSpec)

/-- 'almonerlaw19.OncesTurned', WHERE WHAT IT READS IS OF BULK AT MOST 1048576: true; the input reads as it did. -/
def oncesTurnedUptoRow : OpenClaim := { program := "ytfdlafjifjndeaa", sum := "2467c0e19b3bdeb16eedc2daa2c1ae72e259b72bb1140f7a6c0371e2ed69462a", func := "almoner/almonerlaw19.OncesTurned", spec := "oncesTurned", unfollowed := true, recurses := true, apart := false, narrowed := true }
def OncesTurnedUptoSaid : Prop := oncesTurnedUptoRow.holds Try.pinned (OpenSpec.upto oncesTurnedSpec)

/-- 'almonerlaw22.CountsAll', WHERE WHAT IT READS IS OF BULK AT MOST 1048576: true; the input reads as it did. -/
def countsAllUptoRow : OpenClaim := { program := "ytfdlafjifjndeaa", sum := "2467c0e19b3bdeb16eedc2daa2c1ae72e259b72bb1140f7a6c0371e2ed69462a", func := "almoner/almonerlaw22.CountsAll", spec := "countsAll", unfollowed := true, recurses := true, apart := false, narrowed := true }
def CountsAllUptoSaid : Prop := countsAllUptoRow.holds Try.pinned (OpenSpec.upto countsAllSpec)

/-- 'almonerlaw22.CountsForm', WHERE WHAT IT READS IS OF BULK AT MOST 1048576: true; the input reads as it did. -/
def countsFormUptoRow : OpenClaim := { program := "ytfdlafjifjndeaa", sum := "2467c0e19b3bdeb16eedc2daa2c1ae72e259b72bb1140f7a6c0371e2ed69462a", func := "almoner/almonerlaw22.CountsForm", spec := "countsForm", unfollowed := true, recurses := true, apart := false, narrowed := true }
def CountsFormUptoSaid : Prop := countsFormUptoRow.holds Try.pinned (OpenSpec.upto countsFormSpec)

/-- 'almonerlaw22.CountsOnce', WHERE WHAT IT READS IS OF BULK AT MOST 1048576: true; the input reads as it did. -/
def countsOnceUptoRow : OpenClaim := { program := "ytfdlafjifjndeaa", sum := "2467c0e19b3bdeb16eedc2daa2c1ae72e259b72bb1140f7a6c0371e2ed69462a", func := "almoner/almonerlaw22.CountsOnce", spec := "countsOnce", unfollowed := true, recurses := true, apart := false, narrowed := true }
def CountsOnceUptoSaid : Prop := countsOnceUptoRow.holds Try.pinned (OpenSpec.upto countsOnceSpec)

/-- 'almonerlaw22.CountsApart', WHERE WHAT IT READS IS OF BULK AT MOST 1048576: true; the input reads as it did. -/
def countsApartUptoRow : OpenClaim := { program := "ytfdlafjifjndeaa", sum := "2467c0e19b3bdeb16eedc2daa2c1ae72e259b72bb1140f7a6c0371e2ed69462a", func := "almoner/almonerlaw22.CountsApart", spec := "countsApart", unfollowed := true, recurses := true, apart := false, narrowed := true }
def CountsApartUptoSaid : Prop := countsApartUptoRow.holds Try.pinned (OpenSpec.upto countsApartSpec)

/-- 'almonerlaw22.CountsPlay', WHERE WHAT IT READS IS OF BULK AT MOST 1048576: true; the input reads as it did. -/
def countsPlayUptoRow : OpenClaim := { program := "ytfdlafjifjndeaa", sum := "2467c0e19b3bdeb16eedc2daa2c1ae72e259b72bb1140f7a6c0371e2ed69462a", func := "almoner/almonerlaw22.CountsPlay", spec := "countsPlay", unfollowed := true, recurses := true, apart := false, narrowed := true }
def CountsPlayUptoSaid : Prop := countsPlayUptoRow.holds Try.pinned (OpenSpec.upto countsPlaySpec)

end Rows
end Go.Proofs.Ytfdlafjifjndeaa
