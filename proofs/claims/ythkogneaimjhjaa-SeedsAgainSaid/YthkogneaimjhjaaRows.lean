/-
  No cell of these rows narrows 'for every input' (looked for: loops, veiled, ifaces, maps, wideKeys, modest, calm, conditions, laid).
  DERIVED. THE GIVEN ROWS OF THIS SEAT. 12 by the template 'for every input the law returns true; each argument reads behind the call as it read before'; 0 by the template 'total and deterministic' (their statements: YthkogneaimjhjaaTotals.lean).
  GIVEN WITH THE SEED: the statements are not yours to turn. If you find one false, say at which input.
  Laid BY PROGRAM, IN A SANDBOX (cutbox-rows.mjs): the forced cells as the released guide's own fill.sh prints them over the translation 11b788f8815fa968… (all of the seat's roots in one cut). By AI agents, Wed Nov 11 2026. No macro, syntax, notation, axiom, sorry.
-/
import Derived.Test.YthkogneaimjhjaaChecked
import GoSem.Claim
import GoSem.ClaimJoined
import GoSem.ClaimMapViews
import Derived.JoinedTies
import Derived.KernelRfl
namespace Go.Proofs.Ythkogneaimjhjaa
/- THE CELL 'sum', in the pinned program and in every row, IS THE sha256 OF THE DUMP (.gsa) THAT YthkogneaimjhjaaProg.lean LOADS. Nothing in Lean hashes anything: it is a label: what it is worth is what the hold of that sum in a sandbox is worth. -/
noncomputable def Try.pinned : Pinned := { name := "ythkogneaimjhjaa", sum := "11b788f8815fa9685b3302a87706b53c68369db8b266cdfc27d9c4e1bc853e62", checked := Try.checked }
namespace Rows
def none {H : Type} : Left H := { results := [], args := [] }

/-- 'almonerlaw14.KeysBits': WHATEVER THE INPUT: true; the input reads as it did. -/
def keysBitsSpec : ChangeSpec := { name := "keysBits", fn := fun _ => fun
  | [d1, d2] => { results := [.lit (.bool true)], args := [d1, d2] }
  | _ => none }
def keysBitsRow : OpenClaim := { program := "ythkogneaimjhjaa", sum := "11b788f8815fa9685b3302a87706b53c68369db8b266cdfc27d9c4e1bc853e62", func := "almoner/almonerlaw14.KeysBits", spec := "keysBits", apart := false }
def KeysBitsSaid : Prop := keysBitsRow.holds Try.pinned (OpenSpec.ofChange keysBitsSpec)

/-- ITS FALSE NEIGHBOUR: 'it returns false'. Refute it at one input. -/
def keysBitsWrong : ChangeSpec := { name := "keysBits", fn := fun _ => fun
  | [d1, d2] => { results := [.lit (.bool false)], args := [d1, d2] }
  | _ => none }
def KeysBitsWrongFalsely : Prop := keysBitsRow.holds Try.pinned (OpenSpec.ofChange keysBitsWrong)

/-- 'almonerlaw14.KeysEmpty': WHATEVER THE INPUT: true; the input reads as it did. -/
def keysEmptySpec : ChangeSpec := { name := "keysEmpty", fn := fun _ => fun
  | [d] => { results := [.lit (.bool true)], args := [d] }
  | _ => none }
def keysEmptyRow : OpenClaim := { program := "ythkogneaimjhjaa", sum := "11b788f8815fa9685b3302a87706b53c68369db8b266cdfc27d9c4e1bc853e62", func := "almoner/almonerlaw14.KeysEmpty", spec := "keysEmpty", apart := false }
def KeysEmptySaid : Prop := keysEmptyRow.holds Try.pinned (OpenSpec.ofChange keysEmptySpec)

/-- ITS FALSE NEIGHBOUR: 'it returns false'. Refute it at one input. -/
def keysEmptyWrong : ChangeSpec := { name := "keysEmpty", fn := fun _ => fun
  | [d] => { results := [.lit (.bool false)], args := [d] }
  | _ => none }
def KeysEmptyWrongFalsely : Prop := keysEmptyRow.holds Try.pinned (OpenSpec.ofChange keysEmptyWrong)

/-- 'almonerlaw14.KeysOf': WHATEVER THE INPUT: true; the input reads as it did. -/
def keysOfSpec : ChangeSpec := { name := "keysOf", fn := fun _ => fun
  | [d] => { results := [.lit (.bool true)], args := [d] }
  | _ => none }
def keysOfRow : OpenClaim := { program := "ythkogneaimjhjaa", sum := "11b788f8815fa9685b3302a87706b53c68369db8b266cdfc27d9c4e1bc853e62", func := "almoner/almonerlaw14.KeysOf", spec := "keysOf", unfollowed := true, recurses := true, apart := false }
def KeysOfSaid : Prop := keysOfRow.holds Try.pinned (OpenSpec.ofChange keysOfSpec)

/-- ITS FALSE NEIGHBOUR: 'it returns false'. Refute it at one input. -/
def keysOfWrong : ChangeSpec := { name := "keysOf", fn := fun _ => fun
  | [d] => { results := [.lit (.bool false)], args := [d] }
  | _ => none }
def KeysOfWrongFalsely : Prop := keysOfRow.holds Try.pinned (OpenSpec.ofChange keysOfWrong)

/-- 'almonerlaw14.KeysSums': WHATEVER THE INPUT: true; the input reads as it did. -/
def keysSumsSpec : ChangeSpec := { name := "keysSums", fn := fun _ => fun
  | [d] => { results := [.lit (.bool true)], args := [d] }
  | _ => none }
def keysSumsRow : OpenClaim := { program := "ythkogneaimjhjaa", sum := "11b788f8815fa9685b3302a87706b53c68369db8b266cdfc27d9c4e1bc853e62", func := "almoner/almonerlaw14.KeysSums", spec := "keysSums", unfollowed := true, recurses := true, apart := false }
def KeysSumsSaid : Prop := keysSumsRow.holds Try.pinned (OpenSpec.ofChange keysSumsSpec)

/-- ITS FALSE NEIGHBOUR: 'it returns false'. Refute it at one input. -/
def keysSumsWrong : ChangeSpec := { name := "keysSums", fn := fun _ => fun
  | [d] => { results := [.lit (.bool false)], args := [d] }
  | _ => none }
def KeysSumsWrongFalsely : Prop := keysSumsRow.holds Try.pinned (OpenSpec.ofChange keysSumsWrong)

/-- 'almonerlaw18.SeedsOf': WHATEVER THE INPUT: true; the input reads as it did. -/
def seedsOfSpec : ChangeSpec := { name := "seedsOf", fn := fun _ => fun
  | [d1, d2, d3] => { results := [.lit (.bool true)], args := [d1, d2, d3] }
  | _ => none }
def seedsOfRow : OpenClaim := { program := "ythkogneaimjhjaa", sum := "11b788f8815fa9685b3302a87706b53c68369db8b266cdfc27d9c4e1bc853e62", func := "almoner/almonerlaw18.SeedsOf", spec := "seedsOf", unfollowed := true, recurses := true, apart := false }
def SeedsOfSaid : Prop := seedsOfRow.holds Try.pinned (OpenSpec.ofChange seedsOfSpec)

/-- ITS FALSE NEIGHBOUR: 'it returns false'. Refute it at one input. -/
def seedsOfWrong : ChangeSpec := { name := "seedsOf", fn := fun _ => fun
  | [d1, d2, d3] => { results := [.lit (.bool false)], args := [d1, d2, d3] }
  | _ => none }
def SeedsOfWrongFalsely : Prop := seedsOfRow.holds Try.pinned (OpenSpec.ofChange seedsOfWrong)

/-- 'almonerlaw18.SeedsParts': WHATEVER THE INPUT: true; the input reads as it did. -/
def seedsPartsSpec : ChangeSpec := { name := "seedsParts", fn := fun _ => fun
  | [d1, d2, d3] => { results := [.lit (.bool true)], args := [d1, d2, d3] }
  | _ => none }
def seedsPartsRow : OpenClaim := { program := "ythkogneaimjhjaa", sum := "11b788f8815fa9685b3302a87706b53c68369db8b266cdfc27d9c4e1bc853e62", func := "almoner/almonerlaw18.SeedsParts", spec := "seedsParts", unfollowed := true, recurses := true, apart := false }
def SeedsPartsSaid : Prop := seedsPartsRow.holds Try.pinned (OpenSpec.ofChange seedsPartsSpec)

/-- ITS FALSE NEIGHBOUR: 'it returns false'. Refute it at one input. -/
def seedsPartsWrong : ChangeSpec := { name := "seedsParts", fn := fun _ => fun
  | [d1, d2, d3] => { results := [.lit (.bool false)], args := [d1, d2, d3] }
  | _ => none }
def SeedsPartsWrongFalsely : Prop := seedsPartsRow.holds Try.pinned (OpenSpec.ofChange seedsPartsWrong)

/-- 'almonerlaw18.SeedsAgain': WHATEVER THE INPUT: true; the input reads as it did. -/
def seedsAgainSpec : ChangeSpec := { name := "seedsAgain", fn := fun _ => fun
  | [d1, d2, d3] => { results := [.lit (.bool true)], args := [d1, d2, d3] }
  | _ => none }
def seedsAgainRow : OpenClaim := { program := "ythkogneaimjhjaa", sum := "11b788f8815fa9685b3302a87706b53c68369db8b266cdfc27d9c4e1bc853e62", func := "almoner/almonerlaw18.SeedsAgain", spec := "seedsAgain", unfollowed := true, recurses := true, apart := false }
def SeedsAgainSaid : Prop := seedsAgainRow.holds Try.pinned (OpenSpec.ofChange seedsAgainSpec)

/-- ITS FALSE NEIGHBOUR: 'it returns false'. Refute it at one input. -/
def seedsAgainWrong : ChangeSpec := { name := "seedsAgain", fn := fun _ => fun
  | [d1, d2, d3] => { results := [.lit (.bool false)], args := [d1, d2, d3] }
  | _ => none }
def SeedsAgainWrongFalsely : Prop := seedsAgainRow.holds Try.pinned (OpenSpec.ofChange seedsAgainWrong)

/-- 'almonerlaw08.LeavesOf': WHATEVER THE INPUT: true; the input reads as it did. -/
def leavesOfSpec : ChangeSpec := { name := "leavesOf", fn := fun _ => fun
  | [d1, d2, d3] => { results := [.lit (.bool true)], args := [d1, d2, d3] }
  | _ => none }
def leavesOfRow : OpenClaim := { program := "ythkogneaimjhjaa", sum := "11b788f8815fa9685b3302a87706b53c68369db8b266cdfc27d9c4e1bc853e62", func := "almoner/almonerlaw08.LeavesOf", spec := "leavesOf", unfollowed := true, recurses := true, apart := false }
def LeavesOfSaid : Prop := leavesOfRow.holds Try.pinned (OpenSpec.ofChange leavesOfSpec)

/-- ITS FALSE NEIGHBOUR: 'it returns false'. Refute it at one input. -/
def leavesOfWrong : ChangeSpec := { name := "leavesOf", fn := fun _ => fun
  | [d1, d2, d3] => { results := [.lit (.bool false)], args := [d1, d2, d3] }
  | _ => none }
def LeavesOfWrongFalsely : Prop := leavesOfRow.holds Try.pinned (OpenSpec.ofChange leavesOfWrong)

/-- 'almonerlaw08.LeavesSums': WHATEVER THE INPUT: true; the input reads as it did. -/
def leavesSumsSpec : ChangeSpec := { name := "leavesSums", fn := fun _ => fun
  | [d1, d2, d3] => { results := [.lit (.bool true)], args := [d1, d2, d3] }
  | _ => none }
def leavesSumsRow : OpenClaim := { program := "ythkogneaimjhjaa", sum := "11b788f8815fa9685b3302a87706b53c68369db8b266cdfc27d9c4e1bc853e62", func := "almoner/almonerlaw08.LeavesSums", spec := "leavesSums", unfollowed := true, recurses := true, apart := false }
def LeavesSumsSaid : Prop := leavesSumsRow.holds Try.pinned (OpenSpec.ofChange leavesSumsSpec)

/-- ITS FALSE NEIGHBOUR: 'it returns false'. Refute it at one input. -/
def leavesSumsWrong : ChangeSpec := { name := "leavesSums", fn := fun _ => fun
  | [d1, d2, d3] => { results := [.lit (.bool false)], args := [d1, d2, d3] }
  | _ => none }
def LeavesSumsWrongFalsely : Prop := leavesSumsRow.holds Try.pinned (OpenSpec.ofChange leavesSumsWrong)

/-- 'almonerlaw08.LeavesPairs': WHATEVER THE INPUT: true; the input reads as it did. -/
def leavesPairsSpec : ChangeSpec := { name := "leavesPairs", fn := fun _ => fun
  | [d] => { results := [.lit (.bool true)], args := [d] }
  | _ => none }
def leavesPairsRow : OpenClaim := { program := "ythkogneaimjhjaa", sum := "11b788f8815fa9685b3302a87706b53c68369db8b266cdfc27d9c4e1bc853e62", func := "almoner/almonerlaw08.LeavesPairs", spec := "leavesPairs", unfollowed := true, recurses := true, apart := false }
def LeavesPairsSaid : Prop := leavesPairsRow.holds Try.pinned (OpenSpec.ofChange leavesPairsSpec)

/-- ITS FALSE NEIGHBOUR: 'it returns false'. Refute it at one input. -/
def leavesPairsWrong : ChangeSpec := { name := "leavesPairs", fn := fun _ => fun
  | [d] => { results := [.lit (.bool false)], args := [d] }
  | _ => none }
def LeavesPairsWrongFalsely : Prop := leavesPairsRow.holds Try.pinned (OpenSpec.ofChange leavesPairsWrong)

/-- 'almonerlaw08.LeavesMore': WHATEVER THE INPUT: true; the input reads as it did. -/
def leavesMoreSpec : ChangeSpec := { name := "leavesMore", fn := fun _ => fun
  | [d1, d2] => { results := [.lit (.bool true)], args := [d1, d2] }
  | _ => none }
def leavesMoreRow : OpenClaim := { program := "ythkogneaimjhjaa", sum := "11b788f8815fa9685b3302a87706b53c68369db8b266cdfc27d9c4e1bc853e62", func := "almoner/almonerlaw08.LeavesMore", spec := "leavesMore", unfollowed := true, recurses := true, apart := false }
def LeavesMoreSaid : Prop := leavesMoreRow.holds Try.pinned (OpenSpec.ofChange leavesMoreSpec)

/-- ITS FALSE NEIGHBOUR: 'it returns false'. Refute it at one input. -/
def leavesMoreWrong : ChangeSpec := { name := "leavesMore", fn := fun _ => fun
  | [d1, d2] => { results := [.lit (.bool false)], args := [d1, d2] }
  | _ => none }
def LeavesMoreWrongFalsely : Prop := leavesMoreRow.holds Try.pinned (OpenSpec.ofChange leavesMoreWrong)

/-- 'almonerlaw08.LeavesCut': WHATEVER THE INPUT: true; the input reads as it did. -/
def leavesCutSpec : ChangeSpec := { name := "leavesCut", fn := fun _ => fun
  | [d] => { results := [.lit (.bool true)], args := [d] }
  | _ => none }
def leavesCutRow : OpenClaim := { program := "ythkogneaimjhjaa", sum := "11b788f8815fa9685b3302a87706b53c68369db8b266cdfc27d9c4e1bc853e62", func := "almoner/almonerlaw08.LeavesCut", spec := "leavesCut", unfollowed := true, recurses := true, apart := false }
def LeavesCutSaid : Prop := leavesCutRow.holds Try.pinned (OpenSpec.ofChange leavesCutSpec)

/-- ITS FALSE NEIGHBOUR: 'it returns false'. Refute it at one input. -/
def leavesCutWrong : ChangeSpec := { name := "leavesCut", fn := fun _ => fun
  | [d] => { results := [.lit (.bool false)], args := [d] }
  | _ => none }
def LeavesCutWrongFalsely : Prop := leavesCutRow.holds Try.pinned (OpenSpec.ofChange leavesCutWrong)

/- THE SECOND FORM. 'bulk': how many values and letters a reading holds, each counted each time it is reached (what is shared counts as often as it is met; a slice's spare places count too). A statement '..UptoSaid' is the law's where the arguments, and the package variables that the reading takes, are together of bulk at most 1048576: NARROWER than '..Said'. Prove '..Said' where nothing that the law and all that it calls make is longer than what came in: it says more and counts as full. Else prove '..UptoSaid'. A law counts once. -/
mutual
def uptoBulk {H : Type} : DataW H → Nat
  | .lit (.string bytes) => bytes.length + 1
  | .lit _ => 1
  | .nil => 1
  | .ptr d => uptoBulk d + 1
  | .slice elems spare => uptoBulkAll elems + uptoBulkAll spare + 1
  | .agg parts => uptoBulkAll parts + 1
  | .iface _ d => uptoBulk d + 1
  | .map entries => uptoBulkEntries entries + 1
  | .held _ => 1
def uptoBulkAll {H : Type} : List (DataW H) → Nat
  | [] => 0
  | d :: r => uptoBulk d + uptoBulkAll r
def uptoBulkEntries {H : Type} : List (Lit × DataW H) → Nat
  | [] => 0
  | x :: r => uptoBulkEntry x + uptoBulkEntries r
def uptoBulkEntry {H : Type} : Lit × DataW H → Nat
  | (.string bytes, d) => bytes.length + uptoBulk d + 1
  | (_, d) => uptoBulk d + 1
 end
def uptoSmall : (H : Type) → List (DataW H) → Bool := fun _ ds => decide (uptoBulkAll ds ≤ 1048576)
def OpenSpec.upto (s : _root_.Go.ChangeSpec) : _root_.Go.OpenSpec := { _root_.Go.OpenSpec.ofChange s with cond := some uptoSmall }

/-- 'almonerlaw14.KeysBits', WHERE WHAT IT READS IS OF BULK AT MOST 1048576: true; the input reads as it did. -/
def keysBitsUptoRow : OpenClaim := { program := "ythkogneaimjhjaa", sum := "11b788f8815fa9685b3302a87706b53c68369db8b266cdfc27d9c4e1bc853e62", func := "almoner/almonerlaw14.KeysBits", spec := "keysBits", apart := false, narrowed := true }
def KeysBitsUptoSaid : Prop := keysBitsUptoRow.holds Try.pinned (OpenSpec.upto keysBitsSpec)

/-- 'almonerlaw14.KeysEmpty', WHERE WHAT IT READS IS OF BULK AT MOST 1048576: true; the input reads as it did. -/
def keysEmptyUptoRow : OpenClaim := { program := "ythkogneaimjhjaa", sum := "11b788f8815fa9685b3302a87706b53c68369db8b266cdfc27d9c4e1bc853e62", func := "almoner/almonerlaw14.KeysEmpty", spec := "keysEmpty", apart := false, narrowed := true }
def KeysEmptyUptoSaid : Prop := keysEmptyUptoRow.holds Try.pinned (OpenSpec.upto keysEmptySpec)

/-- 'almonerlaw14.KeysOf', WHERE WHAT IT READS IS OF BULK AT MOST 1048576: true; the input reads as it did. -/
def keysOfUptoRow : OpenClaim := { program := "ythkogneaimjhjaa", sum := "11b788f8815fa9685b3302a87706b53c68369db8b266cdfc27d9c4e1bc853e62", func := "almoner/almonerlaw14.KeysOf", spec := "keysOf", unfollowed := true, recurses := true, apart := false, narrowed := true }
def KeysOfUptoSaid : Prop := keysOfUptoRow.holds Try.pinned (OpenSpec.upto keysOfSpec)

/-- 'almonerlaw14.KeysSums', WHERE WHAT IT READS IS OF BULK AT MOST 1048576: true; the input reads as it did. -/
def keysSumsUptoRow : OpenClaim := { program := "ythkogneaimjhjaa", sum := "11b788f8815fa9685b3302a87706b53c68369db8b266cdfc27d9c4e1bc853e62", func := "almoner/almonerlaw14.KeysSums", spec := "keysSums", unfollowed := true, recurses := true, apart := false, narrowed := true }
def KeysSumsUptoSaid : Prop := keysSumsUptoRow.holds Try.pinned (OpenSpec.upto keysSumsSpec)

/-- 'almonerlaw18.SeedsOf', WHERE WHAT IT READS IS OF BULK AT MOST 1048576: true; the input reads as it did. -/
def seedsOfUptoRow : OpenClaim := { program := "ythkogneaimjhjaa", sum := "11b788f8815fa9685b3302a87706b53c68369db8b266cdfc27d9c4e1bc853e62", func := "almoner/almonerlaw18.SeedsOf", spec := "seedsOf", unfollowed := true, recurses := true, apart := false, narrowed := true }
def SeedsOfUptoSaid : Prop := seedsOfUptoRow.holds Try.pinned (OpenSpec.upto seedsOfSpec)

/-- 'almonerlaw18.SeedsParts', WHERE WHAT IT READS IS OF BULK AT MOST 1048576: true; the input reads as it did. -/
def seedsPartsUptoRow : OpenClaim := { program := "ythkogneaimjhjaa", sum := "11b788f8815fa9685b3302a87706b53c68369db8b266cdfc27d9c4e1bc853e62", func := "almoner/almonerlaw18.SeedsParts", spec := "seedsParts", unfollowed := true, recurses := true, apart := false, narrowed := true }
def SeedsPartsUptoSaid : Prop := seedsPartsUptoRow.holds Try.pinned (OpenSpec.upto seedsPartsSpec)

/-- 'almonerlaw18.SeedsAgain', WHERE WHAT IT READS IS OF BULK AT MOST 1048576: true; the input reads as it did. -/
def seedsAgainUptoRow : OpenClaim := { program := "ythkogneaimjhjaa", sum := "11b788f8815fa9685b3302a87706b53c68369db8b266cdfc27d9c4e1bc853e62", func := "almoner/almonerlaw18.SeedsAgain", spec := "seedsAgain", unfollowed := true, recurses := true, apart := false, narrowed := true }
def SeedsAgainUptoSaid : Prop := seedsAgainUptoRow.holds Try.pinned (OpenSpec.upto seedsAgainSpec)

/-- 'almonerlaw08.LeavesOf', WHERE WHAT IT READS IS OF BULK AT MOST 1048576: true; the input reads as it did. -/
def leavesOfUptoRow : OpenClaim := { program := "ythkogneaimjhjaa", sum := "11b788f8815fa9685b3302a87706b53c68369db8b266cdfc27d9c4e1bc853e62", func := "almoner/almonerlaw08.LeavesOf", spec := "leavesOf", unfollowed := true, recurses := true, apart := false, narrowed := true }
def LeavesOfUptoSaid : Prop := leavesOfUptoRow.holds Try.pinned (OpenSpec.upto leavesOfSpec)

/-- 'almonerlaw08.LeavesSums', WHERE WHAT IT READS IS OF BULK AT MOST 1048576: true; the input reads as it did. -/
def leavesSumsUptoRow : OpenClaim := { program := "ythkogneaimjhjaa", sum := "11b788f8815fa9685b3302a87706b53c68369db8b266cdfc27d9c4e1bc853e62", func := "almoner/almonerlaw08.LeavesSums", spec := "leavesSums", unfollowed := true, recurses := true, apart := false, narrowed := true }
def LeavesSumsUptoSaid : Prop := leavesSumsUptoRow.holds Try.pinned (OpenSpec.upto leavesSumsSpec)

/-- 'almonerlaw08.LeavesPairs', WHERE WHAT IT READS IS OF BULK AT MOST 1048576: true; the input reads as it did. -/
def leavesPairsUptoRow : OpenClaim := { program := "ythkogneaimjhjaa", sum := "11b788f8815fa9685b3302a87706b53c68369db8b266cdfc27d9c4e1bc853e62", func := "almoner/almonerlaw08.LeavesPairs", spec := "leavesPairs", unfollowed := true, recurses := true, apart := false, narrowed := true }
def LeavesPairsUptoSaid : Prop := leavesPairsUptoRow.holds Try.pinned (OpenSpec.upto leavesPairsSpec)

/-- 'almonerlaw08.LeavesMore', WHERE WHAT IT READS IS OF BULK AT MOST 1048576: true; the input reads as it did. -/
def leavesMoreUptoRow : OpenClaim := { program := "ythkogneaimjhjaa", sum := "11b788f8815fa9685b3302a87706b53c68369db8b266cdfc27d9c4e1bc853e62", func := "almoner/almonerlaw08.LeavesMore", spec := "leavesMore", unfollowed := true, recurses := true, apart := false, narrowed := true }
def LeavesMoreUptoSaid : Prop := leavesMoreUptoRow.holds Try.pinned (OpenSpec.upto leavesMoreSpec)

/-- 'almonerlaw08.LeavesCut', WHERE WHAT IT READS IS OF BULK AT MOST 1048576: true; the input reads as it did. -/
def leavesCutUptoRow : OpenClaim := { program := "ythkogneaimjhjaa", sum := "11b788f8815fa9685b3302a87706b53c68369db8b266cdfc27d9c4e1bc853e62", func := "almoner/almonerlaw08.LeavesCut", spec := "leavesCut", unfollowed := true, recurses := true, apart := false, narrowed := true }
def LeavesCutUptoSaid : Prop := leavesCutUptoRow.holds Try.pinned (OpenSpec.upto leavesCutSpec)

end Rows
end Go.Proofs.Ythkogneaimjhjaa
