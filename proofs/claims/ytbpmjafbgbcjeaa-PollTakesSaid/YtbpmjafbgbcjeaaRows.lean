/-
  No cell of these rows narrows 'for every input' (looked for: loops, veiled, ifaces, maps, wideKeys, modest, calm, conditions, laid).
  DERIVED. THE GIVEN ROWS OF THIS SEAT. 4 by the template 'for every input the law returns true; each argument reads behind the call as it read before'; 0 by the template 'total and deterministic' (their statements: YtbpmjafbgbcjeaaTotals.lean).
  GIVEN WITH THE SEED: the statements are not yours to turn. If you find one false, say at which input.
  Laid BY PROGRAM, IN A SANDBOX (cutbox-rows.mjs): the forced cells as the released guide's own fill.sh prints them over the translation 29e36cc8a52ec499… (all of the seat's roots in one cut). By AI agents, Wed Nov 11 2026. No macro, syntax, notation, axiom, sorry.
-/
import Derived.Test.YtbpmjafbgbcjeaaChecked
import GoSem.Claim
import GoSem.ClaimJoined
import GoSem.ClaimMapViews
import Derived.JoinedTies
import Derived.KernelRfl
namespace Go.Proofs.Ytbpmjafbgbcjeaa
/- THE CELL 'sum', in the pinned program and in every row, IS THE sha256 OF THE DUMP (.gsa) THAT YtbpmjafbgbcjeaaProg.lean LOADS. Nothing in Lean hashes anything: it is a label: what it is worth is what the hold of that sum in a sandbox is worth. -/
noncomputable def Try.pinned : Pinned := { name := "ytbpmjafbgbcjeaa", sum := "29e36cc8a52ec499bab5960ebc22d1aafc47bb029580cc6ab21dc90129068258", checked := Try.checked }
namespace Rows
def none {H : Type} : Left H := { results := [], args := [] }

/-- 'saucierlaw22.PollNone': WHATEVER THE INPUT: true; the input reads as it did. -/
def pollNoneSpec : ChangeSpec := { name := "pollNone", fn := fun _ => fun
  | [d1, d2, d3, d4, d5, d6] => { results := [.lit (.bool true)], args := [d1, d2, d3, d4, d5, d6] }
  | _ => none }
def pollNoneRow : OpenClaim := { program := "ytbpmjafbgbcjeaa", sum := "29e36cc8a52ec499bab5960ebc22d1aafc47bb029580cc6ab21dc90129068258", func := "saucier/saucierlaw22.PollNone", spec := "pollNone", unfollowed := true, recurses := true, apart := false }
def PollNoneSaid : Prop := pollNoneRow.holds Try.pinned (OpenSpec.ofChange pollNoneSpec)

/-- ITS FALSE NEIGHBOUR: 'it returns false'. Refute it at one input. -/
def pollNoneWrong : ChangeSpec := { name := "pollNone", fn := fun _ => fun
  | [d1, d2, d3, d4, d5, d6] => { results := [.lit (.bool false)], args := [d1, d2, d3, d4, d5, d6] }
  | _ => none }
def PollNoneWrongFalsely : Prop := pollNoneRow.holds Try.pinned (OpenSpec.ofChange pollNoneWrong)

/-- 'saucierlaw22.PollTakes': WHATEVER THE INPUT: true; the input reads as it did. -/
def pollTakesSpec : ChangeSpec := { name := "pollTakes", fn := fun _ => fun
  | [d1, d2, d3, d4, d5, d6, d7, d8, d9] => { results := [.lit (.bool true)], args := [d1, d2, d3, d4, d5, d6, d7, d8, d9] }
  | _ => none }
def pollTakesRow : OpenClaim := { program := "ytbpmjafbgbcjeaa", sum := "29e36cc8a52ec499bab5960ebc22d1aafc47bb029580cc6ab21dc90129068258", func := "saucier/saucierlaw22.PollTakes", spec := "pollTakes", unfollowed := true, recurses := true, apart := false }
def PollTakesSaid : Prop := pollTakesRow.holds Try.pinned (OpenSpec.ofChange pollTakesSpec)

/-- ITS FALSE NEIGHBOUR: 'it returns false'. Refute it at one input. -/
def pollTakesWrong : ChangeSpec := { name := "pollTakes", fn := fun _ => fun
  | [d1, d2, d3, d4, d5, d6, d7, d8, d9] => { results := [.lit (.bool false)], args := [d1, d2, d3, d4, d5, d6, d7, d8, d9] }
  | _ => none }
def PollTakesWrongFalsely : Prop := pollTakesRow.holds Try.pinned (OpenSpec.ofChange pollTakesWrong)

/-- 'saucierlaw22.PollOnce': WHATEVER THE INPUT: true; the input reads as it did. -/
def pollOnceSpec : ChangeSpec := { name := "pollOnce", fn := fun _ => fun
  | [d1, d2, d3, d4] => { results := [.lit (.bool true)], args := [d1, d2, d3, d4] }
  | _ => none }
def pollOnceRow : OpenClaim := { program := "ytbpmjafbgbcjeaa", sum := "29e36cc8a52ec499bab5960ebc22d1aafc47bb029580cc6ab21dc90129068258", func := "saucier/saucierlaw22.PollOnce", spec := "pollOnce", unfollowed := true, recurses := true, apart := false }
def PollOnceSaid : Prop := pollOnceRow.holds Try.pinned (OpenSpec.ofChange pollOnceSpec)

/-- ITS FALSE NEIGHBOUR: 'it returns false'. Refute it at one input. -/
def pollOnceWrong : ChangeSpec := { name := "pollOnce", fn := fun _ => fun
  | [d1, d2, d3, d4] => { results := [.lit (.bool false)], args := [d1, d2, d3, d4] }
  | _ => none }
def PollOnceWrongFalsely : Prop := pollOnceRow.holds Try.pinned (OpenSpec.ofChange pollOnceWrong)

/-- 'saucierlaw22.PollTries': WHATEVER THE INPUT: true; the input reads as it did. -/
def pollTriesSpec : ChangeSpec := { name := "pollTries", fn := fun _ => fun
  | [d1, d2, d3, d4] => { results := [.lit (.bool true)], args := [d1, d2, d3, d4] }
  | _ => none }
def pollTriesRow : OpenClaim := { program := "ytbpmjafbgbcjeaa", sum := "29e36cc8a52ec499bab5960ebc22d1aafc47bb029580cc6ab21dc90129068258", func := "saucier/saucierlaw22.PollTries", spec := "pollTries", unfollowed := true, recurses := true, apart := false }
def PollTriesSaid : Prop := pollTriesRow.holds Try.pinned (OpenSpec.ofChange pollTriesSpec)

/-- ITS FALSE NEIGHBOUR: 'it returns false'. Refute it at one input. -/
def pollTriesWrong : ChangeSpec := { name := "pollTries", fn := fun _ => fun
  | [d1, d2, d3, d4] => { results := [.lit (.bool false)], args := [d1, d2, d3, d4] }
  | _ => none }
def PollTriesWrongFalsely : Prop := pollTriesRow.holds Try.pinned (OpenSpec.ofChange pollTriesWrong)

/- THE SECOND FORM. 'bulk': how many values and letters a reading holds, each counted each time it is reached (what is shared counts as often as it is met; a slice's spare places count too). A statement '..UptoSaid' is the law's where the arguments, and the package variables that the reading takes, are together of bulk at most 1048576: NARROWER than '..Said'. Prove '..Said' where nothing that the law and all that it calls make is longer than what came in: it says more and counts as full. Else prove '..UptoSaid'. A law counts once. -/
mutual
def uptoBulk {H : Type} : DataW H → Nat
  | .lit (.string bytes) => bytes.length + 1
  | .lit _ => 1
  | .nil => 1
  | .ptr d => uptoBulk d + 1
  | .slice elems spare => uptoBulkAll elems + uptoBulkAll spare + 1
  | .agg parts => uptoBulkAll parts + 1
  | .iface _ d => uptoBulk d + 1
  | .map entries => uptoBulkEntries entries + 1
  | .held _ => 1
def uptoBulkAll {H : Type} : List (DataW H) → Nat
  | [] => 0
  | d :: r => uptoBulk d + uptoBulkAll r
def uptoBulkEntries {H : Type} : List (Lit × DataW H) → Nat
  | [] => 0
  | x :: r => uptoBulkEntry x + uptoBulkEntries r
def uptoBulkEntry {H : Type} : Lit × DataW H → Nat
  | (.string bytes, d) => bytes.length + uptoBulk d + 1
  | (_, d) => uptoBulk d + 1
 end
def uptoSmall : (H : Type) → List (DataW H) → Bool := fun _ ds => decide (uptoBulkAll ds ≤ 1048576)
def OpenSpec.upto (s : _root_.Go.ChangeSpec) : _root_.Go.OpenSpec := { _root_.Go.OpenSpec.ofChange s with cond := some uptoSmall }

/-- 'saucierlaw22.PollNone', WHERE WHAT IT READS IS OF BULK AT MOST 1048576: true; the input reads as it did. -/
def pollNoneUptoRow : OpenClaim := { program := "ytbpmjafbgbcjeaa", sum := "29e36cc8a52ec499bab5960ebc22d1aafc47bb029580cc6ab21dc90129068258", func := "saucier/saucierlaw22.PollNone", spec := "pollNone", unfollowed := true, recurses := true, apart := false, narrowed := true }
def PollNoneUptoSaid : Prop := pollNoneUptoRow.holds Try.pinned (OpenSpec.upto pollNoneSpec)

/-- 'saucierlaw22.PollTakes', WHERE WHAT IT READS IS OF BULK AT MOST 1048576: true; the input reads as it did. -/
def pollTakesUptoRow : OpenClaim := { program := "ytbpmjafbgbcjeaa", sum := "29e36cc8a52ec499bab5960ebc22d1aafc47bb029580cc6ab21dc90129068258", func := "saucier/saucierlaw22.PollTakes", spec := "pollTakes", unfollowed := true, recurses := true, apart := false, narrowed := true }
def PollTakesUptoSaid : Prop := pollTakesUptoRow.holds Try.pinned (OpenSpec.upto pollTakesSpec)

/-- 'saucierlaw22.PollOnce', WHERE WHAT IT READS IS OF BULK AT MOST 1048576: true; the input reads as it did. -/
def pollOnceUptoRow : OpenClaim := { program := "ytbpmjafbgbcjeaa", sum := "29e36cc8a52ec499bab5960ebc22d1aafc47bb029580cc6ab21dc90129068258", func := "saucier/saucierlaw22.PollOnce", spec := "pollOnce", unfollowed := true, recurses := true, apart := false, narrowed := true }
def PollOnceUptoSaid : Prop := pollOnceUptoRow.holds Try.pinned (OpenSpec.upto pollOnceSpec)

/-- 'saucierlaw22.PollTries', WHERE WHAT IT READS IS OF BULK AT MOST 1048576: true; the input reads as it did. -/
def pollTriesUptoRow : OpenClaim := { program := "ytbpmjafbgbcjeaa", sum := "29e36cc8a52ec499bab5960ebc22d1aafc47bb029580cc6ab21dc90129068258", func := "saucier/saucierlaw22.PollTries", spec := "pollTries", unfollowed := true, recurses := true, apart := false, narrowed := true }
def PollTriesUptoSaid : Prop := pollTriesUptoRow.holds Try.pinned (OpenSpec.upto pollTriesSpec)

end Rows
end Go.Proofs.Ytbpmjafbgbcjeaa
