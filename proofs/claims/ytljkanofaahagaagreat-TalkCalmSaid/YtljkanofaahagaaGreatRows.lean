/-
  No cell of these rows narrows 'for every input' (looked for: loops, veiled, ifaces, maps, wideKeys, modest, calm, conditions, laid).
  DERIVED. THE GIVEN ROWS OF THIS SEAT. 6 by the template 'for every input the law returns true; each argument reads behind the call as it read before'; 0 by the template 'total and deterministic' (their statements: YtljkanofaahagaaGreatTotals.lean).
  GIVEN WITH THE SEED: the statements are not yours to turn. If you find one false, say at which input.
  Laid BY PROGRAM, IN A SANDBOX (cutbox-rows.mjs): the forced cells as the released guide's own fill.sh prints them over the translation ac57949771444557… (all of the seat's roots in one cut). By AI agents, Wed Nov 11 2026. No macro, syntax, notation, axiom, sorry.
-/
import Derived.Test.YtljkanofaahagaaGreatChecked
import GoSem.Claim
import GoSem.ClaimJoined
import GoSem.ClaimMapViews
import Derived.JoinedTies
import Derived.KernelRfl
namespace Go.Proofs.YtljkanofaahagaaGreat
/- THE CELL 'sum', in the pinned program and in every row, IS THE sha256 OF THE DUMP (.gsa) THAT YtljkanofaahagaaGreatProg.lean LOADS. Nothing in Lean hashes anything: it is a label: what it is worth is what the hold of that sum in a sandbox is worth. -/
noncomputable def Tryz.pinned : Pinned := { name := "ytljkanofaahagaagreat", sum := "ac57949771444557c0dafb363923ef0a5c7e33157277e224895850c6803fab91", checked := Tryz.checked }
namespace Rows
def none {H : Type} : Left H := { results := [], args := [] }

/-- 'saucierlaw25.TalkEnds': WHATEVER THE INPUT: true; the input reads as it did. -/
def talkEndsSpec : ChangeSpec := { name := "talkEnds", fn := fun _ => fun
  | [d1, d2, d3, d4] => { results := [.lit (.bool true)], args := [d1, d2, d3, d4] }
  | _ => none }
def talkEndsRow : OpenClaim := { program := "ytljkanofaahagaagreat", sum := "ac57949771444557c0dafb363923ef0a5c7e33157277e224895850c6803fab91", func := "saucier/saucierlaw25.TalkEnds", spec := "talkEnds", unfollowed := true, recurses := true, apart := false }
def TalkEndsSaid : Prop := talkEndsRow.holds Tryz.pinned (OpenSpec.ofChange talkEndsSpec)

/-- ITS FALSE NEIGHBOUR: 'it returns false'. Refute it at one input. -/
def talkEndsWrong : ChangeSpec := { name := "talkEnds", fn := fun _ => fun
  | [d1, d2, d3, d4] => { results := [.lit (.bool false)], args := [d1, d2, d3, d4] }
  | _ => none }
def TalkEndsWrongFalsely : Prop := talkEndsRow.holds Tryz.pinned (OpenSpec.ofChange talkEndsWrong)

/-- 'saucierlaw25.TalkLate': WHATEVER THE INPUT: true; the input reads as it did. -/
def talkLateSpec : ChangeSpec := { name := "talkLate", fn := fun _ => fun
  | [d1, d2, d3, d4, d5] => { results := [.lit (.bool true)], args := [d1, d2, d3, d4, d5] }
  | _ => none }
def talkLateRow : OpenClaim := { program := "ytljkanofaahagaagreat", sum := "ac57949771444557c0dafb363923ef0a5c7e33157277e224895850c6803fab91", func := "saucier/saucierlaw25.TalkLate", spec := "talkLate", unfollowed := true, recurses := true, apart := false }
def TalkLateSaid : Prop := talkLateRow.holds Tryz.pinned (OpenSpec.ofChange talkLateSpec)

/-- ITS FALSE NEIGHBOUR: 'it returns false'. Refute it at one input. -/
def talkLateWrong : ChangeSpec := { name := "talkLate", fn := fun _ => fun
  | [d1, d2, d3, d4, d5] => { results := [.lit (.bool false)], args := [d1, d2, d3, d4, d5] }
  | _ => none }
def TalkLateWrongFalsely : Prop := talkLateRow.holds Tryz.pinned (OpenSpec.ofChange talkLateWrong)

/-- 'saucierlaw25.TalkCalm': WHATEVER THE INPUT: true; the input reads as it did. -/
def talkCalmSpec : ChangeSpec := { name := "talkCalm", fn := fun _ => fun
  | [d1, d2, d3, d4, d5, d6] => { results := [.lit (.bool true)], args := [d1, d2, d3, d4, d5, d6] }
  | _ => none }
def talkCalmRow : OpenClaim := { program := "ytljkanofaahagaagreat", sum := "ac57949771444557c0dafb363923ef0a5c7e33157277e224895850c6803fab91", func := "saucier/saucierlaw25.TalkCalm", spec := "talkCalm", unfollowed := true, recurses := true, apart := false }
def TalkCalmSaid : Prop := talkCalmRow.holds Tryz.pinned (OpenSpec.ofChange talkCalmSpec)

/-- ITS FALSE NEIGHBOUR: 'it returns false'. Refute it at one input. -/
def talkCalmWrong : ChangeSpec := { name := "talkCalm", fn := fun _ => fun
  | [d1, d2, d3, d4, d5, d6] => { results := [.lit (.bool false)], args := [d1, d2, d3, d4, d5, d6] }
  | _ => none }
def TalkCalmWrongFalsely : Prop := talkCalmRow.holds Tryz.pinned (OpenSpec.ofChange talkCalmWrong)

/-- 'saucierlaw25.TalkOwned': WHATEVER THE INPUT: true; the input reads as it did. -/
def talkOwnedSpec : ChangeSpec := { name := "talkOwned", fn := fun _ => fun
  | [d1, d2, d3, d4, d5, d6, d7] => { results := [.lit (.bool true)], args := [d1, d2, d3, d4, d5, d6, d7] }
  | _ => none }
def talkOwnedRow : OpenClaim := { program := "ytljkanofaahagaagreat", sum := "ac57949771444557c0dafb363923ef0a5c7e33157277e224895850c6803fab91", func := "saucier/saucierlaw25.TalkOwned", spec := "talkOwned", unfollowed := true, recurses := true, apart := false }
def TalkOwnedSaid : Prop := talkOwnedRow.holds Tryz.pinned (OpenSpec.ofChange talkOwnedSpec)

/-- ITS FALSE NEIGHBOUR: 'it returns false'. Refute it at one input. -/
def talkOwnedWrong : ChangeSpec := { name := "talkOwned", fn := fun _ => fun
  | [d1, d2, d3, d4, d5, d6, d7] => { results := [.lit (.bool false)], args := [d1, d2, d3, d4, d5, d6, d7] }
  | _ => none }
def TalkOwnedWrongFalsely : Prop := talkOwnedRow.holds Tryz.pinned (OpenSpec.ofChange talkOwnedWrong)

/-- 'saucierlaw25.TalkTells': WHATEVER THE INPUT: true; the input reads as it did. -/
def talkTellsSpec : ChangeSpec := { name := "talkTells", fn := fun _ => fun
  | [d1, d2, d3, d4, d5, d6, d7, d8, d9, d10, d11] => { results := [.lit (.bool true)], args := [d1, d2, d3, d4, d5, d6, d7, d8, d9, d10, d11] }
  | _ => none }
def talkTellsRow : OpenClaim := { program := "ytljkanofaahagaagreat", sum := "ac57949771444557c0dafb363923ef0a5c7e33157277e224895850c6803fab91", func := "saucier/saucierlaw25.TalkTells", spec := "talkTells", unfollowed := true, recurses := true, apart := false }
def TalkTellsSaid : Prop := talkTellsRow.holds Tryz.pinned (OpenSpec.ofChange talkTellsSpec)

/-- ITS FALSE NEIGHBOUR: 'it returns false'. Refute it at one input. -/
def talkTellsWrong : ChangeSpec := { name := "talkTells", fn := fun _ => fun
  | [d1, d2, d3, d4, d5, d6, d7, d8, d9, d10, d11] => { results := [.lit (.bool false)], args := [d1, d2, d3, d4, d5, d6, d7, d8, d9, d10, d11] }
  | _ => none }
def TalkTellsWrongFalsely : Prop := talkTellsRow.holds Tryz.pinned (OpenSpec.ofChange talkTellsWrong)

/-- 'saucierlaw25.TalkTrue': WHATEVER THE INPUT: true; the input reads as it did. -/
def talkTrueSpec : ChangeSpec := { name := "talkTrue", fn := fun _ => fun
  | [d1, d2, d3, d4, d5, d6] => { results := [.lit (.bool true)], args := [d1, d2, d3, d4, d5, d6] }
  | _ => none }
def talkTrueRow : OpenClaim := { program := "ytljkanofaahagaagreat", sum := "ac57949771444557c0dafb363923ef0a5c7e33157277e224895850c6803fab91", func := "saucier/saucierlaw25.TalkTrue", spec := "talkTrue", unfollowed := true, recurses := true, apart := false }
def TalkTrueSaid : Prop := talkTrueRow.holds Tryz.pinned (OpenSpec.ofChange talkTrueSpec)

/-- ITS FALSE NEIGHBOUR: 'it returns false'. Refute it at one input. -/
def talkTrueWrong : ChangeSpec := { name := "talkTrue", fn := fun _ => fun
  | [d1, d2, d3, d4, d5, d6] => { results := [.lit (.bool false)], args := [d1, d2, d3, d4, d5, d6] }
  | _ => none }
def TalkTrueWrongFalsely : Prop := talkTrueRow.holds Tryz.pinned (OpenSpec.ofChange talkTrueWrong)

/- THE SECOND FORM. 'bulk': how many values and letters a reading holds, each counted each time it is reached (what is shared counts as often as it is met; a slice's spare places count too). A statement '..UptoSaid' is the law's where the arguments, and the package variables that the reading takes, are together of bulk at most 1048576: NARROWER than '..Said'. Prove '..Said' where nothing that the law and all that it calls make is longer than what came in: it says more and counts as full. Else prove '..UptoSaid'. A law counts once. -/
mutual
def uptoBulk {H : Type} : DataW H → Nat
  | .lit (.string bytes) => bytes.length + 1
  | .lit _ => 1
  | .nil => 1
  | .ptr d => uptoBulk d + 1
  | .slice elems spare => uptoBulkAll elems + uptoBulkAll spare + 1
  | .agg parts => uptoBulkAll parts + 1
  | .iface _ d => uptoBulk d + 1
  | .map entries => uptoBulkEntries entries + 1
  | .held _ => 1
def uptoBulkAll {H : Type} : List (DataW H) → Nat
  | [] => 0
  | d :: r => uptoBulk d + uptoBulkAll r
def uptoBulkEntries {H : Type} : List (Lit × DataW H) → Nat
  | [] => 0
  | x :: r => uptoBulkEntry x + uptoBulkEntries r
def uptoBulkEntry {H : Type} : Lit × DataW H → Nat
  | (.string bytes, d) => bytes.length + uptoBulk d + 1
  | (_, d) => uptoBulk d + 1
 end
def uptoSmall : (H : Type) → List (DataW H) → Bool := fun _ ds => decide (uptoBulkAll ds ≤ 1048576)
def OpenSpec.upto (s : _root_.Go.ChangeSpec) : _root_.Go.OpenSpec := { _root_.Go.OpenSpec.ofChange s with cond := some uptoSmall }

/-- 'saucierlaw25.TalkEnds', WHERE WHAT IT READS IS OF BULK AT MOST 1048576: true; the input reads as it did. -/
def talkEndsUptoRow : OpenClaim := { program := "ytljkanofaahagaagreat", sum := "ac57949771444557c0dafb363923ef0a5c7e33157277e224895850c6803fab91", func := "saucier/saucierlaw25.TalkEnds", spec := "talkEnds", unfollowed := true, recurses := true, apart := false, narrowed := true }
def TalkEndsUptoSaid : Prop := talkEndsUptoRow.holds Tryz.pinned (OpenSpec.upto talkEndsSpec)

/-- 'saucierlaw25.TalkLate', WHERE WHAT IT READS IS OF BULK AT MOST 1048576: true; the input reads as it did. -/
def talkLateUptoRow : OpenClaim := { program := "ytljkanofaahagaagreat", sum := "ac57949771444557c0dafb363923ef0a5c7e33157277e224895850c6803fab91", func := "saucier/saucierlaw25.TalkLate", spec := "talkLate", unfollowed := true, recurses := true, apart := false, narrowed := true }
def TalkLateUptoSaid : Prop := talkLateUptoRow.holds Tryz.pinned (OpenSpec.upto talkLateSpec)

/-- 'saucierlaw25.TalkCalm', WHERE WHAT IT READS IS OF BULK AT MOST 1048576: true; the input reads as it did. -/
def talkCalmUptoRow : OpenClaim := { program := "ytljkanofaahagaagreat", sum := "ac57949771444557c0dafb363923ef0a5c7e33157277e224895850c6803fab91", func := "saucier/saucierlaw25.TalkCalm", spec := "talkCalm", unfollowed := true, recurses := true, apart := false, narrowed := true }
def TalkCalmUptoSaid : Prop := talkCalmUptoRow.holds Tryz.pinned (OpenSpec.upto talkCalmSpec)

/-- 'saucierlaw25.TalkOwned', WHERE WHAT IT READS IS OF BULK AT MOST 1048576: true; the input reads as it did. -/
def talkOwnedUptoRow : OpenClaim := { program := "ytljkanofaahagaagreat", sum := "ac57949771444557c0dafb363923ef0a5c7e33157277e224895850c6803fab91", func := "saucier/saucierlaw25.TalkOwned", spec := "talkOwned", unfollowed := true, recurses := true, apart := false, narrowed := true }
def TalkOwnedUptoSaid : Prop := talkOwnedUptoRow.holds Tryz.pinned (OpenSpec.upto talkOwnedSpec)

/-- 'saucierlaw25.TalkTells', WHERE WHAT IT READS IS OF BULK AT MOST 1048576: true; the input reads as it did. -/
def talkTellsUptoRow : OpenClaim := { program := "ytljkanofaahagaagreat", sum := "ac57949771444557c0dafb363923ef0a5c7e33157277e224895850c6803fab91", func := "saucier/saucierlaw25.TalkTells", spec := "talkTells", unfollowed := true, recurses := true, apart := false, narrowed := true }
def TalkTellsUptoSaid : Prop := talkTellsUptoRow.holds Tryz.pinned (OpenSpec.upto talkTellsSpec)

/-- 'saucierlaw25.TalkTrue', WHERE WHAT IT READS IS OF BULK AT MOST 1048576: true; the input reads as it did. -/
def talkTrueUptoRow : OpenClaim := { program := "ytljkanofaahagaagreat", sum := "ac57949771444557c0dafb363923ef0a5c7e33157277e224895850c6803fab91", func := "saucier/saucierlaw25.TalkTrue", spec := "talkTrue", unfollowed := true, recurses := true, apart := false, narrowed := true }
def TalkTrueUptoSaid : Prop := talkTrueUptoRow.holds Tryz.pinned (OpenSpec.upto talkTrueSpec)

end Rows
end Go.Proofs.YtljkanofaahagaaGreat
