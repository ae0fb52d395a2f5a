/-
  No cell of these rows narrows 'for every input' (looked for: loops, veiled, ifaces, maps, wideKeys, modest, calm, conditions, laid).
  DERIVED. THE GIVEN ROWS OF THIS SEAT. 6 by the template 'for every input the law returns true; each argument reads behind the call as it read before'; 0 by the template 'total and deterministic' (their statements: YtkcmbampiiolbaaGreatTotals.lean).
  GIVEN WITH THE SEED: the statements are not yours to turn. If you find one false, say at which input.
  Laid BY PROGRAM, IN A SANDBOX (cutbox-rows.mjs): the forced cells as the released guide's own fill.sh prints them over the translation c871e10aefca2c94… (all of the seat's roots in one cut). By AI agents, Wed Nov 11 2026. No macro, syntax, notation, axiom, sorry.
-/
import Derived.Test.YtkcmbampiiolbaaGreatChecked
import GoSem.Claim
import GoSem.ClaimJoined
import GoSem.ClaimMapViews
import Derived.JoinedTies
import Derived.KernelRfl
namespace Go.Proofs.YtkcmbampiiolbaaGreat
/- THE CELL 'sum', in the pinned program and in every row, IS THE sha256 OF THE DUMP (.gsa) THAT YtkcmbampiiolbaaGreatProg.lean LOADS. Nothing in Lean hashes anything: it is a label: what it is worth is what the hold of that sum in a sandbox is worth. -/
noncomputable def Tryz.pinned : Pinned := { name := "ytkcmbampiiolbaagreat", sum := "c871e10aefca2c948ee89c6fe66d8502579a00f7a07aac212e9c28d08ac07dc7", checked := Tryz.checked }
namespace Rows
def none {H : Type} : Left H := { results := [], args := [] }

/-- 'saucierlaw21.SlaveStages': WHATEVER THE INPUT: true; the input reads as it did. -/
def slaveStagesSpec : ChangeSpec := { name := "slaveStages", fn := fun _ => fun
  | [d1, d2, d3, d4, d5] => { results := [.lit (.bool true)], args := [d1, d2, d3, d4, d5] }
  | _ => none }
def slaveStagesRow : OpenClaim := { program := "ytkcmbampiiolbaagreat", sum := "c871e10aefca2c948ee89c6fe66d8502579a00f7a07aac212e9c28d08ac07dc7", func := "saucier/saucierlaw21.SlaveStages", spec := "slaveStages", unfollowed := true, recurses := true, apart := false }
def SlaveStagesSaid : Prop := slaveStagesRow.holds Tryz.pinned (OpenSpec.ofChange slaveStagesSpec)

/-- ITS FALSE NEIGHBOUR: 'it returns false'. Refute it at one input. -/
def slaveStagesWrong : ChangeSpec := { name := "slaveStages", fn := fun _ => fun
  | [d1, d2, d3, d4, d5] => { results := [.lit (.bool false)], args := [d1, d2, d3, d4, d5] }
  | _ => none }
def SlaveStagesWrongFalsely : Prop := slaveStagesRow.holds Tryz.pinned (OpenSpec.ofChange slaveStagesWrong)

/-- 'saucierlaw21.SlaveBank': WHATEVER THE INPUT: true; the input reads as it did. -/
def slaveBankSpec : ChangeSpec := { name := "slaveBank", fn := fun _ => fun
  | [d1, d2, d3, d4] => { results := [.lit (.bool true)], args := [d1, d2, d3, d4] }
  | _ => none }
def slaveBankRow : OpenClaim := { program := "ytkcmbampiiolbaagreat", sum := "c871e10aefca2c948ee89c6fe66d8502579a00f7a07aac212e9c28d08ac07dc7", func := "saucier/saucierlaw21.SlaveBank", spec := "slaveBank", unfollowed := true, recurses := true, apart := false }
def SlaveBankSaid : Prop := slaveBankRow.holds Tryz.pinned (OpenSpec.ofChange slaveBankSpec)

/-- ITS FALSE NEIGHBOUR: 'it returns false'. Refute it at one input. -/
def slaveBankWrong : ChangeSpec := { name := "slaveBank", fn := fun _ => fun
  | [d1, d2, d3, d4] => { results := [.lit (.bool false)], args := [d1, d2, d3, d4] }
  | _ => none }
def SlaveBankWrongFalsely : Prop := slaveBankRow.holds Tryz.pinned (OpenSpec.ofChange slaveBankWrong)

/-- 'saucierlaw21.SlaveOwns': WHATEVER THE INPUT: true; the input reads as it did. -/
def slaveOwnsSpec : ChangeSpec := { name := "slaveOwns", fn := fun _ => fun
  | [d1, d2, d3, d4, d5] => { results := [.lit (.bool true)], args := [d1, d2, d3, d4, d5] }
  | _ => none }
def slaveOwnsRow : OpenClaim := { program := "ytkcmbampiiolbaagreat", sum := "c871e10aefca2c948ee89c6fe66d8502579a00f7a07aac212e9c28d08ac07dc7", func := "saucier/saucierlaw21.SlaveOwns", spec := "slaveOwns", unfollowed := true, recurses := true, apart := false }
def SlaveOwnsSaid : Prop := slaveOwnsRow.holds Tryz.pinned (OpenSpec.ofChange slaveOwnsSpec)

/-- ITS FALSE NEIGHBOUR: 'it returns false'. Refute it at one input. -/
def slaveOwnsWrong : ChangeSpec := { name := "slaveOwns", fn := fun _ => fun
  | [d1, d2, d3, d4, d5] => { results := [.lit (.bool false)], args := [d1, d2, d3, d4, d5] }
  | _ => none }
def SlaveOwnsWrongFalsely : Prop := slaveOwnsRow.holds Tryz.pinned (OpenSpec.ofChange slaveOwnsWrong)

/-- 'saucierlaw21.SlaveSilent': WHATEVER THE INPUT: true; the input reads as it did. -/
def slaveSilentSpec : ChangeSpec := { name := "slaveSilent", fn := fun _ => fun
  | [d1, d2, d3, d4, d5, d6] => { results := [.lit (.bool true)], args := [d1, d2, d3, d4, d5, d6] }
  | _ => none }
def slaveSilentRow : OpenClaim := { program := "ytkcmbampiiolbaagreat", sum := "c871e10aefca2c948ee89c6fe66d8502579a00f7a07aac212e9c28d08ac07dc7", func := "saucier/saucierlaw21.SlaveSilent", spec := "slaveSilent", unfollowed := true, recurses := true, apart := false }
def SlaveSilentSaid : Prop := slaveSilentRow.holds Tryz.pinned (OpenSpec.ofChange slaveSilentSpec)

/-- ITS FALSE NEIGHBOUR: 'it returns false'. Refute it at one input. -/
def slaveSilentWrong : ChangeSpec := { name := "slaveSilent", fn := fun _ => fun
  | [d1, d2, d3, d4, d5, d6] => { results := [.lit (.bool false)], args := [d1, d2, d3, d4, d5, d6] }
  | _ => none }
def SlaveSilentWrongFalsely : Prop := slaveSilentRow.holds Tryz.pinned (OpenSpec.ofChange slaveSilentWrong)

/-- 'saucierlaw21.SlaveTells': WHATEVER THE INPUT: true; the input reads as it did. -/
def slaveTellsSpec : ChangeSpec := { name := "slaveTells", fn := fun _ => fun
  | [d1, d2, d3, d4, d5, d6] => { results := [.lit (.bool true)], args := [d1, d2, d3, d4, d5, d6] }
  | _ => none }
def slaveTellsRow : OpenClaim := { program := "ytkcmbampiiolbaagreat", sum := "c871e10aefca2c948ee89c6fe66d8502579a00f7a07aac212e9c28d08ac07dc7", func := "saucier/saucierlaw21.SlaveTells", spec := "slaveTells", unfollowed := true, recurses := true, apart := false }
def SlaveTellsSaid : Prop := slaveTellsRow.holds Tryz.pinned (OpenSpec.ofChange slaveTellsSpec)

/-- ITS FALSE NEIGHBOUR: 'it returns false'. Refute it at one input. -/
def slaveTellsWrong : ChangeSpec := { name := "slaveTells", fn := fun _ => fun
  | [d1, d2, d3, d4, d5, d6] => { results := [.lit (.bool false)], args := [d1, d2, d3, d4, d5, d6] }
  | _ => none }
def SlaveTellsWrongFalsely : Prop := slaveTellsRow.holds Tryz.pinned (OpenSpec.ofChange slaveTellsWrong)

/-- 'saucierlaw21.SlaveModel': WHATEVER THE INPUT: true; the input reads as it did. -/
def slaveModelSpec : ChangeSpec := { name := "slaveModel", fn := fun _ => fun
  | [d1, d2, d3, d4] => { results := [.lit (.bool true)], args := [d1, d2, d3, d4] }
  | _ => none }
def slaveModelRow : OpenClaim := { program := "ytkcmbampiiolbaagreat", sum := "c871e10aefca2c948ee89c6fe66d8502579a00f7a07aac212e9c28d08ac07dc7", func := "saucier/saucierlaw21.SlaveModel", spec := "slaveModel", unfollowed := true, recurses := true, apart := false }
def SlaveModelSaid : Prop := slaveModelRow.holds Tryz.pinned (OpenSpec.ofChange slaveModelSpec)

/-- ITS FALSE NEIGHBOUR: 'it returns false'. Refute it at one input. -/
def slaveModelWrong : ChangeSpec := { name := "slaveModel", fn := fun _ => fun
  | [d1, d2, d3, d4] => { results := [.lit (.bool false)], args := [d1, d2, d3, d4] }
  | _ => none }
def SlaveModelWrongFalsely : Prop := slaveModelRow.holds Tryz.pinned (OpenSpec.ofChange slaveModelWrong)

/- THE SECOND FORM. 'bulk': how many values and letters a reading holds, each counted each time it is reached (what is shared counts as often as it is met; a slice's spare places count too). A statement '..UptoSaid' is the law's where the arguments, and the package variables that the reading takes, are together of bulk at most 1048576: NARROWER than '..Said'. Prove '..Said' where nothing that the law and all that it calls make is longer than what came in: it says more and counts as full. Else prove '..UptoSaid'. A law counts once. -/
mutual
def uptoBulk {H : Type} : DataW H → Nat
  | .lit (.string bytes) => bytes.length + 1
  | .lit _ => 1
  | .nil => 1
  | .ptr d => uptoBulk d + 1
  | .slice elems spare => uptoBulkAll elems + uptoBulkAll spare + 1
  | .agg parts => uptoBulkAll parts + 1
  | .iface _ d => uptoBulk d + 1
  | .map entries => uptoBulkEntries entries + 1
  | .held _ => 1
def uptoBulkAll {H : Type} : List (DataW H) → Nat
  | [] => 0
  | d :: r => uptoBulk d + uptoBulkAll r
def uptoBulkEntries {H : Type} : List (Lit × DataW H) → Nat
  | [] => 0
  | x :: r => uptoBulkEntry x + uptoBulkEntries r
def uptoBulkEntry {H : Type} : Lit × DataW H → Nat
  | (.string bytes, d) => bytes.length + uptoBulk d + 1
  | (_, d) => uptoBulk d + 1
 end
def uptoSmall : (H : Type) → List (DataW H) → Bool := fun _ ds => decide (uptoBulkAll ds ≤ 1048576)
def OpenSpec.upto (s : _root_.Go.ChangeSpec) : _root_.Go.OpenSpec := { _root_.Go.OpenSpec.ofChange s with cond := some uptoSmall }

/-- 'saucierlaw21.SlaveStages', WHERE WHAT IT READS IS OF BULK AT MOST 1048576: true; the input reads as it did. -/
def slaveStagesUptoRow : OpenClaim := { program := "ytkcmbampiiolbaagreat", sum := "c871e10aefca2c948ee89c6fe66d8502579a00f7a07aac212e9c28d08ac07dc7", func := "saucier/saucierlaw21.SlaveStages", spec := "slaveStages", unfollowed := true, recurses := true, apart := false, narrowed := true }
def SlaveStagesUptoSaid : Prop := slaveStagesUptoRow.holds Tryz.pinned (OpenSpec.upto slaveStagesSpec)

/-- 'saucierlaw21.SlaveBank', WHERE WHAT IT READS IS OF BULK AT MOST 1048576: true; the input reads as it did. -/
def slaveBankUptoRow : OpenClaim := { program := "ytkcmbampiiolbaagreat", sum := "c871e10aefca2c948ee89c6fe66d8502579a00f7a07aac212e9c28d08ac07dc7", func := "saucier/saucierlaw21.SlaveBank", spec := "slaveBank", unfollowed := true, recurses := true, apart := false, narrowed := true }
def SlaveBankUptoSaid : Prop := slaveBankUptoRow.holds Tryz.pinned (OpenSpec.upto slaveBankSpec)

/-- 'saucierlaw21.SlaveOwns', WHERE WHAT IT READS IS OF BULK AT MOST 1048576: true; the input reads as it did. -/
def slaveOwnsUptoRow : OpenClaim := { program := "ytkcmbampiiolbaagreat", sum := "c871e10aefca2c948ee89c6fe66d8502579a00f7a07aac212e9c28d08ac07dc7", func := "saucier/saucierlaw21.SlaveOwns", spec := "slaveOwns", unfollowed := true, recurses := true, apart := false, narrowed := true }
def SlaveOwnsUptoSaid : Prop := slaveOwnsUptoRow.holds Tryz.pinned (OpenSpec.upto slaveOwnsSpec)

/-- 'saucierlaw21.SlaveSilent', WHERE WHAT IT READS IS OF BULK AT MOST 1048576: true; the input reads as it did. -/
def slaveSilentUptoRow : OpenClaim := { program := "ytkcmbampiiolbaagreat", sum := "c871e10aefca2c948ee89c6fe66d8502579a00f7a07aac212e9c28d08ac07dc7", func := "saucier/saucierlaw21.SlaveSilent", spec := "slaveSilent", unfollowed := true, recurses := true, apart := false, narrowed := true }
def SlaveSilentUptoSaid : Prop := slaveSilentUptoRow.holds Tryz.pinned (OpenSpec.upto slaveSilentSpec)

/-- 'saucierlaw21.SlaveTells', WHERE WHAT IT READS IS OF BULK AT MOST 1048576: true; the input reads as it did. -/
def slaveTellsUptoRow : OpenClaim := { program := "ytkcmbampiiolbaagreat", sum := "c871e10aefca2c948ee89c6fe66d8502579a00f7a07aac212e9c28d08ac07dc7", func := "saucier/saucierlaw21.SlaveTells", spec := "slaveTells", unfollowed := true, recurses := true, apart := false, narrowed := true }
def SlaveTellsUptoSaid : Prop := slaveTellsUptoRow.holds Tryz.pinned (OpenSpec.upto slaveTellsSpec)

/-- 'saucierlaw21.SlaveModel', WHERE WHAT IT READS IS OF BULK AT MOST 1048576: true; the input reads as it did. -/
def slaveModelUptoRow : OpenClaim := { program := "ytkcmbampiiolbaagreat", sum := "c871e10aefca2c948ee89c6fe66d8502579a00f7a07aac212e9c28d08ac07dc7", func := "saucier/saucierlaw21.SlaveModel", spec := "slaveModel", unfollowed := true, recurses := true, apart := false, narrowed := true }
def SlaveModelUptoSaid : Prop := slaveModelUptoRow.holds Tryz.pinned (OpenSpec.upto slaveModelSpec)

end Rows
end Go.Proofs.YtkcmbampiiolbaaGreat
