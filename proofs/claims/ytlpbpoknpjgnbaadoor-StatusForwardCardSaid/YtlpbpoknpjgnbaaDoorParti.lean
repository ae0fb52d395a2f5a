/- Proved in the last of these 11 parts (this is part 9): StatusForward: whatever the records and the numbers that wait, the law returns true.. Conditions: those of the given statement, and no others. -/
import Derived.Test.YtlpbpoknpjgnbaaDoorParte
import Derived.Test.YtlpbpoknpjgnbaaDoorParth
import Derived.Test.YtlpbpoknpjgnbaaDoorProg
import Derived.Test.YtlpbpoknpjgnbaaDoorPartg
set_option linter.unusedVariables false
set_option linter.unusedSimpArgs false
set_option linter.unusedSectionVars false
section
open Go Go.Proofs Ev Sx
set_option maxRecDepth 100000
namespace Go.Proofs.Lx
@[reducible] def q3_ : Sh := ⟨[.d (.sl TFT0), .d (.pr (.int .u8) TFT3)], [], [.sl TFT0, .pr (.int .u8) TFT3], [.d (.sl TFT0), .d (.int .i64)], [], 0, [.sl TFT0, .int .i64]⟩
def qjy_ (l : List TFT1) (x : Int × Int × Int × Bool × List Int) : Option (As [.sl TFT0, .int .i64]) :=
  Option.bind (qk3_ (l, ())) fun (y : List TFT1 × Unit) => amb (eqAs q3_.rs) [amb (eqAs q3_.rs) [amb (eqAs q3_.rs) [amb (eqAs q3_.rs) [Option.bind (q8_ (x, y.1, [((2, false, 0), 1), ((3, true, 1), 2), ((3, false, 1), 3), ((4, false, 2), 4), ((4, false, 3), 5)], ())) fun (y : List TFT1 × Bool × List TFT2 × Unit) => if (!y.2.1) = true then some ([], 230, ()) else some (y.1, 0, ()), Option.bind (q8_ (x, y.1, [((2, false, 0), 1), ((3, true, 1), 2), ((3, false, 1), 3), ((4, false, 3), 5), ((4, false, 2), 4)], ())) fun (y : List TFT1 × Bool × List TFT2 × Unit) => if (!y.2.1) = true then some ([], 230, ()) else some (y.1, 0, ())], amb (eqAs q3_.rs) [amb (eqAs q3_.rs) [Option.bind (q8_ (x, y.1, [((2, false, 0), 1), ((3, true, 1), 2), ((4, false, 2), 4), ((3, false, 1), 3), ((4, false, 3), 5)], ())) fun (y : List TFT1 × Bool × List TFT2 × Unit) => if (!y.2.1) = true then some ([], 230, ()) else some (y.1, 0, ()), Option.bind (q8_ (x, y.1, [((2, false, 0), 1), ((3, true, 1), 2), ((4, false, 2), 4), ((4, false, 3), 5), ((3, false, 1), 3)], ())) fun (y : List TFT1 × Bool × List TFT2 × Unit) => if (!y.2.1) = true then some ([], 230, ()) else some (y.1, 0, ())], amb (eqAs q3_.rs) [Option.bind (q8_ (x, y.1, [((2, false, 0), 1), ((3, true, 1), 2), ((4, false, 3), 5), ((3, false, 1), 3), ((4, false, 2), 4)], ())) fun (y : List TFT1 × Bool × List TFT2 × Unit) => if (!y.2.1) = true then some ([], 230, ()) else some (y.1, 0, ()), Option.bind (q8_ (x, y.1, [((2, false, 0), 1), ((3, true, 1), 2), ((4, false, 3), 5), ((4, false, 2), 4), ((3, false, 1), 3)], ())) fun (y : List TFT1 × Bool × List TFT2 × Unit) => if (!y.2.1) = true then some ([], 230, ()) else some (y.1, 0, ())]]], amb (eqAs q3_.rs) [amb (eqAs q3_.rs) [amb (eqAs q3_.rs) [Option.bind (q8_ (x, y.1, [((2, false, 0), 1), ((3, false, 1), 3), ((3, true, 1), 2), ((4, false, 2), 4), ((4, false, 3), 5)], ())) fun (y : List TFT1 × Bool × List TFT2 × Unit) => if (!y.2.1) = true then some ([], 230, ()) else some (y.1, 0, ()), Option.bind (q8_ (x, y.1, [((2, false, 0), 1), ((3, false, 1), 3), ((3, true, 1), 2), ((4, false, 3), 5), ((4, false, 2), 4)], ())) fun (y : List TFT1 × Bool × List TFT2 × Unit) => if (!y.2.1) = true then some ([], 230, ()) else some (y.1, 0, ())], amb (eqAs q3_.rs) [amb (eqAs q3_.rs) [Option.bind (q8_ (x, y.1, [((2, false, 0), 1), ((3, false, 1), 3), ((4, false, 2), 4), ((3, true, 1), 2), ((4, false, 3), 5)], ())) fun (y : List TFT1 × Bool × List TFT2 × Unit) => if (!y.2.1) = true then some ([], 230, ()) else some (y.1, 0, ()), Option.bind (q8_ (x, y.1, [((2, false, 0), 1), ((3, false, 1), 3), ((4, false, 2), 4), ((4, false, 3), 5), ((3, true, 1), 2)], ())) fun (y : List TFT1 × Bool × List TFT2 × Unit) => if (!y.2.1) = true then some ([], 230, ()) else some (y.1, 0, ())], amb (eqAs q3_.rs) [Option.bind (q8_ (x, y.1, [((2, false, 0), 1), ((3, false, 1), 3), ((4, false, 3), 5), ((3, true, 1), 2), ((4, false, 2), 4)], ())) fun (y : List TFT1 × Bool × List TFT2 × Unit) => if (!y.2.1) = true then some ([], 230, ()) else some (y.1, 0, ()), Option.bind (q8_ (x, y.1, [((2, false, 0), 1), ((3, false, 1), 3), ((4, false, 3), 5), ((4, false, 2), 4), ((3, true, 1), 2)], ())) fun (y : List TFT1 × Bool × List TFT2 × Unit) => if (!y.2.1) = true then some ([], 230, ()) else some (y.1, 0, ())]]], amb (eqAs q3_.rs) [amb (eqAs q3_.rs) [amb (eqAs q3_.rs) [Option.bind (q8_ (x, y.1, [((2, false, 0), 1), ((4, false, 2), 4), ((3, true, 1), 2), ((3, false, 1), 3), ((4, false, 3), 5)], ())) fun (y : List TFT1 × Bool × List TFT2 × Unit) => if (!y.2.1) = true then some ([], 230, ()) else some (y.1, 0, ()), Option.bind (q8_ (x, y.1, [((2, false, 0), 1), ((4, false, 2), 4), ((3, true, 1), 2), ((4, false, 3), 5), ((3, false, 1), 3)], ())) fun (y : List TFT1 × Bool × List TFT2 × Unit) => if (!y.2.1) = true then some ([], 230, ()) else some (y.1, 0, ())], amb (eqAs q3_.rs) [amb (eqAs q3_.rs) [Option.bind (q8_ (x, y.1, [((2, false, 0), 1), ((4, false, 2), 4), ((3, false, 1), 3), ((3, true, 1), 2), ((4, false, 3), 5)], ())) fun (y : List TFT1 × Bool × List TFT2 × Unit) => if (!y.2.1) = true then some ([], 230, ()) else some (y.1, 0, ()), Option.bind (q8_ (x, y.1, [((2, false, 0), 1), ((4, false, 2), 4), ((3, false, 1), 3), ((4, false, 3), 5), ((3, true, 1), 2)], ())) fun (y : List TFT1 × Bool × List TFT2 × Unit) => if (!y.2.1) = true then some ([], 230, ()) else some (y.1, 0, ())], amb (eqAs q3_.rs) [Option.bind (q8_ (x, y.1, [((2, false, 0), 1), ((4, false, 2), 4), ((4, false, 3), 5), ((3, true, 1), 2), ((3, false, 1), 3)], ())) fun (y : List TFT1 × Bool × List TFT2 × Unit) => if (!y.2.1) = true then some ([], 230, ()) else some (y.1, 0, ()), Option.bind (q8_ (x, y.1, [((2, false, 0), 1), ((4, false, 2), 4), ((4, false, 3), 5), ((3, false, 1), 3), ((3, true, 1), 2)], ())) fun (y : List TFT1 × Bool × List TFT2 × Unit) => if (!y.2.1) = true then some ([], 230, ()) else some (y.1, 0, ())]]], amb (eqAs q3_.rs) [amb (eqAs q3_.rs) [Option.bind (q8_ (x, y.1, [((2, false, 0), 1), ((4, false, 3), 5), ((3, true, 1), 2), ((3, false, 1), 3), ((4, false, 2), 4)], ())) fun (y : List TFT1 × Bool × List TFT2 × Unit) => if (!y.2.1) = true then some ([], 230, ()) else some (y.1, 0, ()), Option.bind (q8_ (x, y.1, [((2, false, 0), 1), ((4, false, 3), 5), ((3, true, 1), 2), ((4, false, 2), 4), ((3, false, 1), 3)], ())) fun (y : List TFT1 × Bool × List TFT2 × Unit) => if (!y.2.1) = true then some ([], 230, ()) else some (y.1, 0, ())], amb (eqAs q3_.rs) [amb (eqAs q3_.rs) [Option.bind (q8_ (x, y.1, [((2, false, 0), 1), ((4, false, 3), 5), ((3, false, 1), 3), ((3, true, 1), 2), ((4, false, 2), 4)], ())) fun (y : List TFT1 × Bool × List TFT2 × Unit) => if (!y.2.1) = true then some ([], 230, ()) else some (y.1, 0, ()), Option.bind (q8_ (x, y.1, [((2, false, 0), 1), ((4, false, 3), 5), ((3, false, 1), 3), ((4, false, 2), 4), ((3, true, 1), 2)], ())) fun (y : List TFT1 × Bool × List TFT2 × Unit) => if (!y.2.1) = true then some ([], 230, ()) else some (y.1, 0, ())], amb (eqAs q3_.rs) [Option.bind (q8_ (x, y.1, [((2, false, 0), 1), ((4, false, 3), 5), ((4, false, 2), 4), ((3, true, 1), 2), ((3, false, 1), 3)], ())) fun (y : List TFT1 × Bool × List TFT2 × Unit) => if (!y.2.1) = true then some ([], 230, ()) else some (y.1, 0, ()), Option.bind (q8_ (x, y.1, [((2, false, 0), 1), ((4, false, 3), 5), ((4, false, 2), 4), ((3, false, 1), 3), ((3, true, 1), 2)], ())) fun (y : List TFT1 × Bool × List TFT2 × Unit) => if (!y.2.1) = true then some ([], 230, ()) else some (y.1, 0, ())]]]]]], amb (eqAs q3_.rs) [amb (eqAs q3_.rs) [amb (eqAs q3_.rs) [amb (eqAs q3_.rs) [Option.bind (q8_ (x, y.1, [((3, true, 1), 2), ((2, false, 0), 1), ((3, false, 1), 3), ((4, false, 2), 4), ((4, false, 3), 5)], ())) fun (y : List TFT1 × Bool × List TFT2 × Unit) => if (!y.2.1) = true then some ([], 230, ()) else some (y.1, 0, ()), Option.bind (q8_ (x, y.1, [((3, true, 1), 2), ((2, false, 0), 1), ((3, false, 1), 3), ((4, false, 3), 5), ((4, false, 2), 4)], ())) fun (y : List TFT1 × Bool × List TFT2 × Unit) => if (!y.2.1) = true then some ([], 230, ()) else some (y.1, 0, ())], amb (eqAs q3_.rs) [amb (eqAs q3_.rs) [Option.bind (q8_ (x, y.1, [((3, true, 1), 2), ((2, false, 0), 1), ((4, false, 2), 4), ((3, false, 1), 3), ((4, false, 3), 5)], ())) fun (y : List TFT1 × Bool × List TFT2 × Unit) => if (!y.2.1) = true then some ([], 230, ()) else some (y.1, 0, ()), Option.bind (q8_ (x, y.1, [((3, true, 1), 2), ((2, false, 0), 1), ((4, false, 2), 4), ((4, false, 3), 5), ((3, false, 1), 3)], ())) fun (y : List TFT1 × Bool × List TFT2 × Unit) => if (!y.2.1) = true then some ([], 230, ()) else some (y.1, 0, ())], amb (eqAs q3_.rs) [Option.bind (q8_ (x, y.1, [((3, true, 1), 2), ((2, false, 0), 1), ((4, false, 3), 5), ((3, false, 1), 3), ((4, false, 2), 4)], ())) fun (y : List TFT1 × Bool × List TFT2 × Unit) => if (!y.2.1) = true then some ([], 230, ()) else some (y.1, 0, ()), Option.bind (q8_ (x, y.1, [((3, true, 1), 2), ((2, false, 0), 1), ((4, false, 3), 5), ((4, false, 2), 4), ((3, false, 1), 3)], ())) fun (y : List TFT1 × Bool × List TFT2 × Unit) => if (!y.2.1) = true then some ([], 230, ()) else some (y.1, 0, ())]]], amb (eqAs q3_.rs) [amb (eqAs q3_.rs) [amb (eqAs q3_.rs) [Option.bind (q8_ (x, y.1, [((3, true, 1), 2), ((3, false, 1), 3), ((2, false, 0), 1), ((4, false, 2), 4), ((4, false, 3), 5)], ())) fun (y : List TFT1 × Bool × List TFT2 × Unit) => if (!y.2.1) = true then some ([], 230, ()) else some (y.1, 0, ()), Option.bind (q8_ (x, y.1, [((3, true, 1), 2), ((3, false, 1), 3), ((2, false, 0), 1), ((4, false, 3), 5), ((4, false, 2), 4)], ())) fun (y : List TFT1 × Bool × List TFT2 × Unit) => if (!y.2.1) = true then some ([], 230, ()) else some (y.1, 0, ())], amb (eqAs q3_.rs) [amb (eqAs q3_.rs) [Option.bind (q8_ (x, y.1, [((3, true, 1), 2), ((3, false, 1), 3), ((4, false, 2), 4), ((2, false, 0), 1), ((4, false, 3), 5)], ())) fun (y : List TFT1 × Bool × List TFT2 × Unit) => if (!y.2.1) = true then some ([], 230, ()) else some (y.1, 0, ()), Option.bind (q8_ (x, y.1, [((3, true, 1), 2), ((3, false, 1), 3), ((4, false, 2), 4), ((4, false, 3), 5), ((2, false, 0), 1)], ())) fun (y : List TFT1 × Bool × List TFT2 × Unit) => if (!y.2.1) = true then some ([], 230, ()) else some (y.1, 0, ())], amb (eqAs q3_.rs) [Option.bind (q8_ (x, y.1, [((3, true, 1), 2), ((3, false, 1), 3), ((4, false, 3), 5), ((2, false, 0), 1), ((4, false, 2), 4)], ())) fun (y : List TFT1 × Bool × List TFT2 × Unit) => if (!y.2.1) = true then some ([], 230, ()) else some (y.1, 0, ()), Option.bind (q8_ (x, y.1, [((3, true, 1), 2), ((3, false, 1), 3), ((4, false, 3), 5), ((4, false, 2), 4), ((2, false, 0), 1)], ())) fun (y : List TFT1 × Bool × List TFT2 × Unit) => if (!y.2.1) = true then some ([], 230, ()) else some (y.1, 0, ())]]], amb (eqAs q3_.rs) [amb (eqAs q3_.rs) [amb (eqAs q3_.rs) [Option.bind (q8_ (x, y.1, [((3, true, 1), 2), ((4, false, 2), 4), ((2, false, 0), 1), ((3, false, 1), 3), ((4, false, 3), 5)], ())) fun (y : List TFT1 × Bool × List TFT2 × Unit) => if (!y.2.1) = true then some ([], 230, ()) else some (y.1, 0, ()), Option.bind (q8_ (x, y.1, [((3, true, 1), 2), ((4, false, 2), 4), ((2, false, 0), 1), ((4, false, 3), 5), ((3, false, 1), 3)], ())) fun (y : List TFT1 × Bool × List TFT2 × Unit) => if (!y.2.1) = true then some ([], 230, ()) else some (y.1, 0, ())], amb (eqAs q3_.rs) [amb (eqAs q3_.rs) [Option.bind (q8_ (x, y.1, [((3, true, 1), 2), ((4, false, 2), 4), ((3, false, 1), 3), ((2, false, 0), 1), ((4, false, 3), 5)], ())) fun (y : List TFT1 × Bool × List TFT2 × Unit) => if (!y.2.1) = true then some ([], 230, ()) else some (y.1, 0, ()), Option.bind (q8_ (x, y.1, [((3, true, 1), 2), ((4, false, 2), 4), ((3, false, 1), 3), ((4, false, 3), 5), ((2, false, 0), 1)], ())) fun (y : List TFT1 × Bool × List TFT2 × Unit) => if (!y.2.1) = true then some ([], 230, ()) else some (y.1, 0, ())], amb (eqAs q3_.rs) [Option.bind (q8_ (x, y.1, [((3, true, 1), 2), ((4, false, 2), 4), ((4, false, 3), 5), ((2, false, 0), 1), ((3, false, 1), 3)], ())) fun (y : List TFT1 × Bool × List TFT2 × Unit) => if (!y.2.1) = true then some ([], 230, ()) else some (y.1, 0, ()), Option.bind (q8_ (x, y.1, [((3, true, 1), 2), ((4, false, 2), 4), ((4, false, 3), 5), ((3, false, 1), 3), ((2, false, 0), 1)], ())) fun (y : List TFT1 × Bool × List TFT2 × Unit) => if (!y.2.1) = true then some ([], 230, ()) else some (y.1, 0, ())]]], amb (eqAs q3_.rs) [amb (eqAs q3_.rs) [Option.bind (q8_ (x, y.1, [((3, true, 1), 2), ((4, false, 3), 5), ((2, false, 0), 1), ((3, false, 1), 3), ((4, false, 2), 4)], ())) fun (y : List TFT1 × Bool × List TFT2 × Unit) => if (!y.2.1) = true then some ([], 230, ()) else some (y.1, 0, ()), Option.bind (q8_ (x, y.1, [((3, true, 1), 2), ((4, false, 3), 5), ((2, false, 0), 1), ((4, false, 2), 4), ((3, false, 1), 3)], ())) fun (y : List TFT1 × Bool × List TFT2 × Unit) => if (!y.2.1) = true then some ([], 230, ()) else some (y.1, 0, ())], amb (eqAs q3_.rs) [amb (eqAs q3_.rs) [Option.bind (q8_ (x, y.1, [((3, true, 1), 2), ((4, false, 3), 5), ((3, false, 1), 3), ((2, false, 0), 1), ((4, false, 2), 4)], ())) fun (y : List TFT1 × Bool × List TFT2 × Unit) => if (!y.2.1) = true then some ([], 230, ()) else some (y.1, 0, ()), Option.bind (q8_ (x, y.1, [((3, true, 1), 2), ((4, false, 3), 5), ((3, false, 1), 3), ((4, false, 2), 4), ((2, false, 0), 1)], ())) fun (y : List TFT1 × Bool × List TFT2 × Unit) => if (!y.2.1) = true then some ([], 230, ()) else some (y.1, 0, ())], amb (eqAs q3_.rs) [Option.bind (q8_ (x, y.1, [((3, true, 1), 2), ((4, false, 3), 5), ((4, false, 2), 4), ((2, false, 0), 1), ((3, false, 1), 3)], ())) fun (y : List TFT1 × Bool × List TFT2 × Unit) => if (!y.2.1) = true then some ([], 230, ()) else some (y.1, 0, ()), Option.bind (q8_ (x, y.1, [((3, true, 1), 2), ((4, false, 3), 5), ((4, false, 2), 4), ((3, false, 1), 3), ((2, false, 0), 1)], ())) fun (y : List TFT1 × Bool × List TFT2 × Unit) => if (!y.2.1) = true then some ([], 230, ()) else some (y.1, 0, ())]]]]]], amb (eqAs q3_.rs) [amb (eqAs q3_.rs) [amb (eqAs q3_.rs) [amb (eqAs q3_.rs) [Option.bind (q8_ (x, y.1, [((3, false, 1), 3), ((2, false, 0), 1), ((3, true, 1), 2), ((4, false, 2), 4), ((4, false, 3), 5)], ())) fun (y : List TFT1 × Bool × List TFT2 × Unit) => if (!y.2.1) = true then some ([], 230, ()) else some (y.1, 0, ()), Option.bind (q8_ (x, y.1, [((3, false, 1), 3), ((2, false, 0), 1), ((3, true, 1), 2), ((4, false, 3), 5), ((4, false, 2), 4)], ())) fun (y : List TFT1 × Bool × List TFT2 × Unit) => if (!y.2.1) = true then some ([], 230, ()) else some (y.1, 0, ())], amb (eqAs q3_.rs) [amb (eqAs q3_.rs) [Option.bind (q8_ (x, y.1, [((3, false, 1), 3), ((2, false, 0), 1), ((4, false, 2), 4), ((3, true, 1), 2), ((4, false, 3), 5)], ())) fun (y : List TFT1 × Bool × List TFT2 × Unit) => if (!y.2.1) = true then some ([], 230, ()) else some (y.1, 0, ()), Option.bind (q8_ (x, y.1, [((3, false, 1), 3), ((2, false, 0), 1), ((4, false, 2), 4), ((4, false, 3), 5), ((3, true, 1), 2)], ())) fun (y : List TFT1 × Bool × List TFT2 × Unit) => if (!y.2.1) = true then some ([], 230, ()) else some (y.1, 0, ())], amb (eqAs q3_.rs) [Option.bind (q8_ (x, y.1, [((3, false, 1), 3), ((2, false, 0), 1), ((4, false, 3), 5), ((3, true, 1), 2), ((4, false, 2), 4)], ())) fun (y : List TFT1 × Bool × List TFT2 × Unit) => if (!y.2.1) = true then some ([], 230, ()) else some (y.1, 0, ()), Option.bind (q8_ (x, y.1, [((3, false, 1), 3), ((2, false, 0), 1), ((4, false, 3), 5), ((4, false, 2), 4), ((3, true, 1), 2)], ())) fun (y : List TFT1 × Bool × List TFT2 × Unit) => if (!y.2.1) = true then some ([], 230, ()) else some (y.1, 0, ())]]], amb (eqAs q3_.rs) [amb (eqAs q3_.rs) [amb (eqAs q3_.rs) [Option.bind (q8_ (x, y.1, [((3, false, 1), 3), ((3, true, 1), 2), ((2, false, 0), 1), ((4, false, 2), 4), ((4, false, 3), 5)], ())) fun (y : List TFT1 × Bool × List TFT2 × Unit) => if (!y.2.1) = true then some ([], 230, ()) else some (y.1, 0, ()), Option.bind (q8_ (x, y.1, [((3, false, 1), 3), ((3, true, 1), 2), ((2, false, 0), 1), ((4, false, 3), 5), ((4, false, 2), 4)], ())) fun (y : List TFT1 × Bool × List TFT2 × Unit) => if (!y.2.1) = true then some ([], 230, ()) else some (y.1, 0, ())], amb (eqAs q3_.rs) [amb (eqAs q3_.rs) [Option.bind (q8_ (x, y.1, [((3, false, 1), 3), ((3, true, 1), 2), ((4, false, 2), 4), ((2, false, 0), 1), ((4, false, 3), 5)], ())) fun (y : List TFT1 × Bool × List TFT2 × Unit) => if (!y.2.1) = true then some ([], 230, ()) else some (y.1, 0, ()), Option.bind (q8_ (x, y.1, [((3, false, 1), 3), ((3, true, 1), 2), ((4, false, 2), 4), ((4, false, 3), 5), ((2, false, 0), 1)], ())) fun (y : List TFT1 × Bool × List TFT2 × Unit) => if (!y.2.1) = true then some ([], 230, ()) else some (y.1, 0, ())], amb (eqAs q3_.rs) [Option.bind (q8_ (x, y.1, [((3, false, 1), 3), ((3, true, 1), 2), ((4, false, 3), 5), ((2, false, 0), 1), ((4, false, 2), 4)], ())) fun (y : List TFT1 × Bool × List TFT2 × Unit) => if (!y.2.1) = true then some ([], 230, ()) else some (y.1, 0, ()), Option.bind (q8_ (x, y.1, [((3, false, 1), 3), ((3, true, 1), 2), ((4, false, 3), 5), ((4, false, 2), 4), ((2, false, 0), 1)], ())) fun (y : List TFT1 × Bool × List TFT2 × Unit) => if (!y.2.1) = true then some ([], 230, ()) else some (y.1, 0, ())]]], amb (eqAs q3_.rs) [amb (eqAs q3_.rs) [amb (eqAs q3_.rs) [Option.bind (q8_ (x, y.1, [((3, false, 1), 3), ((4, false, 2), 4), ((2, false, 0), 1), ((3, true, 1), 2), ((4, false, 3), 5)], ())) fun (y : List TFT1 × Bool × List TFT2 × Unit) => if (!y.2.1) = true then some ([], 230, ()) else some (y.1, 0, ()), Option.bind (q8_ (x, y.1, [((3, false, 1), 3), ((4, false, 2), 4), ((2, false, 0), 1), ((4, false, 3), 5), ((3, true, 1), 2)], ())) fun (y : List TFT1 × Bool × List TFT2 × Unit) => if (!y.2.1) = true then some ([], 230, ()) else some (y.1, 0, ())], amb (eqAs q3_.rs) [amb (eqAs q3_.rs) [Option.bind (q8_ (x, y.1, [((3, false, 1), 3), ((4, false, 2), 4), ((3, true, 1), 2), ((2, false, 0), 1), ((4, false, 3), 5)], ())) fun (y : List TFT1 × Bool × List TFT2 × Unit) => if (!y.2.1) = true then some ([], 230, ()) else some (y.1, 0, ()), Option.bind (q8_ (x, y.1, [((3, false, 1), 3), ((4, false, 2), 4), ((3, true, 1), 2), ((4, false, 3), 5), ((2, false, 0), 1)], ())) fun (y : List TFT1 × Bool × List TFT2 × Unit) => if (!y.2.1) = true then some ([], 230, ()) else some (y.1, 0, ())], amb (eqAs q3_.rs) [Option.bind (q8_ (x, y.1, [((3, false, 1), 3), ((4, false, 2), 4), ((4, false, 3), 5), ((2, false, 0), 1), ((3, true, 1), 2)], ())) fun (y : List TFT1 × Bool × List TFT2 × Unit) => if (!y.2.1) = true then some ([], 230, ()) else some (y.1, 0, ()), Option.bind (q8_ (x, y.1, [((3, false, 1), 3), ((4, false, 2), 4), ((4, false, 3), 5), ((3, true, 1), 2), ((2, false, 0), 1)], ())) fun (y : List TFT1 × Bool × List TFT2 × Unit) => if (!y.2.1) = true then some ([], 230, ()) else some (y.1, 0, ())]]], amb (eqAs q3_.rs) [amb (eqAs q3_.rs) [Option.bind (q8_ (x, y.1, [((3, false, 1), 3), ((4, false, 3), 5), ((2, false, 0), 1), ((3, true, 1), 2), ((4, false, 2), 4)], ())) fun (y : List TFT1 × Bool × List TFT2 × Unit) => if (!y.2.1) = true then some ([], 230, ()) else some (y.1, 0, ()), Option.bind (q8_ (x, y.1, [((3, false, 1), 3), ((4, false, 3), 5), ((2, false, 0), 1), ((4, false, 2), 4), ((3, true, 1), 2)], ())) fun (y : List TFT1 × Bool × List TFT2 × Unit) => if (!y.2.1) = true then some ([], 230, ()) else some (y.1, 0, ())], amb (eqAs q3_.rs) [amb (eqAs q3_.rs) [Option.bind (q8_ (x, y.1, [((3, false, 1), 3), ((4, false, 3), 5), ((3, true, 1), 2), ((2, false, 0), 1), ((4, false, 2), 4)], ())) fun (y : List TFT1 × Bool × List TFT2 × Unit) => if (!y.2.1) = true then some ([], 230, ()) else some (y.1, 0, ()), Option.bind (q8_ (x, y.1, [((3, false, 1), 3), ((4, false, 3), 5), ((3, true, 1), 2), ((4, false, 2), 4), ((2, false, 0), 1)], ())) fun (y : List TFT1 × Bool × List TFT2 × Unit) => if (!y.2.1) = true then some ([], 230, ()) else some (y.1, 0, ())], amb (eqAs q3_.rs) [Option.bind (q8_ (x, y.1, [((3, false, 1), 3), ((4, false, 3), 5), ((4, false, 2), 4), ((2, false, 0), 1), ((3, true, 1), 2)], ())) fun (y : List TFT1 × Bool × List TFT2 × Unit) => if (!y.2.1) = true then some ([], 230, ()) else some (y.1, 0, ()), Option.bind (q8_ (x, y.1, [((3, false, 1), 3), ((4, false, 3), 5), ((4, false, 2), 4), ((3, true, 1), 2), ((2, false, 0), 1)], ())) fun (y : List TFT1 × Bool × List TFT2 × Unit) => if (!y.2.1) = true then some ([], 230, ()) else some (y.1, 0, ())]]]]]], amb (eqAs q3_.rs) [amb (eqAs q3_.rs) [amb (eqAs q3_.rs) [amb (eqAs q3_.rs) [Option.bind (q8_ (x, y.1, [((4, false, 2), 4), ((2, false, 0), 1), ((3, true, 1), 2), ((3, false, 1), 3), ((4, false, 3), 5)], ())) fun (y : List TFT1 × Bool × List TFT2 × Unit) => if (!y.2.1) = true then some ([], 230, ()) else some (y.1, 0, ()), Option.bind (q8_ (x, y.1, [((4, false, 2), 4), ((2, false, 0), 1), ((3, true, 1), 2), ((4, false, 3), 5), ((3, false, 1), 3)], ())) fun (y : List TFT1 × Bool × List TFT2 × Unit) => if (!y.2.1) = true then some ([], 230, ()) else some (y.1, 0, ())], amb (eqAs q3_.rs) [amb (eqAs q3_.rs) [Option.bind (q8_ (x, y.1, [((4, false, 2), 4), ((2, false, 0), 1), ((3, false, 1), 3), ((3, true, 1), 2), ((4, false, 3), 5)], ())) fun (y : List TFT1 × Bool × List TFT2 × Unit) => if (!y.2.1) = true then some ([], 230, ()) else some (y.1, 0, ()), Option.bind (q8_ (x, y.1, [((4, false, 2), 4), ((2, false, 0), 1), ((3, false, 1), 3), ((4, false, 3), 5), ((3, true, 1), 2)], ())) fun (y : List TFT1 × Bool × List TFT2 × Unit) => if (!y.2.1) = true then some ([], 230, ()) else some (y.1, 0, ())], amb (eqAs q3_.rs) [Option.bind (q8_ (x, y.1, [((4, false, 2), 4), ((2, false, 0), 1), ((4, false, 3), 5), ((3, true, 1), 2), ((3, false, 1), 3)], ())) fun (y : List TFT1 × Bool × List TFT2 × Unit) => if (!y.2.1) = true then some ([], 230, ()) else some (y.1, 0, ()), Option.bind (q8_ (x, y.1, [((4, false, 2), 4), ((2, false, 0), 1), ((4, false, 3), 5), ((3, false, 1), 3), ((3, true, 1), 2)], ())) fun (y : List TFT1 × Bool × List TFT2 × Unit) => if (!y.2.1) = true then some ([], 230, ()) else some (y.1, 0, ())]]], amb (eqAs q3_.rs) [amb (eqAs q3_.rs) [amb (eqAs q3_.rs) [Option.bind (q8_ (x, y.1, [((4, false, 2), 4), ((3, true, 1), 2), ((2, false, 0), 1), ((3, false, 1), 3), ((4, false, 3), 5)], ())) fun (y : List TFT1 × Bool × List TFT2 × Unit) => if (!y.2.1) = true then some ([], 230, ()) else some (y.1, 0, ()), Option.bind (q8_ (x, y.1, [((4, false, 2), 4), ((3, true, 1), 2), ((2, false, 0), 1), ((4, false, 3), 5), ((3, false, 1), 3)], ())) fun (y : List TFT1 × Bool × List TFT2 × Unit) => if (!y.2.1) = true then some ([], 230, ()) else some (y.1, 0, ())], amb (eqAs q3_.rs) [amb (eqAs q3_.rs) [Option.bind (q8_ (x, y.1, [((4, false, 2), 4), ((3, true, 1), 2), ((3, false, 1), 3), ((2, false, 0), 1), ((4, false, 3), 5)], ())) fun (y : List TFT1 × Bool × List TFT2 × Unit) => if (!y.2.1) = true then some ([], 230, ()) else some (y.1, 0, ()), Option.bind (q8_ (x, y.1, [((4, false, 2), 4), ((3, true, 1), 2), ((3, false, 1), 3), ((4, false, 3), 5), ((2, false, 0), 1)], ())) fun (y : List TFT1 × Bool × List TFT2 × Unit) => if (!y.2.1) = true then some ([], 230, ()) else some (y.1, 0, ())], amb (eqAs q3_.rs) [Option.bind (q8_ (x, y.1, [((4, false, 2), 4), ((3, true, 1), 2), ((4, false, 3), 5), ((2, false, 0), 1), ((3, false, 1), 3)], ())) fun (y : List TFT1 × Bool × List TFT2 × Unit) => if (!y.2.1) = true then some ([], 230, ()) else some (y.1, 0, ()), Option.bind (q8_ (x, y.1, [((4, false, 2), 4), ((3, true, 1), 2), ((4, false, 3), 5), ((3, false, 1), 3), ((2, false, 0), 1)], ())) fun (y : List TFT1 × Bool × List TFT2 × Unit) => if (!y.2.1) = true then some ([], 230, ()) else some (y.1, 0, ())]]], amb (eqAs q3_.rs) [amb (eqAs q3_.rs) [amb (eqAs q3_.rs) [Option.bind (q8_ (x, y.1, [((4, false, 2), 4), ((3, false, 1), 3), ((2, false, 0), 1), ((3, true, 1), 2), ((4, false, 3), 5)], ())) fun (y : List TFT1 × Bool × List TFT2 × Unit) => if (!y.2.1) = true then some ([], 230, ()) else some (y.1, 0, ()), Option.bind (q8_ (x, y.1, [((4, false, 2), 4), ((3, false, 1), 3), ((2, false, 0), 1), ((4, false, 3), 5), ((3, true, 1), 2)], ())) fun (y : List TFT1 × Bool × List TFT2 × Unit) => if (!y.2.1) = true then some ([], 230, ()) else some (y.1, 0, ())], amb (eqAs q3_.rs) [amb (eqAs q3_.rs) [Option.bind (q8_ (x, y.1, [((4, false, 2), 4), ((3, false, 1), 3), ((3, true, 1), 2), ((2, false, 0), 1), ((4, false, 3), 5)], ())) fun (y : List TFT1 × Bool × List TFT2 × Unit) => if (!y.2.1) = true then some ([], 230, ()) else some (y.1, 0, ()), Option.bind (q8_ (x, y.1, [((4, false, 2), 4), ((3, false, 1), 3), ((3, true, 1), 2), ((4, false, 3), 5), ((2, false, 0), 1)], ())) fun (y : List TFT1 × Bool × List TFT2 × Unit) => if (!y.2.1) = true then some ([], 230, ()) else some (y.1, 0, ())], amb (eqAs q3_.rs) [Option.bind (q8_ (x, y.1, [((4, false, 2), 4), ((3, false, 1), 3), ((4, false, 3), 5), ((2, false, 0), 1), ((3, true, 1), 2)], ())) fun (y : List TFT1 × Bool × List TFT2 × Unit) => if (!y.2.1) = true then some ([], 230, ()) else some (y.1, 0, ()), Option.bind (q8_ (x, y.1, [((4, false, 2), 4), ((3, false, 1), 3), ((4, false, 3), 5), ((3, true, 1), 2), ((2, false, 0), 1)], ())) fun (y : List TFT1 × Bool × List TFT2 × Unit) => if (!y.2.1) = true then some ([], 230, ()) else some (y.1, 0, ())]]], amb (eqAs q3_.rs) [amb (eqAs q3_.rs) [Option.bind (q8_ (x, y.1, [((4, false, 2), 4), ((4, false, 3), 5), ((2, false, 0), 1), ((3, true, 1), 2), ((3, false, 1), 3)], ())) fun (y : List TFT1 × Bool × List TFT2 × Unit) => if (!y.2.1) = true then some ([], 230, ()) else some (y.1, 0, ()), Option.bind (q8_ (x, y.1, [((4, false, 2), 4), ((4, false, 3), 5), ((2, false, 0), 1), ((3, false, 1), 3), ((3, true, 1), 2)], ())) fun (y : List TFT1 × Bool × List TFT2 × Unit) => if (!y.2.1) = true then some ([], 230, ()) else some (y.1, 0, ())], amb (eqAs q3_.rs) [amb (eqAs q3_.rs) [Option.bind (q8_ (x, y.1, [((4, false, 2), 4), ((4, false, 3), 5), ((3, true, 1), 2), ((2, false, 0), 1), ((3, false, 1), 3)], ())) fun (y : List TFT1 × Bool × List TFT2 × Unit) => if (!y.2.1) = true then some ([], 230, ()) else some (y.1, 0, ()), Option.bind (q8_ (x, y.1, [((4, false, 2), 4), ((4, false, 3), 5), ((3, true, 1), 2), ((3, false, 1), 3), ((2, false, 0), 1)], ())) fun (y : List TFT1 × Bool × List TFT2 × Unit) => if (!y.2.1) = true then some ([], 230, ()) else some (y.1, 0, ())], amb (eqAs q3_.rs) [Option.bind (q8_ (x, y.1, [((4, false, 2), 4), ((4, false, 3), 5), ((3, false, 1), 3), ((2, false, 0), 1), ((3, true, 1), 2)], ())) fun (y : List TFT1 × Bool × List TFT2 × Unit) => if (!y.2.1) = true then some ([], 230, ()) else some (y.1, 0, ()), Option.bind (q8_ (x, y.1, [((4, false, 2), 4), ((4, false, 3), 5), ((3, false, 1), 3), ((3, true, 1), 2), ((2, false, 0), 1)], ())) fun (y : List TFT1 × Bool × List TFT2 × Unit) => if (!y.2.1) = true then some ([], 230, ()) else some (y.1, 0, ())]]]]]], amb (eqAs q3_.rs) [amb (eqAs q3_.rs) [amb (eqAs q3_.rs) [Option.bind (q8_ (x, y.1, [((4, false, 3), 5), ((2, false, 0), 1), ((3, true, 1), 2), ((3, false, 1), 3), ((4, false, 2), 4)], ())) fun (y : List TFT1 × Bool × List TFT2 × Unit) => if (!y.2.1) = true then some ([], 230, ()) else some (y.1, 0, ()), Option.bind (q8_ (x, y.1, [((4, false, 3), 5), ((2, false, 0), 1), ((3, true, 1), 2), ((4, false, 2), 4), ((3, false, 1), 3)], ())) fun (y : List TFT1 × Bool × List TFT2 × Unit) => if (!y.2.1) = true then some ([], 230, ()) else some (y.1, 0, ())], amb (eqAs q3_.rs) [amb (eqAs q3_.rs) [Option.bind (q8_ (x, y.1, [((4, false, 3), 5), ((2, false, 0), 1), ((3, false, 1), 3), ((3, true, 1), 2), ((4, false, 2), 4)], ())) fun (y : List TFT1 × Bool × List TFT2 × Unit) => if (!y.2.1) = true then some ([], 230, ()) else some (y.1, 0, ()), Option.bind (q8_ (x, y.1, [((4, false, 3), 5), ((2, false, 0), 1), ((3, false, 1), 3), ((4, false, 2), 4), ((3, true, 1), 2)], ())) fun (y : List TFT1 × Bool × List TFT2 × Unit) => if (!y.2.1) = true then some ([], 230, ()) else some (y.1, 0, ())], amb (eqAs q3_.rs) [Option.bind (q8_ (x, y.1, [((4, false, 3), 5), ((2, false, 0), 1), ((4, false, 2), 4), ((3, true, 1), 2), ((3, false, 1), 3)], ())) fun (y : List TFT1 × Bool × List TFT2 × Unit) => if (!y.2.1) = true then some ([], 230, ()) else some (y.1, 0, ()), Option.bind (q8_ (x, y.1, [((4, false, 3), 5), ((2, false, 0), 1), ((4, false, 2), 4), ((3, false, 1), 3), ((3, true, 1), 2)], ())) fun (y : List TFT1 × Bool × List TFT2 × Unit) => if (!y.2.1) = true then some ([], 230, ()) else some (y.1, 0, ())]]], amb (eqAs q3_.rs) [amb (eqAs q3_.rs) [amb (eqAs q3_.rs) [Option.bind (q8_ (x, y.1, [((4, false, 3), 5), ((3, true, 1), 2), ((2, false, 0), 1), ((3, false, 1), 3), ((4, false, 2), 4)], ())) fun (y : List TFT1 × Bool × List TFT2 × Unit) => if (!y.2.1) = true then some ([], 230, ()) else some (y.1, 0, ()), Option.bind (q8_ (x, y.1, [((4, false, 3), 5), ((3, true, 1), 2), ((2, false, 0), 1), ((4, false, 2), 4), ((3, false, 1), 3)], ())) fun (y : List TFT1 × Bool × List TFT2 × Unit) => if (!y.2.1) = true then some ([], 230, ()) else some (y.1, 0, ())], amb (eqAs q3_.rs) [amb (eqAs q3_.rs) [Option.bind (q8_ (x, y.1, [((4, false, 3), 5), ((3, true, 1), 2), ((3, false, 1), 3), ((2, false, 0), 1), ((4, false, 2), 4)], ())) fun (y : List TFT1 × Bool × List TFT2 × Unit) => if (!y.2.1) = true then some ([], 230, ()) else some (y.1, 0, ()), Option.bind (q8_ (x, y.1, [((4, false, 3), 5), ((3, true, 1), 2), ((3, false, 1), 3), ((4, false, 2), 4), ((2, false, 0), 1)], ())) fun (y : List TFT1 × Bool × List TFT2 × Unit) => if (!y.2.1) = true then some ([], 230, ()) else some (y.1, 0, ())], amb (eqAs q3_.rs) [Option.bind (q8_ (x, y.1, [((4, false, 3), 5), ((3, true, 1), 2), ((4, false, 2), 4), ((2, false, 0), 1), ((3, false, 1), 3)], ())) fun (y : List TFT1 × Bool × List TFT2 × Unit) => if (!y.2.1) = true then some ([], 230, ()) else some (y.1, 0, ()), Option.bind (q8_ (x, y.1, [((4, false, 3), 5), ((3, true, 1), 2), ((4, false, 2), 4), ((3, false, 1), 3), ((2, false, 0), 1)], ())) fun (y : List TFT1 × Bool × List TFT2 × Unit) => if (!y.2.1) = true then some ([], 230, ()) else some (y.1, 0, ())]]], amb (eqAs q3_.rs) [amb (eqAs q3_.rs) [amb (eqAs q3_.rs) [Option.bind (q8_ (x, y.1, [((4, false, 3), 5), ((3, false, 1), 3), ((2, false, 0), 1), ((3, true, 1), 2), ((4, false, 2), 4)], ())) fun (y : List TFT1 × Bool × List TFT2 × Unit) => if (!y.2.1) = true then some ([], 230, ()) else some (y.1, 0, ()), Option.bind (q8_ (x, y.1, [((4, false, 3), 5), ((3, false, 1), 3), ((2, false, 0), 1), ((4, false, 2), 4), ((3, true, 1), 2)], ())) fun (y : List TFT1 × Bool × List TFT2 × Unit) => if (!y.2.1) = true then some ([], 230, ()) else some (y.1, 0, ())], amb (eqAs q3_.rs) [amb (eqAs q3_.rs) [Option.bind (q8_ (x, y.1, [((4, false, 3), 5), ((3, false, 1), 3), ((3, true, 1), 2), ((2, false, 0), 1), ((4, false, 2), 4)], ())) fun (y : List TFT1 × Bool × List TFT2 × Unit) => if (!y.2.1) = true then some ([], 230, ()) else some (y.1, 0, ()), Option.bind (q8_ (x, y.1, [((4, false, 3), 5), ((3, false, 1), 3), ((3, true, 1), 2), ((4, false, 2), 4), ((2, false, 0), 1)], ())) fun (y : List TFT1 × Bool × List TFT2 × Unit) => if (!y.2.1) = true then some ([], 230, ()) else some (y.1, 0, ())], amb (eqAs q3_.rs) [Option.bind (q8_ (x, y.1, [((4, false, 3), 5), ((3, false, 1), 3), ((4, false, 2), 4), ((2, false, 0), 1), ((3, true, 1), 2)], ())) fun (y : List TFT1 × Bool × List TFT2 × Unit) => if (!y.2.1) = true then some ([], 230, ()) else some (y.1, 0, ()), Option.bind (q8_ (x, y.1, [((4, false, 3), 5), ((3, false, 1), 3), ((4, false, 2), 4), ((3, true, 1), 2), ((2, false, 0), 1)], ())) fun (y : List TFT1 × Bool × List TFT2 × Unit) => if (!y.2.1) = true then some ([], 230, ()) else some (y.1, 0, ())]]], amb (eqAs q3_.rs) [amb (eqAs q3_.rs) [Option.bind (q8_ (x, y.1, [((4, false, 3), 5), ((4, false, 2), 4), ((2, false, 0), 1), ((3, true, 1), 2), ((3, false, 1), 3)], ())) fun (y : List TFT1 × Bool × List TFT2 × Unit) => if (!y.2.1) = true then some ([], 230, ()) else some (y.1, 0, ()), Option.bind (q8_ (x, y.1, [((4, false, 3), 5), ((4, false, 2), 4), ((2, false, 0), 1), ((3, false, 1), 3), ((3, true, 1), 2)], ())) fun (y : List TFT1 × Bool × List TFT2 × Unit) => if (!y.2.1) = true then some ([], 230, ()) else some (y.1, 0, ())], amb (eqAs q3_.rs) [amb (eqAs q3_.rs) [Option.bind (q8_ (x, y.1, [((4, false, 3), 5), ((4, false, 2), 4), ((3, true, 1), 2), ((2, false, 0), 1), ((3, false, 1), 3)], ())) fun (y : List TFT1 × Bool × List TFT2 × Unit) => if (!y.2.1) = true then some ([], 230, ()) else some (y.1, 0, ()), Option.bind (q8_ (x, y.1, [((4, false, 3), 5), ((4, false, 2), 4), ((3, true, 1), 2), ((3, false, 1), 3), ((2, false, 0), 1)], ())) fun (y : List TFT1 × Bool × List TFT2 × Unit) => if (!y.2.1) = true then some ([], 230, ()) else some (y.1, 0, ())], amb (eqAs q3_.rs) [Option.bind (q8_ (x, y.1, [((4, false, 3), 5), ((4, false, 2), 4), ((3, false, 1), 3), ((2, false, 0), 1), ((3, true, 1), 2)], ())) fun (y : List TFT1 × Bool × List TFT2 × Unit) => if (!y.2.1) = true then some ([], 230, ()) else some (y.1, 0, ()), Option.bind (q8_ (x, y.1, [((4, false, 3), 5), ((4, false, 2), 4), ((3, false, 1), 3), ((3, true, 1), 2), ((2, false, 0), 1)], ())) fun (y : List TFT1 × Bool × List TFT2 × Unit) => if (!y.2.1) = true then some ([], 230, ()) else some (y.1, 0, ())]]]]]]]]]]
def qk4_ (x : As [.sl TFT0, .pr (.int .u8) TFT3]) : Option (As [.sl TFT0, .int .i64]) := qjy_ x.1 x.2.1
theorem qo3_ : CtOk Tryd.prog I0 5 ⟨q3_, qk4_⟩ := ctn (env_cons qo6_ (env_cons qo8_ env_nil)) 6 fun J x => by kernel_rfl
@[reducible] def strings_HasPrefix_s : Sh := ⟨[.d (.str), .d (.str)], [], [.str, .str], [.d (.bool)], [], 0, [.bool]⟩
def strings_HasPrefix_m0 (s prefixV : List UInt8) : Option (As [.bool]) :=
  Option.bind (qd0_ (s, prefixV, ())) fun (y : Bool × Unit) => some (y.1, ())
def qd3_ (x : As [.str, .str]) : Option (As [.bool]) := strings_HasPrefix_m0 x.1 x.2.1
theorem strings_HasPrefix_ok : CtOk Tryd.prog I0 7 ⟨strings_HasPrefix_s, qd3_⟩ := ctn (env_cons qfc_ env_nil) 6 fun J x => by kernel_rfl
@[reducible] def istringslite_HasSuffix_s : Sh := ⟨[.d (.str), .d (.str)], [], [.str, .str], [.d (.bool)], [], 0, [.bool]⟩
def istringslite_HasSuffix_m0 (s suffix : List UInt8) : Option (As [.bool]) :=
  if ge (Int.ofNat (List.length s)) (Int.ofNat (List.length suffix)) = true then Option.bind (cut s (Sx.sub .i64 (Int.ofNat (List.length s)) (Int.ofNat (List.length suffix))) (Int.ofNat (List.length s))) fun (y : List UInt8) => some (eqs y suffix, ()) else some (false, ())
def istringslite_HasSuffix (x : As [.str, .str]) : Option (As [.bool]) := istringslite_HasSuffix_m0 x.1 x.2.1
theorem istringslite_HasSuffix_ok : CtOk Tryd.prog I0 22 ⟨istringslite_HasSuffix_s, istringslite_HasSuffix⟩ := ctn env_nil 6 fun J x => by kernel_rfl
@[reducible] def strings_HasSuffix_s : Sh := ⟨[.d (.str), .d (.str)], [], [.str, .str], [.d (.bool)], [], 0, [.bool]⟩
def strings_HasSuffix_m0 (s suffix : List UInt8) : Option (As [.bool]) :=
  Option.bind (istringslite_HasSuffix (s, suffix, ())) fun (y : Bool × Unit) => some (y.1, ())
def qd4_ (x : As [.str, .str]) : Option (As [.bool]) := strings_HasSuffix_m0 x.1 x.2.1
theorem strings_HasSuffix_ok : CtOk Tryd.prog I0 8 ⟨strings_HasSuffix_s, qd4_⟩ := ctn (env_cons istringslite_HasSuffix_ok env_nil) 6 fun J x => by kernel_rfl
@[reducible] def qgq_ : Sh := ⟨[.fn (.func 46) [] [.pb 0 0]], [.box 23 [.d (.sl (.int .u32))]], [.sl (.int .u32)], [.d (.sl (.int .u32))], [], 0, [.sl (.int .u32)]⟩
def qbg_ (seq : List Int) : Option (As [.sl (.int .u32)]) :=
  Option.bind (qcz_ (seq, ())) fun (y : List Int × Unit) => Option.bind (qbr_ (y.1, ())) fun (y : List Int × Unit) => some (y.1, ())
def qar_ (x : As [.sl (.int .u32)]) : Option (As [.sl (.int .u32)]) := qbg_ x.1
theorem qkd_ : CtOk Tryd.prog I0 24 ⟨qgq_, qar_⟩ := ctn (env_cons (ct_weak qk6_) (env_cons (ct_weak qle_) env_nil)) 6 fun J x => by kernel_rfl
@[reducible] def q8y_ : Sh := ⟨[.d (.sl TFT0), .d (.sl (.int .u32))], [], [.sl TFT0, .sl (.int .u32)], [.d (.str)], [], 0, [.str]⟩
def qbn_ : Env := (cts [(18, (⟨q8g_, qcl_⟩ : Ct)), (18, (⟨q8e_, q9k_⟩ : Ct)), (24, (⟨qgq_, qar_⟩ : Ct)), (26, (⟨qbp_, q9n_⟩ : Ct)), (29, (⟨qjg_, qav_⟩ : Ct))])
def qbf_ : List (Nat × Hint) := [(250, ⟨[.rwb 7 1 5, .slf 7 0], [6, 7, 14, 15, 16]⟩)]
def q9m_ (t14 : List TFT1) (t15 t16 : Int) (o : List Int) (b : Bool) (o_2 : List Int) : St := { fr := [(6, .fn (.func 26) [] [.pb 0 0]), (7, .pb 1 0), (14, .d (.sl TFT0) t14), (15, .d (.int .i64) t15), (16, .d (.int .i64) t16)], nt := 32, up := [], own := [(0, .box 23 [.d (.sl (.int .u32)) o]), (1, .box 66 [.opb b 1 0, .row 2]), (2, .row (.int .u8) 5 o_2)], nx := 3, log := [], ln := 0 }
def q9o_ (self1 : List TFT1 -> Int -> Int -> List Int -> Bool -> List Int -> Option (As [.str])) (t14 : List TFT1) (t15 t16 : Int) (o : List Int) (b : Bool) (o_2 : List Int) : Option (As [.str]) :=
  if lt t16 t15 = true then Option.bind (at? t14 t16) fun (y : Int × Int × List Int × Int) => Option.bind (qav_ (y.1, ())) fun (y_1 : List UInt8 × Unit) => if b = true then if b = true then need (small (List.length o_2 + List.length y_1.1)) (if b = true then if b = true then need (small (List.length (o_2 ++ List.map (fun (b : UInt8) => Int.ofNat (UInt8.toNat b)) y_1.1) + 1)) (Option.bind (q9k_ (y, o, ())) fun (y : List UInt8 × List Int × Unit) => if b = true then if b = true then need (small (List.length (o_2 ++ List.map (fun (b : UInt8) => Int.ofNat (UInt8.toNat b)) y_1.1 ++ [32]) + List.length y.1)) (if b = true then if b = true then need (small (List.length (o_2 ++ List.map (fun (b : UInt8) => Int.ofNat (UInt8.toNat b)) y_1.1 ++ [32] ++ List.map (fun (b : UInt8) => Int.ofNat (UInt8.toNat b)) y.1) + 1)) (self1 t14 t15 (add .i64 t16 1) y.2.1 b (o_2 ++ List.map (fun (b : UInt8) => Int.ofNat (UInt8.toNat b)) y_1.1 ++ [32] ++ List.map (fun (b : UInt8) => Int.ofNat (UInt8.toNat b)) y.1 ++ [10])) else Option.none else need (small (List.length (o_2 ++ List.map (fun (b : UInt8) => Int.ofNat (UInt8.toNat b)) y_1.1 ++ [32] ++ List.map (fun (b : UInt8) => Int.ofNat (UInt8.toNat b)) y.1) + 1)) (self1 t14 t15 (add .i64 t16 1) y.2.1 true (o_2 ++ List.map (fun (b : UInt8) => Int.ofNat (UInt8.toNat b)) y_1.1 ++ [32] ++ List.map (fun (b : UInt8) => Int.ofNat (UInt8.toNat b)) y.1 ++ [10]))) else Option.none else need (small (List.length (o_2 ++ List.map (fun (b : UInt8) => Int.ofNat (UInt8.toNat b)) y_1.1 ++ [32]) + List.length y.1)) (need (small (List.length (o_2 ++ List.map (fun (b : UInt8) => Int.ofNat (UInt8.toNat b)) y_1.1 ++ [32] ++ List.map (fun (b : UInt8) => Int.ofNat (UInt8.toNat b)) y.1) + 1)) (self1 t14 t15 (add .i64 t16 1) y.2.1 true (o_2 ++ List.map (fun (b : UInt8) => Int.ofNat (UInt8.toNat b)) y_1.1 ++ [32] ++ List.map (fun (b : UInt8) => Int.ofNat (UInt8.toNat b)) y.1 ++ [10])))) else Option.none else need (small (List.length (o_2 ++ List.map (fun (b : UInt8) => Int.ofNat (UInt8.toNat b)) y_1.1) + 1)) (Option.bind (q9k_ (y, o, ())) fun (y : List UInt8 × List Int × Unit) => need (small (List.length (o_2 ++ List.map (fun (b : UInt8) => Int.ofNat (UInt8.toNat b)) y_1.1 ++ [32]) + List.length y.1)) (need (small (List.length (o_2 ++ List.map (fun (b : UInt8) => Int.ofNat (UInt8.toNat b)) y_1.1 ++ [32] ++ List.map (fun (b : UInt8) => Int.ofNat (UInt8.toNat b)) y.1) + 1)) (self1 t14 t15 (add .i64 t16 1) y.2.1 true (o_2 ++ List.map (fun (b : UInt8) => Int.ofNat (UInt8.toNat b)) y_1.1 ++ [32] ++ List.map (fun (b : UInt8) => Int.ofNat (UInt8.toNat b)) y.1 ++ [10]))))) else Option.none else need (small (List.length o_2 + List.length y_1.1)) (need (small (List.length (o_2 ++ List.map (fun (b : UInt8) => Int.ofNat (UInt8.toNat b)) y_1.1) + 1)) (Option.bind (q9k_ (y, o, ())) fun (y : List UInt8 × List Int × Unit) => need (small (List.length (o_2 ++ List.map (fun (b : UInt8) => Int.ofNat (UInt8.toNat b)) y_1.1 ++ [32]) + List.length y.1)) (need (small (List.length (o_2 ++ List.map (fun (b : UInt8) => Int.ofNat (UInt8.toNat b)) y_1.1 ++ [32] ++ List.map (fun (b : UInt8) => Int.ofNat (UInt8.toNat b)) y.1) + 1)) (self1 t14 t15 (add .i64 t16 1) y.2.1 true (o_2 ++ List.map (fun (b : UInt8) => Int.ofNat (UInt8.toNat b)) y_1.1 ++ [32] ++ List.map (fun (b : UInt8) => Int.ofNat (UInt8.toNat b)) y.1 ++ [10]))))) else need (eqi (Int.ofNat (List.length o_2)) (Int.ofNat (List.length o_2))) (need (small (List.length o_2)) (need (Ev.u8s o_2) (some (Sx.toS o_2, ()))))
def qd1_ (j1 : List TFT1 -> Int -> Int -> List Int -> Bool -> List Int -> Option (As [.str])) (l : List TFT1) (waits : List Int) : Option (As [.str]) :=
  Option.bind (qar_ (waits, ())) fun (y : List Int × Unit) => j1 l (Int.ofNat (List.length l)) 0 y.1 false []
def qax_ (t14 : List TFT1) (t15 t16 : Int) (o : List Int) (b : Bool) (o_2 : List Int) : Option (As [.str]) :=
  loopF (fun (self : (List TFT1) × (Int) × (Int) × (List Int) × (Bool) × (List Int) -> Option (As [.str])) (s : (List TFT1) × (Int) × (Int) × (List Int) × (Bool) × (List Int)) => q9o_ (fun t14 t15 t16 o b o_2 => self (t14, t15, t16, o, b, o_2)) s.1 s.2.1 s.2.2.1 s.2.2.2.1 s.2.2.2.2.1 s.2.2.2.2.2) 18446744073709551616 (t14, t15, t16, o, b, o_2)
def qd7_ (x : As [.sl TFT0, .sl (.int .u32)]) : Option (As [.str]) := qd1_ qax_ x.1 x.2.1
theorem qmo_  (J w1 t14 t15 t16 o b o_2) : pfn Tryd.prog qbn_ 6 18446744073709551616 (Ev.get qbf_) 10 q8y_ J 250 [w1] (q9m_ t14 t15 t16 o b o_2) = q9o_ (fun t14 t15 t16 o b o_2 => w1 (q9m_ t14 t15 t16 o b o_2)) t14 t15 t16 o b o_2 := by kernel_rfl
theorem qml_ (J : Orc (As [.str])) (x : As [.sl TFT0, .sl (.int .u32)]) : rfn Tryd.prog qbn_ 6 18446744073709551616 (Ev.get qbf_) 10 q8y_ J x = qd1_ (fun t14 t15 t16 o b o_2 => J 250 [] (q9m_ t14 t15 t16 o b o_2)) x.1 x.2.1 := by kernel_rfl
theorem qmp_  (t14 t15 t16 o b o_2) : jfn Tryd.prog qbn_ 6 18446744073709551616 (Ev.get qbf_) 10 q8y_ 250 [] (q9m_ t14 t15 t16 o b o_2) = qax_ t14 t15 t16 o b o_2 := by
  rw [qo_ (by decide)]
  rw [q2u_ (by kernel_rfl)]
  refine q29_ (σ := (List TFT1) × (Int) × (Int) × (List Int) × (Bool) × (List Int)) (mk := fun s => q9m_ s.1 s.2.1 s.2.2.1 s.2.2.2.1 s.2.2.2.2.1 s.2.2.2.2.2) (fun w1 s => ?_) 18446744073709551616 (t14, t15, t16, o, b, o_2)
  refine (qmo_ _ w1 s.1 s.2.1 s.2.2.1 s.2.2.2.1 s.2.2.2.2.1 s.2.2.2.2.2).trans ?_
  rfl
theorem qmv_ (x : As [.sl TFT0, .sl (.int .u32)]) : evT Tryd.prog qbn_ 6 18446744073709551616 (Ev.get qbf_) 10 q8y_ x = qd7_ x := by
  have e1 : (fun t14 t15 t16 o b o_2 => (jfn Tryd.prog qbn_ 6 18446744073709551616 (Ev.get qbf_) 10 q8y_) 250 [] (q9m_ t14 t15 t16 o b o_2)) = qax_ := by funext t14 t15 t16 o b o_2; exact qmp_ t14 t15 t16 o b o_2
  rw [q56_, qml_, e1]
  rfl
theorem qmk_ : CtOk Tryd.prog I0 10 ⟨q8y_, qd7_⟩ := ct_of_ev (env_cons qjx_ (env_cons qjw_ (env_cons qkd_ (env_cons qdp_ (env_cons qkb_ env_nil))))) qmv_
end Go.Proofs.Lx
end
section
open Go Go.Proofs Ev Sx
set_option maxRecDepth 100000
namespace Go.Proofs.Lx
abbrev TGT0 : Type := (Int × Int × List Int × Int)
abbrev TGT1 : Ty := (.sl (.pr (.int .u32) (.pr (.int .u8) (.pr (.sl (.int .u8)) (.int .u8)))))
abbrev TGT2 : Type := (Int × Int × Int × Bool × List Int)
abbrev TGT3 : Ty := (.pr (.int .u8) (.pr (.int .u32) (.pr (.int .u8) (.pr .bool (.sl (.int .u8))))))
@[reducible] def qf_ : Sh := ⟨[.d (.sl TGT3), .d (.sl (.int .u32))], [], [.sl TGT3, .sl (.int .u32)], [.d (.bool)], [], 0, [.bool]⟩
def qg_ : Env := (cts [(4, (⟨qm1_, qba_⟩ : Ct)), (5, (⟨q3_, qk4_⟩ : Ct)), (6, (⟨qlz_, q8s_⟩ : Ct)), (7, (⟨strings_HasPrefix_s, qd3_⟩ : Ct)), (8, (⟨strings_HasSuffix_s, qd4_⟩ : Ct)), (9, (⟨strconv_FormatUint_s, q9a_⟩ : Ct)), (10, (⟨q8y_, qd7_⟩ : Ct))])
def qh_ : List (Nat × Hint) := [(15, ⟨[], [1, 5, 114, 115, 125, 126, 127, 128, 137, 138, 139, 140, 141, 142, 143, 162, 163, 164, 165, 168]⟩), (63, ⟨[], [1, 5, 15, 162, 163, 164, 165, 168]⟩), (506, ⟨[], [1, 5, 15, 100, 101, 102, 114, 115, 125, 126, 127, 128, 137, 138, 139, 140, 141, 142, 143, 162, 163, 164, 165, 168]⟩), (64819, ⟨[.agd 114 .str, .agd 115 .bool], [1, 5, 15, 17, 18, 19, 100, 101, 102]⟩), (259279, ⟨[], [1, 5, 15, 17, 18, 19, 20, 100, 101, 102, 114, 115, 125, 126, 127, 128, 137, 138, 139, 140, 141, 142, 143, 162, 163, 164, 165, 168]⟩), (1037118, ⟨[.agd 137 .bool, .agd 138 .bool, .agd 139 .str, .agd 140 .bool, .agd 141 .bool, .agd 142 .bool, .agd 143 .bool], [1, 5, 15, 17, 18, 100, 101, 102, 144]⟩), (2074234, ⟨[], [1, 5, 15, 17, 18, 19, 20, 100, 101, 102, 117, 118, 119]⟩), (122, ⟨[.agd 5 TGT1], [1, 5, 32, 33, 34]⟩), (501370, ⟨[], [1, 5, 8, 32, 33, 34, 51, 52, 53, 71, 72, 73, 74, 75, 76, 77, 80, 81, 82, 83, 84, 85, 86, 87, 88, 89, 90, 91, 92, 93, 114, 115, 125, 126, 127, 128, 137, 138, 139, 140, 141, 142, 143, 162, 163, 164, 165, 168]⟩), (64175411, ⟨[.agd 71 .str, .agd 72 .str, .agd 73 .bool, .agd 74 .bool, .agd 75 .str, .agd 76 .bool, .agd 77 .bool, .agd 80 .str, .agd 81 .bool, .agd 82 .bool, .agd 85 .bool, .agd 86 .bool, .agd 87 .str, .agd 88 .bool, .agd 89 .bool, .agd 92 .bool, .agd 93 .bool, .agd 90 .str, .agd 91 .bool, .agd 83 .str, .agd 84 .bool], [1, 5, 8, 14, 32, 33, 34, 51, 52, 53]⟩), (6, ⟨[], [0, 1, 30, 71, 72, 73, 74, 75, 76, 77, 80, 81, 82, 83, 84, 85, 86, 87, 88, 89, 90, 91, 92, 93, 114, 115, 125, 126, 127, 128, 137, 138, 139, 140, 141, 142, 143, 162, 163, 164, 165, 168]⟩)]
def qad_ (l : List TGT2) (waits : List Int) (t30 : Bool) : St := { fr := [(0, .d (.sl TGT3) l), (1, .d (.sl (.int .u32)) waits), (30, .d .bool t30)], nt := 170, up := [], own := [], nx := 0, log := [], ln := 0 }
def q2l_ (waits : List Int) (jobs : List TGT0) (t32 : List TGT2) (t33 t34 : Int) : St := { fr := [(1, .d (.sl (.int .u32)) waits), (5, .d TGT1 jobs), (32, .d (.sl TGT3) t32), (33, .d (.int .i64) t33), (34, .d (.int .i64) t34)], nt := 170, up := [], own := [], nx := 0, log := [], ln := 0 }
def q4e_ (waits : List Int) (jobs next : List TGT0) (t32 : List TGT2) (t33 t34 : Int) (t51 : List TGT0) (t52 t53 : Int) : St := { fr := [(1, .d (.sl (.int .u32)) waits), (5, .d TGT1 jobs), (8, .d TGT1 next), (32, .d (.sl TGT3) t32), (33, .d (.int .i64) t33), (34, .d (.int .i64) t34), (51, .d TGT1 t51), (52, .d (.int .i64) t52), (53, .d (.int .i64) t53)], nt := 170, up := [], own := [], nx := 0, log := [], ln := 0 }
def qa8_ (waits : List Int) (jobs : List TGT0) : St := { fr := [(1, .d (.sl (.int .u32)) waits), (5, .d TGT1 jobs)], nt := 170, up := [], own := [], nx := 0, log := [], ln := 0 }
def qa7_ (waits : List Int) (jobs next : List TGT0) (fine : Bool) (t32 : List TGT2) (t33 t34 : Int) (t51 : List TGT0) (t52 t53 : Int) : St := { fr := [(1, .d (.sl (.int .u32)) waits), (5, .d TGT1 jobs), (8, .d TGT1 next), (14, .d .bool fine), (32, .d (.sl TGT3) t32), (33, .d (.int .i64) t33), (34, .d (.int .i64) t34), (51, .d TGT1 t51), (52, .d (.int .i64) t52), (53, .d (.int .i64) t53)], nt := 170, up := [], own := [], nx := 0, log := [], ln := 0 }
def qz_ (waits : List Int) (jobs : List TGT0) (want : List UInt8) (t100 : List TGT0) (t101 t102 : Int) : St := { fr := [(1, .d (.sl (.int .u32)) waits), (5, .d TGT1 jobs), (15, .d .str want), (100, .d TGT1 t100), (101, .d (.int .i64) t101), (102, .d (.int .i64) t102)], nt := 170, up := [], own := [], nx := 0, log := [], ln := 0 }
def qa4_ (waits : List Int) (jobs : List TGT0) (want told : List UInt8) (openV : Bool) (t100 : List TGT0) (t101 t102 : Int) (j : Int × Int × List Int × Int) : St := { fr := [(1, .d (.sl (.int .u32)) waits), (5, .d TGT1 jobs), (15, .d .str want), (17, .pb 0 0), (18, .d .str told), (19, .d .bool openV), (100, .d TGT1 t100), (101, .d (.int .i64) t101), (102, .d (.int .i64) t102)], nt := 170, up := [], own := [(0, .box 34 [.d (.int .u32) j.1, .d (.int .u8) j.2.1, .d (.sl (.int .u8)) j.2.2.1, .d (.int .u8) j.2.2.2])], nx := 1, log := [], ln := 0 }
def qa5_ (waits : List Int) (jobs : List TGT0) (want : List UInt8) : St := { fr := [(1, .d (.sl (.int .u32)) waits), (5, .d TGT1 jobs), (15, .d .str want)], nt := 170, up := [], own := [], nx := 0, log := [], ln := 0 }
def q7u_ (waits : List Int) (jobs : List TGT0) (want told : List UInt8) (openV in' : Bool) (t100 : List TGT0) (t101 t102 : Int) (t117 : List Int) (t118 t119 : Int) (j : Int × Int × List Int × Int) : St := { fr := [(1, .d (.sl (.int .u32)) waits), (5, .d TGT1 jobs), (15, .d .str want), (17, .pb 0 0), (18, .d .str told), (19, .d .bool openV), (20, .d .bool in'), (100, .d TGT1 t100), (101, .d (.int .i64) t101), (102, .d (.int .i64) t102), (117, .d (.sl (.int .u32)) t117), (118, .d (.int .i64) t118), (119, .d (.int .i64) t119)], nt := 170, up := [], own := [(0, .box 34 [.d (.int .u32) j.1, .d (.int .u8) j.2.1, .d (.sl (.int .u8)) j.2.2.1, .d (.int .u8) j.2.2.2])], nx := 1, log := [], ln := 0 }
def q9s_ (waits : List Int) (jobs : List TGT0) (want told : List UInt8) (openV in' : Bool) (t100 : List TGT0) (t101 t102 : Int) (j : Int × Int × List Int × Int) : St := { fr := [(1, .d (.sl (.int .u32)) waits), (5, .d TGT1 jobs), (15, .d .str want), (17, .pb 0 0), (18, .d .str told), (19, .d .bool openV), (20, .d .bool in'), (100, .d TGT1 t100), (101, .d (.int .i64) t101), (102, .d (.int .i64) t102)], nt := 170, up := [], own := [(0, .box 34 [.d (.int .u32) j.1, .d (.int .u8) j.2.1, .d (.sl (.int .u8)) j.2.2.1, .d (.int .u8) j.2.2.2])], nx := 1, log := [], ln := 0 }
def q9r_ (waits : List Int) (jobs : List TGT0) (want told : List UInt8) (t100 : List TGT0) (t101 t102 : Int) (t144 : Bool) (j : Int × Int × List Int × Int) : St := { fr := [(1, .d (.sl (.int .u32)) waits), (5, .d TGT1 jobs), (15, .d .str want), (17, .pb 0 0), (18, .d .str told), (100, .d TGT1 t100), (101, .d (.int .i64) t101), (102, .d (.int .i64) t102), (144, .d .bool t144)], nt := 170, up := [], own := [(0, .box 34 [.d (.int .u32) j.1, .d (.int .u8) j.2.1, .d (.sl (.int .u8)) j.2.2.1, .d (.int .u8) j.2.2.2])], nx := 1, log := [], ln := 0 }
def qa6_ (j2 : List Int -> List TGT0 -> List TGT2 -> Int -> Int -> Option (As [.bool])) (l : List TGT2) (waits : List Int) (t30 : Bool) : Option (As [.bool]) :=
  if t30 = true then Option.bind (qba_ ()) fun (y : Bool × Unit) => some (y.1, ()) else j2 waits [] l (Int.ofNat (List.length l)) 0
def qaa_ (j3 : List Int -> List TGT0 -> List TGT0 -> List TGT2 -> Int -> Int -> List TGT0 -> Int -> Int -> Option (As [.bool])) (j4 : List Int -> List TGT0 -> Option (As [.bool])) (self2 : List Int -> List TGT0 -> List TGT2 -> Int -> Int -> Option (As [.bool])) (waits : List Int) (jobs : List TGT0) (t32 : List TGT2) (t33 t34 : Int) : Option (As [.bool]) :=
  if lt t34 t33 = true then Option.bind (at? t32 t34) fun (y : Int × Int × Int × Bool × List Int) => if gt (Int.ofNat (List.length y.2.2.2.2)) 300 = true then Option.bind (qba_ ()) fun (y : Bool × Unit) => some (y.1, ()) else Option.bind (qk4_ (jobs, y, ())) fun (y : List TGT0 × Int × Unit) => if nei y.2.1 0 = true then self2 waits jobs t32 t33 (add .i64 t34 1) else j3 waits jobs y.1 t32 t33 t34 jobs (Int.ofNat (List.length jobs)) 0 else j4 waits jobs
def q7p_ (j5 : List Int -> List TGT0 -> List TGT0 -> Bool -> List TGT2 -> Int -> Int -> List TGT0 -> Int -> Int -> Option (As [.bool])) (self2 : List Int -> List TGT0 -> List TGT2 -> Int -> Int -> Option (As [.bool])) (self3 : List Int -> List TGT0 -> List TGT0 -> List TGT2 -> Int -> Int -> List TGT0 -> Int -> Int -> Option (As [.bool])) (waits : List Int) (jobs next : List TGT0) (t32 : List TGT2) (t33 t34 : Int) (t51 : List TGT0) (t52 t53 : Int) : Option (As [.bool]) :=
  if lt t53 t52 = true then Option.bind (at? t51 t53) fun (y : Int × Int × List Int × Int) => Option.bind (q8s_ (jobs, waits, y.1, ())) fun (y_1 : List UInt8 × Unit) => Option.bind (q8s_ (next, waits, y.1, ())) fun (y : List UInt8 × Unit) => if eqs y_1.1 y.1 = true then j5 waits jobs next true t32 t33 t34 t51 t52 t53 else Option.bind (qd3_ (y.1, y_1.1, ())) fun (y_2 : Bool × Unit) => if y_2.1 = true then Option.bind (qd4_ (y.1, [32, 100, 111, 110, 101], ())) fun (y_3 : Bool × Unit) => if y_3.1 = true then j5 waits jobs next true t32 t33 t34 t51 t52 t53 else if eqs y_1.1 [119, 97, 105, 116, 105, 110, 103] = true then if eqs y.1 [99, 111, 109, 109, 105, 116, 116, 101, 100] = true then j5 waits jobs next true t32 t33 t34 t51 t52 t53 else j5 waits jobs next (eqs y.1 [97, 98, 111, 114, 116, 101, 100]) t32 t33 t34 t51 t52 t53 else if eqs y_1.1 [114, 117, 110, 110, 105, 110, 103] = true then if eqs y.1 [99, 111, 109, 109, 105, 116, 116, 101, 100] = true then j5 waits jobs next true t32 t33 t34 t51 t52 t53 else j5 waits jobs next (eqs y.1 [97, 98, 111, 114, 116, 101, 100]) t32 t33 t34 t51 t52 t53 else j5 waits jobs next false t32 t33 t34 t51 t52 t53 else if eqs y_1.1 [119, 97, 105, 116, 105, 110, 103] = true then if eqs y.1 [99, 111, 109, 109, 105, 116, 116, 101, 100] = true then j5 waits jobs next true t32 t33 t34 t51 t52 t53 else j5 waits jobs next (eqs y.1 [97, 98, 111, 114, 116, 101, 100]) t32 t33 t34 t51 t52 t53 else if eqs y_1.1 [114, 117, 110, 110, 105, 110, 103] = true then if eqs y.1 [99, 111, 109, 109, 105, 116, 116, 101, 100] = true then j5 waits jobs next true t32 t33 t34 t51 t52 t53 else j5 waits jobs next (eqs y.1 [97, 98, 111, 114, 116, 101, 100]) t32 t33 t34 t51 t52 t53 else j5 waits jobs next false t32 t33 t34 t51 t52 t53 else self2 waits next t32 t33 (add .i64 t34 1)
def qcx_ (j6 : List Int -> List TGT0 -> List UInt8 -> List TGT0 -> Int -> Int -> Option (As [.bool])) (waits : List Int) (jobs : List TGT0) : Option (As [.bool]) :=
  j6 waits jobs [] jobs (Int.ofNat (List.length jobs)) 0
def qcu_ (self2 : List Int -> List TGT0 -> List TGT2 -> Int -> Int -> Option (As [.bool])) (self3 : List Int -> List TGT0 -> List TGT0 -> List TGT2 -> Int -> Int -> List TGT0 -> Int -> Int -> Option (As [.bool])) (waits : List Int) (jobs next : List TGT0) (fine : Bool) (t32 : List TGT2) (t33 t34 : Int) (t51 : List TGT0) (t52 t53 : Int) : Option (As [.bool]) :=
  if (!fine) = true then some (false, ()) else self3 waits jobs next t32 t33 t34 t51 t52 (add .i64 t53 1)
def q7q_ (j7 : List Int -> List TGT0 -> List UInt8 -> List UInt8 -> Bool -> List TGT0 -> Int -> Int -> Int × Int × List Int × Int -> Option (As [.bool])) (j8 : List Int -> List TGT0 -> List UInt8 -> Option (As [.bool])) (self6 : List Int -> List TGT0 -> List UInt8 -> List TGT0 -> Int -> Int -> Option (As [.bool])) (waits : List Int) (jobs : List TGT0) (want : List UInt8) (t100 : List TGT0) (t101 t102 : Int) : Option (As [.bool]) :=
  if lt t102 t101 = true then Option.bind (at? t100 t102) fun (y : Int × Int × List Int × Int) => Option.bind (q8s_ (jobs, waits, y.1, ())) fun (y_1 : List UInt8 × Unit) => if eqs y_1.1 [119, 97, 105, 116, 105, 110, 103] = true then j7 waits jobs want y_1.1 true t100 t101 t102 y else j7 waits jobs want y_1.1 (eqs y_1.1 [114, 117, 110, 110, 105, 110, 103]) t100 t101 t102 y else j8 waits jobs want
def qcv_ (j9 : List Int -> List TGT0 -> List UInt8 -> List UInt8 -> Bool -> Bool -> List TGT0 -> Int -> Int -> List Int -> Int -> Int -> Int × Int × List Int × Int -> Option (As [.bool])) (self6 : List Int -> List TGT0 -> List UInt8 -> List TGT0 -> Int -> Int -> Option (As [.bool])) (waits : List Int) (jobs : List TGT0) (want told : List UInt8) (openV : Bool) (t100 : List TGT0) (t101 t102 : Int) (j : Int × Int × List Int × Int) : Option (As [.bool]) :=
  j9 waits jobs want told openV false t100 t101 t102 waits (Int.ofNat (List.length waits)) 0 j
def qcy_ (waits : List Int) (jobs : List TGT0) (want : List UInt8) : Option (As [.bool]) :=
  Option.bind (qd7_ (jobs, waits, ())) fun (y : List UInt8 × Unit) => if eqs y.1 want = true then Option.bind (q8s_ (jobs, waits, 0, ())) fun (y : List UInt8 × Unit) => if eqs y.1 [117, 110, 107, 110, 111, 119, 110] = true then Option.bind (qba_ ()) fun (y : Bool × Unit) => some (y.1, ()) else some (false, ()) else some (false, ())
def q7r_ (j10 : List Int -> List TGT0 -> List UInt8 -> List UInt8 -> Bool -> Bool -> List TGT0 -> Int -> Int -> Int × Int × List Int × Int -> Option (As [.bool])) (self6 : List Int -> List TGT0 -> List UInt8 -> List TGT0 -> Int -> Int -> Option (As [.bool])) (self9 : List Int -> List TGT0 -> List UInt8 -> List UInt8 -> Bool -> Bool -> List TGT0 -> Int -> Int -> List Int -> Int -> Int -> Int × Int × List Int × Int -> Option (As [.bool])) (waits : List Int) (jobs : List TGT0) (want told : List UInt8) (openV in' : Bool) (t100 : List TGT0) (t101 t102 : Int) (t117 : List Int) (t118 t119 : Int) (j : Int × Int × List Int × Int) : Option (As [.bool]) :=
  if lt t119 t118 = true then Option.bind (at? t117 t119) fun (y : Int) => if in' = true then self9 waits jobs want told openV true t100 t101 t102 t117 t118 (add .i64 t119 1) j else self9 waits jobs want told openV (eqi y j.1) t100 t101 t102 t117 t118 (add .i64 t119 1) j else j10 waits jobs want told openV in' t100 t101 t102 j
def q8b_ (j11 : List Int -> List TGT0 -> List UInt8 -> List UInt8 -> List TGT0 -> Int -> Int -> Bool -> Int × Int × List Int × Int -> Option (As [.bool])) (self6 : List Int -> List TGT0 -> List UInt8 -> List TGT0 -> Int -> Int -> Option (As [.bool])) (waits : List Int) (jobs : List TGT0) (want told : List UInt8) (openV in' : Bool) (t100 : List TGT0) (t101 t102 : Int) (j : Int × Int × List Int × Int) : Option (As [.bool]) :=
  if Sx.neb openV (eqi j.2.2.2 1) = true then j11 waits jobs want told t100 t101 t102 true j else if openV = true then j11 waits jobs want told t100 t101 t102 (Sx.neb (eqs told [119, 97, 105, 116, 105, 110, 103]) in') j else j11 waits jobs want told t100 t101 t102 false j
def qbw_ (self6 : List Int -> List TGT0 -> List UInt8 -> List TGT0 -> Int -> Int -> Option (As [.bool])) (waits : List Int) (jobs : List TGT0) (want told : List UInt8) (t100 : List TGT0) (t101 t102 : Int) (t144 : Bool) (j : Int × Int × List Int × Int) : Option (As [.bool]) :=
  if t144 = true then some (false, ()) else Option.bind (q9a_ (cvt .u64 j.1, 10, ())) fun (y : List UInt8 × Unit) => need (small (List.length y.1 + 1)) (need (small (List.length (y.1 ++ [32]) + List.length told)) (need (small (List.length (y.1 ++ [32] ++ told) + 1)) (need (small (List.length want + List.length (y.1 ++ [32] ++ told ++ [10]))) (self6 waits jobs (want ++ (y.1 ++ [32] ++ told ++ [10])) t100 t101 (add .i64 t102 1)))))
def qab_ (j1 : List TGT2 -> List Int -> Bool -> Option (As [.bool])) (l : List TGT2) (waits : List Int) : Option (As [.bool]) :=
  if gt (Int.ofNat (List.length l)) 80 = true then j1 l waits true else j1 l waits (gt (Int.ofNat (List.length waits)) 60)
def q8w_ (u2 : List Int -> List TGT0 -> List TGT2 -> Int -> Int -> Option (As [.bool])) (u3 : List Int -> List TGT0 -> List TGT0 -> List TGT2 -> Int -> Int -> List TGT0 -> Int -> Int -> Option (As [.bool])) (waits : List Int) (jobs next : List TGT0) (fine : Bool) (t32 : List TGT2) (t33 t34 : Int) (t51 : List TGT0) (t52 t53 : Int) : Option (As [.bool]) := qcu_ u2 u3 waits jobs next fine t32 t33 t34 t51 t52 t53
def q8u_ (u2 : List Int -> List TGT0 -> List TGT2 -> Int -> Int -> Option (As [.bool])) (waits : List Int) (jobs next : List TGT0) (t32 : List TGT2) (t33 t34 : Int) (t51 : List TGT0) (t52 t53 : Int) : Option (As [.bool]) :=
  loopF (fun (self : (List Int) × (List TGT0) × (List TGT0) × (List TGT2) × (Int) × (Int) × (List TGT0) × (Int) × (Int) -> Option (As [.bool])) (s : (List Int) × (List TGT0) × (List TGT0) × (List TGT2) × (Int) × (Int) × (List TGT0) × (Int) × (Int)) => q7p_ (q8w_ u2 (fun waits jobs next t32 t33 t34 t51 t52 t53 => self (waits, jobs, next, t32, t33, t34, t51, t52, t53))) u2 (fun waits jobs next t32 t33 t34 t51 t52 t53 => self (waits, jobs, next, t32, t33, t34, t51, t52, t53)) s.1 s.2.1 s.2.2.1 s.2.2.2.1 s.2.2.2.2.1 s.2.2.2.2.2.1 s.2.2.2.2.2.2.1 s.2.2.2.2.2.2.2.1 s.2.2.2.2.2.2.2.2) 18446744073709551616 (waits, jobs, next, t32, t33, t34, t51, t52, t53)
def q8d_ (u6 : List Int -> List TGT0 -> List UInt8 -> List TGT0 -> Int -> Int -> Option (As [.bool])) (waits : List Int) (jobs : List TGT0) (want told : List UInt8) (t100 : List TGT0) (t101 t102 : Int) (t144 : Bool) (j : Int × Int × List Int × Int) : Option (As [.bool]) := qbw_ u6 waits jobs want told t100 t101 t102 t144 j
def q3v_ (u6 : List Int -> List TGT0 -> List UInt8 -> List TGT0 -> Int -> Int -> Option (As [.bool])) (waits : List Int) (jobs : List TGT0) (want told : List UInt8) (openV in' : Bool) (t100 : List TGT0) (t101 t102 : Int) (j : Int × Int × List Int × Int) : Option (As [.bool]) := q8b_ (q8d_ u6) u6 waits jobs want told openV in' t100 t101 t102 j
def q8o_ (u6 : List Int -> List TGT0 -> List UInt8 -> List TGT0 -> Int -> Int -> Option (As [.bool])) (waits : List Int) (jobs : List TGT0) (want told : List UInt8) (openV in' : Bool) (t100 : List TGT0) (t101 t102 : Int) (t117 : List Int) (t118 t119 : Int) (j : Int × Int × List Int × Int) : Option (As [.bool]) :=
  loopF (fun (self : (List Int) × (List TGT0) × (List UInt8) × (List UInt8) × (Bool) × (Bool) × (List TGT0) × (Int) × (Int) × (List Int) × (Int) × (Int) × TGT0 -> Option (As [.bool])) (s : (List Int) × (List TGT0) × (List UInt8) × (List UInt8) × (Bool) × (Bool) × (List TGT0) × (Int) × (Int) × (List Int) × (Int) × (Int) × TGT0) => q7r_ (q3v_ u6) u6 (fun waits jobs want told openV in' t100 t101 t102 t117 t118 t119 j => self (waits, jobs, want, told, openV, in', t100, t101, t102, t117, t118, t119, j)) s.1 s.2.1 s.2.2.1 s.2.2.2.1 s.2.2.2.2.1 s.2.2.2.2.2.1 s.2.2.2.2.2.2.1 s.2.2.2.2.2.2.2.1 s.2.2.2.2.2.2.2.2.1 s.2.2.2.2.2.2.2.2.2.1 s.2.2.2.2.2.2.2.2.2.2.1 s.2.2.2.2.2.2.2.2.2.2.2.1 s.2.2.2.2.2.2.2.2.2.2.2.2) 18446744073709551616 (waits, jobs, want, told, openV, in', t100, t101, t102, t117, t118, t119, j)
def q8v_ (u6 : List Int -> List TGT0 -> List UInt8 -> List TGT0 -> Int -> Int -> Option (As [.bool])) (waits : List Int) (jobs : List TGT0) (want told : List UInt8) (openV : Bool) (t100 : List TGT0) (t101 t102 : Int) (j : Int × Int × List Int × Int) : Option (As [.bool]) := qcv_ (q8o_ u6) u6 waits jobs want told openV t100 t101 t102 j
def q8t_ (waits : List Int) (jobs : List TGT0) (want : List UInt8) : Option (As [.bool]) := qcy_ waits jobs want
def qa9_ (waits : List Int) (jobs : List TGT0) (want : List UInt8) (t100 : List TGT0) (t101 t102 : Int) : Option (As [.bool]) :=
  loopF (fun (self : (List Int) × (List TGT0) × (List UInt8) × (List TGT0) × (Int) × (Int) -> Option (As [.bool])) (s : (List Int) × (List TGT0) × (List UInt8) × (List TGT0) × (Int) × (Int)) => q7q_ (q8v_ (fun waits jobs want t100 t101 t102 => self (waits, jobs, want, t100, t101, t102))) (q8t_) (fun waits jobs want t100 t101 t102 => self (waits, jobs, want, t100, t101, t102)) s.1 s.2.1 s.2.2.1 s.2.2.2.1 s.2.2.2.2.1 s.2.2.2.2.2) 18446744073709551616 (waits, jobs, want, t100, t101, t102)
def q8p_ (waits : List Int) (jobs : List TGT0) : Option (As [.bool]) := qcx_ (qa9_) waits jobs
def q8n_ (waits : List Int) (jobs : List TGT0) (t32 : List TGT2) (t33 t34 : Int) : Option (As [.bool]) :=
  loopF (fun (self : (List Int) × (List TGT0) × (List TGT2) × (Int) × (Int) -> Option (As [.bool])) (s : (List Int) × (List TGT0) × (List TGT2) × (Int) × (Int)) => qaa_ (q8u_ (fun waits jobs t32 t33 t34 => self (waits, jobs, t32, t33, t34))) (q8p_) (fun waits jobs t32 t33 t34 => self (waits, jobs, t32, t33, t34)) s.1 s.2.1 s.2.2.1 s.2.2.2.1 s.2.2.2.2) 18446744073709551616 (waits, jobs, t32, t33, t34)
def q69_ (l : List TGT2) (waits : List Int) (t30 : Bool) : Option (As [.bool]) := qa6_ (q8n_) l waits t30
def qbs_ (x : As [.sl TGT3, .sl (.int .u32)]) : Option (As [.bool]) := qab_ q69_ x.1 x.2.1
theorem ql2_  (J w2 w3 waits jobs next fine t32 t33 t34 t51 t52 t53) : pfn Tryd.prog qg_ 6 18446744073709551616 (Ev.get qh_) 3 qf_ J 64175411 [w2, w3] (qa7_ waits jobs next fine t32 t33 t34 t51 t52 t53) = qcu_ (fun waits jobs t32 t33 t34 => w2 (q2l_ waits jobs t32 t33 t34)) (fun waits jobs next t32 t33 t34 t51 t52 t53 => w3 (q4e_ waits jobs next t32 t33 t34 t51 t52 t53)) waits jobs next fine t32 t33 t34 t51 t52 t53 := by kernel_rfl
theorem ql1_  (J w2 w3 waits jobs next t32 t33 t34 t51 t52 t53) : pfn Tryd.prog qg_ 6 18446744073709551616 (Ev.get qh_) 3 qf_ J 501370 [w2, w3] (q4e_ waits jobs next t32 t33 t34 t51 t52 t53) = q7p_ (fun waits jobs next fine t32 t33 t34 t51 t52 t53 => J 64175411 [w2, w3] (qa7_ waits jobs next fine t32 t33 t34 t51 t52 t53)) (fun waits jobs t32 t33 t34 => w2 (q2l_ waits jobs t32 t33 t34)) (fun waits jobs next t32 t33 t34 t51 t52 t53 => w3 (q4e_ waits jobs next t32 t33 t34 t51 t52 t53)) waits jobs next t32 t33 t34 t51 t52 t53 := by kernel_rfl
theorem qkm_  (J w6 waits jobs want told t100 t101 t102 t144 j) : pfn Tryd.prog qg_ 6 18446744073709551616 (Ev.get qh_) 3 qf_ J 1037118 [w6] (q9r_ waits jobs want told t100 t101 t102 t144 j) = qbw_ (fun waits jobs want t100 t101 t102 => w6 (qz_ waits jobs want t100 t101 t102)) waits jobs want told t100 t101 t102 t144 j := by kernel_rfl
theorem qkh_  (J w6 waits jobs want told openV in' t100 t101 t102 j) : pfn Tryd.prog qg_ 6 18446744073709551616 (Ev.get qh_) 3 qf_ J 259279 [w6] (q9s_ waits jobs want told openV in' t100 t101 t102 j) = q8b_ (fun waits jobs want told t100 t101 t102 t144 j => J 1037118 [w6] (q9r_ waits jobs want told t100 t101 t102 t144 j)) (fun waits jobs want t100 t101 t102 => w6 (qz_ waits jobs want t100 t101 t102)) waits jobs want told openV in' t100 t101 t102 j := by kernel_rfl
theorem qlj_  (J w6 w9 waits jobs want told openV in' t100 t101 t102 t117 t118 t119 j) : pfn Tryd.prog qg_ 6 18446744073709551616 (Ev.get qh_) 3 qf_ J 2074234 [w6, w9] (q7u_ waits jobs want told openV in' t100 t101 t102 t117 t118 t119 j) = q7r_ (fun waits jobs want told openV in' t100 t101 t102 j => J 259279 [w6] (q9s_ waits jobs want told openV in' t100 t101 t102 j)) (fun waits jobs want t100 t101 t102 => w6 (qz_ waits jobs want t100 t101 t102)) (fun waits jobs want told openV in' t100 t101 t102 t117 t118 t119 j => w9 (q7u_ waits jobs want told openV in' t100 t101 t102 t117 t118 t119 j)) waits jobs want told openV in' t100 t101 t102 t117 t118 t119 j := by kernel_rfl
theorem qlc_  (J w6 waits jobs want told openV t100 t101 t102 j) : pfn Tryd.prog qg_ 6 18446744073709551616 (Ev.get qh_) 3 qf_ J 64819 [w6] (qa4_ waits jobs want told openV t100 t101 t102 j) = qcv_ (fun waits jobs want told openV in' t100 t101 t102 t117 t118 t119 j => J 2074234 [w6] (q7u_ waits jobs want told openV in' t100 t101 t102 t117 t118 t119 j)) (fun waits jobs want t100 t101 t102 => w6 (qz_ waits jobs want t100 t101 t102)) waits jobs want told openV t100 t101 t102 j := by kernel_rfl
theorem ql0_  (J waits jobs want) : pfn Tryd.prog qg_ 6 18446744073709551616 (Ev.get qh_) 3 qf_ J 63 [] (qa5_ waits jobs want) = qcy_ waits jobs want := by kernel_rfl
theorem ql7_  (J w6 waits jobs want t100 t101 t102) : pfn Tryd.prog qg_ 6 18446744073709551616 (Ev.get qh_) 3 qf_ J 506 [w6] (qz_ waits jobs want t100 t101 t102) = q7q_ (fun waits jobs want told openV t100 t101 t102 j => J 64819 [w6] (qa4_ waits jobs want told openV t100 t101 t102 j)) (fun waits jobs want => J 63 [] (qa5_ waits jobs want)) (fun waits jobs want t100 t101 t102 => w6 (qz_ waits jobs want t100 t101 t102)) waits jobs want t100 t101 t102 := by kernel_rfl
theorem qlb_  (J waits jobs) : pfn Tryd.prog qg_ 6 18446744073709551616 (Ev.get qh_) 3 qf_ J 15 [] (qa8_ waits jobs) = qcx_ (fun waits jobs want t100 t101 t102 => J 506 [] (qz_ waits jobs want t100 t101 t102)) waits jobs := by kernel_rfl
theorem qld_  (J w2 waits jobs t32 t33 t34) : pfn Tryd.prog qg_ 6 18446744073709551616 (Ev.get qh_) 3 qf_ J 122 [w2] (q2l_ waits jobs t32 t33 t34) = qaa_ (fun waits jobs next t32 t33 t34 t51 t52 t53 => J 501370 [w2] (q4e_ waits jobs next t32 t33 t34 t51 t52 t53)) (fun waits jobs => J 15 [] (qa8_ waits jobs)) (fun waits jobs t32 t33 t34 => w2 (q2l_ waits jobs t32 t33 t34)) waits jobs t32 t33 t34 := by kernel_rfl
theorem ql6_  (J l waits t30) : pfn Tryd.prog qg_ 6 18446744073709551616 (Ev.get qh_) 3 qf_ J 6 [] (qad_ l waits t30) = qa6_ (fun waits jobs t32 t33 t34 => J 122 [] (q2l_ waits jobs t32 t33 t34)) l waits t30 := by kernel_rfl
theorem ql4_ (J : Orc (As [.bool])) (x : As [.sl TGT3, .sl (.int .u32)]) : rfn Tryd.prog qg_ 6 18446744073709551616 (Ev.get qh_) 3 qf_ J x = qab_ (fun l waits t30 => J 6 [] (qad_ l waits t30)) x.1 x.2.1 := by kernel_rfl
theorem qll_  (w2 w3 waits jobs next fine t32 t33 t34 t51 t52 t53) : jfn Tryd.prog qg_ 6 18446744073709551616 (Ev.get qh_) 3 qf_ 64175411 [w2, w3] (qa7_ waits jobs next fine t32 t33 t34 t51 t52 t53) = q8w_ (fun waits jobs t32 t33 t34 => w2 (q2l_ waits jobs t32 t33 t34)) (fun waits jobs next t32 t33 t34 t51 t52 t53 => w3 (q4e_ waits jobs next t32 t33 t34 t51 t52 t53)) waits jobs next fine t32 t33 t34 t51 t52 t53 := by
  rw [qo_ (by decide)]
  rw [ql2_]
  rfl
theorem ql9_  (w2 waits jobs next t32 t33 t34 t51 t52 t53) : jfn Tryd.prog qg_ 6 18446744073709551616 (Ev.get qh_) 3 qf_ 501370 [w2] (q4e_ waits jobs next t32 t33 t34 t51 t52 t53) = q8u_ (fun waits jobs t32 t33 t34 => w2 (q2l_ waits jobs t32 t33 t34)) waits jobs next t32 t33 t34 t51 t52 t53 := by
  rw [qo_ (by decide)]
  rw [q2u_ (by kernel_rfl)]
  refine q29_ (σ := (List Int) × (List TGT0) × (List TGT0) × (List TGT2) × (Int) × (Int) × (List TGT0) × (Int) × (Int)) (mk := fun s => q4e_ s.1 s.2.1 s.2.2.1 s.2.2.2.1 s.2.2.2.2.1 s.2.2.2.2.2.1 s.2.2.2.2.2.2.1 s.2.2.2.2.2.2.2.1 s.2.2.2.2.2.2.2.2) (fun w3 s => ?_) 18446744073709551616 (waits, jobs, next, t32, t33, t34, t51, t52, t53)
  have e5 : (fun waits jobs next fine t32 t33 t34 t51 t52 t53 => (jfn Tryd.prog qg_ 6 18446744073709551616 (Ev.get qh_) 3 qf_) 64175411 [w2, w3] (qa7_ waits jobs next fine t32 t33 t34 t51 t52 t53)) = q8w_ (fun waits jobs t32 t33 t34 => w2 (q2l_ waits jobs t32 t33 t34)) (fun waits jobs next t32 t33 t34 t51 t52 t53 => w3 (q4e_ waits jobs next t32 t33 t34 t51 t52 t53)) := by funext waits jobs next fine t32 t33 t34 t51 t52 t53; exact qll_ w2 w3 waits jobs next fine t32 t33 t34 t51 t52 t53
  refine (ql1_ _ w2 w3 s.1 s.2.1 s.2.2.1 s.2.2.2.1 s.2.2.2.2.1 s.2.2.2.2.2.1 s.2.2.2.2.2.2.1 s.2.2.2.2.2.2.2.1 s.2.2.2.2.2.2.2.2).trans ?_
  rw [e5]
theorem qkg_  (w6 waits jobs want told t100 t101 t102 t144 j) : jfn Tryd.prog qg_ 6 18446744073709551616 (Ev.get qh_) 3 qf_ 1037118 [w6] (q9r_ waits jobs want told t100 t101 t102 t144 j) = q8d_ (fun waits jobs want t100 t101 t102 => w6 (qz_ waits jobs want t100 t101 t102)) waits jobs want told t100 t101 t102 t144 j := by
  rw [qo_ (by decide)]
  rw [qkm_]
  rfl
theorem qke_  (w6 waits jobs want told openV in' t100 t101 t102 j) : jfn Tryd.prog qg_ 6 18446744073709551616 (Ev.get qh_) 3 qf_ 259279 [w6] (q9s_ waits jobs want told openV in' t100 t101 t102 j) = q3v_ (fun waits jobs want t100 t101 t102 => w6 (qz_ waits jobs want t100 t101 t102)) waits jobs want told openV in' t100 t101 t102 j := by
  rw [qo_ (by decide)]
  have e11 : (fun waits jobs want told t100 t101 t102 t144 j => (jfn Tryd.prog qg_ 6 18446744073709551616 (Ev.get qh_) 3 qf_) 1037118 [w6] (q9r_ waits jobs want told t100 t101 t102 t144 j)) = q8d_ (fun waits jobs want t100 t101 t102 => w6 (qz_ waits jobs want t100 t101 t102)) := by funext waits jobs want told t100 t101 t102 t144 j; exact qkg_ w6 waits jobs want told t100 t101 t102 t144 j
  rw [qkh_, e11]
  rfl
theorem ql5_  (w6 waits jobs want told openV in' t100 t101 t102 t117 t118 t119 j) : jfn Tryd.prog qg_ 6 18446744073709551616 (Ev.get qh_) 3 qf_ 2074234 [w6] (q7u_ waits jobs want told openV in' t100 t101 t102 t117 t118 t119 j) = q8o_ (fun waits jobs want t100 t101 t102 => w6 (qz_ waits jobs want t100 t101 t102)) waits jobs want told openV in' t100 t101 t102 t117 t118 t119 j := by
  rw [qo_ (by decide)]
  rw [q2u_ (by kernel_rfl)]
  refine q29_ (σ := (List Int) × (List TGT0) × (List UInt8) × (List UInt8) × (Bool) × (Bool) × (List TGT0) × (Int) × (Int) × (List Int) × (Int) × (Int) × TGT0) (mk := fun s => q7u_ s.1 s.2.1 s.2.2.1 s.2.2.2.1 s.2.2.2.2.1 s.2.2.2.2.2.1 s.2.2.2.2.2.2.1 s.2.2.2.2.2.2.2.1 s.2.2.2.2.2.2.2.2.1 s.2.2.2.2.2.2.2.2.2.1 s.2.2.2.2.2.2.2.2.2.2.1 s.2.2.2.2.2.2.2.2.2.2.2.1 s.2.2.2.2.2.2.2.2.2.2.2.2) (fun w9 s => ?_) 18446744073709551616 (waits, jobs, want, told, openV, in', t100, t101, t102, t117, t118, t119, j)
  have e10 : (fun waits jobs want told openV in' t100 t101 t102 j => (jfn Tryd.prog qg_ 6 18446744073709551616 (Ev.get qh_) 3 qf_) 259279 [w6] (q9s_ waits jobs want told openV in' t100 t101 t102 j)) = q3v_ (fun waits jobs want t100 t101 t102 => w6 (qz_ waits jobs want t100 t101 t102)) := by funext waits jobs want told openV in' t100 t101 t102 j; exact qke_ w6 waits jobs want told openV in' t100 t101 t102 j
  refine (qlj_ _ w6 w9 s.1 s.2.1 s.2.2.1 s.2.2.2.1 s.2.2.2.2.1 s.2.2.2.2.2.1 s.2.2.2.2.2.2.1 s.2.2.2.2.2.2.2.1 s.2.2.2.2.2.2.2.2.1 s.2.2.2.2.2.2.2.2.2.1 s.2.2.2.2.2.2.2.2.2.2.1 s.2.2.2.2.2.2.2.2.2.2.2.1 s.2.2.2.2.2.2.2.2.2.2.2.2).trans ?_
  rw [e10]
theorem qla_  (w6 waits jobs want told openV t100 t101 t102 j) : jfn Tryd.prog qg_ 6 18446744073709551616 (Ev.get qh_) 3 qf_ 64819 [w6] (qa4_ waits jobs want told openV t100 t101 t102 j) = q8v_ (fun waits jobs want t100 t101 t102 => w6 (qz_ waits jobs want t100 t101 t102)) waits jobs want told openV t100 t101 t102 j := by
  rw [qo_ (by decide)]
  have e9 : (fun waits jobs want told openV in' t100 t101 t102 t117 t118 t119 j => (jfn Tryd.prog qg_ 6 18446744073709551616 (Ev.get qh_) 3 qf_) 2074234 [w6] (q7u_ waits jobs want told openV in' t100 t101 t102 t117 t118 t119 j)) = q8o_ (fun waits jobs want t100 t101 t102 => w6 (qz_ waits jobs want t100 t101 t102)) := by funext waits jobs want told openV in' t100 t101 t102 t117 t118 t119 j; exact ql5_ w6 waits jobs want told openV in' t100 t101 t102 t117 t118 t119 j
  rw [qlc_, e9]
  rfl
theorem ql8_  (waits jobs want) : jfn Tryd.prog qg_ 6 18446744073709551616 (Ev.get qh_) 3 qf_ 63 [] (qa5_ waits jobs want) = q8t_ waits jobs want := by
  rw [qo_ (by decide)]
  rw [ql0_]
  rfl
theorem qlk_  (waits jobs want t100 t101 t102) : jfn Tryd.prog qg_ 6 18446744073709551616 (Ev.get qh_) 3 qf_ 506 [] (qz_ waits jobs want t100 t101 t102) = qa9_ waits jobs want t100 t101 t102 := by
  rw [qo_ (by decide)]
  rw [q2u_ (by kernel_rfl)]
  refine q29_ (σ := (List Int) × (List TGT0) × (List UInt8) × (List TGT0) × (Int) × (Int)) (mk := fun s => qz_ s.1 s.2.1 s.2.2.1 s.2.2.2.1 s.2.2.2.2.1 s.2.2.2.2.2) (fun w6 s => ?_) 18446744073709551616 (waits, jobs, want, t100, t101, t102)
  have e7 : (fun waits jobs want told openV t100 t101 t102 j => (jfn Tryd.prog qg_ 6 18446744073709551616 (Ev.get qh_) 3 qf_) 64819 [w6] (qa4_ waits jobs want told openV t100 t101 t102 j)) = q8v_ (fun waits jobs want t100 t101 t102 => w6 (qz_ waits jobs want t100 t101 t102)) := by funext waits jobs want told openV t100 t101 t102 j; exact qla_ w6 waits jobs want told openV t100 t101 t102 j
  have e8 : (fun waits jobs want => (jfn Tryd.prog qg_ 6 18446744073709551616 (Ev.get qh_) 3 qf_) 63 [] (qa5_ waits jobs want)) = q8t_ := by funext waits jobs want; exact ql8_ waits jobs want
  refine (ql7_ _ w6 s.1 s.2.1 s.2.2.1 s.2.2.2.1 s.2.2.2.2.1 s.2.2.2.2.2).trans ?_
  rw [e7, e8]
theorem qlg_  (waits jobs) : jfn Tryd.prog qg_ 6 18446744073709551616 (Ev.get qh_) 3 qf_ 15 [] (qa8_ waits jobs) = q8p_ waits jobs := by
  rw [qo_ (by decide)]
  have e6 : (fun waits jobs want t100 t101 t102 => (jfn Tryd.prog qg_ 6 18446744073709551616 (Ev.get qh_) 3 qf_) 506 [] (qz_ waits jobs want t100 t101 t102)) = qa9_ := by funext waits jobs want t100 t101 t102; exact qlk_ waits jobs want t100 t101 t102
  rw [qlb_, e6]
  rfl
theorem qlm_  (waits jobs t32 t33 t34) : jfn Tryd.prog qg_ 6 18446744073709551616 (Ev.get qh_) 3 qf_ 122 [] (q2l_ waits jobs t32 t33 t34) = q8n_ waits jobs t32 t33 t34 := by
  rw [qo_ (by decide)]
  rw [q2u_ (by kernel_rfl)]
  refine q29_ (σ := (List Int) × (List TGT0) × (List TGT2) × (Int) × (Int)) (mk := fun s => q2l_ s.1 s.2.1 s.2.2.1 s.2.2.2.1 s.2.2.2.2) (fun w2 s => ?_) 18446744073709551616 (waits, jobs, t32, t33, t34)
  have e3 : (fun waits jobs next t32 t33 t34 t51 t52 t53 => (jfn Tryd.prog qg_ 6 18446744073709551616 (Ev.get qh_) 3 qf_) 501370 [w2] (q4e_ waits jobs next t32 t33 t34 t51 t52 t53)) = q8u_ (fun waits jobs t32 t33 t34 => w2 (q2l_ waits jobs t32 t33 t34)) := by funext waits jobs next t32 t33 t34 t51 t52 t53; exact ql9_ w2 waits jobs next t32 t33 t34 t51 t52 t53
  have e4 : (fun waits jobs => (jfn Tryd.prog qg_ 6 18446744073709551616 (Ev.get qh_) 3 qf_) 15 [] (qa8_ waits jobs)) = q8p_ := by funext waits jobs; exact qlg_ waits jobs
  refine (qld_ _ w2 s.1 s.2.1 s.2.2.1 s.2.2.2.1 s.2.2.2.2).trans ?_
  rw [e3, e4]
theorem ql3_  (l waits t30) : jfn Tryd.prog qg_ 6 18446744073709551616 (Ev.get qh_) 3 qf_ 6 [] (qad_ l waits t30) = q69_ l waits t30 := by
  rw [qo_ (by decide)]
  have e2 : (fun waits jobs t32 t33 t34 => (jfn Tryd.prog qg_ 6 18446744073709551616 (Ev.get qh_) 3 qf_) 122 [] (q2l_ waits jobs t32 t33 t34)) = q8n_ := by funext waits jobs t32 t33 t34; exact qlm_ waits jobs t32 t33 t34
  rw [ql6_, e2]
  rfl
theorem qln_ (x : As [.sl TGT3, .sl (.int .u32)]) : evT Tryd.prog qg_ 6 18446744073709551616 (Ev.get qh_) 3 qf_ x = qbs_ x := by
  have e1 : (fun l waits t30 => (jfn Tryd.prog qg_ 6 18446744073709551616 (Ev.get qh_) 3 qf_) 6 [] (qad_ l waits t30)) = q69_ := by funext l waits t30; exact ql3_ l waits t30
  rw [q56_, ql4_, e1]
  rfl
theorem qlf_ : CtOk Tryd.prog I0 3 ⟨qf_, qbs_⟩ := ct_of_ev (env_cons qnx_ (env_cons qo3_ (env_cons qlp_ (env_cons strings_HasPrefix_ok (env_cons strings_HasSuffix_ok (env_cons strconv_FormatUint_ok (env_cons qmk_ env_nil))))))) qln_
end Go.Proofs.Lx
end
section
namespace Go.Proofs.Lx
open Go Ev Sx Pl
set_option maxRecDepth 100000
theorem toS_app (a b : List Int) : toS (a ++ b) = toS a ++ toS b := List.map_append
theorem u8s_app : ∀ {a b : List Int}, u8s a = true -> u8s b = true -> u8s (a ++ b) = true
  | [], _, _, h => h
  | x :: a, b, h1, h2 => by
    unfold u8s at h1
    show u8s (x :: (a ++ b)) = true
    unfold u8s
    rw [Bool.and_eq_true] at h1 ⊢
    exact ⟨h1.1, u8s_app h1.2 h2⟩
theorem u8s_one (c : UInt8) : u8s [Int.ofNat c.toNat] = true := by
  have := c.toNat_lt
  unfold u8s
  rw [decide_eq_true ⟨by rw [q1b_]; omega, by rw [q1b_]; omega⟩]
  rfl
end Go.Proofs.Lx
end
section
namespace Go.Proofs.Lx
open Go Ev Sx Pl
set_option maxRecDepth 100000
theorem toS_c (c : UInt8) : toS [Int.ofNat c.toNat] = [c] := by
  show [UInt8.ofNat (Int.ofNat c.toNat).toNat] = [c]
  rw [q1b_, Int.toNat_natCast, UInt8.ofNat_toNat]
theorem sdigits_eq {n : Nat} (h : n < 4294967296) : qav_ ((n : Int), ()) = some (dg n, ()) := by
  show qiu_ (n : Int) = _
  unfold qiu_
  have e : q9a_ ((n : Int), 10, ()) = some (dg n, ()) := by
    show q99_ (n : Int) 10 = _
    unfold q99_
    have : qbu_ ((n : Int), 10, ()) = some (dg n, ()) := by
      show (if (0 ≤ (n : Int) ∧ (n : Int) < 18446744073709551616) ∧ (10 : Int) = 10 then some (dF 19 (n : Int).toNat, ()) else none) = _
      rw [if_pos ⟨⟨by omega, by omega⟩, rfl⟩, Int.toNat_natCast, dF_dg (by omega)]
    rw [this]
    rfl
  have ec : cvt .u64 (n : Int) = (n : Int) := wu64 (by omega) (by omega)
  rw [ec, e]
  rfl
end Go.Proofs.Lx
end
section
namespace Go.Proofs.Lx
open Go Ev Sx Pl
set_option maxRecDepth 100000
abbrev TJob := Int × Int × List Int × Int
def rightJ : Int -> List TJob -> Bool
  | _, [] => true
  | b, j :: r => decide (b < j.1 ∧ j.2.1 ≠ 0 ∧ j.2.2.1.length ≤ 8192 ∧ 1 ≤ j.2.2.2 ∧ j.2.2.2 ≤ 5) && rightJ j.1 r
theorem rightJ_cons (b : Int) (j : TJob) (r : List TJob) : rightJ b (j :: r) = (decide (b < j.1 ∧ j.2.1 ≠ 0 ∧ j.2.2.1.length ≤ 8192 ∧ 1 ≤ j.2.2.2 ∧ j.2.2.2 ≤ 5) && rightJ j.1 r) := rfl
abbrev Rise (l : List TJob) : Prop := l.Pairwise (fun a b => a.1 < b.1)
theorem rightJ_rise : ∀ {l : List TJob} {b : Int}, rightJ b l = true -> Rise l ∧ ∀ j ∈ l, b < j.1
  | [], _, _ => ⟨.nil, by simp⟩
  | j :: r, b, h => by
    rw [rightJ_cons] at h
    rw [Bool.and_eq_true, decide_eq_true_eq] at h
    obtain ⟨h1, h2⟩ := rightJ_rise h.2
    refine ⟨.cons h2 h1, fun x hx => ?_⟩
    rcases List.mem_cons.1 hx with e | e
    · rw [e]; exact h.1.1
    · have := h2 x e
      omega
theorem rightJ_mem : ∀ {l : List TJob} {b : Int}, rightJ b l = true -> ∀ j ∈ l, j.2.1 ≠ 0 ∧ j.2.2.1.length ≤ 8192 ∧ 1 ≤ j.2.2.2 ∧ j.2.2.2 ≤ 5
  | [], _, _ => by simp
  | j :: r, b, h => by
    rw [rightJ_cons] at h
    rw [Bool.and_eq_true, decide_eq_true_eq] at h
    intro x hx
    rcases List.mem_cons.1 hx with e | e
    · rw [e]; exact h.1.2
    · exact rightJ_mem h.2 x e
theorem rise_get {l : List TJob} (h : Rise l) {i k : Nat} {x y : TJob} (hi : l[i]? = some x) (hk : l[k]? = some y) (hlt : i < k) : x.1 < y.1 := by
  obtain ⟨a, rfl⟩ := List.getElem?_eq_some_iff.1 hi
  obtain ⟨b, rfl⟩ := List.getElem?_eq_some_iff.1 hk
  exact List.pairwise_iff_getElem.1 h i k a b hlt
theorem half64 {i j : Nat} (h : i + j < 1000000000000) : cvt .i64 (Sx.shr .u64 (cvt .u64 (add .i64 (i : Int) (j : Int))) 1) = (((i + j) / 2 : Nat) : Int) := by
  rw [addn64 (by omega)]
  have e1 : cvt .u64 (((i + j : Nat) : Int)) = ((i + j : Nat) : Int) := wu64 (by omega) (by omega)
  have e2 : Sx.shr .u64 ((i + j : Nat) : Int) 1 = (((i + j) / 2 : Nat) : Int) := by
    unfold Sx.shr
    have : min (1 : Int).toNat IntKind.u64.bits = 1 := rfl
    rw [this, Int.fdiv_eq_ediv_of_nonneg _ (by decide)]
    omega
  rw [e1, e2, cvt64 (by omega) (by omega)]
theorem cmp_eq (j : TJob) (t : Int) : qag_ (j, t, ()) = some ((if j.1 < t then -1 else if t < j.1 then 1 else 0), ()) := by
  show qj3_ j t = _
  unfold qj3_
  simp only [lt_dec, gt_dec, decide_eq_true_eq]
  split
  · rfl
  · split <;> rfl
theorem lb_ex {l : List TJob} (h : Rise l) (t : Int) : ∃ i : Nat, i ≤ l.length ∧ ∀ k x, l[k]? = some x -> (x.1 < t ↔ k < i) := by
  induction l with
  | nil => exact ⟨0, Nat.le_refl _, by simp⟩
  | cons j r ih =>
    obtain ⟨i, h1, h2⟩ := ih h.of_cons
    by_cases hj : j.1 < t
    · refine ⟨i + 1, by simpa using h1, fun k x hk => ?_⟩
      cases k with
      | zero => simp at hk; subst hk; simp [hj]
      | succ k => rw [h2 k x (by simpa using hk)]; omega
    · refine ⟨0, by omega, fun k x hk => ?_⟩
      cases k with
      | zero => simp at hk; subst hk; simp [hj]
      | succ k =>
        have := rise_get h (i := 0) (k := k + 1) rfl hk (by omega)
        omega
theorem bs_eq {l : List TJob} (hs : Rise l) (hl : l.length ≤ 1000000) (t : Int) : ∃ i : Nat, i ≤ l.length ∧ (∀ k x, l[k]? = some x -> (x.1 < t ↔ k < i)) ∧ ∃ b, q4f_ (l, t, ()) = some ((i : Int), b, ()) := by
  obtain ⟨i, h1, h2⟩ := lb_ex hs t
  refine ⟨i, h1, h2, ?_⟩
  have fin : ∃ b, q4w_ l t (Int.ofNat l.length) (i : Int) = some ((i : Int), b, ()) := by
    unfold q4w_ q8h_
    by_cases hi : i < l.length
    · rw [if_pos (by rw [q2m_, q1b_]; omega), at_get (List.getElem?_eq_getElem hi), Option.bind_some, cmp_eq]
      exact ⟨_, rfl⟩
    · rw [if_neg (by rw [q2m_, q1b_]; omega)]
      exact ⟨_, rfl⟩
  obtain ⟨b, hb⟩ := fin
  refine ⟨b, ?_⟩
  show q4x_ l t (Int.ofNat l.length) ((0 : Nat) : Int) (l.length : Int) = _
  unfold q4x_
  refine loopF_eq (Inv := fun s => ∃ p q : Nat, s = (l, t, Int.ofNat l.length, (p : Int), (q : Int)) ∧ p ≤ i ∧ i ≤ q ∧ q ≤ l.length) (μ := fun s => (s.2.2.2.2 - s.2.2.2.1).toNat) (G := fun _ => some ((i : Int), b, ())) ?_ _ _ ⟨0, l.length, rfl, Nat.zero_le _, h1, Nat.le_refl _⟩ (by dsimp only; omega)
  rintro self s ⟨p, q, rfl, hp, hq, hn⟩ ih
  show q6l_ _ _ l t (Int.ofNat l.length) (p : Int) (q : Int) = _
  unfold q6l_
  by_cases hpq : p < q
  · have hm : (p + q) / 2 < l.length := by omega
    have hg := List.getElem?_eq_getElem hm
    rw [if_pos (by rw [q2m_]; omega), half64 (by omega), at_get hg, Option.bind_some, cmp_eq, Option.bind_some]
    dsimp only
    have := h2 _ _ hg
    by_cases hc : (l[(p + q) / 2]'hm).1 < t
    · rw [if_pos hc, if_pos (by decide), q4d_ (by omega)]
      exact ih _ ⟨(p + q) / 2 + 1, q, rfl, by omega, hq, hn⟩ (by dsimp only; omega)
    · rw [if_neg hc]
      have e : ∀ x : Int, x = (if t < (l[(p + q) / 2]'hm).1 then 1 else 0) -> ¬ (lt x 0 = true) := fun x hx => by
        rw [q2m_, hx]
        split <;> decide
      rw [if_neg (e _ rfl)]
      exact ih _ ⟨p, (p + q) / 2, rfl, hp, by omega, by omega⟩ (by dsimp only; omega)
  · rw [if_neg (by rw [q2m_]; omega)]
    have : p = i := by omega
    rw [this]
    exact hb
theorem find_yes {l : List TJob} (hs : Rise l) (hl : l.length ≤ 1000000) {i : Nat} {j : TJob} (hj : l[i]? = some j) : qi2_ (l, j.1, ()) = some ((i : Int), true, ()) := by
  obtain ⟨k, h1, h2, b, h3⟩ := bs_eq hs hl j.1
  have hi := (List.getElem?_eq_some_iff.1 hj).1
  have e : k = i := by
    have := h2 i j hj
    by_cases hk : k < l.length
    · have a1 := h2 k _ (List.getElem?_eq_getElem hk)
      rcases Nat.lt_trichotomy k i with h | h | h
      · have := rise_get hs (List.getElem?_eq_getElem hk) hj h
        omega
      · exact h
      · omega
    · omega
  subst e
  show qbd_ qdc_ l j.1 = _
  unfold qbd_ qjv_
  show Option.bind (Option.bind (q4f_ (l, j.1, ())) _) _ = _
  rw [h3, Option.bind_some, Option.bind_some]
  dsimp only
  rw [if_neg (by rw [q5v_, q1b_]; omega), at_get hj, Option.bind_some]
  have : nei j.1 j.1 = false := by simp [nei]
  rw [this]
  rfl
theorem find_no {l : List TJob} (hs : Rise l) (hl : l.length ≤ 1000000) {t : Int} (ht : ∀ j ∈ l, j.1 ≠ t) : qi2_ (l, t, ()) = some (0, false, ()) := by
  obtain ⟨k, h1, h2, b, h3⟩ := bs_eq hs hl t
  show qbd_ qdc_ l t = _
  unfold qbd_ qjv_
  show Option.bind (Option.bind (q4f_ (l, t, ())) _) _ = _
  rw [h3, Option.bind_some, Option.bind_some]
  dsimp only
  by_cases hk : k < l.length
  · have hg := List.getElem?_eq_getElem hk
    rw [if_neg (by rw [q5v_, q1b_]; omega), at_get hg, Option.bind_some]
    have : nei (l[k]).1 t = true := by
      rw [nei_iff]
      exact ht _ (List.getElem_mem _)
    rw [this]
    rfl
  · rw [if_pos (by rw [q5v_, q1b_]; omega)]
    rfl
end Go.Proofs.Lx
end
section
namespace Pl
open Go Ev Sx
theorem loop_dt {σ R : Type} {F : (σ -> Option R) -> σ -> Option R} {mk : Nat -> σ} {N : Nat} {r : Option R} (hs : ∀ self i, i < N -> F self (mk i) = self (mk (i + 1))) (he : ∀ self, F self (mk N) = r) :
    ∀ (k i n : Nat), i + k = N -> k < n -> loopF F n (mk i) = r
  | _, _, 0, _, h => by omega
  | 0, i, n + 1, h, _ => by
    have : i = N := by omega
    subst this
    rw [q2i_, he]
  | k + 1, i, n + 1, h, hn => by rw [q2i_, hs _ _ (by omega), loop_dt hs he k (i + 1) n (by omega) (by omega)]
def goI {α β R : Type} (body : Nat -> β -> α -> (β -> Option R) -> Option R) (fin : β -> Option R) : Nat -> List α -> β -> Option R
  | _, [], acc => fin acc
  | i, x :: r, acc => body i acc x (goI body fin (i + 1) r)
theorem loop_goi {σ R α β : Type} {F : (σ -> Option R) -> σ -> Option R} {mk : Nat -> β -> σ} {xs : List α} {body : Nat -> β -> α -> (β -> Option R) -> Option R} {fin : β -> Option R}
    (hs : ∀ self i acc x, xs[i]? = some x -> F self (mk i acc) = body i acc x fun a => self (mk (i + 1) a))
    (he : ∀ self acc, F self (mk xs.length acc) = fin acc) :
    ∀ (k i : Nat) (acc : β) (n : Nat), i + k = xs.length -> k < n -> loopF F n (mk i acc) = goI body fin i (xs.drop i) acc
  | _, _, _, 0, _, hn => by omega
  | 0, i, acc, n + 1, h, _ => by
    have : i = xs.length := by omega
    subst this
    rw [q2i_, he, List.drop_length]
    rfl
  | k + 1, i, acc, n + 1, h, hn => by
    have hx : xs[i]? = some (xs[i]'(by omega)) := List.getElem?_eq_getElem (by omega)
    rw [q2i_, hs _ _ _ _ hx, List.drop_eq_getElem_cons (show i < xs.length by omega)]
    show _ = body i acc _ (goI body fin (i + 1) (xs.drop (i + 1)))
    congr 1
    funext a
    exact loop_goi hs he k (i + 1) a n (by omega) (by omega)
theorem set_at {α : Type} (p : List α) (x y : α) (q : List α) : (p ++ x :: q).set p.length y = p ++ y :: q := by
  rw [List.set_append_right _ _ (Nat.le_refl _), Nat.sub_self]
  rfl
end Pl
end
section
namespace Go.Proofs.Lx
open Go Ev Sx Pl
set_option maxRecDepth 100000
def idxI (v : Int) : Nat -> List Int -> Int
  | _, [] => -1
  | i, x :: r => if v = x then (i : Int) else idxI v (i + 1) r
theorem idxI_cons (v x : Int) (i : Nat) (r : List Int) : idxI v i (x :: r) = if v = x then (i : Int) else idxI v (i + 1) r := rfl
theorem idxI_ge (v : Int) : ∀ (r : List Int) (i : Nat), 0 ≤ idxI v i r ↔ v ∈ r
  | [], _ => by simp [idxI]
  | x :: r, i => by
    unfold idxI
    rw [List.mem_cons]
    by_cases h : v = x
    · rw [if_pos h]; simp [h]
    · rw [if_neg h, idxI_ge v r]; simp [h]
theorem index_eq {s : List Int} (hl : s.length ≤ 1000000) (v : Int) : qb6_ (s, v, ()) = some (idxI v 0 s, ()) := by
  have key : ∀ (r : List Int) (i : Nat), goI (R := Int × Unit) (fun i (_ : Unit) (x : Int) k => if v = x then some ((i : Int), ()) else k ()) (fun _ => some (-1, ())) i r () = some (idxI v i r, ()) := by
    intro r
    induction r with
    | nil => intro i; rfl
    | cons x r ih =>
      intro i
      show (if v = x then _ else goI _ _ (i + 1) r ()) = _
      rw [ih, idxI_cons]
      split <;> rfl
  show q8c_ s v (Int.ofNat s.length) ((0 : Nat) : Int) = _
  rw [<- key]
  unfold q8c_
  refine loop_goi (xs := s) (mk := fun i _ => (s, v, Int.ofNat s.length, (i : Int))) ?_ ?_ s.length 0 () _ (by omega) (by omega)
  · intro self i _ x hx
    have hi := (List.getElem?_eq_some_iff.1 hx).1
    show q77_ _ s v (Int.ofNat s.length) (i : Int) = _
    unfold q77_
    rw [if_pos (by rw [q2m_, q1b_]; omega), at_get hx, Option.bind_some, q4d_ (by omega)]
    simp only [q4g_]
  · intro self _
    show q77_ _ s v (Int.ofNat s.length) (s.length : Int) = _
    unfold q77_
    rw [if_neg (by rw [q2m_, q1b_]; omega)]
theorem contains_eq {s : List Int} (hl : s.length ≤ 1000000) (v : Int) : qby_ (s, v, ()) = some (decide (v ∈ s), ()) := by
  show qau_ s v = _
  unfold qau_
  rw [index_eq hl, Option.bind_some]
  have : ge (idxI v 0 s) 0 = decide (v ∈ s) := by
    rw [Bool.eq_iff_iff, q5v_, decide_eq_true_eq]
    exact idxI_ge v s 0
  rw [this]
def stW (waits : List Int) (j : TJob) : Int := if j.2.2.2 = 1 ∧ j.1 ∈ waits then 6 else j.2.2.2
def wRun : List UInt8 := [114, 117, 110, 110, 105, 110, 103]
def wCom : List UInt8 := [99, 111, 109, 109, 105, 116, 116, 101, 100]
def wAbo : List UInt8 := [97, 98, 111, 114, 116, 101, 100]
def wComD : List UInt8 := [99, 111, 109, 109, 105, 116, 116, 101, 100, 32, 100, 111, 110, 101]
def wAboD : List UInt8 := [97, 98, 111, 114, 116, 101, 100, 32, 100, 111, 110, 101]
def wWai : List UInt8 := [119, 97, 105, 116, 105, 110, 103]
def wUnk : List UInt8 := [117, 110, 107, 110, 111, 119, 110]
def nameS (k : Int) : List UInt8 := if k = 1 then wRun else if k = 2 then wCom else if k = 3 then wAbo else if k = 4 then wComD else if k = 5 then wAboD else wWai
theorem report_eq {waits : List Int} (hl : waits.length ≤ 1000000) {j : TJob} (h1 : 1 ≤ j.2.2.2) (h2 : j.2.2.2 ≤ 5) : qcl_ (j, waits, ()) = some (nameS (stW waits j), waits, ()) := by
  have K : ∀ t, (t = true -> stW waits j = 6) -> (t = false -> stW waits j = j.2.2.2) -> q90_ t waits j [[], wRun, wCom, wAbo, wComD, wAboD] = some (nameS (stW waits j), waits, ()) := by
    intro t ht hf
    unfold q90_ qft_
    cases t with
    | true => rw [if_pos rfl, ht rfl]; rfl
    | false =>
      rw [hf rfl, if_neg (by decide), cvt64 (by omega) (by omega), if_neg (by rw [q5v_]; omega), need_t (by rw [q2m_]; omega)]
      rcases (by omega : j.2.2.2 = 1 ∨ j.2.2.2 = 2 ∨ j.2.2.2 = 3 ∨ j.2.2.2 = 4 ∨ j.2.2.2 = 5) with h | h | h | h | h <;> rw [h] <;> rfl
  show qc8_ q90_ j waits = _
  unfold qc8_
  by_cases h : j.2.2.2 = 1
  · have hz : qd9_ (j.1, waits, ()) = some (decide (j.1 ∈ waits), waits, ()) := by
      show qh9_ j.1 waits = _
      unfold qh9_
      rw [contains_eq hl]
      rfl
    rw [if_pos (q4g_.2 h), hz, Option.bind_some]
    refine K _ (fun ht => ?_) (fun ht => ?_)
    · unfold stW
      rw [if_pos ⟨h, of_decide_eq_true ht⟩]
    · unfold stW
      rw [if_neg (fun e => of_decide_eq_false ht e.2)]
  · rw [if_neg (fun e => h (q4g_.1 e))]
    refine K false (fun ht => by cases ht) (fun _ => ?_)
    unfold stW
    rw [if_neg (fun e => h e.1)]
theorem tell_yes {l : List TJob} (hs : Rise l) (hl : l.length ≤ 1000000) {waits : List Int} (hw : waits.length ≤ 1000000) {i : Nat} {j : TJob} (hj : l[i]? = some j) (h1 : 1 ≤ j.2.2.2) (h2 : j.2.2.2 ≤ 5) : q8s_ (l, waits, j.1, ()) = some (nameS (stW waits j), ()) := by
  show qdb_ l waits j.1 = _
  unfold qdb_
  rw [find_yes hs hl hj, Option.bind_some]
  dsimp only
  rw [if_neg (by decide), at_get hj, Option.bind_some, report_eq hw h1 h2]
  rfl
theorem tell_no {l : List TJob} (hs : Rise l) (hl : l.length ≤ 1000000) {waits : List Int} {t : Int} (ht : ∀ j ∈ l, j.1 ≠ t) : q8s_ (l, waits, t, ()) = some (wUnk, ()) := by
  show qdb_ l waits t = _
  unfold qdb_
  rw [find_no hs hl ht, Option.bind_some]
  rfl
end Go.Proofs.Lx
end
section
set_option maxRecDepth 100000
namespace Go.Proofs.Lx
open Go Ev Sx Pl
theorem dg_le {n : Nat} (h : n < 4294967296) : (dg n).length ≤ 10 := dg_len (by omega) (by omega)
theorem stW_dom {waits : List Int} {j : TJob} (h1 : 1 ≤ j.2.2.2) (h2 : j.2.2.2 ≤ 5) : (nameS (stW waits j)).length ≤ 14 := by
  unfold nameS
  split
  · decide
  split
  · decide
  split
  · decide
  split
  · decide
  split
  · decide
  · decide
def srt (xs : List Int) : List Int := xs.mergeSort fun x y => decide (x ≤ y)
theorem srt_len (xs : List Int) : (srt xs).length = xs.length := List.length_mergeSort _
theorem srt_mem {xs : List Int} {t : Int} : t ∈ srt xs ↔ t ∈ xs := (List.mergeSort_perm xs _).mem_iff
theorem srt_rise (xs : List Int) : (srt xs).Pairwise (fun a b => a ≤ b) := by
  have := List.pairwise_mergeSort (le := fun x y : Int => decide (x ≤ y)) (fun a b c h1 h2 => by simp at *; omega) (fun a b => by simp; omega) xs
  exact this.imp fun h => by simpa using h
theorem sorted_eq {xs : List Int} (h : xs.length ≤ 60) : qar_ (xs, ()) = some (srt xs, ()) := by
  show qbg_ xs = _
  unfold qbg_
  have hc : qcz_ (xs, ()) = some (xs, ()) := if_pos (show xs.length ≤ 1000 by omega)
  rw [hc, Option.bind_some]
  dsimp only
  rw [sort_ok (by omega)]
  rfl
theorem nn_eq (x : Int) : q9i_ (x, ()) = some (false, ()) := by
  show qbx_ x = _
  unfold qbx_
  have : nei x x = false := by rw [<- Bool.not_eq_true, nei_iff]; simp
  rw [this]
theorem lbi_ex {l : List Int} (h : l.Pairwise (fun a b => a ≤ b)) (t : Int) : ∃ i : Nat, i ≤ l.length ∧ ∀ k x, l[k]? = some x -> (x < t ↔ k < i) := by
  induction l with
  | nil => exact ⟨0, Nat.le_refl _, by simp⟩
  | cons j r ih =>
    obtain ⟨i, h1, h2⟩ := ih h.of_cons
    by_cases hj : j < t
    · refine ⟨i + 1, by simpa using h1, fun k x hk => ?_⟩
      cases k with
      | zero => simp at hk; subst hk; simp [hj]
      | succ k => rw [h2 k x (by simpa using hk)]; omega
    · refine ⟨0, by omega, fun k x hk => ?_⟩
      cases k with
      | zero => simp at hk; subst hk; simp [hj]
      | succ k =>
        have := (List.pairwise_cons.1 h).1 x (List.mem_of_getElem? (by simpa using hk))
        omega
theorem bsi_eq {l : List Int} (hs : l.Pairwise (fun a b => a ≤ b)) (hl : l.length ≤ 1000000) (t : Int) : ∃ i : Int, q8i_ (l, t, ()) = some (i, decide (t ∈ l), ()) := by
  obtain ⟨i, h1, h2⟩ := lbi_ex hs t
  have fin : q65_ l t (Int.ofNat l.length) (i : Int) = some ((i : Int), decide (t ∈ l), ()) := by
    unfold q65_ q9l_
    by_cases hi : i < l.length
    · have hg := List.getElem?_eq_getElem hi
      rw [if_pos (by rw [q2m_, q1b_]; omega), at_get hg, Option.bind_some]
      by_cases he : l[i] = t
      · rw [if_pos (q4g_.2 he), decide_eq_true (by rw [<- he]; exact List.getElem_mem hi)]
      · rw [if_neg (fun e => he (q4g_.1 e)), Option.bind_some, nn_eq, Option.bind_some]
        dsimp only
        rw [if_neg (by decide), decide_eq_false]
        intro hm
        obtain ⟨k, hk⟩ := List.getElem?_of_mem hm
        have a := h2 k t hk
        have b := h2 i _ hg
        have hki : i ≤ k := by omega
        rcases Nat.eq_or_lt_of_le hki with e | e
        · subst e
          rw [hg] at hk
          exact he (Option.some.inj hk)
        · obtain ⟨hk1, hk2⟩ := List.getElem?_eq_some_iff.1 hk
          have := List.pairwise_iff_getElem.1 hs i k hi hk1 e
          rw [hk2] at this
          omega
    · rw [if_neg (by rw [q2m_, q1b_]; omega), decide_eq_false]
      intro hm
      obtain ⟨k, hk⟩ := List.getElem?_of_mem hm
      have a := h2 k t hk
      have := (List.getElem?_eq_some_iff.1 hk).1
      omega
  refine ⟨(i : Int), ?_⟩
  show q66_ l t (Int.ofNat l.length) ((0 : Nat) : Int) (l.length : Int) = _
  unfold q66_
  refine loopF_eq (Inv := fun s => ∃ p q : Nat, s = (l, t, Int.ofNat l.length, (p : Int), (q : Int)) ∧ p ≤ i ∧ i ≤ q ∧ q ≤ l.length) (μ := fun s => (s.2.2.2.2 - s.2.2.2.1).toNat) (G := fun _ => some ((i : Int), decide (t ∈ l), ())) ?_ _ _ ⟨0, l.length, rfl, Nat.zero_le _, h1, Nat.le_refl _⟩ (by dsimp only; omega)
  rintro self s ⟨p, q, rfl, hp, hq, hn⟩ ih
  show q7x_ _ _ l t (Int.ofNat l.length) (p : Int) (q : Int) = _
  unfold q7x_
  by_cases hpq : p < q
  · have hm : (p + q) / 2 < l.length := by omega
    have hg := List.getElem?_eq_getElem hm
    rw [if_pos (by rw [q2m_]; omega), half64 (by omega), at_get hg, Option.bind_some, less_eq, Option.bind_some]
    dsimp only
    have := h2 _ _ hg
    unfold Sort.ltInt
    by_cases hc : (l[(p + q) / 2]'hm) < t
    · rw [if_pos (decide_eq_true hc), q4d_ (by omega)]
      exact ih _ ⟨(p + q) / 2 + 1, q, rfl, by omega, hq, hn⟩ (by dsimp only; omega)
    · rw [if_neg (by simpa using hc)]
      exact ih _ ⟨p, (p + q) / 2, rfl, hp, by omega, by omega⟩ (by dsimp only; omega)
  · rw [if_neg (by rw [q2m_]; omega)]
    have : p = i := by omega
    rw [this]
    exact fin
theorem hreport_eq {waits : List Int} (hl : waits.length ≤ 1000000) {j : TJob} (h1 : 1 ≤ j.2.2.2) (h2 : j.2.2.2 ≤ 5) : q9k_ (j, srt waits, ()) = some (nameS (stW waits j), srt waits, ()) := by
  have K : ∀ t, (t = true -> stW waits j = 6) -> (t = false -> stW waits j = j.2.2.2) -> q98_ t (srt waits) j [[], wRun, wCom, wAbo, wComD, wAboD] = some (nameS (stW waits j), srt waits, ()) := by
    intro t ht hf
    unfold q98_ qg0_
    cases t with
    | true => rw [if_pos rfl, ht rfl]; rfl
    | false =>
      rw [hf rfl, if_neg (by decide), cvt64 (by omega) (by omega), if_neg (by rw [q5v_]; omega), need_t (by rw [q2m_]; omega)]
      rcases (by omega : j.2.2.2 = 1 ∨ j.2.2.2 = 2 ∨ j.2.2.2 = 3 ∨ j.2.2.2 = 4 ∨ j.2.2.2 = 5) with h | h | h | h | h <;> rw [h] <;> rfl
  show qci_ q98_ j (srt waits) = _
  unfold qci_
  by_cases h : j.2.2.2 = 1
  · have hz : q9n_ (j.1, srt waits, ()) = some (decide (j.1 ∈ waits), srt waits, ()) := by
      show qdr_ j.1 (srt waits) = _
      unfold qdr_
      obtain ⟨i, hi⟩ := bsi_eq (srt_rise waits) (by rw [srt_len]; exact hl) j.1
      rw [hi, Option.bind_some]
      dsimp only
      congr 2
      rw [Bool.eq_iff_iff, decide_eq_true_iff, decide_eq_true_iff]
      exact srt_mem
    rw [if_pos (q4g_.2 h), hz, Option.bind_some]
    refine K _ (fun ht => ?_) (fun ht => ?_)
    · unfold stW
      rw [if_pos ⟨h, of_decide_eq_true ht⟩]
    · unfold stW
      rw [if_neg (fun e => of_decide_eq_false ht e.2)]
  · rw [if_neg (fun e => h (q4g_.1 e))]
    refine K false (fun ht => by cases ht) (fun _ => ?_)
    unfold stW
    rw [if_neg (fun e => h e.1)]
end Go.Proofs.Lx
end
section
set_option maxRecDepth 100000
namespace Go.Proofs.Lx
open Go Ev Sx Pl
def DomJ (j : TJob) : Prop := 0 ≤ j.1 ∧ j.1 < 4294967296 ∧ 1 ≤ j.2.2.2 ∧ j.2.2.2 ≤ 5
def lineH (waits : List Int) (j : TJob) : List UInt8 := dg j.1.toNat ++ [32] ++ nameS (stW waits j) ++ [10]
def oI (s : List UInt8) : List Int := s.map fun b => Int.ofNat b.toNat
theorem oI_app (a b : List UInt8) : oI (a ++ b) = oI a ++ oI b := List.map_append
theorem toS_oI : ∀ s : List UInt8, toS (oI s) = s
  | [] => rfl
  | c :: s => by
    show toS ([Int.ofNat c.toNat] ++ oI s) = _
    rw [toS_app, toS_c, toS_oI s]
    rfl
theorem u8s_oI : ∀ s : List UInt8, u8s (oI s) = true
  | [] => rfl
  | c :: s => u8s_app (a := [Int.ofNat c.toNat]) (u8s_one c) (u8s_oI s)
theorem oI_len (s : List UInt8) : (oI s).length = s.length := List.length_map _
theorem lineH_len {waits : List Int} {j : TJob} (h : DomJ j) : (dg j.1.toNat).length ≤ 10 ∧ (nameS (stW waits j)).length ≤ 14 := ⟨dg_le (by have := h.1; have := h.2.1; omega), stW_dom h.2.2.1 h.2.2.2⟩
theorem digJ {j : TJob} (h : DomJ j) : qav_ (j.1, ()) = some (dg j.1.toNat, ()) := by
  obtain ⟨h0, h1, _⟩ := h
  have := sdigits_eq (n := j.1.toNat) (by omega)
  rw [Int.toNat_of_nonneg h0] at this
  exact this
theorem hist_eq {l : List TJob} (hl : l.length ≤ 1000) (hd : ∀ j ∈ l, DomJ j) {waits : List Int} (hw : waits.length ≤ 60) : qd7_ (l, waits, ()) = some (l.flatMap (lineH waits), ()) := by
  show qd1_ qax_ l waits = _
  unfold qd1_
  rw [sorted_eq hw, Option.bind_some]
  dsimp only
  unfold qax_
  refine (loop_idx (xs := l) (stp := fun (o : Bool × List UInt8) j => (true, o.2 ++ lineH waits j)) (mk := fun i (o : Bool × List UInt8) => (l, Int.ofNat l.length, (i : Int), srt waits, o.1, oI o.2)) (fin := fun o => some (o.2, ())) (fun i o => o.2.length ≤ 26 * i) ?_ ?_ ?_ l.length 0 (false, []) _ (by omega) (by omega) (by simp)).trans ?_
  · rintro self i ⟨b, o⟩ j hj hI
    have hi := (List.getElem?_eq_some_iff.1 hj).1
    have hD := hd j (List.mem_of_getElem? hj)
    obtain ⟨n1, n2⟩ := lineH_len (waits := waits) hD
    have hI : o.length ≤ 26 * i := hI
    have e1 : ∀ s : List UInt8, List.map (fun b : UInt8 => Int.ofNat b.toNat) s = oI s := fun _ => rfl
    show q9o_ _ l (Int.ofNat l.length) (i : Int) (srt waits) b (oI o) = self (l, Int.ofNat l.length, ((i + 1 : Nat) : Int), srt waits, true, oI (o ++ lineH waits j))
    unfold q9o_
    have eo : oI (o ++ lineH waits j) = oI o ++ oI (dg j.1.toNat) ++ [32] ++ oI (nameS (stW waits j)) ++ [10] := by
      unfold lineH
      rw [oI_app, oI_app, oI_app, oI_app, <- List.append_assoc, <- List.append_assoc, <- List.append_assoc]
      rfl
    have s1 : (oI o).length + (dg j.1.toNat).length ≤ 1073741824 := by rw [oI_len]; omega
    have s2 : (oI o ++ oI (dg j.1.toNat)).length + 1 ≤ 1073741824 := by simp only [List.length_append, oI_len]; omega
    have s3 : (oI o ++ oI (dg j.1.toNat) ++ [32]).length + (nameS (stW waits j)).length ≤ 1073741824 := by simp only [List.length_append, List.length_cons, List.length_nil, oI_len]; omega
    have s4 : (oI o ++ oI (dg j.1.toNat) ++ [32] ++ oI (nameS (stW waits j))).length + 1 ≤ 1073741824 := by simp only [List.length_append, List.length_cons, List.length_nil, oI_len]; omega
    rw [if_pos (by rw [q2m_, q1b_]; omega), at_get hj, Option.bind_some, (digJ hD), Option.bind_some, q4d_ (by omega), eo]
    simp only [e1, q8x_ s1, q8x_ s2, hreport_eq (by omega : waits.length ≤ 1000000) hD.2.2.1 hD.2.2.2, Option.bind_some, q8x_ s3, q8x_ s4]
    cases b <;> rfl
  · rintro i ⟨b, o⟩ j hj hI
    have hD := hd j (List.mem_of_getElem? hj)
    obtain ⟨n1, n2⟩ := lineH_len (waits := waits) hD
    have hI : o.length ≤ 26 * i := hI
    show (o ++ lineH waits j).length ≤ 26 * (i + 1)
    unfold lineH
    simp only [List.length_append, List.length_cons, List.length_nil]
    omega
  · rintro self ⟨b, o⟩ hI
    have hI : o.length ≤ 26 * l.length := hI
    show q9o_ _ l (Int.ofNat l.length) (l.length : Int) (srt waits) b (oI o) = some (o, ())
    unfold q9o_
    rw [if_neg (by rw [q2m_, q1b_]; omega), need_t (q4g_.2 rfl), q8x_ (by rw [oI_len]; omega), need_t (u8s_oI o), toS_oI]
  · rw [List.drop_zero]
    have : ∀ (l : List TJob) (b : Bool) (o : List UInt8), (l.foldl (fun (o : Bool × List UInt8) j => (true, o.2 ++ lineH waits j)) (b, o)).2 = o ++ l.flatMap (lineH waits) := by
      intro l
      induction l with
      | nil => intro b o; simp
      | cons j l ih => intro b o; rw [List.foldl_cons, ih, List.flatMap_cons, List.append_assoc]
    rw [this, List.nil_append]
end Go.Proofs.Lx
end
section
namespace Go.Proofs.Lx
open Go Ev Sx Pl
set_option maxRecDepth 100000
def OkJ (j : TJob) : Prop := 0 ≤ j.1 ∧ j.1 < 4294967296 ∧ 0 ≤ j.2.1 ∧ j.2.1 < 256 ∧ 0 ≤ j.2.2.2 ∧ j.2.2.2 < 256
abbrev LFT5 : Ty := .pr (.int .u8) (.pr .bool (.int .u8))
abbrev TRec := Int × Int × Int × Bool × List Int
abbrev TKey := Int × Bool × Int
theorem dget_mem {V : Type} {kt : Ty} (ht : keyT kt = true) {k : Vl kt} {v : V} : ∀ {m : List (Vl kt × V)}, (m.map Prod.fst).Nodup -> (dget kt m k = some v ↔ (k, v) ∈ m)
  | [], _ => by simp [dget]
  | (a, b) :: r, h => by
    rw [List.map_cons, List.nodup_cons] at h
    unfold dget
    by_cases hk : a = k
    · subst hk
      rw [if_pos ((keq_iff ht _ _).2 rfl)]
      have : (a, v) ∉ r := fun e => h.1 (List.mem_map.2 ⟨(a, v), e, rfl⟩)
      simp only [Option.some.injEq, List.mem_cons, Prod.mk.injEq, true_and, this, or_false]
      exact ⟨fun e => e.symm, fun e => e.symm⟩
    · rw [if_neg (fun e => hk ((keq_iff ht _ _).1 e)), dget_mem ht h.2]
      have : ¬ ((k, v) = (a, b)) := fun e => hk (by cases e; rfl)
      simp [this]
theorem dget_perm {V : Type} {kt : Ty} (ht : keyT kt = true) {m m' : List (Vl kt × V)} (hp : m.Perm m') (hn : (m'.map Prod.fst).Nodup) (k : Vl kt) : dget kt m k = dget kt m' k := by
  have hn' : (m.map Prod.fst).Nodup := (hp.map Prod.fst).nodup_iff.2 hn
  apply Option.ext
  intro v
  rw [dget_mem ht hn', dget_mem ht hn, hp.mem_iff]
def m0S : List (TKey × Int) := [((2, false, 0), 1), ((3, true, 1), 2), ((3, false, 1), 3), ((4, false, 2), 4), ((4, false, 3), 5)]
def stepS (a : Int) (b : Bool) (c : Int) : Option Int :=
  if a = 2 ∧ b = false ∧ c = 0 then some 1 else if a = 3 ∧ b = true ∧ c = 1 then some 2 else if a = 3 ∧ b = false ∧ c = 1 then some 3 else if a = 4 ∧ b = false ∧ c = 2 then some 4 else if a = 4 ∧ b = false ∧ c = 3 then some 5 else none
theorem step_m0 (a : Int) (b : Bool) (c : Int) : dget LFT5 m0S (a, b, c) = stepS a b c := by
  have e : ∀ (x : Int) (y : Bool) (z : Int), keq LFT5 (x, y, z) (a, b, c) = true ↔ (a = x ∧ b = y ∧ c = z) := fun x y z => by
    rw [keq_iff rfl]
    exact ⟨fun h => by cases h; exact ⟨rfl, rfl, rfl⟩, fun ⟨h1, h2, h3⟩ => by rw [h1, h2, h3]⟩
  unfold m0S stepS
  simp only [dget, e]
theorem step_eq {m : List (TKey × Int)} (h : m.isPerm m0S = true) (a : Int) (b : Bool) (c : Int) : dget LFT5 m (a, b, c) = stepS a b c := by
  rw [dget_perm (kt := LFT5) rfl (List.isPerm_iff.1 h) (by decide), step_m0]
def addG {R : Type} (f : List (TKey × Int) -> Option R) (eq : R -> R -> Bool) : Option R :=
  amb eq [amb eq [amb eq [amb eq [f [((2, false, 0), 1), ((3, true, 1), 2), ((3, false, 1), 3), ((4, false, 2), 4), ((4, false, 3), 5)], f [((2, false, 0), 1), ((3, true, 1), 2), ((3, false, 1), 3), ((4, false, 3), 5), ((4, false, 2), 4)]], amb eq [amb eq [f [((2, false, 0), 1), ((3, true, 1), 2), ((4, false, 2), 4), ((3, false, 1), 3), ((4, false, 3), 5)], f [((2, false, 0), 1), ((3, true, 1), 2), ((4, false, 2), 4), ((4, false, 3), 5), ((3, false, 1), 3)]], amb eq [f [((2, false, 0), 1), ((3, true, 1), 2), ((4, false, 3), 5), ((3, false, 1), 3), ((4, false, 2), 4)], f [((2, false, 0), 1), ((3, true, 1), 2), ((4, false, 3), 5), ((4, false, 2), 4), ((3, false, 1), 3)]]]], amb eq [amb eq [amb eq [f [((2, false, 0), 1), ((3, false, 1), 3), ((3, true, 1), 2), ((4, false, 2), 4), ((4, false, 3), 5)], f [((2, false, 0), 1), ((3, false, 1), 3), ((3, true, 1), 2), ((4, false, 3), 5), ((4, false, 2), 4)]], amb eq [amb eq [f [((2, false, 0), 1), ((3, false, 1), 3), ((4, false, 2), 4), ((3, true, 1), 2), ((4, false, 3), 5)], f [((2, false, 0), 1), ((3, false, 1), 3), ((4, false, 2), 4), ((4, false, 3), 5), ((3, true, 1), 2)]], amb eq [f [((2, false, 0), 1), ((3, false, 1), 3), ((4, false, 3), 5), ((3, true, 1), 2), ((4, false, 2), 4)], f [((2, false, 0), 1), ((3, false, 1), 3), ((4, false, 3), 5), ((4, false, 2), 4), ((3, true, 1), 2)]]]], amb eq [amb eq [amb eq [f [((2, false, 0), 1), ((4, false, 2), 4), ((3, true, 1), 2), ((3, false, 1), 3), ((4, false, 3), 5)], f [((2, false, 0), 1), ((4, false, 2), 4), ((3, true, 1), 2), ((4, false, 3), 5), ((3, false, 1), 3)]], amb eq [amb eq [f [((2, false, 0), 1), ((4, false, 2), 4), ((3, false, 1), 3), ((3, true, 1), 2), ((4, false, 3), 5)], f [((2, false, 0), 1), ((4, false, 2), 4), ((3, false, 1), 3), ((4, false, 3), 5), ((3, true, 1), 2)]], amb eq [f [((2, false, 0), 1), ((4, false, 2), 4), ((4, false, 3), 5), ((3, true, 1), 2), ((3, false, 1), 3)], f [((2, false, 0), 1), ((4, false, 2), 4), ((4, false, 3), 5), ((3, false, 1), 3), ((3, true, 1), 2)]]]], amb eq [amb eq [f [((2, false, 0), 1), ((4, false, 3), 5), ((3, true, 1), 2), ((3, false, 1), 3), ((4, false, 2), 4)], f [((2, false, 0), 1), ((4, false, 3), 5), ((3, true, 1), 2), ((4, false, 2), 4), ((3, false, 1), 3)]], amb eq [amb eq [f [((2, false, 0), 1), ((4, false, 3), 5), ((3, false, 1), 3), ((3, true, 1), 2), ((4, false, 2), 4)], f [((2, false, 0), 1), ((4, false, 3), 5), ((3, false, 1), 3), ((4, false, 2), 4), ((3, true, 1), 2)]], amb eq [f [((2, false, 0), 1), ((4, false, 3), 5), ((4, false, 2), 4), ((3, true, 1), 2), ((3, false, 1), 3)], f [((2, false, 0), 1), ((4, false, 3), 5), ((4, false, 2), 4), ((3, false, 1), 3), ((3, true, 1), 2)]]]]]]], amb eq [amb eq [amb eq [amb eq [f [((3, true, 1), 2), ((2, false, 0), 1), ((3, false, 1), 3), ((4, false, 2), 4), ((4, false, 3), 5)], f [((3, true, 1), 2), ((2, false, 0), 1), ((3, false, 1), 3), ((4, false, 3), 5), ((4, false, 2), 4)]], amb eq [amb eq [f [((3, true, 1), 2), ((2, false, 0), 1), ((4, false, 2), 4), ((3, false, 1), 3), ((4, false, 3), 5)], f [((3, true, 1), 2), ((2, false, 0), 1), ((4, false, 2), 4), ((4, false, 3), 5), ((3, false, 1), 3)]], amb eq [f [((3, true, 1), 2), ((2, false, 0), 1), ((4, false, 3), 5), ((3, false, 1), 3), ((4, false, 2), 4)], f [((3, true, 1), 2), ((2, false, 0), 1), ((4, false, 3), 5), ((4, false, 2), 4), ((3, false, 1), 3)]]]], amb eq [amb eq [amb eq [f [((3, true, 1), 2), ((3, false, 1), 3), ((2, false, 0), 1), ((4, false, 2), 4), ((4, false, 3), 5)], f [((3, true, 1), 2), ((3, false, 1), 3), ((2, false, 0), 1), ((4, false, 3), 5), ((4, false, 2), 4)]], amb eq [amb eq [f [((3, true, 1), 2), ((3, false, 1), 3), ((4, false, 2), 4), ((2, false, 0), 1), ((4, false, 3), 5)], f [((3, true, 1), 2), ((3, false, 1), 3), ((4, false, 2), 4), ((4, false, 3), 5), ((2, false, 0), 1)]], amb eq [f [((3, true, 1), 2), ((3, false, 1), 3), ((4, false, 3), 5), ((2, false, 0), 1), ((4, false, 2), 4)], f [((3, true, 1), 2), ((3, false, 1), 3), ((4, false, 3), 5), ((4, false, 2), 4), ((2, false, 0), 1)]]]], amb eq [amb eq [amb eq [f [((3, true, 1), 2), ((4, false, 2), 4), ((2, false, 0), 1), ((3, false, 1), 3), ((4, false, 3), 5)], f [((3, true, 1), 2), ((4, false, 2), 4), ((2, false, 0), 1), ((4, false, 3), 5), ((3, false, 1), 3)]], amb eq [amb eq [f [((3, true, 1), 2), ((4, false, 2), 4), ((3, false, 1), 3), ((2, false, 0), 1), ((4, false, 3), 5)], f [((3, true, 1), 2), ((4, false, 2), 4), ((3, false, 1), 3), ((4, false, 3), 5), ((2, false, 0), 1)]], amb eq [f [((3, true, 1), 2), ((4, false, 2), 4), ((4, false, 3), 5), ((2, false, 0), 1), ((3, false, 1), 3)], f [((3, true, 1), 2), ((4, false, 2), 4), ((4, false, 3), 5), ((3, false, 1), 3), ((2, false, 0), 1)]]]], amb eq [amb eq [f [((3, true, 1), 2), ((4, false, 3), 5), ((2, false, 0), 1), ((3, false, 1), 3), ((4, false, 2), 4)], f [((3, true, 1), 2), ((4, false, 3), 5), ((2, false, 0), 1), ((4, false, 2), 4), ((3, false, 1), 3)]], amb eq [amb eq [f [((3, true, 1), 2), ((4, false, 3), 5), ((3, false, 1), 3), ((2, false, 0), 1), ((4, false, 2), 4)], f [((3, true, 1), 2), ((4, false, 3), 5), ((3, false, 1), 3), ((4, false, 2), 4), ((2, false, 0), 1)]], amb eq [f [((3, true, 1), 2), ((4, false, 3), 5), ((4, false, 2), 4), ((2, false, 0), 1), ((3, false, 1), 3)], f [((3, true, 1), 2), ((4, false, 3), 5), ((4, false, 2), 4), ((3, false, 1), 3), ((2, false, 0), 1)]]]]]]], amb eq [amb eq [amb eq [amb eq [f [((3, false, 1), 3), ((2, false, 0), 1), ((3, true, 1), 2), ((4, false, 2), 4), ((4, false, 3), 5)], f [((3, false, 1), 3), ((2, false, 0), 1), ((3, true, 1), 2), ((4, false, 3), 5), ((4, false, 2), 4)]], amb eq [amb eq [f [((3, false, 1), 3), ((2, false, 0), 1), ((4, false, 2), 4), ((3, true, 1), 2), ((4, false, 3), 5)], f [((3, false, 1), 3), ((2, false, 0), 1), ((4, false, 2), 4), ((4, false, 3), 5), ((3, true, 1), 2)]], amb eq [f [((3, false, 1), 3), ((2, false, 0), 1), ((4, false, 3), 5), ((3, true, 1), 2), ((4, false, 2), 4)], f [((3, false, 1), 3), ((2, false, 0), 1), ((4, false, 3), 5), ((4, false, 2), 4), ((3, true, 1), 2)]]]], amb eq [amb eq [amb eq [f [((3, false, 1), 3), ((3, true, 1), 2), ((2, false, 0), 1), ((4, false, 2), 4), ((4, false, 3), 5)], f [((3, false, 1), 3), ((3, true, 1), 2), ((2, false, 0), 1), ((4, false, 3), 5), ((4, false, 2), 4)]], amb eq [amb eq [f [((3, false, 1), 3), ((3, true, 1), 2), ((4, false, 2), 4), ((2, false, 0), 1), ((4, false, 3), 5)], f [((3, false, 1), 3), ((3, true, 1), 2), ((4, false, 2), 4), ((4, false, 3), 5), ((2, false, 0), 1)]], amb eq [f [((3, false, 1), 3), ((3, true, 1), 2), ((4, false, 3), 5), ((2, false, 0), 1), ((4, false, 2), 4)], f [((3, false, 1), 3), ((3, true, 1), 2), ((4, false, 3), 5), ((4, false, 2), 4), ((2, false, 0), 1)]]]], amb eq [amb eq [amb eq [f [((3, false, 1), 3), ((4, false, 2), 4), ((2, false, 0), 1), ((3, true, 1), 2), ((4, false, 3), 5)], f [((3, false, 1), 3), ((4, false, 2), 4), ((2, false, 0), 1), ((4, false, 3), 5), ((3, true, 1), 2)]], amb eq [amb eq [f [((3, false, 1), 3), ((4, false, 2), 4), ((3, true, 1), 2), ((2, false, 0), 1), ((4, false, 3), 5)], f [((3, false, 1), 3), ((4, false, 2), 4), ((3, true, 1), 2), ((4, false, 3), 5), ((2, false, 0), 1)]], amb eq [f [((3, false, 1), 3), ((4, false, 2), 4), ((4, false, 3), 5), ((2, false, 0), 1), ((3, true, 1), 2)], f [((3, false, 1), 3), ((4, false, 2), 4), ((4, false, 3), 5), ((3, true, 1), 2), ((2, false, 0), 1)]]]], amb eq [amb eq [f [((3, false, 1), 3), ((4, false, 3), 5), ((2, false, 0), 1), ((3, true, 1), 2), ((4, false, 2), 4)], f [((3, false, 1), 3), ((4, false, 3), 5), ((2, false, 0), 1), ((4, false, 2), 4), ((3, true, 1), 2)]], amb eq [amb eq [f [((3, false, 1), 3), ((4, false, 3), 5), ((3, true, 1), 2), ((2, false, 0), 1), ((4, false, 2), 4)], f [((3, false, 1), 3), ((4, false, 3), 5), ((3, true, 1), 2), ((4, false, 2), 4), ((2, false, 0), 1)]], amb eq [f [((3, false, 1), 3), ((4, false, 3), 5), ((4, false, 2), 4), ((2, false, 0), 1), ((3, true, 1), 2)], f [((3, false, 1), 3), ((4, false, 3), 5), ((4, false, 2), 4), ((3, true, 1), 2), ((2, false, 0), 1)]]]]]]], amb eq [amb eq [amb eq [amb eq [f [((4, false, 2), 4), ((2, false, 0), 1), ((3, true, 1), 2), ((3, false, 1), 3), ((4, false, 3), 5)], f [((4, false, 2), 4), ((2, false, 0), 1), ((3, true, 1), 2), ((4, false, 3), 5), ((3, false, 1), 3)]], amb eq [amb eq [f [((4, false, 2), 4), ((2, false, 0), 1), ((3, false, 1), 3), ((3, true, 1), 2), ((4, false, 3), 5)], f [((4, false, 2), 4), ((2, false, 0), 1), ((3, false, 1), 3), ((4, false, 3), 5), ((3, true, 1), 2)]], amb eq [f [((4, false, 2), 4), ((2, false, 0), 1), ((4, false, 3), 5), ((3, true, 1), 2), ((3, false, 1), 3)], f [((4, false, 2), 4), ((2, false, 0), 1), ((4, false, 3), 5), ((3, false, 1), 3), ((3, true, 1), 2)]]]], amb eq [amb eq [amb eq [f [((4, false, 2), 4), ((3, true, 1), 2), ((2, false, 0), 1), ((3, false, 1), 3), ((4, false, 3), 5)], f [((4, false, 2), 4), ((3, true, 1), 2), ((2, false, 0), 1), ((4, false, 3), 5), ((3, false, 1), 3)]], amb eq [amb eq [f [((4, false, 2), 4), ((3, true, 1), 2), ((3, false, 1), 3), ((2, false, 0), 1), ((4, false, 3), 5)], f [((4, false, 2), 4), ((3, true, 1), 2), ((3, false, 1), 3), ((4, false, 3), 5), ((2, false, 0), 1)]], amb eq [f [((4, false, 2), 4), ((3, true, 1), 2), ((4, false, 3), 5), ((2, false, 0), 1), ((3, false, 1), 3)], f [((4, false, 2), 4), ((3, true, 1), 2), ((4, false, 3), 5), ((3, false, 1), 3), ((2, false, 0), 1)]]]], amb eq [amb eq [amb eq [f [((4, false, 2), 4), ((3, false, 1), 3), ((2, false, 0), 1), ((3, true, 1), 2), ((4, false, 3), 5)], f [((4, false, 2), 4), ((3, false, 1), 3), ((2, false, 0), 1), ((4, false, 3), 5), ((3, true, 1), 2)]], amb eq [amb eq [f [((4, false, 2), 4), ((3, false, 1), 3), ((3, true, 1), 2), ((2, false, 0), 1), ((4, false, 3), 5)], f [((4, false, 2), 4), ((3, false, 1), 3), ((3, true, 1), 2), ((4, false, 3), 5), ((2, false, 0), 1)]], amb eq [f [((4, false, 2), 4), ((3, false, 1), 3), ((4, false, 3), 5), ((2, false, 0), 1), ((3, true, 1), 2)], f [((4, false, 2), 4), ((3, false, 1), 3), ((4, false, 3), 5), ((3, true, 1), 2), ((2, false, 0), 1)]]]], amb eq [amb eq [f [((4, false, 2), 4), ((4, false, 3), 5), ((2, false, 0), 1), ((3, true, 1), 2), ((3, false, 1), 3)], f [((4, false, 2), 4), ((4, false, 3), 5), ((2, false, 0), 1), ((3, false, 1), 3), ((3, true, 1), 2)]], amb eq [amb eq [f [((4, false, 2), 4), ((4, false, 3), 5), ((3, true, 1), 2), ((2, false, 0), 1), ((3, false, 1), 3)], f [((4, false, 2), 4), ((4, false, 3), 5), ((3, true, 1), 2), ((3, false, 1), 3), ((2, false, 0), 1)]], amb eq [f [((4, false, 2), 4), ((4, false, 3), 5), ((3, false, 1), 3), ((2, false, 0), 1), ((3, true, 1), 2)], f [((4, false, 2), 4), ((4, false, 3), 5), ((3, false, 1), 3), ((3, true, 1), 2), ((2, false, 0), 1)]]]]]]], amb eq [amb eq [amb eq [f [((4, false, 3), 5), ((2, false, 0), 1), ((3, true, 1), 2), ((3, false, 1), 3), ((4, false, 2), 4)], f [((4, false, 3), 5), ((2, false, 0), 1), ((3, true, 1), 2), ((4, false, 2), 4), ((3, false, 1), 3)]], amb eq [amb eq [f [((4, false, 3), 5), ((2, false, 0), 1), ((3, false, 1), 3), ((3, true, 1), 2), ((4, false, 2), 4)], f [((4, false, 3), 5), ((2, false, 0), 1), ((3, false, 1), 3), ((4, false, 2), 4), ((3, true, 1), 2)]], amb eq [f [((4, false, 3), 5), ((2, false, 0), 1), ((4, false, 2), 4), ((3, true, 1), 2), ((3, false, 1), 3)], f [((4, false, 3), 5), ((2, false, 0), 1), ((4, false, 2), 4), ((3, false, 1), 3), ((3, true, 1), 2)]]]], amb eq [amb eq [amb eq [f [((4, false, 3), 5), ((3, true, 1), 2), ((2, false, 0), 1), ((3, false, 1), 3), ((4, false, 2), 4)], f [((4, false, 3), 5), ((3, true, 1), 2), ((2, false, 0), 1), ((4, false, 2), 4), ((3, false, 1), 3)]], amb eq [amb eq [f [((4, false, 3), 5), ((3, true, 1), 2), ((3, false, 1), 3), ((2, false, 0), 1), ((4, false, 2), 4)], f [((4, false, 3), 5), ((3, true, 1), 2), ((3, false, 1), 3), ((4, false, 2), 4), ((2, false, 0), 1)]], amb eq [f [((4, false, 3), 5), ((3, true, 1), 2), ((4, false, 2), 4), ((2, false, 0), 1), ((3, false, 1), 3)], f [((4, false, 3), 5), ((3, true, 1), 2), ((4, false, 2), 4), ((3, false, 1), 3), ((2, false, 0), 1)]]]], amb eq [amb eq [amb eq [f [((4, false, 3), 5), ((3, false, 1), 3), ((2, false, 0), 1), ((3, true, 1), 2), ((4, false, 2), 4)], f [((4, false, 3), 5), ((3, false, 1), 3), ((2, false, 0), 1), ((4, false, 2), 4), ((3, true, 1), 2)]], amb eq [amb eq [f [((4, false, 3), 5), ((3, false, 1), 3), ((3, true, 1), 2), ((2, false, 0), 1), ((4, false, 2), 4)], f [((4, false, 3), 5), ((3, false, 1), 3), ((3, true, 1), 2), ((4, false, 2), 4), ((2, false, 0), 1)]], amb eq [f [((4, false, 3), 5), ((3, false, 1), 3), ((4, false, 2), 4), ((2, false, 0), 1), ((3, true, 1), 2)], f [((4, false, 3), 5), ((3, false, 1), 3), ((4, false, 2), 4), ((3, true, 1), 2), ((2, false, 0), 1)]]]], amb eq [amb eq [f [((4, false, 3), 5), ((4, false, 2), 4), ((2, false, 0), 1), ((3, true, 1), 2), ((3, false, 1), 3)], f [((4, false, 3), 5), ((4, false, 2), 4), ((2, false, 0), 1), ((3, false, 1), 3), ((3, true, 1), 2)]], amb eq [amb eq [f [((4, false, 3), 5), ((4, false, 2), 4), ((3, true, 1), 2), ((2, false, 0), 1), ((3, false, 1), 3)], f [((4, false, 3), 5), ((4, false, 2), 4), ((3, true, 1), 2), ((3, false, 1), 3), ((2, false, 0), 1)]], amb eq [f [((4, false, 3), 5), ((4, false, 2), 4), ((3, false, 1), 3), ((2, false, 0), 1), ((3, true, 1), 2)], f [((4, false, 3), 5), ((4, false, 2), 4), ((3, false, 1), 3), ((3, true, 1), 2), ((2, false, 0), 1)]]]]]]]]]]]
set_option maxHeartbeats 4000000 in
theorem addG_eq {R : Type} {f : List (TKey × Int) -> Option R} {eq : R -> R -> Bool} (he : ∀ x, eq x x = true) {r : Option R} (h : ∀ m, m.isPerm m0S = true -> f m = r) : addG f eq = r := by
  unfold addG
  simp only [h [((2, false, 0), 1), ((3, true, 1), 2), ((3, false, 1), 3), ((4, false, 2), 4), ((4, false, 3), 5)] rfl, h [((2, false, 0), 1), ((3, true, 1), 2), ((3, false, 1), 3), ((4, false, 3), 5), ((4, false, 2), 4)] rfl, h [((2, false, 0), 1), ((3, true, 1), 2), ((4, false, 2), 4), ((3, false, 1), 3), ((4, false, 3), 5)] rfl, h [((2, false, 0), 1), ((3, true, 1), 2), ((4, false, 2), 4), ((4, false, 3), 5), ((3, false, 1), 3)] rfl, h [((2, false, 0), 1), ((3, true, 1), 2), ((4, false, 3), 5), ((3, false, 1), 3), ((4, false, 2), 4)] rfl, h [((2, false, 0), 1), ((3, true, 1), 2), ((4, false, 3), 5), ((4, false, 2), 4), ((3, false, 1), 3)] rfl, h [((2, false, 0), 1), ((3, false, 1), 3), ((3, true, 1), 2), ((4, false, 2), 4), ((4, false, 3), 5)] rfl, h [((2, false, 0), 1), ((3, false, 1), 3), ((3, true, 1), 2), ((4, false, 3), 5), ((4, false, 2), 4)] rfl, h [((2, false, 0), 1), ((3, false, 1), 3), ((4, false, 2), 4), ((3, true, 1), 2), ((4, false, 3), 5)] rfl, h [((2, false, 0), 1), ((3, false, 1), 3), ((4, false, 2), 4), ((4, false, 3), 5), ((3, true, 1), 2)] rfl, h [((2, false, 0), 1), ((3, false, 1), 3), ((4, false, 3), 5), ((3, true, 1), 2), ((4, false, 2), 4)] rfl, h [((2, false, 0), 1), ((3, false, 1), 3), ((4, false, 3), 5), ((4, false, 2), 4), ((3, true, 1), 2)] rfl, h [((2, false, 0), 1), ((4, false, 2), 4), ((3, true, 1), 2), ((3, false, 1), 3), ((4, false, 3), 5)] rfl, h [((2, false, 0), 1), ((4, false, 2), 4), ((3, true, 1), 2), ((4, false, 3), 5), ((3, false, 1), 3)] rfl, h [((2, false, 0), 1), ((4, false, 2), 4), ((3, false, 1), 3), ((3, true, 1), 2), ((4, false, 3), 5)] rfl, h [((2, false, 0), 1), ((4, false, 2), 4), ((3, false, 1), 3), ((4, false, 3), 5), ((3, true, 1), 2)] rfl, h [((2, false, 0), 1), ((4, false, 2), 4), ((4, false, 3), 5), ((3, true, 1), 2), ((3, false, 1), 3)] rfl, h [((2, false, 0), 1), ((4, false, 2), 4), ((4, false, 3), 5), ((3, false, 1), 3), ((3, true, 1), 2)] rfl, h [((2, false, 0), 1), ((4, false, 3), 5), ((3, true, 1), 2), ((3, false, 1), 3), ((4, false, 2), 4)] rfl, h [((2, false, 0), 1), ((4, false, 3), 5), ((3, true, 1), 2), ((4, false, 2), 4), ((3, false, 1), 3)] rfl, h [((2, false, 0), 1), ((4, false, 3), 5), ((3, false, 1), 3), ((3, true, 1), 2), ((4, false, 2), 4)] rfl, h [((2, false, 0), 1), ((4, false, 3), 5), ((3, false, 1), 3), ((4, false, 2), 4), ((3, true, 1), 2)] rfl, h [((2, false, 0), 1), ((4, false, 3), 5), ((4, false, 2), 4), ((3, true, 1), 2), ((3, false, 1), 3)] rfl, h [((2, false, 0), 1), ((4, false, 3), 5), ((4, false, 2), 4), ((3, false, 1), 3), ((3, true, 1), 2)] rfl, h [((3, true, 1), 2), ((2, false, 0), 1), ((3, false, 1), 3), ((4, false, 2), 4), ((4, false, 3), 5)] rfl, h [((3, true, 1), 2), ((2, false, 0), 1), ((3, false, 1), 3), ((4, false, 3), 5), ((4, false, 2), 4)] rfl, h [((3, true, 1), 2), ((2, false, 0), 1), ((4, false, 2), 4), ((3, false, 1), 3), ((4, false, 3), 5)] rfl, h [((3, true, 1), 2), ((2, false, 0), 1), ((4, false, 2), 4), ((4, false, 3), 5), ((3, false, 1), 3)] rfl, h [((3, true, 1), 2), ((2, false, 0), 1), ((4, false, 3), 5), ((3, false, 1), 3), ((4, false, 2), 4)] rfl, h [((3, true, 1), 2), ((2, false, 0), 1), ((4, false, 3), 5), ((4, false, 2), 4), ((3, false, 1), 3)] rfl, h [((3, true, 1), 2), ((3, false, 1), 3), ((2, false, 0), 1), ((4, false, 2), 4), ((4, false, 3), 5)] rfl, h [((3, true, 1), 2), ((3, false, 1), 3), ((2, false, 0), 1), ((4, false, 3), 5), ((4, false, 2), 4)] rfl, h [((3, true, 1), 2), ((3, false, 1), 3), ((4, false, 2), 4), ((2, false, 0), 1), ((4, false, 3), 5)] rfl, h [((3, true, 1), 2), ((3, false, 1), 3), ((4, false, 2), 4), ((4, false, 3), 5), ((2, false, 0), 1)] rfl, h [((3, true, 1), 2), ((3, false, 1), 3), ((4, false, 3), 5), ((2, false, 0), 1), ((4, false, 2), 4)] rfl, h [((3, true, 1), 2), ((3, false, 1), 3), ((4, false, 3), 5), ((4, false, 2), 4), ((2, false, 0), 1)] rfl, h [((3, true, 1), 2), ((4, false, 2), 4), ((2, false, 0), 1), ((3, false, 1), 3), ((4, false, 3), 5)] rfl, h [((3, true, 1), 2), ((4, false, 2), 4), ((2, false, 0), 1), ((4, false, 3), 5), ((3, false, 1), 3)] rfl, h [((3, true, 1), 2), ((4, false, 2), 4), ((3, false, 1), 3), ((2, false, 0), 1), ((4, false, 3), 5)] rfl, h [((3, true, 1), 2), ((4, false, 2), 4), ((3, false, 1), 3), ((4, false, 3), 5), ((2, false, 0), 1)] rfl, h [((3, true, 1), 2), ((4, false, 2), 4), ((4, false, 3), 5), ((2, false, 0), 1), ((3, false, 1), 3)] rfl, h [((3, true, 1), 2), ((4, false, 2), 4), ((4, false, 3), 5), ((3, false, 1), 3), ((2, false, 0), 1)] rfl, h [((3, true, 1), 2), ((4, false, 3), 5), ((2, false, 0), 1), ((3, false, 1), 3), ((4, false, 2), 4)] rfl, h [((3, true, 1), 2), ((4, false, 3), 5), ((2, false, 0), 1), ((4, false, 2), 4), ((3, false, 1), 3)] rfl, h [((3, true, 1), 2), ((4, false, 3), 5), ((3, false, 1), 3), ((2, false, 0), 1), ((4, false, 2), 4)] rfl, h [((3, true, 1), 2), ((4, false, 3), 5), ((3, false, 1), 3), ((4, false, 2), 4), ((2, false, 0), 1)] rfl, h [((3, true, 1), 2), ((4, false, 3), 5), ((4, false, 2), 4), ((2, false, 0), 1), ((3, false, 1), 3)] rfl, h [((3, true, 1), 2), ((4, false, 3), 5), ((4, false, 2), 4), ((3, false, 1), 3), ((2, false, 0), 1)] rfl, h [((3, false, 1), 3), ((2, false, 0), 1), ((3, true, 1), 2), ((4, false, 2), 4), ((4, false, 3), 5)] rfl, h [((3, false, 1), 3), ((2, false, 0), 1), ((3, true, 1), 2), ((4, false, 3), 5), ((4, false, 2), 4)] rfl, h [((3, false, 1), 3), ((2, false, 0), 1), ((4, false, 2), 4), ((3, true, 1), 2), ((4, false, 3), 5)] rfl, h [((3, false, 1), 3), ((2, false, 0), 1), ((4, false, 2), 4), ((4, false, 3), 5), ((3, true, 1), 2)] rfl, h [((3, false, 1), 3), ((2, false, 0), 1), ((4, false, 3), 5), ((3, true, 1), 2), ((4, false, 2), 4)] rfl, h [((3, false, 1), 3), ((2, false, 0), 1), ((4, false, 3), 5), ((4, false, 2), 4), ((3, true, 1), 2)] rfl, h [((3, false, 1), 3), ((3, true, 1), 2), ((2, false, 0), 1), ((4, false, 2), 4), ((4, false, 3), 5)] rfl, h [((3, false, 1), 3), ((3, true, 1), 2), ((2, false, 0), 1), ((4, false, 3), 5), ((4, false, 2), 4)] rfl, h [((3, false, 1), 3), ((3, true, 1), 2), ((4, false, 2), 4), ((2, false, 0), 1), ((4, false, 3), 5)] rfl, h [((3, false, 1), 3), ((3, true, 1), 2), ((4, false, 2), 4), ((4, false, 3), 5), ((2, false, 0), 1)] rfl, h [((3, false, 1), 3), ((3, true, 1), 2), ((4, false, 3), 5), ((2, false, 0), 1), ((4, false, 2), 4)] rfl, h [((3, false, 1), 3), ((3, true, 1), 2), ((4, false, 3), 5), ((4, false, 2), 4), ((2, false, 0), 1)] rfl, h [((3, false, 1), 3), ((4, false, 2), 4), ((2, false, 0), 1), ((3, true, 1), 2), ((4, false, 3), 5)] rfl, h [((3, false, 1), 3), ((4, false, 2), 4), ((2, false, 0), 1), ((4, false, 3), 5), ((3, true, 1), 2)] rfl, h [((3, false, 1), 3), ((4, false, 2), 4), ((3, true, 1), 2), ((2, false, 0), 1), ((4, false, 3), 5)] rfl, h [((3, false, 1), 3), ((4, false, 2), 4), ((3, true, 1), 2), ((4, false, 3), 5), ((2, false, 0), 1)] rfl, h [((3, false, 1), 3), ((4, false, 2), 4), ((4, false, 3), 5), ((2, false, 0), 1), ((3, true, 1), 2)] rfl, h [((3, false, 1), 3), ((4, false, 2), 4), ((4, false, 3), 5), ((3, true, 1), 2), ((2, false, 0), 1)] rfl, h [((3, false, 1), 3), ((4, false, 3), 5), ((2, false, 0), 1), ((3, true, 1), 2), ((4, false, 2), 4)] rfl, h [((3, false, 1), 3), ((4, false, 3), 5), ((2, false, 0), 1), ((4, false, 2), 4), ((3, true, 1), 2)] rfl, h [((3, false, 1), 3), ((4, false, 3), 5), ((3, true, 1), 2), ((2, false, 0), 1), ((4, false, 2), 4)] rfl, h [((3, false, 1), 3), ((4, false, 3), 5), ((3, true, 1), 2), ((4, false, 2), 4), ((2, false, 0), 1)] rfl, h [((3, false, 1), 3), ((4, false, 3), 5), ((4, false, 2), 4), ((2, false, 0), 1), ((3, true, 1), 2)] rfl, h [((3, false, 1), 3), ((4, false, 3), 5), ((4, false, 2), 4), ((3, true, 1), 2), ((2, false, 0), 1)] rfl, h [((4, false, 2), 4), ((2, false, 0), 1), ((3, true, 1), 2), ((3, false, 1), 3), ((4, false, 3), 5)] rfl, h [((4, false, 2), 4), ((2, false, 0), 1), ((3, true, 1), 2), ((4, false, 3), 5), ((3, false, 1), 3)] rfl, h [((4, false, 2), 4), ((2, false, 0), 1), ((3, false, 1), 3), ((3, true, 1), 2), ((4, false, 3), 5)] rfl, h [((4, false, 2), 4), ((2, false, 0), 1), ((3, false, 1), 3), ((4, false, 3), 5), ((3, true, 1), 2)] rfl, h [((4, false, 2), 4), ((2, false, 0), 1), ((4, false, 3), 5), ((3, true, 1), 2), ((3, false, 1), 3)] rfl, h [((4, false, 2), 4), ((2, false, 0), 1), ((4, false, 3), 5), ((3, false, 1), 3), ((3, true, 1), 2)] rfl, h [((4, false, 2), 4), ((3, true, 1), 2), ((2, false, 0), 1), ((3, false, 1), 3), ((4, false, 3), 5)] rfl, h [((4, false, 2), 4), ((3, true, 1), 2), ((2, false, 0), 1), ((4, false, 3), 5), ((3, false, 1), 3)] rfl, h [((4, false, 2), 4), ((3, true, 1), 2), ((3, false, 1), 3), ((2, false, 0), 1), ((4, false, 3), 5)] rfl, h [((4, false, 2), 4), ((3, true, 1), 2), ((3, false, 1), 3), ((4, false, 3), 5), ((2, false, 0), 1)] rfl, h [((4, false, 2), 4), ((3, true, 1), 2), ((4, false, 3), 5), ((2, false, 0), 1), ((3, false, 1), 3)] rfl, h [((4, false, 2), 4), ((3, true, 1), 2), ((4, false, 3), 5), ((3, false, 1), 3), ((2, false, 0), 1)] rfl, h [((4, false, 2), 4), ((3, false, 1), 3), ((2, false, 0), 1), ((3, true, 1), 2), ((4, false, 3), 5)] rfl, h [((4, false, 2), 4), ((3, false, 1), 3), ((2, false, 0), 1), ((4, false, 3), 5), ((3, true, 1), 2)] rfl, h [((4, false, 2), 4), ((3, false, 1), 3), ((3, true, 1), 2), ((2, false, 0), 1), ((4, false, 3), 5)] rfl, h [((4, false, 2), 4), ((3, false, 1), 3), ((3, true, 1), 2), ((4, false, 3), 5), ((2, false, 0), 1)] rfl, h [((4, false, 2), 4), ((3, false, 1), 3), ((4, false, 3), 5), ((2, false, 0), 1), ((3, true, 1), 2)] rfl, h [((4, false, 2), 4), ((3, false, 1), 3), ((4, false, 3), 5), ((3, true, 1), 2), ((2, false, 0), 1)] rfl, h [((4, false, 2), 4), ((4, false, 3), 5), ((2, false, 0), 1), ((3, true, 1), 2), ((3, false, 1), 3)] rfl, h [((4, false, 2), 4), ((4, false, 3), 5), ((2, false, 0), 1), ((3, false, 1), 3), ((3, true, 1), 2)] rfl, h [((4, false, 2), 4), ((4, false, 3), 5), ((3, true, 1), 2), ((2, false, 0), 1), ((3, false, 1), 3)] rfl, h [((4, false, 2), 4), ((4, false, 3), 5), ((3, true, 1), 2), ((3, false, 1), 3), ((2, false, 0), 1)] rfl, h [((4, false, 2), 4), ((4, false, 3), 5), ((3, false, 1), 3), ((2, false, 0), 1), ((3, true, 1), 2)] rfl, h [((4, false, 2), 4), ((4, false, 3), 5), ((3, false, 1), 3), ((3, true, 1), 2), ((2, false, 0), 1)] rfl, h [((4, false, 3), 5), ((2, false, 0), 1), ((3, true, 1), 2), ((3, false, 1), 3), ((4, false, 2), 4)] rfl, h [((4, false, 3), 5), ((2, false, 0), 1), ((3, true, 1), 2), ((4, false, 2), 4), ((3, false, 1), 3)] rfl, h [((4, false, 3), 5), ((2, false, 0), 1), ((3, false, 1), 3), ((3, true, 1), 2), ((4, false, 2), 4)] rfl, h [((4, false, 3), 5), ((2, false, 0), 1), ((3, false, 1), 3), ((4, false, 2), 4), ((3, true, 1), 2)] rfl, h [((4, false, 3), 5), ((2, false, 0), 1), ((4, false, 2), 4), ((3, true, 1), 2), ((3, false, 1), 3)] rfl, h [((4, false, 3), 5), ((2, false, 0), 1), ((4, false, 2), 4), ((3, false, 1), 3), ((3, true, 1), 2)] rfl, h [((4, false, 3), 5), ((3, true, 1), 2), ((2, false, 0), 1), ((3, false, 1), 3), ((4, false, 2), 4)] rfl, h [((4, false, 3), 5), ((3, true, 1), 2), ((2, false, 0), 1), ((4, false, 2), 4), ((3, false, 1), 3)] rfl, h [((4, false, 3), 5), ((3, true, 1), 2), ((3, false, 1), 3), ((2, false, 0), 1), ((4, false, 2), 4)] rfl, h [((4, false, 3), 5), ((3, true, 1), 2), ((3, false, 1), 3), ((4, false, 2), 4), ((2, false, 0), 1)] rfl, h [((4, false, 3), 5), ((3, true, 1), 2), ((4, false, 2), 4), ((2, false, 0), 1), ((3, false, 1), 3)] rfl, h [((4, false, 3), 5), ((3, true, 1), 2), ((4, false, 2), 4), ((3, false, 1), 3), ((2, false, 0), 1)] rfl, h [((4, false, 3), 5), ((3, false, 1), 3), ((2, false, 0), 1), ((3, true, 1), 2), ((4, false, 2), 4)] rfl, h [((4, false, 3), 5), ((3, false, 1), 3), ((2, false, 0), 1), ((4, false, 2), 4), ((3, true, 1), 2)] rfl, h [((4, false, 3), 5), ((3, false, 1), 3), ((3, true, 1), 2), ((2, false, 0), 1), ((4, false, 2), 4)] rfl, h [((4, false, 3), 5), ((3, false, 1), 3), ((3, true, 1), 2), ((4, false, 2), 4), ((2, false, 0), 1)] rfl, h [((4, false, 3), 5), ((3, false, 1), 3), ((4, false, 2), 4), ((2, false, 0), 1), ((3, true, 1), 2)] rfl, h [((4, false, 3), 5), ((3, false, 1), 3), ((4, false, 2), 4), ((3, true, 1), 2), ((2, false, 0), 1)] rfl, h [((4, false, 3), 5), ((4, false, 2), 4), ((2, false, 0), 1), ((3, true, 1), 2), ((3, false, 1), 3)] rfl, h [((4, false, 3), 5), ((4, false, 2), 4), ((2, false, 0), 1), ((3, false, 1), 3), ((3, true, 1), 2)] rfl, h [((4, false, 3), 5), ((4, false, 2), 4), ((3, true, 1), 2), ((2, false, 0), 1), ((3, false, 1), 3)] rfl, h [((4, false, 3), 5), ((4, false, 2), 4), ((3, true, 1), 2), ((3, false, 1), 3), ((2, false, 0), 1)] rfl, h [((4, false, 3), 5), ((4, false, 2), 4), ((3, false, 1), 3), ((2, false, 0), 1), ((3, true, 1), 2)] rfl, h [((4, false, 3), 5), ((4, false, 2), 4), ((3, false, 1), 3), ((3, true, 1), 2), ((2, false, 0), 1)] rfl, amb2 he]
def rightX (x : TRec) : Bool := decide (1 ≤ x.1 ∧ x.1 ≤ 4 ∧ (x.1 = 2 ↔ 0 < x.2.2.1) ∧ (x.2.2.2.1 = true -> x.1 = 3) ∧ (x.2.2.2.2.length = 0 ∨ x.1 = 2 ∧ x.2.2.2.2.length ≤ 8192))
theorem nvright_eq (x : TRec) : qhq_ (x, ()) = some (rightX x, ()) := by
  obtain ⟨k, tx, who, yes, text⟩ := x
  have hs : qju_ (k, ()) = some ((decide (k = 2), decide (k = 3), decide (k = 2)), decide (1 ≤ k ∧ k ≤ 4), ()) := by
    show qjs_ k = _
    unfold qjs_
    simp only [q4g_, gdV, isV]
    by_cases h1 : 1 = k
    · subst h1; rfl
    · by_cases h2 : 2 = k
      · subst h2; rfl
      · by_cases h3 : 3 = k
        · subst h3; rfl
        · by_cases h4 : 4 = k
          · subst h4; rfl
          · rw [if_neg h1, if_neg h2, if_neg h3, if_neg h4, decide_eq_false (by omega), decide_eq_false (by omega), decide_eq_false (by omega)]
            rfl
  have K : ∀ t f, qbe_ t (k, tx, who, yes, text) f = if t = true then some (false, ()) else some (decide (text.length = 0 ∨ f.2.2 = true ∧ text.length ≤ 8192), ()) := fun t f => by
    unfold qbe_ qjq_
    cases t with
    | true => rfl
    | false =>
      simp only [Bool.false_eq_true, if_false]
      by_cases h : text.length = 0
      · rw [if_pos (by rw [q4g_, q1b_]; omega), decide_eq_true (.inl h)]
      · rw [if_neg (by rw [q4g_, q1b_]; omega)]
        cases f.2.2 with
        | true =>
          rw [if_pos rfl]
          by_cases hl : text.length ≤ 8192
          · rw [le_iff.2 (by rw [q1b_]; omega), decide_eq_true (.inr ⟨rfl, hl⟩)]
          · rw [show le (Int.ofNat text.length) 8192 = false from decide_eq_false (by rw [q1b_]; omega), decide_eq_false (fun e => e.elim h (fun e => hl e.2))]
        | false =>
          rw [if_neg (by decide), decide_eq_false (fun e => e.elim h (fun e => by cases e.1))]
  show qgo_ qbe_ (k, tx, who, yes, text) = _
  unfold qgo_
  dsimp only
  rw [hs, Option.bind_some]
  dsimp only
  simp only [K]
  unfold rightX
  dsimp only
  by_cases hk : 1 ≤ k ∧ k ≤ 4
  · rw [decide_eq_true hk, if_neg (by decide)]
    by_cases hw : k = 2 ↔ 0 < who
    · have : neb (decide (k = 2)) (gt who 0) = false := by
        have e : gt who 0 = decide (k = 2) := by
          rw [Bool.eq_iff_iff, gt_iff, decide_eq_true_eq]
          exact hw.symm
        rw [e]
        cases decide (k = 2) <;> rfl
      rw [this, if_neg (by decide)]
      cases yes with
      | true =>
        rw [if_pos rfl]
        by_cases h3 : k = 3
        · rw [decide_eq_true h3, if_neg (by decide)]
          congr 2
          rw [decide_eq_decide]
          simp only [decide_eq_true_eq]
          exact ⟨fun h => ⟨hk.1, hk.2, hw, fun _ => h3, h⟩, fun h => h.2.2.2.2⟩
        · rw [decide_eq_false h3, if_pos (by decide), decide_eq_false (fun h => h3 (h.2.2.2.1 rfl))]
      | false =>
        rw [if_neg (by decide), if_neg (by decide)]
        congr 2
        rw [decide_eq_decide]
        simp only [decide_eq_true_eq]
        exact ⟨fun h => ⟨hk.1, hk.2, hw, (fun e => by cases e), h⟩, fun h => h.2.2.2.2⟩
    · have : neb (decide (k = 2)) (gt who 0) = true := by
        by_cases h2 : k = 2
        · have h0 : ¬ 0 < who := fun e => hw ⟨fun _ => e, fun _ => h2⟩
          rw [decide_eq_true h2, show gt who 0 = false from decide_eq_false h0]; rfl
        · have h0 : 0 < who := by
            rcases Classical.em (0 < who) with e | e
            · exact e
            · exact absurd ⟨fun e' => absurd e' h2, fun e' => absurd e' e⟩ hw
          rw [decide_eq_false h2, show gt who 0 = true from decide_eq_true h0]; rfl
      rw [this, if_pos rfl, if_pos trivial, decide_eq_false (fun h => hw h.2.2.1)]
  · rw [decide_eq_false hk, if_pos (by decide), if_pos trivial, decide_eq_false (fun h => hk ⟨h.1, h.2.1⟩)]
theorem clone8_eq {s : List Int} (hl : s.length ≤ 1073741824) : q92_ (s, ()) = some (s, ()) := by
  show qd8_ s = _
  unfold qd8_
  rw [q8x_ (by omega)]
  by_cases h : s.length = 0
  · rw [if_pos (by rw [q4g_, q1b_]; omega), List.eq_nil_of_length_eq_zero h]
    rfl
  · rw [if_neg (by rw [q4g_, q1b_]; omega)]
theorem own_eq {l : List TJob} (hl : l.length ≤ 1000000) (hx : ∀ j ∈ l, j.2.2.1.length ≤ 8192) : qk3_ (l, ()) = some (l, ()) := by
  show qi9_ qeb_ l = _
  unfold qi9_
  have e : add .i64 (Int.ofNat l.length) 1 = ((l.length + 1 : Nat) : Int) := q4d_ (by omega)
  have hc : capOk (Int.ofNat l.length) ((l.length + 1 : Nat) : Int) = true := by
    unfold capOk
    split
    · rfl
    · rw [decide_eq_true_eq, q1b_]; omega
  rw [e, need_t hc, Int.toNat_natCast, q8x_ (by omega), q1b_, Int.toNat_natCast]
  have e0 : List.replicate l.length ((0, 0, [], 0) : TJob) = l.take 0 ++ List.replicate (l.length - 0) (0, 0, [], 0) := by rw [List.take_zero]; rfl
  rw [e0]
  unfold qeb_
  refine loop_dt (N := l.length) (mk := fun i => (l, (l.length : Int), (i : Int), l.take i ++ List.replicate (l.length - i) ((0, 0, [], 0) : TJob))) ?_ ?_ l.length 0 _ (by omega) (by omega)
  · intro self i hi
    have hj := List.getElem?_eq_getElem hi
    show qc2_ _ l (l.length : Int) (i : Int) _ = _
    unfold qc2_
    have hr : List.replicate (l.length - i) ((0, 0, [], 0) : TJob) = (0, 0, [], 0) :: List.replicate (l.length - (i + 1)) (0, 0, [], 0) := by
      rw [show l.length - i = l.length - (i + 1) + 1 by omega]
      rfl
    have hlen : (l.take i).length = i := by rw [List.length_take]; omega
    have ha : at? (l.take i ++ List.replicate (l.length - i) ((0, 0, [], 0) : TJob)) (i : Int) = some (0, 0, [], 0) := by
      rw [hr]
      have := at_app (l.take i) ((0, 0, [], 0) : TJob) (List.replicate (l.length - (i + 1)) (0, 0, [], 0))
      rw [hlen] at this
      exact this
    rw [if_pos (by rw [q2m_]; omega), at_get hj, Option.bind_some, clone8_eq (by have := hx _ (List.getElem_mem hi); omega), Option.bind_some, ha, Option.bind_some, Option.bind_some, q4d_ (by omega), Int.toNat_natCast]
    congr 1
    have hs := set_at (l.take i) ((0, 0, [], 0) : TJob) l[i] (List.replicate (l.length - (i + 1)) (0, 0, [], 0))
    rw [hlen] at hs
    dsimp only
    rw [hr]
    show List.set _ i l[i] = _
    rw [hs, List.take_succ_eq_append_getElem hi, List.append_assoc]
    rfl
  · intro self
    show qc2_ _ l (l.length : Int) (l.length : Int) _ = _
    unfold qc2_
    rw [if_neg (by rw [q2m_]; omega), List.take_length, Nat.sub_self, List.replicate_zero, List.append_nil]
theorem bsr_eq {l : List TJob} (hs : Rise l) (hl : l.length ≤ 1000000) (t : Int) : ∃ i : Nat, i ≤ l.length ∧ (∀ k x, l[k]? = some x -> (x.1 < t ↔ k < i)) ∧ ∃ b, q50_ (t, l, ()) = some ((i : Int), b, l, ()) := by
  obtain ⟨i, h1, h2⟩ := lb_ex hs t
  refine ⟨i, h1, h2, ?_⟩
  have fin : ∃ b, q4i_ t (Int.ofNat l.length) (i : Int) l = some ((i : Int), b, l, ()) := by
    unfold q4i_ q85_
    by_cases hi : i < l.length
    · rw [if_pos (by rw [q2m_, q1b_]; omega), at_get (List.getElem?_eq_getElem hi), Option.bind_some, Option.bind_some, cmp_eq]
      exact ⟨_, rfl⟩
    · rw [if_neg (by rw [q2m_, q1b_]; omega)]
      exact ⟨_, rfl⟩
  obtain ⟨b, hb⟩ := fin
  refine ⟨b, ?_⟩
  show q4j_ t (Int.ofNat l.length) ((0 : Nat) : Int) (l.length : Int) l = _
  unfold q4j_
  refine loopF_eq (Inv := fun s => ∃ p q : Nat, s = (t, Int.ofNat l.length, (p : Int), (q : Int), l) ∧ p ≤ i ∧ i ≤ q ∧ q ≤ l.length) (μ := fun s => (s.2.2.2.1 - s.2.2.1).toNat) (G := fun _ => some ((i : Int), b, l, ())) ?_ _ _ ⟨0, l.length, rfl, Nat.zero_le _, h1, Nat.le_refl _⟩ (by dsimp only; omega)
  rintro self s ⟨p, q, rfl, hp, hq, hn⟩ ih
  show q62_ _ _ t (Int.ofNat l.length) (p : Int) (q : Int) l = _
  unfold q62_
  by_cases hpq : p < q
  · have hm : (p + q) / 2 < l.length := by omega
    have hg := List.getElem?_eq_getElem hm
    rw [if_pos (by rw [q2m_]; omega), half64 (by omega), at_get hg, Option.bind_some, Option.bind_some, cmp_eq, Option.bind_some]
    dsimp only
    have := h2 _ _ hg
    by_cases hc : (l[(p + q) / 2]'hm).1 < t
    · rw [if_pos hc, if_pos (by decide), q4d_ (by omega)]
      exact ih _ ⟨(p + q) / 2 + 1, q, rfl, by omega, hq, hn⟩ (by dsimp only; omega)
    · rw [if_neg hc]
      have e : ∀ x : Int, x = (if t < (l[(p + q) / 2]'hm).1 then 1 else 0) -> ¬ (lt x 0 = true) := fun x hx => by
        rw [q2m_, hx]
        split <;> decide
      rw [if_neg (e _ rfl)]
      exact ih _ ⟨p, (p + q) / 2, rfl, hp, by omega, by omega⟩ (by dsimp only; omega)
  · rw [if_neg (by rw [q2m_]; omega)]
    have : p = i := by omega
    rw [this]
    exact hb
def findJ (l : List TJob) (t : Int) : Option Nat := l.findIdx? (fun j => decide (j.1 = t))
theorem findJ_some {l : List TJob} {t : Int} {i : Nat} (h : findJ l t = some i) : ∃ j, l[i]? = some j ∧ j.1 = t := by
  unfold findJ at h
  obtain ⟨hi, h1, _⟩ := List.findIdx?_eq_some_iff_getElem.1 h
  exact ⟨_, List.getElem?_eq_getElem hi, by simpa using h1⟩
theorem findJ_none {l : List TJob} {t : Int} (h : findJ l t = none) : ∀ j ∈ l, j.1 ≠ t := by
  unfold findJ at h
  intro j hj
  have := List.findIdx?_eq_none_iff.1 h j hj
  simpa using this
theorem findr_eq {l : List TJob} (hs : Rise l) (hl : l.length ≤ 1000000) (t : Int) : qe8_ (t, l, ()) = some (match findJ l t with | some i => ((i : Int), true, l, ()) | none => (0, false, l, ())) := by
  obtain ⟨k, h1, h2, b, h3⟩ := bsr_eq hs hl t
  show qdo_ qdt_ t l = _
  unfold qdo_ qjt_
  show Option.bind (Option.bind (q50_ (t, l, ())) _) _ = _
  rw [h3, Option.bind_some, Option.bind_some]
  dsimp only
  cases hf : findJ l t with
  | some i =>
    obtain ⟨j, hj, ht⟩ := findJ_some hf
    have hi := (List.getElem?_eq_some_iff.1 hj).1
    have e : k = i := by
      have := h2 i j hj
      by_cases hk : k < l.length
      · have a1 := h2 k _ (List.getElem?_eq_getElem hk)
        rcases Nat.lt_trichotomy k i with h | h | h
        · have := rise_get hs (List.getElem?_eq_getElem hk) hj h
          omega
        · exact h
        · omega
      · omega
    subst e
    rw [if_neg (by rw [q5v_, q1b_]; omega), at_get hj, Option.bind_some, Option.bind_some, ht]
    have : nei t t = false := by simp [nei]
    rw [this]
    rfl
  | none =>
    have ht := findJ_none hf
    by_cases hk : k < l.length
    · have hg := List.getElem?_eq_getElem hk
      rw [if_neg (by rw [q5v_, q1b_]; omega), at_get hg, Option.bind_some, Option.bind_some]
      have : nei (l[k]).1 t = true := by
        rw [nei_iff]
        exact ht _ (List.getElem_mem _)
      rw [this]
      rfl
    · rw [if_pos (by rw [q5v_, q1b_]; omega)]
      rfl
def lastT (l : List TJob) : Int := match l.getLast? with
  | some j => j.1
  | none => 0
def addS (l : List TJob) (x : TRec) : Option (List TJob) :=
  if rightX x = false then none
  else if x.1 = 1 then some l
  else if x.1 = 2 then (if lastT l < x.2.1 then some (l ++ [(x.2.1, x.2.2.1, x.2.2.2.2, 1)]) else none)
  else match findJ l x.2.1 with
    | none => none
    | some i => match l[i]? with
      | none => none
      | some j => (stepS x.1 x.2.2.2.1 j.2.2.2).map fun s => l.set i (j.1, j.2.1, j.2.2.1, s)
theorem put_eq {m : List (TKey × Int)} (hm : m.isPerm m0S = true) {l : List TJob} (hs : Rise l) (hl : l.length ≤ 1000000) (x : TRec) : ∃ o, q8_ (x, l, m, ()) = some (match addS l x with | some r => (r, true, o, ()) | none => ([], false, o, ())) := by
  refine ⟨m, ?_⟩
  show qib_ qc0_ x l m = _
  unfold qib_ addS
  rw [nvright_eq, Option.bind_some]
  dsimp only
  cases hr : rightX x with
  | false => rfl
  | true =>
    rw [if_neg (by decide), if_neg (show ¬ (true = false) by decide)]
    unfold rightX at hr
    rw [decide_eq_true_eq] at hr
    obtain ⟨r1, r2, r3, r4, r5⟩ := hr
    by_cases h1 : x.1 = 1
    · rw [if_pos (q4g_.2 h1), if_pos h1]
    · rw [if_neg (fun e => h1 (q4g_.1 e)), if_neg h1]
      by_cases h2 : x.1 = 2
      · rw [if_pos (q4g_.2 h2), if_pos h2]
        have hyes : x.2.2.2.1 = false := by
          cases hy : x.2.2.2.1 with
          | false => rfl
          | true => have := r4 hy; omega
        have K1 : qc0_ (lastT l) l m x = some (match (if lastT l < x.2.1 then some (l ++ [(x.2.1, x.2.2.1, x.2.2.2.2, 1)]) else none) with | some r => (r, true, m, ()) | none => ([], false, m, ())) := by
          unfold qc0_ qjz_
          rw [step_eq hm, h2, hyes]
          show (if (!true) = true then _ else qe6_ 1 (le x.2.1 (lastT l)) l m x) = _
          rw [if_neg (by decide)]
          unfold qe6_ qk0_
          by_cases hlt : lastT l < x.2.1
          · rw [if_neg (by rw [le_iff]; omega), clone8_eq (by omega), Option.bind_some, q8x_ (by show l.length + 1 ≤ _; omega), if_pos hlt]
          · rw [if_pos (by rw [le_iff]; omega), if_neg hlt]
        cases hg : l.getLast? with
        | none =>
          have : l = [] := List.getLast?_eq_none_iff.1 hg
          subst this
          rw [if_neg (by decide)]
          exact K1
        | some j =>
          have hne : l ≠ [] := fun e => by rw [e] at hg; cases hg
          have hpos : 0 < l.length := List.length_pos_iff.2 hne
          have hlast : lastT l = j.1 := by unfold lastT; rw [hg]
          have hat : at? l (sub .i64 (Int.ofNat l.length) 1) = some j := by
            have : sub .i64 (Int.ofNat l.length) 1 = ((l.length - 1 : Nat) : Int) := by rw [q1b_, sub64 (by omega) (by omega)]; omega
            rw [this]
            exact at_get (by rw [<- List.getLast?_eq_getElem?]; exact hg)
          rw [if_pos (by rw [gt_iff, q1b_]; omega), hat, Option.bind_some, Option.bind_some, <- hlast]
          exact K1
      · rw [if_neg (fun e => h2 (q4g_.1 e)), if_neg h2, findr_eq hs hl, Option.bind_some]
        cases hf : findJ l x.2.1 with
        | none => rfl
        | some i =>
          obtain ⟨j, hj, ht⟩ := findJ_some hf
          dsimp only
          rw [if_neg (by decide), at_get hj, Option.bind_some, Option.bind_some, step_eq hm, hj]
          dsimp only
          cases hst : stepS x.1 x.2.2.2.1 j.2.2.2 with
          | none => rfl
          | some s =>
            dsimp only [isV, gdV]
            rw [if_neg (show ¬ ((!(some s).isSome) = true) from fun e => by cases e), Option.bind_some, Option.bind_some, Int.toNat_natCast]
            rfl
theorem ladd_eq {l : List TJob} (hs : Rise l) (hl : l.length ≤ 1000000) (ht : ∀ j ∈ l, j.2.2.1.length ≤ 8192) (x : TRec) : qk4_ (l, x, ()) = some (match addS l x with | some r => (r, 0, ()) | none => ([], 230, ())) := by
  show qjy_ l x = _
  unfold qjy_
  rw [own_eq hl ht, Option.bind_some]
  exact addG_eq (f := fun m => Option.bind (q8_ (x, l, m, ())) fun y => if (!y.2.1) = true then some ([], 230, ()) else some (y.1, 0, ())) (fun z => eqAs_refl q3_.rs z) fun m hm => by
    obtain ⟨o, ho⟩ := put_eq hm hs hl x
    rw [ho, Option.bind_some]
    cases addS l x <;> rfl
end Go.Proofs.Lx
end
section
namespace Go.Proofs.Lx
open Go Ev Sx Pl
set_option maxRecDepth 100000
theorem rightJ_iff : ∀ {l : List TJob} {b : Int}, rightJ b l = true ↔ Rise l ∧ ∀ j ∈ l, b < j.1 ∧ j.2.1 ≠ 0 ∧ j.2.2.1.length ≤ 8192 ∧ 1 ≤ j.2.2.2 ∧ j.2.2.2 ≤ 5
  | [], _ => by simp [rightJ]
  | j :: r, b => by
    rw [rightJ_cons, Bool.and_eq_true, decide_eq_true_eq, rightJ_iff (l := r)]
    constructor
    · rintro ⟨h1, h2, h3⟩
      refine ⟨.cons (fun x hx => (h3 x hx).1) h2, fun x hx => ?_⟩
      rcases List.mem_cons.1 hx with rfl | hx
      · exact h1
      · have := h3 x hx
        exact ⟨by omega, this.2⟩
    · rintro ⟨h1, h2⟩
      refine ⟨h2 j List.mem_cons_self, h1.of_cons, fun x hx => ⟨List.rel_of_pairwise_cons h1 hx, (h2 x (List.mem_cons_of_mem _ hx)).2⟩⟩
def Good (l : List TJob) : Prop := rightJ 0 l = true ∧ ∀ j ∈ l, OkJ j
theorem good_nil : Good [] := ⟨rfl, by simp⟩
def stepC (a b : Int) : Prop := b = a ∨ (a = 1 ∧ (b = 2 ∨ b = 3)) ∨ ((a = 2 ∨ a = 3) ∧ b = a + 2)
theorem stepS_C {a : Int} {b : Bool} {c s : Int} (h : stepS a b c = some s) (ha : a ≠ 2) : stepC c s ∧ 1 ≤ s ∧ s ≤ 5 := by
  unfold stepS at h
  unfold stepC
  split at h
  · omega
  · split at h
    · cases h; omega
    · split at h
      · cases h; omega
      · split at h
        · cases h; omega
        · split at h
          · cases h; omega
          · cases h
def Onto (l r : List TJob) : Prop := (r.length = l.length ∨ r.length = l.length + 1) ∧ ∀ (k : Nat) (j : TJob), l[k]? = some j -> ∃ j', r[k]? = some j' ∧ j'.1 = j.1 ∧ j'.2.1 = j.2.1 ∧ stepC j.2.2.2 j'.2.2.2
theorem rise_map {l : List TJob} : Rise l ↔ (l.map (·.1)).Pairwise (· < ·) := List.pairwise_map.symm
theorem last_ge {l : List TJob} (h : Rise l) : ∀ j ∈ l, j.1 ≤ lastT l := by
  intro j hj
  obtain ⟨i, hi, rfl⟩ := List.getElem_of_mem hj
  have hne : l ≠ [] := fun e => by subst e; cases hj
  have hl : l.getLast? = some (l[l.length - 1]'(by omega)) := by
    rw [List.getLast?_eq_getElem?, List.getElem?_eq_getElem]
  unfold lastT
  rw [hl]
  dsimp only
  by_cases hlt : i < l.length - 1
  · have := List.pairwise_iff_getElem.1 h i (l.length - 1) hi (by omega) hlt
    omega
  · have : i = l.length - 1 := by omega
    subst this
    exact Int.le_refl _
theorem add_onto {l r : List TJob} {x : TRec} (hg : Good l) (hx : 0 ≤ x.2.1 ∧ x.2.1 < 4294967296 ∧ 0 ≤ x.2.2.1 ∧ x.2.2.1 < 256) (h : addS l x = some r) : Good r ∧ Onto l r := by
  obtain ⟨hg1, hg2⟩ := hg
  obtain ⟨hrise, hall⟩ := rightJ_iff.1 hg1
  unfold addS at h
  split at h
  · cases h
  · rename_i hr
    have hr : rightX x = true := by simpa using hr
    unfold rightX at hr
    rw [decide_eq_true_eq] at hr
    obtain ⟨r1, r2, r3, r4, r5⟩ := hr
    split at h
    · cases h
      exact ⟨⟨hg1, hg2⟩, .inl rfl, fun k j hj => ⟨j, hj, rfl, rfl, .inl rfl⟩⟩
    · split at h
      · rename_i h2
        split at h
        · rename_i hlt
          cases h
          have hlast : 0 ≤ lastT l := by
            unfold lastT
            cases hgl : l.getLast? with
            | none => exact Int.le_refl _
            | some j =>
              have := hall j (List.mem_of_getLast? hgl)
              dsimp only
              omega
          have hwho := r3.1 h2
          have htext : x.2.2.2.2.length ≤ 8192 := by
            rcases r5 with h | h
            · omega
            · exact h.2
          refine ⟨⟨rightJ_iff.2 ⟨?_, fun j hj => ?_⟩, fun j hj => ?_⟩, .inr (by simp), fun k j hj => ⟨j, ?_, rfl, rfl, .inl rfl⟩⟩
          · refine List.pairwise_append.2 ⟨hrise, List.pairwise_singleton _ _, fun a ha b hb => ?_⟩
            rw [List.mem_singleton] at hb
            subst hb
            have := last_ge hrise a ha
            show a.1 < x.2.1
            omega
          · rcases List.mem_append.1 hj with hj | hj
            · exact hall j hj
            · rw [List.mem_singleton] at hj
              subst hj
              exact ⟨by show 0 < x.2.1; omega, by show x.2.2.1 ≠ 0; omega, htext, (by decide : (1 : Int) ≤ 1), (by decide : (1 : Int) ≤ 5)⟩
          · rcases List.mem_append.1 hj with hj | hj
            · exact hg2 j hj
            · rw [List.mem_singleton] at hj
              subst hj
              exact ⟨hx.1, hx.2.1, hx.2.2.1, hx.2.2.2, (by decide : (0 : Int) ≤ 1), (by decide : (1 : Int) < 256)⟩
          · rw [List.getElem?_append_left (List.getElem?_eq_some_iff.1 hj).1]
            exact hj
        · cases h
      · rename_i h2
        cases hf : findJ l x.2.1 with
        | none => rw [hf] at h; cases h
        | some i =>
          rw [hf] at h
          obtain ⟨j, hj, ht⟩ := findJ_some hf
          dsimp only at h
          rw [hj] at h
          dsimp only at h
          obtain ⟨s, hs, rfl⟩ := Option.map_eq_some_iff.1 h
          obtain ⟨c1, c2, c3⟩ := stepS_C hs h2
          have hi := (List.getElem?_eq_some_iff.1 hj).1
          have hmem : j ∈ l := List.mem_of_getElem? hj
          have hm : (l.set i (j.1, j.2.1, j.2.2.1, s)).map (·.1) = l.map (·.1) := by
            rw [List.map_set]
            apply List.ext_getElem?
            intro n
            rw [List.getElem?_set]
            split
            · rename_i hn
              subst hn
              rw [if_pos (by rw [List.length_map]; exact hi), List.getElem?_map, hj]
              rfl
            · rfl
          refine ⟨⟨rightJ_iff.2 ⟨?_, fun y hy => ?_⟩, fun y hy => ?_⟩, .inl (by simp), fun k y hy => ?_⟩
          · rw [rise_map, hm, <- rise_map]
            exact hrise
          · rcases List.mem_or_eq_of_mem_set hy with hy | hy
            · exact hall y hy
            · subst hy
              have := hall j hmem
              exact ⟨this.1, this.2.1, this.2.2.1, c2, c3⟩
          · rcases List.mem_or_eq_of_mem_set hy with hy | hy
            · exact hg2 y hy
            · subst hy
              obtain ⟨o1, o2, o3, o4, o5, o6⟩ := hg2 j hmem
              exact ⟨o1, o2, o3, o4, by show 0 ≤ s; omega, by show s < 256; omega⟩
          · by_cases hk : i = k
            · subst hk
              rw [hj] at hy
              cases hy
              exact ⟨(j.1, j.2.1, j.2.2.1, s), by rw [List.getElem?_set_self hi], rfl, rfl, c1⟩
            · exact ⟨y, by rw [List.getElem?_set_ne hk]; exact hy, rfl, rfl, .inl rfl⟩
end Go.Proofs.Lx
end
