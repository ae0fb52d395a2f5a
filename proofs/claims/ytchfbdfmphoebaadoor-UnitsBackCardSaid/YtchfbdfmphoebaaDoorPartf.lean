/- Proved in the last of these 7 parts (this is part 6): for every input UnitsBack returns true: what is shown is said, noughts behind a point's digits say the same, and what a text says is shown as it, but for noughts and -0. Conditions: those of the given statement, and no others. -/
import Derived.Test.YtchfbdfmphoebaaDoorPartd
import Derived.Test.YtchfbdfmphoebaaDoorParte
import Derived.Test.YtchfbdfmphoebaaDoorProg
import Derived.Stop.LaidErr
import Derived.Lib.LaidTab
set_option linter.unusedVariables false
set_option linter.unusedSimpArgs false
set_option linter.unusedSectionVars false
section
/- Contracts, made by a program. -/
open Go Go.Proofs Ev Sx
set_option maxRecDepth 100000
namespace Go.Proofs.Lx
/-! units_To -/
@[reducible] def units_To_s : Sh := ⟨[.d (.pr (.int .i64) (.int .u8)), .d (.str), .d (.str)], [], [.pr (.int .i64) (.int .u8), .str, .str], [.d (.pr (.int .i64) (.int .u8)), .d (.bool)], [], 0, [.pr (.int .i64) (.int .u8), .bool]⟩
def units_To_e : Env := (cts [(22, (⟨units_Times_s, units_Times⟩ : Ct))])
def units_To_h : List (Nat × Hint) := [(62, ⟨[], [3, 6, 9, 11, 38]⟩)]
def units_To_k1 (t38 : Bool) (d : Int) (d_2 : Int) (t6 : Int) (t6_2 : Int) (a : List UInt8) (a_2 : Int) (a_3 : Int) (b : List UInt8) (b_2 : Int) (b_3 : Int) : St := { fr := [(3, .pb 0 0), (6, .pb 1 0), (9, .pb 2 0), (11, .pb 3 0), (38, .d .bool t38)], nt := 54, up := [], own := [(0, .box 40 [.d (.int .i64) d, .d (.int .u8) d_2]), (1, .box 40 [.d (.int .i64) t6, .d (.int .u8) t6_2]), (2, .box 49 [.d .str a, .d (.int .i64) a_2, .d (.int .i64) a_3]), (3, .box 49 [.d .str b, .d (.int .i64) b_2, .d (.int .i64) b_3])], nx := 4, log := [], ln := 0 }
def units_To_m1 (t38 : Bool) (d : Int) (d_2 : Int) (t6 : Int) (t6_2 : Int) (a : List UInt8) (a_2 : Int) (a_3 : Int) (b : List UInt8) (b_2 : Int) (b_3 : Int) : Option (As [.pr (.int .i64) (.int .u8), .bool]) :=
  if t38 = true then some ((0, 0), false, ()) else Option.bind (units_Times ((d, d_2), mul .i64 a_2 b_3, mul .i64 a_3 b_2, ())) fun (y : (Int × Int) × Bool × Unit) => some (y.1, y.2.1, ())
def units_To_m0 (j1 : Bool → Int → Int → Int → Int → List UInt8 → Int → Int → List UInt8 → Int → Int → Option (As [.pr (.int .i64) (.int .u8), .bool])) (d : Int × Int) (from' : List UInt8) (to' : List UInt8) : Option (As [.pr (.int .i64) (.int .u8), .bool]) :=
  if (!Ev.isV LAT0 (if eqs [] from' = true then some ([], 1, 1) else if eqs [37] from' = true then some ([], 1, 1) else if eqs [109] from' = true then some ([109], 1, 1) else if eqs [99, 109] from' = true then some ([109], 1, 100) else if eqs [109, 109] from' = true then some ([109], 1, 1000) else if eqs [115] from' = true then some ([115], 1, 1) else if eqs [109, 115] from' = true then some ([115], 1, 1000) else if eqs [109, 105, 110] from' = true then some ([115], 60, 1) else if eqs [104] from' = true then some ([115], 3600, 1) else if eqs [98, 97, 114] from' = true then some ([98, 97, 114], 1, 1) else if eqs [109, 98, 97, 114] from' = true then some ([98, 97, 114], 1, 1000) else if eqs [107, 80, 97] from' = true then some ([98, 97, 114], 1, 100) else if eqs [107, 103] from' = true then some ([107, 103], 1, 1) else if eqs [103] from' = true then some ([107, 103], 1, 1000) else if eqs [116] from' = true then some ([107, 103], 1000, 1) else if eqs [108] from' = true then some ([108], 1, 1) else if eqs [109, 108] from' = true then some ([108], 1, 1000) else if eqs [67] from' = true then some ([67], 1, 1) else Option.none)) = true then j1 true d.1 d.2 0 0 (Ev.gdV LAT0 (if eqs [] from' = true then some ([], 1, 1) else if eqs [37] from' = true then some ([], 1, 1) else if eqs [109] from' = true then some ([109], 1, 1) else if eqs [99, 109] from' = true then some ([109], 1, 100) else if eqs [109, 109] from' = true then some ([109], 1, 1000) else if eqs [115] from' = true then some ([115], 1, 1) else if eqs [109, 115] from' = true then some ([115], 1, 1000) else if eqs [109, 105, 110] from' = true then some ([115], 60, 1) else if eqs [104] from' = true then some ([115], 3600, 1) else if eqs [98, 97, 114] from' = true then some ([98, 97, 114], 1, 1) else if eqs [109, 98, 97, 114] from' = true then some ([98, 97, 114], 1, 1000) else if eqs [107, 80, 97] from' = true then some ([98, 97, 114], 1, 100) else if eqs [107, 103] from' = true then some ([107, 103], 1, 1) else if eqs [103] from' = true then some ([107, 103], 1, 1000) else if eqs [116] from' = true then some ([107, 103], 1000, 1) else if eqs [108] from' = true then some ([108], 1, 1) else if eqs [109, 108] from' = true then some ([108], 1, 1000) else if eqs [67] from' = true then some ([67], 1, 1) else Option.none) ([], 0, 0)).1 (Ev.gdV LAT0 (if eqs [] from' = true then some ([], 1, 1) else if eqs [37] from' = true then some ([], 1, 1) else if eqs [109] from' = true then some ([109], 1, 1) else if eqs [99, 109] from' = true then some ([109], 1, 100) else if eqs [109, 109] from' = true then some ([109], 1, 1000) else if eqs [115] from' = true then some ([115], 1, 1) else if eqs [109, 115] from' = true then some ([115], 1, 1000) else if eqs [109, 105, 110] from' = true then some ([115], 60, 1) else if eqs [104] from' = true then some ([115], 3600, 1) else if eqs [98, 97, 114] from' = true then some ([98, 97, 114], 1, 1) else if eqs [109, 98, 97, 114] from' = true then some ([98, 97, 114], 1, 1000) else if eqs [107, 80, 97] from' = true then some ([98, 97, 114], 1, 100) else if eqs [107, 103] from' = true then some ([107, 103], 1, 1) else if eqs [103] from' = true then some ([107, 103], 1, 1000) else if eqs [116] from' = true then some ([107, 103], 1000, 1) else if eqs [108] from' = true then some ([108], 1, 1) else if eqs [109, 108] from' = true then some ([108], 1, 1000) else if eqs [67] from' = true then some ([67], 1, 1) else Option.none) ([], 0, 0)).2.1 (Ev.gdV LAT0 (if eqs [] from' = true then some ([], 1, 1) else if eqs [37] from' = true then some ([], 1, 1) else if eqs [109] from' = true then some ([109], 1, 1) else if eqs [99, 109] from' = true then some ([109], 1, 100) else if eqs [109, 109] from' = true then some ([109], 1, 1000) else if eqs [115] from' = true then some ([115], 1, 1) else if eqs [109, 115] from' = true then some ([115], 1, 1000) else if eqs [109, 105, 110] from' = true then some ([115], 60, 1) else if eqs [104] from' = true then some ([115], 3600, 1) else if eqs [98, 97, 114] from' = true then some ([98, 97, 114], 1, 1) else if eqs [109, 98, 97, 114] from' = true then some ([98, 97, 114], 1, 1000) else if eqs [107, 80, 97] from' = true then some ([98, 97, 114], 1, 100) else if eqs [107, 103] from' = true then some ([107, 103], 1, 1) else if eqs [103] from' = true then some ([107, 103], 1, 1000) else if eqs [116] from' = true then some ([107, 103], 1000, 1) else if eqs [108] from' = true then some ([108], 1, 1) else if eqs [109, 108] from' = true then some ([108], 1, 1000) else if eqs [67] from' = true then some ([67], 1, 1) else Option.none) ([], 0, 0)).2.2 (Ev.gdV LAT0 (if eqs [] to' = true then some ([], 1, 1) else if eqs [37] to' = true then some ([], 1, 1) else if eqs [109] to' = true then some ([109], 1, 1) else if eqs [99, 109] to' = true then some ([109], 1, 100) else if eqs [109, 109] to' = true then some ([109], 1, 1000) else if eqs [115] to' = true then some ([115], 1, 1) else if eqs [109, 115] to' = true then some ([115], 1, 1000) else if eqs [109, 105, 110] to' = true then some ([115], 60, 1) else if eqs [104] to' = true then some ([115], 3600, 1) else if eqs [98, 97, 114] to' = true then some ([98, 97, 114], 1, 1) else if eqs [109, 98, 97, 114] to' = true then some ([98, 97, 114], 1, 1000) else if eqs [107, 80, 97] to' = true then some ([98, 97, 114], 1, 100) else if eqs [107, 103] to' = true then some ([107, 103], 1, 1) else if eqs [103] to' = true then some ([107, 103], 1, 1000) else if eqs [116] to' = true then some ([107, 103], 1000, 1) else if eqs [108] to' = true then some ([108], 1, 1) else if eqs [109, 108] to' = true then some ([108], 1, 1000) else if eqs [67] to' = true then some ([67], 1, 1) else Option.none) ([], 0, 0)).1 (Ev.gdV LAT0 (if eqs [] to' = true then some ([], 1, 1) else if eqs [37] to' = true then some ([], 1, 1) else if eqs [109] to' = true then some ([109], 1, 1) else if eqs [99, 109] to' = true then some ([109], 1, 100) else if eqs [109, 109] to' = true then some ([109], 1, 1000) else if eqs [115] to' = true then some ([115], 1, 1) else if eqs [109, 115] to' = true then some ([115], 1, 1000) else if eqs [109, 105, 110] to' = true then some ([115], 60, 1) else if eqs [104] to' = true then some ([115], 3600, 1) else if eqs [98, 97, 114] to' = true then some ([98, 97, 114], 1, 1) else if eqs [109, 98, 97, 114] to' = true then some ([98, 97, 114], 1, 1000) else if eqs [107, 80, 97] to' = true then some ([98, 97, 114], 1, 100) else if eqs [107, 103] to' = true then some ([107, 103], 1, 1) else if eqs [103] to' = true then some ([107, 103], 1, 1000) else if eqs [116] to' = true then some ([107, 103], 1000, 1) else if eqs [108] to' = true then some ([108], 1, 1) else if eqs [109, 108] to' = true then some ([108], 1, 1000) else if eqs [67] to' = true then some ([67], 1, 1) else Option.none) ([], 0, 0)).2.1 (Ev.gdV LAT0 (if eqs [] to' = true then some ([], 1, 1) else if eqs [37] to' = true then some ([], 1, 1) else if eqs [109] to' = true then some ([109], 1, 1) else if eqs [99, 109] to' = true then some ([109], 1, 100) else if eqs [109, 109] to' = true then some ([109], 1, 1000) else if eqs [115] to' = true then some ([115], 1, 1) else if eqs [109, 115] to' = true then some ([115], 1, 1000) else if eqs [109, 105, 110] to' = true then some ([115], 60, 1) else if eqs [104] to' = true then some ([115], 3600, 1) else if eqs [98, 97, 114] to' = true then some ([98, 97, 114], 1, 1) else if eqs [109, 98, 97, 114] to' = true then some ([98, 97, 114], 1, 1000) else if eqs [107, 80, 97] to' = true then some ([98, 97, 114], 1, 100) else if eqs [107, 103] to' = true then some ([107, 103], 1, 1) else if eqs [103] to' = true then some ([107, 103], 1, 1000) else if eqs [116] to' = true then some ([107, 103], 1000, 1) else if eqs [108] to' = true then some ([108], 1, 1) else if eqs [109, 108] to' = true then some ([108], 1, 1000) else if eqs [67] to' = true then some ([67], 1, 1) else Option.none) ([], 0, 0)).2.2 else if (!Ev.isV LAT0 (if eqs [] to' = true then some ([], 1, 1) else if eqs [37] to' = true then some ([], 1, 1) else if eqs [109] to' = true then some ([109], 1, 1) else if eqs [99, 109] to' = true then some ([109], 1, 100) else if eqs [109, 109] to' = true then some ([109], 1, 1000) else if eqs [115] to' = true then some ([115], 1, 1) else if eqs [109, 115] to' = true then some ([115], 1, 1000) else if eqs [109, 105, 110] to' = true then some ([115], 60, 1) else if eqs [104] to' = true then some ([115], 3600, 1) else if eqs [98, 97, 114] to' = true then some ([98, 97, 114], 1, 1) else if eqs [109, 98, 97, 114] to' = true then some ([98, 97, 114], 1, 1000) else if eqs [107, 80, 97] to' = true then some ([98, 97, 114], 1, 100) else if eqs [107, 103] to' = true then some ([107, 103], 1, 1) else if eqs [103] to' = true then some ([107, 103], 1, 1000) else if eqs [116] to' = true then some ([107, 103], 1000, 1) else if eqs [108] to' = true then some ([108], 1, 1) else if eqs [109, 108] to' = true then some ([108], 1, 1000) else if eqs [67] to' = true then some ([67], 1, 1) else Option.none)) = true then j1 true d.1 d.2 0 0 (Ev.gdV LAT0 (if eqs [] from' = true then some ([], 1, 1) else if eqs [37] from' = true then some ([], 1, 1) else if eqs [109] from' = true then some ([109], 1, 1) else if eqs [99, 109] from' = true then some ([109], 1, 100) else if eqs [109, 109] from' = true then some ([109], 1, 1000) else if eqs [115] from' = true then some ([115], 1, 1) else if eqs [109, 115] from' = true then some ([115], 1, 1000) else if eqs [109, 105, 110] from' = true then some ([115], 60, 1) else if eqs [104] from' = true then some ([115], 3600, 1) else if eqs [98, 97, 114] from' = true then some ([98, 97, 114], 1, 1) else if eqs [109, 98, 97, 114] from' = true then some ([98, 97, 114], 1, 1000) else if eqs [107, 80, 97] from' = true then some ([98, 97, 114], 1, 100) else if eqs [107, 103] from' = true then some ([107, 103], 1, 1) else if eqs [103] from' = true then some ([107, 103], 1, 1000) else if eqs [116] from' = true then some ([107, 103], 1000, 1) else if eqs [108] from' = true then some ([108], 1, 1) else if eqs [109, 108] from' = true then some ([108], 1, 1000) else if eqs [67] from' = true then some ([67], 1, 1) else Option.none) ([], 0, 0)).1 (Ev.gdV LAT0 (if eqs [] from' = true then some ([], 1, 1) else if eqs [37] from' = true then some ([], 1, 1) else if eqs [109] from' = true then some ([109], 1, 1) else if eqs [99, 109] from' = true then some ([109], 1, 100) else if eqs [109, 109] from' = true then some ([109], 1, 1000) else if eqs [115] from' = true then some ([115], 1, 1) else if eqs [109, 115] from' = true then some ([115], 1, 1000) else if eqs [109, 105, 110] from' = true then some ([115], 60, 1) else if eqs [104] from' = true then some ([115], 3600, 1) else if eqs [98, 97, 114] from' = true then some ([98, 97, 114], 1, 1) else if eqs [109, 98, 97, 114] from' = true then some ([98, 97, 114], 1, 1000) else if eqs [107, 80, 97] from' = true then some ([98, 97, 114], 1, 100) else if eqs [107, 103] from' = true then some ([107, 103], 1, 1) else if eqs [103] from' = true then some ([107, 103], 1, 1000) else if eqs [116] from' = true then some ([107, 103], 1000, 1) else if eqs [108] from' = true then some ([108], 1, 1) else if eqs [109, 108] from' = true then some ([108], 1, 1000) else if eqs [67] from' = true then some ([67], 1, 1) else Option.none) ([], 0, 0)).2.1 (Ev.gdV LAT0 (if eqs [] from' = true then some ([], 1, 1) else if eqs [37] from' = true then some ([], 1, 1) else if eqs [109] from' = true then some ([109], 1, 1) else if eqs [99, 109] from' = true then some ([109], 1, 100) else if eqs [109, 109] from' = true then some ([109], 1, 1000) else if eqs [115] from' = true then some ([115], 1, 1) else if eqs [109, 115] from' = true then some ([115], 1, 1000) else if eqs [109, 105, 110] from' = true then some ([115], 60, 1) else if eqs [104] from' = true then some ([115], 3600, 1) else if eqs [98, 97, 114] from' = true then some ([98, 97, 114], 1, 1) else if eqs [109, 98, 97, 114] from' = true then some ([98, 97, 114], 1, 1000) else if eqs [107, 80, 97] from' = true then some ([98, 97, 114], 1, 100) else if eqs [107, 103] from' = true then some ([107, 103], 1, 1) else if eqs [103] from' = true then some ([107, 103], 1, 1000) else if eqs [116] from' = true then some ([107, 103], 1000, 1) else if eqs [108] from' = true then some ([108], 1, 1) else if eqs [109, 108] from' = true then some ([108], 1, 1000) else if eqs [67] from' = true then some ([67], 1, 1) else Option.none) ([], 0, 0)).2.2 (Ev.gdV LAT0 (if eqs [] to' = true then some ([], 1, 1) else if eqs [37] to' = true then some ([], 1, 1) else if eqs [109] to' = true then some ([109], 1, 1) else if eqs [99, 109] to' = true then some ([109], 1, 100) else if eqs [109, 109] to' = true then some ([109], 1, 1000) else if eqs [115] to' = true then some ([115], 1, 1) else if eqs [109, 115] to' = true then some ([115], 1, 1000) else if eqs [109, 105, 110] to' = true then some ([115], 60, 1) else if eqs [104] to' = true then some ([115], 3600, 1) else if eqs [98, 97, 114] to' = true then some ([98, 97, 114], 1, 1) else if eqs [109, 98, 97, 114] to' = true then some ([98, 97, 114], 1, 1000) else if eqs [107, 80, 97] to' = true then some ([98, 97, 114], 1, 100) else if eqs [107, 103] to' = true then some ([107, 103], 1, 1) else if eqs [103] to' = true then some ([107, 103], 1, 1000) else if eqs [116] to' = true then some ([107, 103], 1000, 1) else if eqs [108] to' = true then some ([108], 1, 1) else if eqs [109, 108] to' = true then some ([108], 1, 1000) else if eqs [67] to' = true then some ([67], 1, 1) else Option.none) ([], 0, 0)).1 (Ev.gdV LAT0 (if eqs [] to' = true then some ([], 1, 1) else if eqs [37] to' = true then some ([], 1, 1) else if eqs [109] to' = true then some ([109], 1, 1) else if eqs [99, 109] to' = true then some ([109], 1, 100) else if eqs [109, 109] to' = true then some ([109], 1, 1000) else if eqs [115] to' = true then some ([115], 1, 1) else if eqs [109, 115] to' = true then some ([115], 1, 1000) else if eqs [109, 105, 110] to' = true then some ([115], 60, 1) else if eqs [104] to' = true then some ([115], 3600, 1) else if eqs [98, 97, 114] to' = true then some ([98, 97, 114], 1, 1) else if eqs [109, 98, 97, 114] to' = true then some ([98, 97, 114], 1, 1000) else if eqs [107, 80, 97] to' = true then some ([98, 97, 114], 1, 100) else if eqs [107, 103] to' = true then some ([107, 103], 1, 1) else if eqs [103] to' = true then some ([107, 103], 1, 1000) else if eqs [116] to' = true then some ([107, 103], 1000, 1) else if eqs [108] to' = true then some ([108], 1, 1) else if eqs [109, 108] to' = true then some ([108], 1, 1000) else if eqs [67] to' = true then some ([67], 1, 1) else Option.none) ([], 0, 0)).2.1 (Ev.gdV LAT0 (if eqs [] to' = true then some ([], 1, 1) else if eqs [37] to' = true then some ([], 1, 1) else if eqs [109] to' = true then some ([109], 1, 1) else if eqs [99, 109] to' = true then some ([109], 1, 100) else if eqs [109, 109] to' = true then some ([109], 1, 1000) else if eqs [115] to' = true then some ([115], 1, 1) else if eqs [109, 115] to' = true then some ([115], 1, 1000) else if eqs [109, 105, 110] to' = true then some ([115], 60, 1) else if eqs [104] to' = true then some ([115], 3600, 1) else if eqs [98, 97, 114] to' = true then some ([98, 97, 114], 1, 1) else if eqs [109, 98, 97, 114] to' = true then some ([98, 97, 114], 1, 1000) else if eqs [107, 80, 97] to' = true then some ([98, 97, 114], 1, 100) else if eqs [107, 103] to' = true then some ([107, 103], 1, 1) else if eqs [103] to' = true then some ([107, 103], 1, 1000) else if eqs [116] to' = true then some ([107, 103], 1000, 1) else if eqs [108] to' = true then some ([108], 1, 1) else if eqs [109, 108] to' = true then some ([108], 1, 1000) else if eqs [67] to' = true then some ([67], 1, 1) else Option.none) ([], 0, 0)).2.2 else j1 (nes (Ev.gdV LAT0 (if eqs [] from' = true then some ([], 1, 1) else if eqs [37] from' = true then some ([], 1, 1) else if eqs [109] from' = true then some ([109], 1, 1) else if eqs [99, 109] from' = true then some ([109], 1, 100) else if eqs [109, 109] from' = true then some ([109], 1, 1000) else if eqs [115] from' = true then some ([115], 1, 1) else if eqs [109, 115] from' = true then some ([115], 1, 1000) else if eqs [109, 105, 110] from' = true then some ([115], 60, 1) else if eqs [104] from' = true then some ([115], 3600, 1) else if eqs [98, 97, 114] from' = true then some ([98, 97, 114], 1, 1) else if eqs [109, 98, 97, 114] from' = true then some ([98, 97, 114], 1, 1000) else if eqs [107, 80, 97] from' = true then some ([98, 97, 114], 1, 100) else if eqs [107, 103] from' = true then some ([107, 103], 1, 1) else if eqs [103] from' = true then some ([107, 103], 1, 1000) else if eqs [116] from' = true then some ([107, 103], 1000, 1) else if eqs [108] from' = true then some ([108], 1, 1) else if eqs [109, 108] from' = true then some ([108], 1, 1000) else if eqs [67] from' = true then some ([67], 1, 1) else Option.none) ([], 0, 0)).1 (Ev.gdV LAT0 (if eqs [] to' = true then some ([], 1, 1) else if eqs [37] to' = true then some ([], 1, 1) else if eqs [109] to' = true then some ([109], 1, 1) else if eqs [99, 109] to' = true then some ([109], 1, 100) else if eqs [109, 109] to' = true then some ([109], 1, 1000) else if eqs [115] to' = true then some ([115], 1, 1) else if eqs [109, 115] to' = true then some ([115], 1, 1000) else if eqs [109, 105, 110] to' = true then some ([115], 60, 1) else if eqs [104] to' = true then some ([115], 3600, 1) else if eqs [98, 97, 114] to' = true then some ([98, 97, 114], 1, 1) else if eqs [109, 98, 97, 114] to' = true then some ([98, 97, 114], 1, 1000) else if eqs [107, 80, 97] to' = true then some ([98, 97, 114], 1, 100) else if eqs [107, 103] to' = true then some ([107, 103], 1, 1) else if eqs [103] to' = true then some ([107, 103], 1, 1000) else if eqs [116] to' = true then some ([107, 103], 1000, 1) else if eqs [108] to' = true then some ([108], 1, 1) else if eqs [109, 108] to' = true then some ([108], 1, 1000) else if eqs [67] to' = true then some ([67], 1, 1) else Option.none) ([], 0, 0)).1) d.1 d.2 0 0 (Ev.gdV LAT0 (if eqs [] from' = true then some ([], 1, 1) else if eqs [37] from' = true then some ([], 1, 1) else if eqs [109] from' = true then some ([109], 1, 1) else if eqs [99, 109] from' = true then some ([109], 1, 100) else if eqs [109, 109] from' = true then some ([109], 1, 1000) else if eqs [115] from' = true then some ([115], 1, 1) else if eqs [109, 115] from' = true then some ([115], 1, 1000) else if eqs [109, 105, 110] from' = true then some ([115], 60, 1) else if eqs [104] from' = true then some ([115], 3600, 1) else if eqs [98, 97, 114] from' = true then some ([98, 97, 114], 1, 1) else if eqs [109, 98, 97, 114] from' = true then some ([98, 97, 114], 1, 1000) else if eqs [107, 80, 97] from' = true then some ([98, 97, 114], 1, 100) else if eqs [107, 103] from' = true then some ([107, 103], 1, 1) else if eqs [103] from' = true then some ([107, 103], 1, 1000) else if eqs [116] from' = true then some ([107, 103], 1000, 1) else if eqs [108] from' = true then some ([108], 1, 1) else if eqs [109, 108] from' = true then some ([108], 1, 1000) else if eqs [67] from' = true then some ([67], 1, 1) else Option.none) ([], 0, 0)).1 (Ev.gdV LAT0 (if eqs [] from' = true then some ([], 1, 1) else if eqs [37] from' = true then some ([], 1, 1) else if eqs [109] from' = true then some ([109], 1, 1) else if eqs [99, 109] from' = true then some ([109], 1, 100) else if eqs [109, 109] from' = true then some ([109], 1, 1000) else if eqs [115] from' = true then some ([115], 1, 1) else if eqs [109, 115] from' = true then some ([115], 1, 1000) else if eqs [109, 105, 110] from' = true then some ([115], 60, 1) else if eqs [104] from' = true then some ([115], 3600, 1) else if eqs [98, 97, 114] from' = true then some ([98, 97, 114], 1, 1) else if eqs [109, 98, 97, 114] from' = true then some ([98, 97, 114], 1, 1000) else if eqs [107, 80, 97] from' = true then some ([98, 97, 114], 1, 100) else if eqs [107, 103] from' = true then some ([107, 103], 1, 1) else if eqs [103] from' = true then some ([107, 103], 1, 1000) else if eqs [116] from' = true then some ([107, 103], 1000, 1) else if eqs [108] from' = true then some ([108], 1, 1) else if eqs [109, 108] from' = true then some ([108], 1, 1000) else if eqs [67] from' = true then some ([67], 1, 1) else Option.none) ([], 0, 0)).2.1 (Ev.gdV LAT0 (if eqs [] from' = true then some ([], 1, 1) else if eqs [37] from' = true then some ([], 1, 1) else if eqs [109] from' = true then some ([109], 1, 1) else if eqs [99, 109] from' = true then some ([109], 1, 100) else if eqs [109, 109] from' = true then some ([109], 1, 1000) else if eqs [115] from' = true then some ([115], 1, 1) else if eqs [109, 115] from' = true then some ([115], 1, 1000) else if eqs [109, 105, 110] from' = true then some ([115], 60, 1) else if eqs [104] from' = true then some ([115], 3600, 1) else if eqs [98, 97, 114] from' = true then some ([98, 97, 114], 1, 1) else if eqs [109, 98, 97, 114] from' = true then some ([98, 97, 114], 1, 1000) else if eqs [107, 80, 97] from' = true then some ([98, 97, 114], 1, 100) else if eqs [107, 103] from' = true then some ([107, 103], 1, 1) else if eqs [103] from' = true then some ([107, 103], 1, 1000) else if eqs [116] from' = true then some ([107, 103], 1000, 1) else if eqs [108] from' = true then some ([108], 1, 1) else if eqs [109, 108] from' = true then some ([108], 1, 1000) else if eqs [67] from' = true then some ([67], 1, 1) else Option.none) ([], 0, 0)).2.2 (Ev.gdV LAT0 (if eqs [] to' = true then some ([], 1, 1) else if eqs [37] to' = true then some ([], 1, 1) else if eqs [109] to' = true then some ([109], 1, 1) else if eqs [99, 109] to' = true then some ([109], 1, 100) else if eqs [109, 109] to' = true then some ([109], 1, 1000) else if eqs [115] to' = true then some ([115], 1, 1) else if eqs [109, 115] to' = true then some ([115], 1, 1000) else if eqs [109, 105, 110] to' = true then some ([115], 60, 1) else if eqs [104] to' = true then some ([115], 3600, 1) else if eqs [98, 97, 114] to' = true then some ([98, 97, 114], 1, 1) else if eqs [109, 98, 97, 114] to' = true then some ([98, 97, 114], 1, 1000) else if eqs [107, 80, 97] to' = true then some ([98, 97, 114], 1, 100) else if eqs [107, 103] to' = true then some ([107, 103], 1, 1) else if eqs [103] to' = true then some ([107, 103], 1, 1000) else if eqs [116] to' = true then some ([107, 103], 1000, 1) else if eqs [108] to' = true then some ([108], 1, 1) else if eqs [109, 108] to' = true then some ([108], 1, 1000) else if eqs [67] to' = true then some ([67], 1, 1) else Option.none) ([], 0, 0)).1 (Ev.gdV LAT0 (if eqs [] to' = true then some ([], 1, 1) else if eqs [37] to' = true then some ([], 1, 1) else if eqs [109] to' = true then some ([109], 1, 1) else if eqs [99, 109] to' = true then some ([109], 1, 100) else if eqs [109, 109] to' = true then some ([109], 1, 1000) else if eqs [115] to' = true then some ([115], 1, 1) else if eqs [109, 115] to' = true then some ([115], 1, 1000) else if eqs [109, 105, 110] to' = true then some ([115], 60, 1) else if eqs [104] to' = true then some ([115], 3600, 1) else if eqs [98, 97, 114] to' = true then some ([98, 97, 114], 1, 1) else if eqs [109, 98, 97, 114] to' = true then some ([98, 97, 114], 1, 1000) else if eqs [107, 80, 97] to' = true then some ([98, 97, 114], 1, 100) else if eqs [107, 103] to' = true then some ([107, 103], 1, 1) else if eqs [103] to' = true then some ([107, 103], 1, 1000) else if eqs [116] to' = true then some ([107, 103], 1000, 1) else if eqs [108] to' = true then some ([108], 1, 1) else if eqs [109, 108] to' = true then some ([108], 1, 1000) else if eqs [67] to' = true then some ([67], 1, 1) else Option.none) ([], 0, 0)).2.1 (Ev.gdV LAT0 (if eqs [] to' = true then some ([], 1, 1) else if eqs [37] to' = true then some ([], 1, 1) else if eqs [109] to' = true then some ([109], 1, 1) else if eqs [99, 109] to' = true then some ([109], 1, 100) else if eqs [109, 109] to' = true then some ([109], 1, 1000) else if eqs [115] to' = true then some ([115], 1, 1) else if eqs [109, 115] to' = true then some ([115], 1, 1000) else if eqs [109, 105, 110] to' = true then some ([115], 60, 1) else if eqs [104] to' = true then some ([115], 3600, 1) else if eqs [98, 97, 114] to' = true then some ([98, 97, 114], 1, 1) else if eqs [109, 98, 97, 114] to' = true then some ([98, 97, 114], 1, 1000) else if eqs [107, 80, 97] to' = true then some ([98, 97, 114], 1, 100) else if eqs [107, 103] to' = true then some ([107, 103], 1, 1) else if eqs [103] to' = true then some ([107, 103], 1, 1000) else if eqs [116] to' = true then some ([107, 103], 1000, 1) else if eqs [108] to' = true then some ([108], 1, 1) else if eqs [109, 108] to' = true then some ([108], 1, 1000) else if eqs [67] to' = true then some ([67], 1, 1) else Option.none) ([], 0, 0)).2.2
def units_To_K1 (t38 : Bool) (d : Int) (d_2 : Int) (t6 : Int) (t6_2 : Int) (a : List UInt8) (a_2 : Int) (a_3 : Int) (b : List UInt8) (b_2 : Int) (b_3 : Int) : Option (As [.pr (.int .i64) (.int .u8), .bool]) := units_To_m1 t38 d d_2 t6 t6_2 a a_2 a_3 b b_2 b_3
def units_To (x : As [.pr (.int .i64) (.int .u8), .str, .str]) : Option (As [.pr (.int .i64) (.int .u8), .bool]) := units_To_m0 units_To_K1 x.1 x.2.1 x.2.2.1
theorem units_To_c1 (J : Orc (As [.pr (.int .i64) (.int .u8), .bool])) (t38 : Bool) (d : Int) (d_2 : Int) (t6 : Int) (t6_2 : Int) (a : List UInt8) (a_2 : Int) (a_3 : Int) (b : List UInt8) (b_2 : Int) (b_3 : Int) : pfn Tryd.prog units_To_e 6 18446744073709551616 (Ev.get units_To_h) 26 units_To_s J 62 [] (units_To_k1 t38 d d_2 t6 t6_2 a a_2 a_3 b b_2 b_3) = units_To_m1 t38 d d_2 t6 t6_2 a a_2 a_3 b b_2 b_3 := by kernel_rfl
theorem units_To_c0 (J : Orc (As [.pr (.int .i64) (.int .u8), .bool])) (x : As [.pr (.int .i64) (.int .u8), .str, .str]) : rfn Tryd.prog units_To_e 6 18446744073709551616 (Ev.get units_To_h) 26 units_To_s J x = units_To_m0 (fun t38 d d_2 t6 t6_2 a a_2 a_3 b b_2 b_3 => J 62 [] (units_To_k1 t38 d d_2 t6 t6_2 a a_2 a_3 b b_2 b_3)) x.1 x.2.1 x.2.2.1 := by kernel_rfl
theorem units_To_g1 (t38 : Bool) (d : Int) (d_2 : Int) (t6 : Int) (t6_2 : Int) (a : List UInt8) (a_2 : Int) (a_3 : Int) (b : List UInt8) (b_2 : Int) (b_3 : Int) : jfn Tryd.prog units_To_e 6 18446744073709551616 (Ev.get units_To_h) 26 units_To_s 62 [] (units_To_k1 t38 d d_2 t6 t6_2 a a_2 a_3 b b_2 b_3) = units_To_K1 t38 d d_2 t6 t6_2 a a_2 a_3 b b_2 b_3 := by
  rw [pfn_eq (by decide)]
  rw [units_To_c1]
  rfl
theorem units_To_t (x : As [.pr (.int .i64) (.int .u8), .str, .str]) : evT Tryd.prog units_To_e 6 18446744073709551616 (Ev.get units_To_h) 26 units_To_s x = units_To x := by
  have e1 : (fun t38 d d_2 t6 t6_2 a a_2 a_3 b b_2 b_3 => (jfn Tryd.prog units_To_e 6 18446744073709551616 (Ev.get units_To_h) 26 units_To_s) 62 [] (units_To_k1 t38 d d_2 t6 t6_2 a a_2 a_3 b b_2 b_3)) = units_To_K1 := funext fun t38 => funext fun d => funext fun d_2 => funext fun t6 => funext fun t6_2 => funext fun a => funext fun a_2 => funext fun a_3 => funext fun b => funext fun b_2 => funext fun b_3 => units_To_g1 t38 d d_2 t6 t6_2 a a_2 a_3 b b_2 b_3
  rw [rfn_eq, units_To_c0, e1]
  rfl
theorem units_To_ok : CtOk Tryd.prog I0 26 ⟨units_To_s, units_To⟩ := ct_of_ev (env_cons units_Times_ok env_nil) units_To_t
/-! words_Word -/
@[reducible] def words_Word_s : Sh := ⟨[.d (.int .i64)], [], [.int .i64], [.d (.int .u16), .d (.bool)], [], 0, [.int .u16, .bool]⟩
def words_Word_e : Env := (cts [])
def words_Word_h : List (Nat × Hint) := [(6, ⟨[], [0, 9]⟩)]
def words_Word_k1 (x : Int) (t9 : Bool) : St := { fr := [(0, .d (.int .i64) x), (9, .d .bool t9)], nt := 12, up := [], own := [], nx := 0, log := [], ln := 0 }
def words_Word_m1 (x : Int) (t9 : Bool) : Option (As [.int .u16, .bool]) :=
  if t9 = true then some (0, false, ()) else some (cvt .u16 x, true, ())
def words_Word_m0 (j1 : Int → Bool → Option (As [.int .u16, .bool])) (x : Int) : Option (As [.int .u16, .bool]) :=
  if lt x (-32768) = true then j1 x true else j1 x (ge x 32768)
def words_Word_K1 (x : Int) (t9 : Bool) : Option (As [.int .u16, .bool]) := words_Word_m1 x t9
def words_Word (x : As [.int .i64]) : Option (As [.int .u16, .bool]) := words_Word_m0 words_Word_K1 x.1
theorem words_Word_c1 (J : Orc (As [.int .u16, .bool])) (x : Int) (t9 : Bool) : pfn Tryd.prog words_Word_e 6 18446744073709551616 (Ev.get words_Word_h) 58 words_Word_s J 6 [] (words_Word_k1 x t9) = words_Word_m1 x t9 := by kernel_rfl
theorem words_Word_c0 (J : Orc (As [.int .u16, .bool])) (x : As [.int .i64]) : rfn Tryd.prog words_Word_e 6 18446744073709551616 (Ev.get words_Word_h) 58 words_Word_s J x = words_Word_m0 (fun x t9 => J 6 [] (words_Word_k1 x t9)) x.1 := by kernel_rfl
theorem words_Word_g1 (x : Int) (t9 : Bool) : jfn Tryd.prog words_Word_e 6 18446744073709551616 (Ev.get words_Word_h) 58 words_Word_s 6 [] (words_Word_k1 x t9) = words_Word_K1 x t9 := by
  rw [pfn_eq (by decide)]
  rw [words_Word_c1]
  rfl
theorem words_Word_t (x : As [.int .i64]) : evT Tryd.prog words_Word_e 6 18446744073709551616 (Ev.get words_Word_h) 58 words_Word_s x = words_Word x := by
  have e1 : (fun x t9 => (jfn Tryd.prog words_Word_e 6 18446744073709551616 (Ev.get words_Word_h) 58 words_Word_s) 6 [] (words_Word_k1 x t9)) = words_Word_K1 := funext fun x => funext fun t9 => words_Word_g1 x t9
  rw [rfn_eq, words_Word_c0, e1]
  rfl
theorem words_Word_ok : CtOk Tryd.prog I0 58 ⟨words_Word_s, words_Word⟩ := ct_of_ev env_nil words_Word_t
/-! units_Word -/
@[reducible] def units_Word_s : Sh := ⟨[.d (.pr (.int .i64) (.int .u8)), .d (.int .i64), .d (.bool)], [], [.pr (.int .i64) (.int .u8), .int .i64, .bool], [.d (.int .u16), .d (.bool)], [], 0, [.int .u16, .bool]⟩
def units_Word_e : Env := (cts [(16, (⟨units_Right_s, units_Right⟩ : Ct)), (50, (⟨units_power_s, units_power⟩ : Ct)), (58, (⟨words_Word_s, words_Word⟩ : Ct))])
def units_Word_h : List (Nat × Hint) := [(30, ⟨[], [2, 8, 37]⟩), (6, ⟨[], [1, 2, 3, 22, 35, 36]⟩)]
def units_Word_k1 (digits : Int) (signed : Bool) (t22 : Bool) (d : Int × Int) : St := { fr := [(1, .d (.int .i64) digits), (2, .d .bool signed), (3, .pb 0 0), (22, .d .bool t22)], nt := 47, up := [], own := [(0, .box 40 [.d (.int .i64) d.1, .d (.int .u8) d.2])], nx := 1, log := [], ln := 0 }
def units_Word_k2 (signed : Bool) (n : Int) (t37 : Bool) : St := { fr := [(2, .d .bool signed), (8, .d (.int .i64) n), (37, .d .bool t37)], nt := 47, up := [], own := [], nx := 0, log := [], ln := 0 }
def units_Word_m1 (j2 : Bool → Int → Bool → Option (As [.int .u16, .bool])) (digits : Int) (signed : Bool) (t22 : Bool) (d : Int × Int) : Option (As [.int .u16, .bool]) :=
  if t22 = true then some (0, false, ()) else Option.bind (units_power (Sx.sub .i64 digits (cvt .i64 d.2), ())) fun (y : Int × Unit) => if lt (mul .i64 d.1 y.1) (-32768) = true then j2 signed (mul .i64 d.1 y.1) true else j2 signed (mul .i64 d.1 y.1) (ge (mul .i64 d.1 y.1) 65536)
def units_Word_m2 (signed : Bool) (n : Int) (t37 : Bool) : Option (As [.int .u16, .bool]) :=
  if t37 = true then some (0, false, ()) else if signed = true then Option.bind (words_Word (n, ())) fun (y : Int × Bool × Unit) => some (y.1, y.2.1, ()) else if lt n 0 = true then some (0, false, ()) else some (cvt .u16 n, true, ())
def units_Word_m0 (j1 : Int → Bool → Bool → Int × Int → Option (As [.int .u16, .bool])) (d : Int × Int) (digits : Int) (signed : Bool) : Option (As [.int .u16, .bool]) :=
  Option.bind (units_Right (d, ())) fun (y : Bool × Unit) => if (!y.1) = true then j1 digits signed true d else if lt digits (cvt .i64 d.2) = true then j1 digits signed true d else j1 digits signed (gt digits 6) d
def units_Word_K2 (signed : Bool) (n : Int) (t37 : Bool) : Option (As [.int .u16, .bool]) := units_Word_m2 signed n t37
def units_Word_K1 (digits : Int) (signed : Bool) (t22 : Bool) (d : Int × Int) : Option (As [.int .u16, .bool]) := units_Word_m1 (units_Word_K2) digits signed t22 d
def units_Word (x : As [.pr (.int .i64) (.int .u8), .int .i64, .bool]) : Option (As [.int .u16, .bool]) := units_Word_m0 units_Word_K1 x.1 x.2.1 x.2.2.1
theorem units_Word_c2 (J : Orc (As [.int .u16, .bool])) (signed : Bool) (n : Int) (t37 : Bool) : pfn Tryd.prog units_Word_e 6 18446744073709551616 (Ev.get units_Word_h) 28 units_Word_s J 30 [] (units_Word_k2 signed n t37) = units_Word_m2 signed n t37 := by kernel_rfl
theorem units_Word_c1 (J : Orc (As [.int .u16, .bool])) (digits : Int) (signed : Bool) (t22 : Bool) (d : Int × Int) : pfn Tryd.prog units_Word_e 6 18446744073709551616 (Ev.get units_Word_h) 28 units_Word_s J 6 [] (units_Word_k1 digits signed t22 d) = units_Word_m1 (fun signed n t37 => J 30 [] (units_Word_k2 signed n t37)) digits signed t22 d := by kernel_rfl
theorem units_Word_c0 (J : Orc (As [.int .u16, .bool])) (x : As [.pr (.int .i64) (.int .u8), .int .i64, .bool]) : rfn Tryd.prog units_Word_e 6 18446744073709551616 (Ev.get units_Word_h) 28 units_Word_s J x = units_Word_m0 (fun digits signed t22 d => J 6 [] (units_Word_k1 digits signed t22 d)) x.1 x.2.1 x.2.2.1 := by kernel_rfl
theorem units_Word_g2 (signed : Bool) (n : Int) (t37 : Bool) : jfn Tryd.prog units_Word_e 6 18446744073709551616 (Ev.get units_Word_h) 28 units_Word_s 30 [] (units_Word_k2 signed n t37) = units_Word_K2 signed n t37 := by
  rw [pfn_eq (by decide)]
  rw [units_Word_c2]
  rfl
theorem units_Word_g1 (digits : Int) (signed : Bool) (t22 : Bool) (d : Int × Int) : jfn Tryd.prog units_Word_e 6 18446744073709551616 (Ev.get units_Word_h) 28 units_Word_s 6 [] (units_Word_k1 digits signed t22 d) = units_Word_K1 digits signed t22 d := by
  rw [pfn_eq (by decide)]
  have e2 : (fun signed n t37 => (jfn Tryd.prog units_Word_e 6 18446744073709551616 (Ev.get units_Word_h) 28 units_Word_s) 30 [] (units_Word_k2 signed n t37)) = units_Word_K2 := funext fun signed => funext fun n => funext fun t37 => units_Word_g2 signed n t37
  rw [units_Word_c1, e2]
  rfl
theorem units_Word_t (x : As [.pr (.int .i64) (.int .u8), .int .i64, .bool]) : evT Tryd.prog units_Word_e 6 18446744073709551616 (Ev.get units_Word_h) 28 units_Word_s x = units_Word x := by
  have e1 : (fun digits signed t22 d => (jfn Tryd.prog units_Word_e 6 18446744073709551616 (Ev.get units_Word_h) 28 units_Word_s) 6 [] (units_Word_k1 digits signed t22 d)) = units_Word_K1 := funext fun digits => funext fun signed => funext fun t22 => funext fun d => units_Word_g1 digits signed t22 d
  rw [rfn_eq, units_Word_c0, e1]
  rfl
theorem units_Word_ok : CtOk Tryd.prog I0 28 ⟨units_Word_s, units_Word⟩ := ct_of_ev (env_cons units_Right_ok (env_cons units_power_ok (env_cons words_Word_ok env_nil))) units_Word_t
/-! words_Signed -/
@[reducible] def words_Signed_s : Sh := ⟨[.d (.int .u16)], [], [.int .u16], [.d (.int .i64)], [], 0, [.int .i64]⟩
def words_Signed_e : Env := (cts [])
def words_Signed_h : List (Nat × Hint) := []
def words_Signed_m0 (x : Int) : Option (As [.int .i64]) :=
  some (cvt .i64 (cvt .i16 x), ())
def words_Signed (x : As [.int .u16]) : Option (As [.int .i64]) := words_Signed_m0 x.1
theorem words_Signed_c0 (J : Orc (As [.int .i64])) (x : As [.int .u16]) : rfn Tryd.prog words_Signed_e 6 18446744073709551616 (Ev.get words_Signed_h) 59 words_Signed_s J x = words_Signed_m0 x.1 := by kernel_rfl
theorem words_Signed_t (x : As [.int .u16]) : evT Tryd.prog words_Signed_e 6 18446744073709551616 (Ev.get words_Signed_h) 59 words_Signed_s x = words_Signed x := by
  rw [rfn_eq, words_Signed_c0]
  rfl
theorem words_Signed_ok : CtOk Tryd.prog I0 59 ⟨words_Signed_s, words_Signed⟩ := ct_of_ev env_nil words_Signed_t
/-! units_Worth -/
@[reducible] def units_Worth_s : Sh := ⟨[.d (.int .u16), .d (.int .i64), .d (.bool)], [], [.int .u16, .int .i64, .bool], [.d (.pr (.int .i64) (.int .u8)), .d (.bool)], [], 0, [.pr (.int .i64) (.int .u8), .bool]⟩
def units_Worth_e : Env := (cts [(59, (⟨words_Signed_s, words_Signed⟩ : Ct))])
def units_Worth_h : List (Nat × Hint) := [(15, ⟨[], [1, 6, 8, 24, 25, 26]⟩), (31, ⟨[], [1, 6, 8]⟩), (124, ⟨[], [1, 6, 8, 24, 25, 26]⟩), (496, ⟨[], [1, 6, 8, 27]⟩), (6, ⟨[], [0, 1, 2, 6, 14, 24, 25, 26]⟩)]
def units_Worth_k1 (w : Int) (digits : Int) (signed : Bool) (t14 : Bool) (t6 : Int × Int) : St := { fr := [(0, .d (.int .u16) w), (1, .d (.int .i64) digits), (2, .d .bool signed), (6, .pb 0 0), (14, .d .bool t14)], nt := 36, up := [], own := [(0, .box 40 [.d (.int .i64) t6.1, .d (.int .u8) t6.2])], nx := 1, log := [], ln := 0 }
def units_Worth_k2 (digits : Int) (n : Int) (t6 : Int × Int) : St := { fr := [(1, .d (.int .i64) digits), (6, .pb 0 0), (8, .d (.int .i64) n)], nt := 36, up := [], own := [(0, .box 40 [.d (.int .i64) t6.1, .d (.int .u8) t6.2])], nx := 1, log := [], ln := 0 }
def units_Worth_k3 (digits : Int) (n : Int) (t6 : Int × Int) : St := { fr := [(1, .d (.int .i64) digits), (6, .pb 0 0), (8, .d (.int .i64) n)], nt := 36, up := [], own := [(0, .box 40 [.d (.int .i64) t6.1, .d (.int .u8) t6.2])], nx := 1, log := [], ln := 0 }
def units_Worth_k4 (digits : Int) (n : Int) (t27 : Bool) (t6 : Int × Int) : St := { fr := [(1, .d (.int .i64) digits), (6, .pb 0 0), (8, .d (.int .i64) n), (27, .d .bool t27)], nt := 36, up := [], own := [(0, .box 40 [.d (.int .i64) t6.1, .d (.int .u8) t6.2])], nx := 1, log := [], ln := 0 }
def units_Worth_k5 (digits : Int) (n : Int) (t6 : Int × Int) : St := { fr := [(1, .d (.int .i64) digits), (6, .pb 0 0), (8, .d (.int .i64) n)], nt := 36, up := [], own := [(0, .box 40 [.d (.int .i64) t6.1, .d (.int .u8) t6.2])], nx := 1, log := [], ln := 0 }
def units_Worth_m1 (j2 : Int → Int → Int × Int → Option (As [.pr (.int .i64) (.int .u8), .bool])) (w : Int) (digits : Int) (signed : Bool) (t14 : Bool) (t6 : Int × Int) : Option (As [.pr (.int .i64) (.int .u8), .bool]) :=
  if t14 = true then some ((0, 0), false, ()) else if signed = true then Option.bind (words_Signed (w, ())) fun (y : Int × Unit) => j2 digits y.1 t6 else j2 digits (cvt .i64 w) t6
def units_Worth_m2 (j3 : Int → Int → Int × Int → Option (As [.pr (.int .i64) (.int .u8), .bool])) (digits : Int) (n : Int) (t6 : Int × Int) : Option (As [.pr (.int .i64) (.int .u8), .bool]) :=
  j3 digits n t6
def units_Worth_m3 (j4 : Int → Int → Bool → Int × Int → Option (As [.pr (.int .i64) (.int .u8), .bool])) (self3 : Int → Int → Int × Int → Option (As [.pr (.int .i64) (.int .u8), .bool])) (digits : Int) (n : Int) (t6 : Int × Int) : Option (As [.pr (.int .i64) (.int .u8), .bool]) :=
  if gt digits 0 = true then j4 digits n (eqi (rem n 10) 0) t6 else j4 digits n false t6
def units_Worth_m4 (j5 : Int → Int → Int × Int → Option (As [.pr (.int .i64) (.int .u8), .bool])) (self3 : Int → Int → Int × Int → Option (As [.pr (.int .i64) (.int .u8), .bool])) (digits : Int) (n : Int) (t27 : Bool) (t6 : Int × Int) : Option (As [.pr (.int .i64) (.int .u8), .bool]) :=
  if t27 = true then self3 (Sx.sub .i64 digits 1) (quo .i64 n 10) t6 else j5 digits n t6
def units_Worth_m5 (digits : Int) (n : Int) (t6 : Int × Int) : Option (As [.pr (.int .i64) (.int .u8), .bool]) :=
  some ((n, cvt .u8 digits), true, ())
def units_Worth_m0 (j1 : Int → Int → Bool → Bool → Int × Int → Option (As [.pr (.int .i64) (.int .u8), .bool])) (w : Int) (digits : Int) (signed : Bool) : Option (As [.pr (.int .i64) (.int .u8), .bool]) :=
  if lt digits 0 = true then j1 w digits signed true (0, 0) else j1 w digits signed (gt digits 6) (0, 0)
def units_Worth_K5 (digits : Int) (n : Int) (t6 : Int × Int) : Option (As [.pr (.int .i64) (.int .u8), .bool]) := units_Worth_m5 digits n t6
def units_Worth_K4 (u3 : Int → Int → Int × Int → Option (As [.pr (.int .i64) (.int .u8), .bool])) (digits : Int) (n : Int) (t27 : Bool) (t6 : Int × Int) : Option (As [.pr (.int .i64) (.int .u8), .bool]) := units_Worth_m4 (units_Worth_K5) u3 digits n t27 t6
def units_Worth_K3 (digits : Int) (n : Int) (t6 : Int × Int) : Option (As [.pr (.int .i64) (.int .u8), .bool]) :=
  loopF (fun (self : (Int) × (Int) × (Int × Int) → Option (As [.pr (.int .i64) (.int .u8), .bool])) (s : (Int) × (Int) × (Int × Int)) => units_Worth_m3 (units_Worth_K4 (fun digits n t6 => self (digits, n, t6))) (fun digits n t6 => self (digits, n, t6)) s.1 s.2.1 s.2.2) 18446744073709551616 (digits, n, t6)
def units_Worth_K2 (digits : Int) (n : Int) (t6 : Int × Int) : Option (As [.pr (.int .i64) (.int .u8), .bool]) := units_Worth_m2 (units_Worth_K3) digits n t6
def units_Worth_K1 (w : Int) (digits : Int) (signed : Bool) (t14 : Bool) (t6 : Int × Int) : Option (As [.pr (.int .i64) (.int .u8), .bool]) := units_Worth_m1 (units_Worth_K2) w digits signed t14 t6
def units_Worth (x : As [.int .u16, .int .i64, .bool]) : Option (As [.pr (.int .i64) (.int .u8), .bool]) := units_Worth_m0 units_Worth_K1 x.1 x.2.1 x.2.2.1
theorem units_Worth_c5 (J : Orc (As [.pr (.int .i64) (.int .u8), .bool])) (digits : Int) (n : Int) (t6 : Int × Int) : pfn Tryd.prog units_Worth_e 6 18446744073709551616 (Ev.get units_Worth_h) 30 units_Worth_s J 31 [] (units_Worth_k5 digits n t6) = units_Worth_m5 digits n t6 := by kernel_rfl
theorem units_Worth_c4 (J : Orc (As [.pr (.int .i64) (.int .u8), .bool])) (w3 : St → Option (As [.pr (.int .i64) (.int .u8), .bool])) (digits : Int) (n : Int) (t27 : Bool) (t6 : Int × Int) : pfn Tryd.prog units_Worth_e 6 18446744073709551616 (Ev.get units_Worth_h) 30 units_Worth_s J 496 [w3] (units_Worth_k4 digits n t27 t6) = units_Worth_m4 (fun digits n t6 => J 31 [] (units_Worth_k5 digits n t6)) (fun digits n t6 => w3 (units_Worth_k3 digits n t6)) digits n t27 t6 := by kernel_rfl
theorem units_Worth_c3 (J : Orc (As [.pr (.int .i64) (.int .u8), .bool])) (w3 : St → Option (As [.pr (.int .i64) (.int .u8), .bool])) (digits : Int) (n : Int) (t6 : Int × Int) : pfn Tryd.prog units_Worth_e 6 18446744073709551616 (Ev.get units_Worth_h) 30 units_Worth_s J 124 [w3] (units_Worth_k3 digits n t6) = units_Worth_m3 (fun digits n t27 t6 => J 496 [w3] (units_Worth_k4 digits n t27 t6)) (fun digits n t6 => w3 (units_Worth_k3 digits n t6)) digits n t6 := by kernel_rfl
theorem units_Worth_c2 (J : Orc (As [.pr (.int .i64) (.int .u8), .bool])) (digits : Int) (n : Int) (t6 : Int × Int) : pfn Tryd.prog units_Worth_e 6 18446744073709551616 (Ev.get units_Worth_h) 30 units_Worth_s J 15 [] (units_Worth_k2 digits n t6) = units_Worth_m2 (fun digits n t6 => J 124 [] (units_Worth_k3 digits n t6)) digits n t6 := by kernel_rfl
theorem units_Worth_c1 (J : Orc (As [.pr (.int .i64) (.int .u8), .bool])) (w : Int) (digits : Int) (signed : Bool) (t14 : Bool) (t6 : Int × Int) : pfn Tryd.prog units_Worth_e 6 18446744073709551616 (Ev.get units_Worth_h) 30 units_Worth_s J 6 [] (units_Worth_k1 w digits signed t14 t6) = units_Worth_m1 (fun digits n t6 => J 15 [] (units_Worth_k2 digits n t6)) w digits signed t14 t6 := by kernel_rfl
theorem units_Worth_c0 (J : Orc (As [.pr (.int .i64) (.int .u8), .bool])) (x : As [.int .u16, .int .i64, .bool]) : rfn Tryd.prog units_Worth_e 6 18446744073709551616 (Ev.get units_Worth_h) 30 units_Worth_s J x = units_Worth_m0 (fun w digits signed t14 t6 => J 6 [] (units_Worth_k1 w digits signed t14 t6)) x.1 x.2.1 x.2.2.1 := by kernel_rfl
theorem units_Worth_g5 (digits : Int) (n : Int) (t6 : Int × Int) : jfn Tryd.prog units_Worth_e 6 18446744073709551616 (Ev.get units_Worth_h) 30 units_Worth_s 31 [] (units_Worth_k5 digits n t6) = units_Worth_K5 digits n t6 := by
  rw [pfn_eq (by decide)]
  rw [units_Worth_c5]
  rfl
theorem units_Worth_g4 (w3 : St → Option (As [.pr (.int .i64) (.int .u8), .bool])) (digits : Int) (n : Int) (t27 : Bool) (t6 : Int × Int) : jfn Tryd.prog units_Worth_e 6 18446744073709551616 (Ev.get units_Worth_h) 30 units_Worth_s 496 [w3] (units_Worth_k4 digits n t27 t6) = units_Worth_K4 (fun digits n t6 => w3 (units_Worth_k3 digits n t6)) digits n t27 t6 := by
  rw [pfn_eq (by decide)]
  have e5 : (fun digits n t6 => (jfn Tryd.prog units_Worth_e 6 18446744073709551616 (Ev.get units_Worth_h) 30 units_Worth_s) 31 [] (units_Worth_k5 digits n t6)) = units_Worth_K5 := funext fun digits => funext fun n => funext fun t6 => units_Worth_g5 digits n t6
  rw [units_Worth_c4, e5]
  rfl
theorem units_Worth_g3 (digits : Int) (n : Int) (t6 : Int × Int) : jfn Tryd.prog units_Worth_e 6 18446744073709551616 (Ev.get units_Worth_h) 30 units_Worth_s 124 [] (units_Worth_k3 digits n t6) = units_Worth_K3 digits n t6 := by
  rw [pfn_eq (by decide)]
  rw [pfn_loop (by kernel_rfl)]
  refine loopF_sim (σ := (Int) × (Int) × (Int × Int)) (mk := fun s => units_Worth_k3 s.1 s.2.1 s.2.2) (fun w3 s => ?_) 18446744073709551616 (digits, n, t6)
  have e4 : (fun digits n t27 t6 => (jfn Tryd.prog units_Worth_e 6 18446744073709551616 (Ev.get units_Worth_h) 30 units_Worth_s) 496 [w3] (units_Worth_k4 digits n t27 t6)) = units_Worth_K4 (fun digits n t6 => w3 (units_Worth_k3 digits n t6)) := funext fun digits => funext fun n => funext fun t27 => funext fun t6 => units_Worth_g4 w3 digits n t27 t6
  refine (units_Worth_c3 _ w3 s.1 s.2.1 s.2.2).trans ?_
  rw [e4]
theorem units_Worth_g2 (digits : Int) (n : Int) (t6 : Int × Int) : jfn Tryd.prog units_Worth_e 6 18446744073709551616 (Ev.get units_Worth_h) 30 units_Worth_s 15 [] (units_Worth_k2 digits n t6) = units_Worth_K2 digits n t6 := by
  rw [pfn_eq (by decide)]
  have e3 : (fun digits n t6 => (jfn Tryd.prog units_Worth_e 6 18446744073709551616 (Ev.get units_Worth_h) 30 units_Worth_s) 124 [] (units_Worth_k3 digits n t6)) = units_Worth_K3 := funext fun digits => funext fun n => funext fun t6 => units_Worth_g3 digits n t6
  rw [units_Worth_c2, e3]
  rfl
theorem units_Worth_g1 (w : Int) (digits : Int) (signed : Bool) (t14 : Bool) (t6 : Int × Int) : jfn Tryd.prog units_Worth_e 6 18446744073709551616 (Ev.get units_Worth_h) 30 units_Worth_s 6 [] (units_Worth_k1 w digits signed t14 t6) = units_Worth_K1 w digits signed t14 t6 := by
  rw [pfn_eq (by decide)]
  have e2 : (fun digits n t6 => (jfn Tryd.prog units_Worth_e 6 18446744073709551616 (Ev.get units_Worth_h) 30 units_Worth_s) 15 [] (units_Worth_k2 digits n t6)) = units_Worth_K2 := funext fun digits => funext fun n => funext fun t6 => units_Worth_g2 digits n t6
  rw [units_Worth_c1, e2]
  rfl
theorem units_Worth_t (x : As [.int .u16, .int .i64, .bool]) : evT Tryd.prog units_Worth_e 6 18446744073709551616 (Ev.get units_Worth_h) 30 units_Worth_s x = units_Worth x := by
  have e1 : (fun w digits signed t14 t6 => (jfn Tryd.prog units_Worth_e 6 18446744073709551616 (Ev.get units_Worth_h) 30 units_Worth_s) 6 [] (units_Worth_k1 w digits signed t14 t6)) = units_Worth_K1 := funext fun w => funext fun digits => funext fun signed => funext fun t14 => funext fun t6 => units_Worth_g1 w digits signed t14 t6
  rw [rfn_eq, units_Worth_c0, e1]
  rfl
theorem units_Worth_ok : CtOk Tryd.prog I0 30 ⟨units_Worth_s, units_Worth⟩ := ct_of_ev (env_cons words_Signed_ok env_nil) units_Worth_t
/-! law12_said -/
@[reducible] def law12_said_s : Sh := ⟨[.d (.str)], [], [.str], [.d (.pr (.int .i64) (.int .u8))], [], 0, [.pr (.int .i64) (.int .u8)]⟩
def law12_said_e : Env := (cts [(14, (⟨units_Parse_s, units_Parse⟩ : Ct))])
def law12_said_h : List (Nat × Hint) := []
def law12_said_m0 (s : List UInt8) : Option (As [.pr (.int .i64) (.int .u8)]) :=
  Option.bind (units_Parse (s, ())) fun (y : (Int × Int) × Bool × Unit) => some (y.1, ())
def law12_said (x : As [.str]) : Option (As [.pr (.int .i64) (.int .u8)]) := law12_said_m0 x.1
theorem law12_said_c0 (J : Orc (As [.pr (.int .i64) (.int .u8)])) (x : As [.str]) : rfn Tryd.prog law12_said_e 6 18446744073709551616 (Ev.get law12_said_h) 45 law12_said_s J x = law12_said_m0 x.1 := by kernel_rfl
theorem law12_said_t (x : As [.str]) : evT Tryd.prog law12_said_e 6 18446744073709551616 (Ev.get law12_said_h) 45 law12_said_s x = law12_said x := by
  rw [rfn_eq, law12_said_c0]
  rfl
theorem law12_said_ok : CtOk Tryd.prog I0 45 ⟨law12_said_s, law12_said⟩ := ct_of_ev (env_cons units_Parse_ok env_nil) law12_said_t
/-! law12_none -/
@[reducible] def law12_none_s : Sh := ⟨[.d (.str)], [], [.str], [.d (.bool)], [], 0, [.bool]⟩
def law12_none_e : Env := (cts [(14, (⟨units_Parse_s, units_Parse⟩ : Ct))])
def law12_none_h : List (Nat × Hint) := []
def law12_none_m0 (s : List UInt8) : Option (As [.bool]) :=
  Option.bind (units_Parse (s, ())) fun (y : (Int × Int) × Bool × Unit) => some (!y.2.1, ())
def law12_none (x : As [.str]) : Option (As [.bool]) := law12_none_m0 x.1
theorem law12_none_c0 (J : Orc (As [.bool])) (x : As [.str]) : rfn Tryd.prog law12_none_e 6 18446744073709551616 (Ev.get law12_none_h) 46 law12_none_s J x = law12_none_m0 x.1 := by kernel_rfl
theorem law12_none_t (x : As [.str]) : evT Tryd.prog law12_none_e 6 18446744073709551616 (Ev.get law12_none_h) 46 law12_none_s x = law12_none x := by
  rw [rfn_eq, law12_none_c0]
  rfl
theorem law12_none_ok : CtOk Tryd.prog I0 46 ⟨law12_none_s, law12_none⟩ := ct_of_ev (env_cons units_Parse_ok env_nil) law12_none_t
/-! law12_awake -/
@[reducible] def law12_awake_s : Sh := ⟨[], [], [], [.d (.bool)], [], 0, [.bool]⟩
def law12_awake_e : Env := (cts [(14, (⟨units_Parse_s, units_Parse⟩ : Ct)), (18, (⟨units_Show_s, units_Show⟩ : Ct)), (22, (⟨units_Times_s, units_Times⟩ : Ct)), (26, (⟨units_To_s, units_To⟩ : Ct)), (28, (⟨units_Word_s, units_Word⟩ : Ct)), (30, (⟨units_Worth_s, units_Worth⟩ : Ct)), (45, (⟨law12_said_s, law12_said⟩ : Ct)), (46, (⟨law12_none_s, law12_none⟩ : Ct))])
def law12_awake_h : List (Nat × Hint) := []
def law12_awake_m0 : Option (As [.bool]) :=
  Option.bind (units_Parse ([49, 50, 46, 53, 48], ())) fun (y : (Int × Int) × Bool × Unit) => Option.bind (law12_said ([50, 46, 53], ())) fun (y_1 : (Int × Int) × Unit) => Option.bind (units_Times (y_1.1, 3, 2, ())) fun (y_2 : (Int × Int) × Bool × Unit) => Option.bind (law12_said ([50, 46, 53], ())) fun (y_3 : (Int × Int) × Unit) => Option.bind (units_Times (y_3.1, 3, 7, ())) fun (y_4 : (Int × Int) × Bool × Unit) => Option.bind (law12_said ([49, 46, 53], ())) fun (y_5 : (Int × Int) × Unit) => Option.bind (units_To (y_5.1, [109, 105, 110], [109, 115], ())) fun (y_6 : (Int × Int) × Bool × Unit) => Option.bind (law12_said ([53], ())) fun (y_7 : (Int × Int) × Unit) => Option.bind (units_To (y_7.1, [109, 115], [104], ())) fun (y_8 : (Int × Int) × Bool × Unit) => Option.bind (law12_said ([45, 49, 46, 50], ())) fun (y_9 : (Int × Int) × Unit) => Option.bind (units_Word (y_9.1, 1, true, ())) fun (y_10 : Int × Bool × Unit) => Option.bind (law12_said ([45, 49, 46, 50], ())) fun (y_11 : (Int × Int) × Unit) => Option.bind (units_Word (y_11.1, 1, false, ())) fun (y_12 : Int × Bool × Unit) => Option.bind (units_Worth (65524, 1, true, ())) fun (y_13 : (Int × Int) × Bool × Unit) => if y.2.1 = true then if (eqi y.1.1 125 && (eqi y.1.2 1 && true)) = true then Option.bind (units_Show (y.1, ())) fun (y : List UInt8 × Unit) => if eqs y.1 [49, 50, 46, 53] = true then Option.bind (law12_none ([48, 49], ())) fun (y : Bool × Unit) => if y.1 = true then Option.bind (law12_none ([46, 53], ())) fun (y : Bool × Unit) => if y.1 = true then Option.bind (law12_none ([49, 46], ())) fun (y : Bool × Unit) => if y.1 = true then Option.bind (law12_none ([49, 46, 48, 48, 48, 48, 48, 48, 49], ())) fun (y : Bool × Unit) => if y.1 = true then Option.bind (law12_none ([43, 49], ())) fun (y : Bool × Unit) => if y.1 = true then if y_2.2.1 = true then Option.bind (law12_said ([51, 46, 55, 53], ())) fun (y : (Int × Int) × Unit) => if (eqi y_2.1.1 y.1.1 && (eqi y_2.1.2 y.1.2 && true)) = true then if (!y_4.2.1) = true then if y_6.2.1 = true then Option.bind (law12_said ([57, 48, 48, 48, 48], ())) fun (y : (Int × Int) × Unit) => if (eqi y_6.1.1 y.1.1 && (eqi y_6.1.2 y.1.2 && true)) = true then if (!y_8.2.1) = true then if y_10.2.1 = true then if eqi y_10.1 65524 = true then if (!y_12.2.1) = true then if y_13.2.1 = true then Option.bind (law12_said ([45, 49, 46, 50], ())) fun (y : (Int × Int) × Unit) => some (eqi y_13.1.1 y.1.1 && (eqi y_13.1.2 y.1.2 && true), ()) else some (false, ()) else some (false, ()) else some (false, ()) else some (false, ()) else some (false, ()) else some (false, ()) else some (false, ()) else some (false, ()) else some (false, ()) else some (false, ()) else some (false, ()) else some (false, ()) else some (false, ()) else some (false, ()) else some (false, ()) else some (false, ()) else some (false, ()) else some (false, ())
def law12_awake (x : As []) : Option (As [.bool]) := law12_awake_m0
theorem law12_awake_c0 (J : Orc (As [.bool])) (x : As []) : rfn Tryd.prog law12_awake_e 6 18446744073709551616 (Ev.get law12_awake_h) 13 law12_awake_s J x = law12_awake_m0 := by kernel_rfl
theorem law12_awake_t (x : As []) : evT Tryd.prog law12_awake_e 6 18446744073709551616 (Ev.get law12_awake_h) 13 law12_awake_s x = law12_awake x := by
  rw [rfn_eq, law12_awake_c0]
  rfl
theorem law12_awake_ok : CtOk Tryd.prog I0 13 ⟨law12_awake_s, law12_awake⟩ := ct_of_ev (env_cons units_Parse_ok (env_cons units_Show_ok (env_cons units_Times_ok (env_cons units_To_ok (env_cons units_Word_ok (env_cons units_Worth_ok (env_cons law12_said_ok (env_cons law12_none_ok env_nil)))))))) law12_awake_t
/-! law12_some -/
@[reducible] def law12_some_s : Sh := ⟨[.d (.pr (.int .i64) (.int .u8))], [], [.pr (.int .i64) (.int .u8)], [.d (.pr (.int .i64) (.int .u8))], [], 0, [.pr (.int .i64) (.int .u8)]⟩
def law12_some_e : Env := (cts [])
def law12_some_h : List (Nat × Hint) := [(60, ⟨[], [1, 2, 15, 16, 17, 18]⟩), (240, ⟨[], [1, 2, 19]⟩)]
def law12_some_k1 (d : Int × Int) (t2 : Int × Int) : St := { fr := [(1, .pb 0 0), (2, .pb 1 0)], nt := 29, up := [], own := [(0, .box 40 [.d (.int .i64) d.1, .d (.int .u8) d.2]), (1, .box 40 [.d (.int .i64) t2.1, .d (.int .u8) t2.2])], nx := 2, log := [], ln := 0 }
def law12_some_k2 (t19 : Bool) (d : Int × Int) (t2 : Int × Int) : St := { fr := [(1, .pb 0 0), (2, .pb 1 0), (19, .d .bool t19)], nt := 29, up := [], own := [(0, .box 40 [.d (.int .i64) d.1, .d (.int .u8) d.2]), (1, .box 40 [.d (.int .i64) t2.1, .d (.int .u8) t2.2])], nx := 2, log := [], ln := 0 }
def law12_some_m1 (j2 : Bool → Int × Int → Int × Int → Option (As [.pr (.int .i64) (.int .u8)])) (self1 : Int × Int → Int × Int → Option (As [.pr (.int .i64) (.int .u8)])) (d : Int × Int) (t2 : Int × Int) : Option (As [.pr (.int .i64) (.int .u8)]) :=
  if gt d.2 0 = true then j2 (eqi (rem d.1 10) 0) d t2 else j2 false d t2
def law12_some_m2 (self1 : Int × Int → Int × Int → Option (As [.pr (.int .i64) (.int .u8)])) (t19 : Bool) (d : Int × Int) (t2 : Int × Int) : Option (As [.pr (.int .i64) (.int .u8)]) :=
  if t19 = true then self1 (quo .i64 d.1 10, Sx.sub .u8 d.2 1) t2 else some (d, ())
def law12_some_m0 (j1 : Int × Int → Int × Int → Option (As [.pr (.int .i64) (.int .u8)])) (d : Int × Int) : Option (As [.pr (.int .i64) (.int .u8)]) :=
  j1 (rem d.1 1000000000001, rem d.2 7) (0, 0)
def law12_some_K2 (u1 : Int × Int → Int × Int → Option (As [.pr (.int .i64) (.int .u8)])) (t19 : Bool) (d : Int × Int) (t2 : Int × Int) : Option (As [.pr (.int .i64) (.int .u8)]) := law12_some_m2 u1 t19 d t2
def law12_some_K1 (d : Int × Int) (t2 : Int × Int) : Option (As [.pr (.int .i64) (.int .u8)]) :=
  loopF (fun (self : (Int × Int) × (Int × Int) → Option (As [.pr (.int .i64) (.int .u8)])) (s : (Int × Int) × (Int × Int)) => law12_some_m1 (law12_some_K2 (fun d t2 => self (d, t2))) (fun d t2 => self (d, t2)) s.1 s.2) 18446744073709551616 (d, t2)
def law12_some (x : As [.pr (.int .i64) (.int .u8)]) : Option (As [.pr (.int .i64) (.int .u8)]) := law12_some_m0 law12_some_K1 x.1
theorem law12_some_c2 (J : Orc (As [.pr (.int .i64) (.int .u8)])) (w1 : St → Option (As [.pr (.int .i64) (.int .u8)])) (t19 : Bool) (d : Int × Int) (t2 : Int × Int) : pfn Tryd.prog law12_some_e 6 18446744073709551616 (Ev.get law12_some_h) 32 law12_some_s J 240 [w1] (law12_some_k2 t19 d t2) = law12_some_m2 (fun d t2 => w1 (law12_some_k1 d t2)) t19 d t2 := by kernel_rfl
theorem law12_some_c1 (J : Orc (As [.pr (.int .i64) (.int .u8)])) (w1 : St → Option (As [.pr (.int .i64) (.int .u8)])) (d : Int × Int) (t2 : Int × Int) : pfn Tryd.prog law12_some_e 6 18446744073709551616 (Ev.get law12_some_h) 32 law12_some_s J 60 [w1] (law12_some_k1 d t2) = law12_some_m1 (fun t19 d t2 => J 240 [w1] (law12_some_k2 t19 d t2)) (fun d t2 => w1 (law12_some_k1 d t2)) d t2 := by kernel_rfl
theorem law12_some_c0 (J : Orc (As [.pr (.int .i64) (.int .u8)])) (x : As [.pr (.int .i64) (.int .u8)]) : rfn Tryd.prog law12_some_e 6 18446744073709551616 (Ev.get law12_some_h) 32 law12_some_s J x = law12_some_m0 (fun d t2 => J 60 [] (law12_some_k1 d t2)) x.1 := by kernel_rfl
theorem law12_some_g2 (w1 : St → Option (As [.pr (.int .i64) (.int .u8)])) (t19 : Bool) (d : Int × Int) (t2 : Int × Int) : jfn Tryd.prog law12_some_e 6 18446744073709551616 (Ev.get law12_some_h) 32 law12_some_s 240 [w1] (law12_some_k2 t19 d t2) = law12_some_K2 (fun d t2 => w1 (law12_some_k1 d t2)) t19 d t2 := by
  rw [pfn_eq (by decide)]
  rw [law12_some_c2]
  rfl
theorem law12_some_g1 (d : Int × Int) (t2 : Int × Int) : jfn Tryd.prog law12_some_e 6 18446744073709551616 (Ev.get law12_some_h) 32 law12_some_s 60 [] (law12_some_k1 d t2) = law12_some_K1 d t2 := by
  rw [pfn_eq (by decide)]
  rw [pfn_loop (by kernel_rfl)]
  refine loopF_sim (σ := (Int × Int) × (Int × Int)) (mk := fun s => law12_some_k1 s.1 s.2) (fun w1 s => ?_) 18446744073709551616 (d, t2)
  have e2 : (fun t19 d t2 => (jfn Tryd.prog law12_some_e 6 18446744073709551616 (Ev.get law12_some_h) 32 law12_some_s) 240 [w1] (law12_some_k2 t19 d t2)) = law12_some_K2 (fun d t2 => w1 (law12_some_k1 d t2)) := funext fun t19 => funext fun d => funext fun t2 => law12_some_g2 w1 t19 d t2
  refine (law12_some_c1 _ w1 s.1 s.2).trans ?_
  rw [e2]
theorem law12_some_t (x : As [.pr (.int .i64) (.int .u8)]) : evT Tryd.prog law12_some_e 6 18446744073709551616 (Ev.get law12_some_h) 32 law12_some_s x = law12_some x := by
  have e1 : (fun d t2 => (jfn Tryd.prog law12_some_e 6 18446744073709551616 (Ev.get law12_some_h) 32 law12_some_s) 60 [] (law12_some_k1 d t2)) = law12_some_K1 := funext fun d => funext fun t2 => law12_some_g1 d t2
  rw [rfn_eq, law12_some_c0, e1]
  rfl
theorem law12_some_ok : CtOk Tryd.prog I0 32 ⟨law12_some_s, law12_some⟩ := ct_of_ev env_nil law12_some_t
/-! istringslite_HasSuffix -/
@[reducible] def istringslite_HasSuffix_s : Sh := ⟨[.d (.str), .d (.str)], [], [.str, .str], [.d (.bool)], [], 0, [.bool]⟩
def istringslite_HasSuffix_e : Env := (cts [])
def istringslite_HasSuffix_h : List (Nat × Hint) := []
def istringslite_HasSuffix_m0 (s : List UInt8) (suffix : List UInt8) : Option (As [.bool]) :=
  if ge (Int.ofNat (List.length s)) (Int.ofNat (List.length suffix)) = true then Option.bind (cut s (Sx.sub .i64 (Int.ofNat (List.length s)) (Int.ofNat (List.length suffix))) (Int.ofNat (List.length s))) fun (y : List UInt8) => some (eqs y suffix, ()) else some (false, ())
def istringslite_HasSuffix (x : As [.str, .str]) : Option (As [.bool]) := istringslite_HasSuffix_m0 x.1 x.2.1
theorem istringslite_HasSuffix_c0 (J : Orc (As [.bool])) (x : As [.str, .str]) : rfn Tryd.prog istringslite_HasSuffix_e 6 18446744073709551616 (Ev.get istringslite_HasSuffix_h) 94 istringslite_HasSuffix_s J x = istringslite_HasSuffix_m0 x.1 x.2.1 := by kernel_rfl
theorem istringslite_HasSuffix_t (x : As [.str, .str]) : evT Tryd.prog istringslite_HasSuffix_e 6 18446744073709551616 (Ev.get istringslite_HasSuffix_h) 94 istringslite_HasSuffix_s x = istringslite_HasSuffix x := by
  rw [rfn_eq, istringslite_HasSuffix_c0]
  rfl
theorem istringslite_HasSuffix_ok : CtOk Tryd.prog I0 94 ⟨istringslite_HasSuffix_s, istringslite_HasSuffix⟩ := ct_of_ev env_nil istringslite_HasSuffix_t
/-! istringslite_TrimSuffix -/
@[reducible] def istringslite_TrimSuffix_s : Sh := ⟨[.d (.str), .d (.str)], [], [.str, .str], [.d (.str)], [], 0, [.str]⟩
def istringslite_TrimSuffix_e : Env := (cts [(94, (⟨istringslite_HasSuffix_s, istringslite_HasSuffix⟩ : Ct))])
def istringslite_TrimSuffix_h : List (Nat × Hint) := []
def istringslite_TrimSuffix_m0 (s : List UInt8) (suffix : List UInt8) : Option (As [.str]) :=
  Option.bind (istringslite_HasSuffix (s, suffix, ())) fun (y : Bool × Unit) => if y.1 = true then Option.bind (cut s 0 (Sx.sub .i64 (Int.ofNat (List.length s)) (Int.ofNat (List.length suffix)))) fun (y : List UInt8) => some (y, ()) else some (s, ())
def istringslite_TrimSuffix (x : As [.str, .str]) : Option (As [.str]) := istringslite_TrimSuffix_m0 x.1 x.2.1
theorem istringslite_TrimSuffix_c0 (J : Orc (As [.str])) (x : As [.str, .str]) : rfn Tryd.prog istringslite_TrimSuffix_e 6 18446744073709551616 (Ev.get istringslite_TrimSuffix_h) 66 istringslite_TrimSuffix_s J x = istringslite_TrimSuffix_m0 x.1 x.2.1 := by kernel_rfl
theorem istringslite_TrimSuffix_t (x : As [.str, .str]) : evT Tryd.prog istringslite_TrimSuffix_e 6 18446744073709551616 (Ev.get istringslite_TrimSuffix_h) 66 istringslite_TrimSuffix_s x = istringslite_TrimSuffix x := by
  rw [rfn_eq, istringslite_TrimSuffix_c0]
  rfl
theorem istringslite_TrimSuffix_ok : CtOk Tryd.prog I0 66 ⟨istringslite_TrimSuffix_s, istringslite_TrimSuffix⟩ := ct_of_ev (env_cons istringslite_HasSuffix_ok env_nil) istringslite_TrimSuffix_t
/-! strings_TrimSuffix -/
@[reducible] def strings_TrimSuffix_s : Sh := ⟨[.d (.str), .d (.str)], [], [.str, .str], [.d (.str)], [], 0, [.str]⟩
def strings_TrimSuffix_e : Env := (cts [(66, (⟨istringslite_TrimSuffix_s, istringslite_TrimSuffix⟩ : Ct))])
def strings_TrimSuffix_h : List (Nat × Hint) := []
def strings_TrimSuffix_m0 (s : List UInt8) (suffix : List UInt8) : Option (As [.str]) :=
  Option.bind (istringslite_TrimSuffix (s, suffix, ())) fun (y : List UInt8 × Unit) => some (y.1, ())
def strings_TrimSuffix (x : As [.str, .str]) : Option (As [.str]) := strings_TrimSuffix_m0 x.1 x.2.1
theorem strings_TrimSuffix_c0 (J : Orc (As [.str])) (x : As [.str, .str]) : rfn Tryd.prog strings_TrimSuffix_e 6 18446744073709551616 (Ev.get strings_TrimSuffix_h) 34 strings_TrimSuffix_s J x = strings_TrimSuffix_m0 x.1 x.2.1 := by kernel_rfl
theorem strings_TrimSuffix_t (x : As [.str, .str]) : evT Tryd.prog strings_TrimSuffix_e 6 18446744073709551616 (Ev.get strings_TrimSuffix_h) 34 strings_TrimSuffix_s x = strings_TrimSuffix x := by
  rw [rfn_eq, strings_TrimSuffix_c0]
  rfl
theorem strings_TrimSuffix_ok : CtOk Tryd.prog I0 34 ⟨strings_TrimSuffix_s, strings_TrimSuffix⟩ := ct_of_ev (env_cons istringslite_TrimSuffix_ok env_nil) strings_TrimSuffix_t
/-! law12_UnitsBack -/
@[reducible] def law12_UnitsBack_s : Sh := ⟨[.d (.pr (.int .i64) (.int .u8)), .d (.int .u8), .d (.str)], [], [.pr (.int .i64) (.int .u8), .int .u8, .str], [.d (.bool)], [], 0, [.bool]⟩
def law12_UnitsBack_e : Env := (cts [(12, (⟨strings_Contains_s, strings_Contains⟩ : Ct)), (13, (⟨law12_awake_s, law12_awake⟩ : Ct)), (14, (⟨units_Parse_s, units_Parse⟩ : Ct)), (16, (⟨units_Right_s, units_Right⟩ : Ct)), (18, (⟨units_Show_s, units_Show⟩ : Ct)), (32, (⟨law12_some_s, law12_some⟩ : Ct)), (33, (⟨strings_Repeat_s, strings_Repeat⟩ : Ct)), (34, (⟨strings_TrimSuffix_s, strings_TrimSuffix⟩ : Ct)), (67, (⟨strings_trimRightByte_s, strings_trimRightByte⟩ : Ct)), (68, (⟨strings_makeASCIISet_s, strings_makeASCIISet⟩ : Ct))])
def law12_UnitsBack_h : List (Nat × Hint) := [(255, ⟨[], [1, 2, 3, 10, 70, 71, 72, 73, 74, 75, 92, 93, 94, 95, 96, 97, 98, 99, 100, 101, 102, 103, 104, 107]⟩), (262125, ⟨[], [14, 16, 92, 93, 94, 95, 96, 97, 98, 99, 100, 101, 102, 103, 104, 107]⟩), (8190, ⟨[], [2, 76, 92, 93, 94, 95, 96, 97, 98, 99, 100, 101, 102, 103, 104, 107]⟩), (126, ⟨[], [1, 2, 3, 7, 41, 70, 71, 72, 73, 74, 75, 92, 93, 94, 95, 96, 97, 98, 99, 100, 101, 102, 103, 104, 107]⟩)]
def law12_UnitsBack_k1 (noughts : Int) (s : List UInt8) (text : List UInt8) (t41 : Bool) (d : Int × Int) : St := { fr := [(1, .d (.int .u8) noughts), (2, .d .str s), (3, .pb 0 0), (7, .d .str text), (41, .d .bool t41)], nt := 110, up := [], own := [(0, .box 40 [.d (.int .i64) d.1, .d (.int .u8) d.2])], nx := 1, log := [], ln := 0 }
def law12_UnitsBack_k2 (noughts : Int) (s : List UInt8) (more : List UInt8) (d : Int × Int) : St := { fr := [(1, .d (.int .u8) noughts), (2, .d .str s), (3, .pb 0 0), (10, .d .str more)], nt := 110, up := [], own := [(0, .box 40 [.d (.int .i64) d.1, .d (.int .u8) d.2])], nx := 1, log := [], ln := 0 }
def law12_UnitsBack_k3 (s : List UInt8) (t76 : Bool) : St := { fr := [(2, .d .str s), (76, .d .bool t76)], nt := 110, up := [], own := [], nx := 0, log := [], ln := 0 }
def law12_UnitsBack_k4 (short : List UInt8) (g : Int × Int) : St := { fr := [(14, .pb 0 0), (16, .d .str short)], nt := 110, up := [], own := [(0, .box 40 [.d (.int .i64) g.1, .d (.int .u8) g.2])], nx := 1, log := [], ln := 0 }
def law12_UnitsBack_m1 (j2 : Int → List UInt8 → List UInt8 → Int × Int → Option (As [.bool])) (noughts : Int) (s : List UInt8) (text : List UInt8) (t41 : Bool) (d : Int × Int) : Option (As [.bool]) :=
  if t41 = true then some (false, ()) else if eqi d.2 0 = true then need (small (List.length text + 1)) (j2 noughts s (text ++ [46]) d) else j2 noughts s text d
def law12_UnitsBack_m2 (j3 : List UInt8 → Bool → Option (As [.bool])) (noughts : Int) (s : List UInt8) (more : List UInt8) (d : Int × Int) : Option (As [.bool]) :=
  Option.bind (strings_Repeat ([48], add .i64 1 (cvt .i64 (rem noughts 7)), ())) fun (y : List UInt8 × Unit) => need (small (List.length more + List.length y.1)) (Option.bind (units_Parse (more ++ y.1, ())) fun (y : (Int × Int) × Bool × Unit) => if Sx.neb y.2.1 (le (add .i64 (cvt .i64 d.2) (add .i64 1 (cvt .i64 (rem noughts 7)))) 6) = true then j3 s true else if y.2.1 = true then j3 s !(eqi y.1.1 d.1 && (eqi y.1.2 d.2 && true)) else j3 s false)
def law12_UnitsBack_m3 (j4 : List UInt8 → Int × Int → Option (As [.bool])) (s : List UInt8) (t76 : Bool) : Option (As [.bool]) :=
  if t76 = true then some (false, ()) else Option.bind (units_Parse (s, ())) fun (y : (Int × Int) × Bool × Unit) => if y.2.1 = true then Option.bind (strings_Contains (s, [46], ())) fun (y_1 : Bool × Unit) => if y_1.1 = true then if eqs s [] = true then Option.bind (strings_TrimSuffix (s, [46], ())) fun (y_2 : List UInt8 × Unit) => j4 y_2.1 y.1 else Option.bind (strings_trimRightByte (s, 48, ())) fun (y_2 : List UInt8 × Unit) => Option.bind (strings_TrimSuffix (y_2.1, [46], ())) fun (y_3 : List UInt8 × Unit) => j4 y_3.1 y.1 else j4 s y.1 else Option.bind (law12_awake ()) fun (y : Bool × Unit) => some (y.1, ())
def law12_UnitsBack_m4 (short : List UInt8) (g : Int × Int) : Option (As [.bool]) :=
  Option.bind (units_Right (g, ())) fun (y : Bool × Unit) => if y.1 = true then Option.bind (units_Show (g, ())) fun (y : List UInt8 × Unit) => if eqs y.1 short = true then Option.bind (law12_awake ()) fun (y : Bool × Unit) => some (y.1, ()) else if eqs short [45, 48] = true then Option.bind (units_Show (g, ())) fun (y : List UInt8 × Unit) => if eqs y.1 [48] = true then Option.bind (law12_awake ()) fun (y : Bool × Unit) => some (y.1, ()) else some (false, ()) else some (false, ()) else some (false, ())
def law12_UnitsBack_m0 (j1 : Int → List UInt8 → List UInt8 → Bool → Int × Int → Option (As [.bool])) (d : Int × Int) (noughts : Int) (s : List UInt8) : Option (As [.bool]) :=
  if gt (Int.ofNat (List.length s)) 40 = true then Option.bind (law12_awake ()) fun (y : Bool × Unit) => some (y.1, ()) else Option.bind (law12_some (d, ())) fun (y : (Int × Int) × Unit) => Option.bind (units_Show (y.1, ())) fun (y_1 : List UInt8 × Unit) => Option.bind (units_Parse (y_1.1, ())) fun (y_2 : (Int × Int) × Bool × Unit) => Option.bind (units_Right (y.1, ())) fun (y_3 : Bool × Unit) => if (!y_3.1) = true then j1 noughts s y_1.1 true y.1 else if (!y_2.2.1) = true then j1 noughts s y_1.1 true y.1 else j1 noughts s y_1.1 (!(eqi y_2.1.1 y.1.1 && (eqi y_2.1.2 y.1.2 && true))) y.1
def law12_UnitsBack_K4 (short : List UInt8) (g : Int × Int) : Option (As [.bool]) := law12_UnitsBack_m4 short g
def law12_UnitsBack_K3 (s : List UInt8) (t76 : Bool) : Option (As [.bool]) := law12_UnitsBack_m3 (law12_UnitsBack_K4) s t76
def law12_UnitsBack_K2 (noughts : Int) (s : List UInt8) (more : List UInt8) (d : Int × Int) : Option (As [.bool]) := law12_UnitsBack_m2 (law12_UnitsBack_K3) noughts s more d
def law12_UnitsBack_K1 (noughts : Int) (s : List UInt8) (text : List UInt8) (t41 : Bool) (d : Int × Int) : Option (As [.bool]) := law12_UnitsBack_m1 (law12_UnitsBack_K2) noughts s text t41 d
def law12_UnitsBack (x : As [.pr (.int .i64) (.int .u8), .int .u8, .str]) : Option (As [.bool]) := law12_UnitsBack_m0 law12_UnitsBack_K1 x.1 x.2.1 x.2.2.1
theorem law12_UnitsBack_c4 (J : Orc (As [.bool])) (short : List UInt8) (g : Int × Int) : pfn Tryd.prog law12_UnitsBack_e 6 18446744073709551616 (Ev.get law12_UnitsBack_h) 6 law12_UnitsBack_s J 262125 [] (law12_UnitsBack_k4 short g) = law12_UnitsBack_m4 short g := by kernel_rfl
theorem law12_UnitsBack_c3 (J : Orc (As [.bool])) (s : List UInt8) (t76 : Bool) : pfn Tryd.prog law12_UnitsBack_e 6 18446744073709551616 (Ev.get law12_UnitsBack_h) 6 law12_UnitsBack_s J 8190 [] (law12_UnitsBack_k3 s t76) = law12_UnitsBack_m3 (fun short g => J 262125 [] (law12_UnitsBack_k4 short g)) s t76 := by kernel_rfl
theorem law12_UnitsBack_c2 (J : Orc (As [.bool])) (noughts : Int) (s : List UInt8) (more : List UInt8) (d : Int × Int) : pfn Tryd.prog law12_UnitsBack_e 6 18446744073709551616 (Ev.get law12_UnitsBack_h) 6 law12_UnitsBack_s J 255 [] (law12_UnitsBack_k2 noughts s more d) = law12_UnitsBack_m2 (fun s t76 => J 8190 [] (law12_UnitsBack_k3 s t76)) noughts s more d := by kernel_rfl
theorem law12_UnitsBack_c1 (J : Orc (As [.bool])) (noughts : Int) (s : List UInt8) (text : List UInt8) (t41 : Bool) (d : Int × Int) : pfn Tryd.prog law12_UnitsBack_e 6 18446744073709551616 (Ev.get law12_UnitsBack_h) 6 law12_UnitsBack_s J 126 [] (law12_UnitsBack_k1 noughts s text t41 d) = law12_UnitsBack_m1 (fun noughts s more d => J 255 [] (law12_UnitsBack_k2 noughts s more d)) noughts s text t41 d := by kernel_rfl
theorem law12_UnitsBack_c0 (J : Orc (As [.bool])) (x : As [.pr (.int .i64) (.int .u8), .int .u8, .str]) : rfn Tryd.prog law12_UnitsBack_e 6 18446744073709551616 (Ev.get law12_UnitsBack_h) 6 law12_UnitsBack_s J x = law12_UnitsBack_m0 (fun noughts s text t41 d => J 126 [] (law12_UnitsBack_k1 noughts s text t41 d)) x.1 x.2.1 x.2.2.1 := by kernel_rfl
theorem law12_UnitsBack_g4 (short : List UInt8) (g : Int × Int) : jfn Tryd.prog law12_UnitsBack_e 6 18446744073709551616 (Ev.get law12_UnitsBack_h) 6 law12_UnitsBack_s 262125 [] (law12_UnitsBack_k4 short g) = law12_UnitsBack_K4 short g := by
  rw [pfn_eq (by decide)]
  rw [law12_UnitsBack_c4]
  rfl
theorem law12_UnitsBack_g3 (s : List UInt8) (t76 : Bool) : jfn Tryd.prog law12_UnitsBack_e 6 18446744073709551616 (Ev.get law12_UnitsBack_h) 6 law12_UnitsBack_s 8190 [] (law12_UnitsBack_k3 s t76) = law12_UnitsBack_K3 s t76 := by
  rw [pfn_eq (by decide)]
  have e4 : (fun short g => (jfn Tryd.prog law12_UnitsBack_e 6 18446744073709551616 (Ev.get law12_UnitsBack_h) 6 law12_UnitsBack_s) 262125 [] (law12_UnitsBack_k4 short g)) = law12_UnitsBack_K4 := funext fun short => funext fun g => law12_UnitsBack_g4 short g
  rw [law12_UnitsBack_c3, e4]
  rfl
theorem law12_UnitsBack_g2 (noughts : Int) (s : List UInt8) (more : List UInt8) (d : Int × Int) : jfn Tryd.prog law12_UnitsBack_e 6 18446744073709551616 (Ev.get law12_UnitsBack_h) 6 law12_UnitsBack_s 255 [] (law12_UnitsBack_k2 noughts s more d) = law12_UnitsBack_K2 noughts s more d := by
  rw [pfn_eq (by decide)]
  have e3 : (fun s t76 => (jfn Tryd.prog law12_UnitsBack_e 6 18446744073709551616 (Ev.get law12_UnitsBack_h) 6 law12_UnitsBack_s) 8190 [] (law12_UnitsBack_k3 s t76)) = law12_UnitsBack_K3 := funext fun s => funext fun t76 => law12_UnitsBack_g3 s t76
  rw [law12_UnitsBack_c2, e3]
  rfl
theorem law12_UnitsBack_g1 (noughts : Int) (s : List UInt8) (text : List UInt8) (t41 : Bool) (d : Int × Int) : jfn Tryd.prog law12_UnitsBack_e 6 18446744073709551616 (Ev.get law12_UnitsBack_h) 6 law12_UnitsBack_s 126 [] (law12_UnitsBack_k1 noughts s text t41 d) = law12_UnitsBack_K1 noughts s text t41 d := by
  rw [pfn_eq (by decide)]
  have e2 : (fun noughts s more d => (jfn Tryd.prog law12_UnitsBack_e 6 18446744073709551616 (Ev.get law12_UnitsBack_h) 6 law12_UnitsBack_s) 255 [] (law12_UnitsBack_k2 noughts s more d)) = law12_UnitsBack_K2 := funext fun noughts => funext fun s => funext fun more => funext fun d => law12_UnitsBack_g2 noughts s more d
  rw [law12_UnitsBack_c1, e2]
  rfl
theorem law12_UnitsBack_t (x : As [.pr (.int .i64) (.int .u8), .int .u8, .str]) : evT Tryd.prog law12_UnitsBack_e 6 18446744073709551616 (Ev.get law12_UnitsBack_h) 6 law12_UnitsBack_s x = law12_UnitsBack x := by
  have e1 : (fun noughts s text t41 d => (jfn Tryd.prog law12_UnitsBack_e 6 18446744073709551616 (Ev.get law12_UnitsBack_h) 6 law12_UnitsBack_s) 126 [] (law12_UnitsBack_k1 noughts s text t41 d)) = law12_UnitsBack_K1 := funext fun noughts => funext fun s => funext fun text => funext fun t41 => funext fun d => law12_UnitsBack_g1 noughts s text t41 d
  rw [rfn_eq, law12_UnitsBack_c0, e1]
  rfl
theorem law12_UnitsBack_ok : CtOk Tryd.prog I0 6 ⟨law12_UnitsBack_s, law12_UnitsBack⟩ := ct_of_ev (env_cons strings_Contains_ok (env_cons law12_awake_ok (env_cons units_Parse_ok (env_cons units_Right_ok (env_cons units_Show_ok (env_cons law12_some_ok (env_cons strings_Repeat_ok (env_cons strings_TrimSuffix_ok (env_cons strings_trimRightByte_ok (env_cons strings_makeASCIISet_ok env_nil)))))))))) law12_UnitsBack_t
end Go.Proofs.Lx

end

section
/- Plain laws: a kit of lemmas about what the models are made of. -/
namespace Pl
open Go Ev Sx
set_option maxRecDepth 10000

/-! ### loops -/
theorem loopF_succ {σ R : Type} (F : (σ → Option R) → σ → Option R) (n : Nat) (s : σ) : loopF F (n + 1) s = F (loopF F n) s := rfl
/-- a loop is G, where each step is, if the next ones are -/
theorem loopF_eq {σ R : Type} {F : (σ → Option R) → σ → Option R} {Inv : σ → Prop} {μ : σ → Nat} {G : σ → Option R}
    (step : ∀ self s, Inv s → (∀ s', Inv s' → μ s' < μ s → self s' = G s') → F self s = G s) : ∀ (n : Nat) (s : σ), Inv s → μ s < n → loopF F n s = G s
  | 0, s, _, h => by omega
  | n + 1, s, hs, h => by
    rw [loopF_succ]
    exact step _ s hs fun s' hs' hlt => loopF_eq step n s' hs' (by omega)
/-! ### numbers -/
theorem w64 {x : Int} (h1 : -9223372036854775808 ≤ x) (h2 : x ≤ 9223372036854775807) : IntKind.i64.wrap x = x := by
  simp only [IntKind.wrap, IntKind.signed, IntKind.bits]
  simp
  omega
theorem wu8 {x : Int} (h1 : 0 ≤ x) (h2 : x ≤ 255) : IntKind.u8.wrap x = x := by
  simp only [IntKind.wrap, IntKind.signed, IntKind.bits]
  simp
  omega
theorem add64 {a b : Int} (h1 : -9223372036854775808 ≤ a + b) (h2 : a + b ≤ 9223372036854775807) : add .i64 a b = a + b := w64 h1 h2
theorem sub64 {a b : Int} (h1 : -9223372036854775808 ≤ a - b) (h2 : a - b ≤ 9223372036854775807) : sub .i64 a b = a - b := w64 h1 h2
theorem mul64 {a b : Int} (h1 : -9223372036854775808 ≤ a * b) (h2 : a * b ≤ 9223372036854775807) : mul .i64 a b = a * b := w64 h1 h2
theorem neg64 {a : Int} (h1 : -9223372036854775808 ≤ -a) (h2 : -a ≤ 9223372036854775807) : neg .i64 a = -a := w64 h1 h2
theorem cvt64 {a : Int} (h1 : -9223372036854775808 ≤ a) (h2 : a ≤ 9223372036854775807) : cvt .i64 a = a := w64 h1 h2
theorem succ64 {n : Nat} (h : n < 4611686018427387904) : add .i64 (n : Int) 1 = ((n + 1 : Nat) : Int) := by rw [add64 (by omega) (by omega)]; rfl
theorem ofNat_eq (n : Nat) : Int.ofNat n = (n : Int) := rfl
theorem lt_iff {a b : Int} : lt a b = true ↔ a < b := by simp [lt]
theorem le_iff {a b : Int} : le a b = true ↔ a ≤ b := by simp [le]
theorem gt_iff {a b : Int} : gt a b = true ↔ b < a := by simp [gt]
theorem ge_iff {a b : Int} : ge a b = true ↔ b ≤ a := by simp [ge]
theorem eqi_iff {a b : Int} : eqi a b = true ↔ a = b := by simp [eqi]
theorem nei_iff {a b : Int} : nei a b = true ↔ a ≠ b := by simp [nei]
theorem eqs_iff {a b : List UInt8} : eqs a b = true ↔ a = b := by simp [eqs]
theorem small_iff {n : Nat} : small n = true ↔ n ≤ 1073741824 := by simp [small]
theorem need_t {b : Bool} {β : Type} {k : Option β} (h : b = true) : need b k = k := by unfold need; rw [if_pos h]
theorem need_small {n : Nat} {β : Type} {k : Option β} (h : n ≤ 1073741824) : need (small n) k = k := need_t (small_iff.2 h)
/-! ### rows -/
theorem at_get {α : Type} {s : List α} {i : Nat} {c : α} (h : s[i]? = some c) : at? s (i : Int) = some c := by
  unfold at?
  simp [h]
theorem at_drop {α : Type} {s : List α} {i : Nat} {c : α} {r : List α} (h : s.drop i = c :: r) : at? s (i : Int) = some c := by
  apply at_get
  have := congrArg (·[0]?) h
  simpa using this
theorem at_app {α : Type} (p : List α) (c : α) (q : List α) : at? (p ++ c :: q) (p.length : Int) = some c := at_get (by simp)
theorem drop_succ {α : Type} {s : List α} {i : Nat} {c : α} {r : List α} (h : s.drop i = c :: r) : s.drop (i + 1) = r ∧ i < s.length ∧ s.length - i = r.length + 1 := by
  have hl := congrArg List.length h
  simp at hl
  refine ⟨?_, by omega, by omega⟩
  rw [← List.drop_drop, h]
  rfl
theorem drop_nil {α : Type} {s : List α} {i : Nat} (h : s.drop i = []) : s.length ≤ i := by
  have := congrArg List.length h
  simp at this
  omega
theorem cut_nat {α : Type} {xs : List α} {i j : Nat} (h1 : i ≤ j) (h2 : j ≤ xs.length) : cut xs (i : Int) (j : Int) = some ((xs.take j).drop i) := by
  unfold cut
  rw [if_pos ⟨by omega, by omega, by omega⟩]
  simp
theorem cut_from {α : Type} {xs : List α} {i : Nat} (h : i ≤ xs.length) : cut xs (i : Int) (Int.ofNat xs.length) = some (xs.drop i) := by
  rw [ofNat_eq, cut_nat h (Nat.le_refl _)]
  simp
theorem cut_to {α : Type} {xs : List α} {j : Nat} (h : j ≤ xs.length) : cut xs 0 (j : Int) = some (xs.take j) := by
  have := cut_nat (xs := xs) (Nat.zero_le j) h
  simpa using this
theorem cut_app0 {α : Type} (p q : List α) : cut (p ++ q) 0 (p.length : Int) = some p := by rw [cut_to (by simp)]; simp
/-- a byte's place -/
theorem index_no (c : UInt8) : ∀ s : List UInt8, c ∉ s → Go.Lib.indexByte s c = -1
  | [], _ => rfl
  | b :: q, h => by
    have hb : (b == c) = false := by
      rw [beq_eq_false_iff_ne]
      exact fun e => h (by simp [e])
    have ih := index_no c q (fun hx => h (List.mem_cons_of_mem _ hx))
    unfold Go.Lib.indexByte
    rw [hb, ih]
    rfl
theorem index_yes (c : UInt8) : ∀ (p q : List UInt8), c ∉ p → Go.Lib.indexByte (p ++ c :: q) c = (p.length : Int)
  | [], q, _ => by unfold Go.Lib.indexByte; simp
  | b :: p, q, h => by
    have hb : (b == c) = false := by
      rw [beq_eq_false_iff_ne]
      exact fun e => h (by simp [e])
    have ih := index_yes c p q (fun hx => h (List.mem_cons_of_mem _ hx))
    show Go.Lib.indexByte (b :: (p ++ c :: q)) c = _
    unfold Go.Lib.indexByte
    rw [hb, ih]
    have : ((p.length : Int) == -1) = false := by simp
    rw [this]
    simp
/-- a text up to a byte, and behind it -/
theorem split_at (c : UInt8) (s : List UInt8) : (c ∉ s) ∨ ∃ p q, s = p ++ c :: q ∧ c ∉ p := by
  induction s with
  | nil => exact .inl (by simp)
  | cons b r ih =>
    by_cases hb : b = c
    · exact .inr ⟨[], r, by simp [hb], by simp⟩
    · rcases ih with h | ⟨p, q, h1, h2⟩
      · exact .inl (by simp; exact ⟨fun e => hb e.symm, h⟩)
      · exact .inr ⟨b :: p, q, by simp [h1], by simp; exact ⟨fun e => hb e.symm, h2⟩⟩
/-! ### bytes -/
end Pl

end

section
/- Decimals: the program's reader and the document's are one. -/
namespace Go.Proofs.Lx
open Go Ev Sx Pl
set_option maxRecDepth 10000
def isD (n : Nat) : Bool := decide (48 ≤ n) && decide (n ≤ 57)
def dg (c : UInt8) : Bool := isD c.toNat
def digs (s : List UInt8) : Bool := s.all dg && s != []
def dvn (n : Int) (q : List UInt8) : Int := q.foldl (fun n c => 10 * n + ((c.toNat : Int) - 48)) n
theorem dvn_nil (n : Int) : dvn n [] = n := rfl
theorem dvn_cons (n : Int) (c : UInt8) (q : List UInt8) : dvn n (c :: q) = dvn (10 * n + ((c.toNat : Int) - 48)) q := rfl
theorem dvn_app (n : Int) (p q : List UInt8) : dvn n (p ++ q) = dvn (dvn n p) q := List.foldl_append ..
theorem dg_iff {c : UInt8} : dg c = true ↔ 48 ≤ c.toNat ∧ c.toNat ≤ 57 := by simp [dg, isD]
theorem dvn_ge : ∀ {q : List UInt8} {n : Int}, (∀ c ∈ q, dg c = true) → 0 ≤ n → n ≤ dvn n q
  | [], n, _, _ => Int.le_refl _
  | c :: q, n, h, hn => by
    have hc := dg_iff.1 (h c (List.mem_cons_self ..))
    have := dvn_ge (q := q) (n := 10 * n + ((c.toNat : Int) - 48)) (fun x hx => h x (List.mem_cons_of_mem _ hx)) (by omega)
    rw [dvn_cons]
    omega
theorem allDigits_eq {s : List UInt8} (h : s.length < 1000000) : units_allDigits (s, ()) = some (digs s, ()) := by
  have key : ∀ (n : Nat) (st : List UInt8 × Int × Int), (∃ i : Nat, st = (s, Int.ofNat s.length, (i : Int)) ∧ i ≤ s.length) → (s.length - st.2.2.toNat < n) →
      loopF (fun (self : (List UInt8) × Int × Int → Option (As [.bool])) (s : (List UInt8) × Int × Int) => units_allDigits_m1 (units_allDigits_K2 (fun a b c => self (a, b, c))) units_allDigits_K3 (fun a b c => self (a, b, c)) s.1 s.2.1 s.2.2) n st = some ((s.drop st.2.2.toNat).all dg && s != [], ()) := by
    refine loopF_eq (σ := List UInt8 × Int × Int) (μ := fun st => s.length - st.2.2.toNat) (G := fun st => some ((s.drop st.2.2.toNat).all dg && s != [], ())) ?_
    rintro self st ⟨i, rfl, hi⟩ ih
    simp only [Int.toNat_natCast] at ih ⊢
    unfold units_allDigits_m1
    cases hd : s.drop i with
    | nil =>
      have := drop_nil hd
      rw [if_neg (by rw [lt_iff, ofNat_eq]; omega)]
      unfold units_allDigits_K3 units_allDigits_m3
      rfl
    | cons c r =>
      obtain ⟨h1, h2, h3⟩ := drop_succ hd
      rw [if_pos (by rw [lt_iff, ofNat_eq]; omega), at_drop hd]
      simp only [Option.bind_some]
      have hgo : dg c = true → units_allDigits_K2 (fun a b c => self (a, b, c)) s (Int.ofNat s.length) (i : Int) false = some ((c :: r).all dg && s != [], ()) := fun hc => by
        unfold units_allDigits_K2 units_allDigits_m2
        rw [if_neg (by decide), succ64 (by omega)]
        have := ih (s, Int.ofNat s.length, ((i + 1 : Nat) : Int)) ⟨i + 1, rfl, by omega⟩ (by simp; omega)
        refine this.trans ?_
        simp [h1, hc]
      have hno : dg c = false → units_allDigits_K2 (fun a b c => self (a, b, c)) s (Int.ofNat s.length) (i : Int) true = some ((c :: r).all dg && s != [], ()) := fun hc => by
        unfold units_allDigits_K2 units_allDigits_m2
        rw [if_pos rfl]
        simp [hc]
      by_cases hc : dg c = true
      · have := dg_iff.1 hc
        rw [if_neg (by rw [lt_iff, ofNat_eq]; omega)]
        have e : gt (Int.ofNat c.toNat) 57 = false := by simp [gt]; omega
        rw [e]
        exact hgo hc
      · have hc' : dg c = false := by simpa using hc
        have h4 : ¬ (48 ≤ c.toNat ∧ c.toNat ≤ 57) := fun h => hc (dg_iff.2 h)
        by_cases h5 : c.toNat < 48
        · rw [if_pos (by rw [lt_iff, ofNat_eq]; omega)]
          exact hno hc'
        · rw [if_neg (by rw [lt_iff, ofNat_eq]; omega)]
          have e : gt (Int.ofNat c.toNat) 57 = true := by simp [gt]; omega
          rw [e]
          exact hno hc'
  have := key 18446744073709551616 (s, Int.ofNat s.length, 0) ⟨0, rfl, by omega⟩ (by simp; omega)
  refine this.trans ?_
  simp [digs]
/-- without the noughts at the end -/
def stripz : List UInt8 → List UInt8
  | [] => []
  | c :: q => match stripz q with
    | [] => if c = 48 then [] else [c]
    | r => c :: r
theorem stripz_snoc0 (q : List UInt8) : stripz (q ++ [48]) = stripz q := by
  induction q with
  | nil => rfl
  | cons c q ih => show (match stripz (q ++ [48]) with | [] => _ | r => _) = _; rw [ih]; rfl
theorem stripz_snoc {c : UInt8} (q : List UInt8) (h : c ≠ 48) : stripz (q ++ [c]) = q ++ [c] := by
  induction q with
  | nil => show (if c = 48 then [] else [c]) = _; rw [if_neg h]; rfl
  | cons a q ih =>
    show (match stripz (q ++ [c]) with | [] => _ | r => _) = _
    rw [ih]
    cases q <;> rfl
theorem snoc_cases {α : Type} (q : List α) : q = [] ∨ ∃ p c, q = p ++ [c] := by
  rcases List.eq_nil_or_concat q with h | ⟨p, c, h⟩
  · exact .inl h
  · exact .inr ⟨p, c, by simpa using h⟩
theorem trimRight_eq {s : List UInt8} (h : s.length < 1000000) : strings_trimRightByte (s, 48, ()) = some (stripz s, ()) := by
  have key : ∀ (n : Nat) (st : List UInt8 × Int), (st.2 = 48 ∧ st.1.length < 1000000) → st.1.length < n →
      loopF (fun (self : (List UInt8) × Int → Option (As [.str])) (s : (List UInt8) × Int) => strings_trimRightByte_m1 (strings_trimRightByte_K2 (fun a b => self (a, b))) (fun a b => self (a, b)) s.1 s.2) n st = some (stripz st.1, ()) := by
    refine loopF_eq (σ := List UInt8 × Int) (μ := fun st => st.1.length) (G := fun st => some (stripz st.1, ())) ?_
    rintro self ⟨s, c⟩ ⟨rfl, hl⟩ ih
    unfold strings_trimRightByte_m1
    rcases snoc_cases s with rfl | ⟨p, c, rfl⟩
    · rfl
    · simp at hl
      have hn : Int.ofNat (p ++ [c]).length = ((p.length + 1 : Nat) : Int) := by simp
      rw [if_pos (by rw [gt_iff, hn]; omega)]
      have h1 : sub .i64 (Int.ofNat (p ++ [c]).length) 1 = (p.length : Int) := by rw [hn, sub64 (by omega) (by omega)]; omega
      simp only [h1, at_app, Option.bind_some]
      unfold strings_trimRightByte_K2 strings_trimRightByte_m2
      by_cases hc : c = 48
      · subst hc
        rw [if_pos (show eqi (Int.ofNat (UInt8.toNat 48)) 48 = true from rfl), h1, cut_app0]
        have := ih (p, 48) ⟨rfl, by show p.length < _; omega⟩ (by simp)
        refine Eq.trans this ?_
        simp [stripz_snoc0]
      · have : eqi (Int.ofNat c.toNat) 48 = false := by
          simp [eqi]
          intro e
          apply hc
          apply UInt8.toNat_inj.1
          have : (48 : UInt8).toNat = 48 := rfl
          omega
        rw [this, if_neg (by decide)]
        simp [stripz_snoc p hc]
  exact key 18446744073709551616 (s, 48) ⟨rfl, h⟩ (by show s.length < _; omega)
/-! ### the program's reader -/
abbrev PR := (Int × Int) × Bool
def parsePieces (neg : Bool) (w r : List UInt8) (pt : Bool) : PR :=
  if digs w = false ∨ (1 < w.length ∧ w[0]? = some 48) then ((0, 0), false)
  else if pt = true ∧ (digs r = false ∨ 6 < r.length) then ((0, 0), false)
  else if 1000000000000 < dvn (dvn 0 w) (stripz r) then ((0, 0), false)
  else ((if neg then -(dvn (dvn 0 w) (stripz r)) else dvn (dvn 0 w) (stripz r), ((stripz r).length : Int)), true)
theorem byte_val {c : UInt8} (h : dg c = true) : cvt .i64 (sub .u8 (Int.ofNat c.toNat) 48) = (c.toNat : Int) - 48 := by
  have := dg_iff.1 h
  have e : sub .u8 (Int.ofNat c.toNat) 48 = (c.toNat : Int) - 48 := by unfold sub; rw [ofNat_eq, wu8 (by omega) (by omega)]
  rw [e, cvt64 (by omega) (by omega)]
abbrev P4 := Bool × List UInt8 × Int × List UInt8 × List UInt8 × List UInt8 × Int × Int × Int × Int × Int
theorem parse_K4 (u3 : Bool → List UInt8 → Int → List UInt8 → List UInt8 → Int → Int → Int → Option (As [.pr (.int .i64) (.int .u8), .bool])) (neg : Bool) (rest part a b : List UInt8) (n t : Int) (hd : ∀ c ∈ part, dg c = true) (hl : part.length < 1000000) (hn0 : 0 ≤ n) (hn1 : n ≤ 1000000000000) :
    units_Parse_K4 u3 neg rest n part a b t (Int.ofNat part.length) 0 0 0 = if 1000000000000 < dvn n part then some ((0, 0), false, ()) else u3 neg rest (dvn n part) a b (add .i64 t 1) 0 0 := by
  have key : ∀ (n : Nat) (st : P4), (∃ (i : Nat) (m : Int), st = (neg, rest, m, part, a, b, t, Int.ofNat part.length, (i : Int), 0, 0) ∧ i ≤ part.length ∧ 0 ≤ m ∧ m ≤ 1000000000000) → part.length - st.2.2.2.2.2.2.2.2.1.toNat < n →
      loopF (fun (self : P4 → Option (As [.pr (.int .i64) (.int .u8), .bool])) (s : P4) => units_Parse_m4 u3 (fun negative rest n part t54 t54_2 t55 t59 t60 t2 t2_2 => self (negative, rest, n, part, t54, t54_2, t55, t59, t60, t2, t2_2)) s.1 s.2.1 s.2.2.1 s.2.2.2.1 s.2.2.2.2.1 s.2.2.2.2.2.1 s.2.2.2.2.2.2.1 s.2.2.2.2.2.2.2.1 s.2.2.2.2.2.2.2.2.1 s.2.2.2.2.2.2.2.2.2.1 s.2.2.2.2.2.2.2.2.2.2) n st =
        if 1000000000000 < dvn st.2.2.1 (part.drop st.2.2.2.2.2.2.2.2.1.toNat) then some ((0, 0), false, ()) else u3 neg rest (dvn st.2.2.1 (part.drop st.2.2.2.2.2.2.2.2.1.toNat)) a b (add .i64 t 1) 0 0 := by
    refine loopF_eq (σ := P4) (μ := fun st => part.length - st.2.2.2.2.2.2.2.2.1.toNat) (G := fun st => if 1000000000000 < dvn st.2.2.1 (part.drop st.2.2.2.2.2.2.2.2.1.toNat) then some ((0, 0), false, ()) else u3 neg rest (dvn st.2.2.1 (part.drop st.2.2.2.2.2.2.2.2.1.toNat)) a b (add .i64 t 1) 0 0) ?_
    rintro self st ⟨i, m, rfl, hi, hm0, hm1⟩ ih
    simp only [Int.toNat_natCast] at ih ⊢
    unfold units_Parse_m4
    cases hdr : part.drop i with
    | nil =>
      have := drop_nil hdr
      rw [if_neg (by rw [lt_iff, ofNat_eq]; omega), dvn_nil, if_neg (by omega)]
    | cons c r =>
      obtain ⟨h1, h2, h3⟩ := drop_succ hdr
      have hc : dg c = true := hd c (List.mem_of_mem_drop (by rw [hdr]; exact List.mem_cons_self ..))
      have hcv := dg_iff.1 hc
      rw [if_pos (by rw [lt_iff, ofNat_eq]; omega), at_drop hdr, Option.bind_some, byte_val hc, mul64 (by omega) (by omega), add64 (by omega) (by omega), dvn_cons, succ64 (by omega)]
      have hr : ∀ x ∈ r, dg x = true := fun x hx => hd x (List.mem_of_mem_drop (by rw [hdr]; exact List.mem_cons_of_mem _ hx))
      have hge := dvn_ge (q := r) (n := 10 * m + ((c.toNat : Int) - 48)) hr (by omega)
      by_cases hgt : 1000000000000 < 10 * m + ((c.toNat : Int) - 48)
      · rw [if_pos (by rw [gt_iff]; omega), if_pos (by omega)]
      · rw [if_neg (by rw [gt_iff]; omega)]
        have := ih (neg, rest, 10 * m + ((c.toNat : Int) - 48), part, a, b, t, Int.ofNat part.length, ((i + 1 : Nat) : Int), 0, 0) ⟨i + 1, _, rfl, by omega, by omega, by omega⟩ (by simp; omega)
        refine this.trans ?_
        simp only [Int.toNat_natCast, h1]
  have := key 18446744073709551616 (neg, rest, n, part, a, b, t, Int.ofNat part.length, 0, 0, 0) ⟨0, n, rfl, by omega, hn0, hn1⟩ (by simp; omega)
  refine this.trans ?_
  simp
theorem K3_step (n : Nat) (neg : Bool) (rest : List UInt8) (m : Int) (a b : List UInt8) (t : Int) : 
    loopF (fun (self : (Bool) × (List UInt8) × (Int) × (List UInt8) × (List UInt8) × (Int) × (Int) × (Int) → Option (As [.pr (.int .i64) (.int .u8), .bool])) (s : (Bool) × (List UInt8) × (Int) × (List UInt8) × (List UInt8) × (Int) × (Int) × (Int)) => units_Parse_m3 (units_Parse_K4 (fun negative rest n t54 t54_2 t55 t2 t2_2 => self (negative, rest, n, t54, t54_2, t55, t2, t2_2))) (units_Parse_K5) (fun negative rest n t54 t54_2 t55 t2 t2_2 => self (negative, rest, n, t54, t54_2, t55, t2, t2_2)) s.1 s.2.1 s.2.2.1 s.2.2.2.1 s.2.2.2.2.1 s.2.2.2.2.2.1 s.2.2.2.2.2.2.1 s.2.2.2.2.2.2.2) (n + 1) (neg, rest, m, a, b, t, 0, 0) =
    if lt t 2 = true then if eqi t 1 = true then units_Parse_K4 (fun neg rest m a b t x y => loopF (fun (self : (Bool) × (List UInt8) × (Int) × (List UInt8) × (List UInt8) × (Int) × (Int) × (Int) → Option (As [.pr (.int .i64) (.int .u8), .bool])) (s : (Bool) × (List UInt8) × (Int) × (List UInt8) × (List UInt8) × (Int) × (Int) × (Int)) => units_Parse_m3 (units_Parse_K4 (fun negative rest n t54 t54_2 t55 t2 t2_2 => self (negative, rest, n, t54, t54_2, t55, t2, t2_2))) (units_Parse_K5) (fun negative rest n t54 t54_2 t55 t2 t2_2 => self (negative, rest, n, t54, t54_2, t55, t2, t2_2)) s.1 s.2.1 s.2.2.1 s.2.2.2.1 s.2.2.2.2.1 s.2.2.2.2.2.1 s.2.2.2.2.2.2.1 s.2.2.2.2.2.2.2) n (neg, rest, m, a, b, t, x, y)) neg rest m b a b t (Int.ofNat b.length) 0 0 0 else if eqi t 0 = true then units_Parse_K4 (fun neg rest m a b t x y => loopF (fun (self : (Bool) × (List UInt8) × (Int) × (List UInt8) × (List UInt8) × (Int) × (Int) × (Int) → Option (As [.pr (.int .i64) (.int .u8), .bool])) (s : (Bool) × (List UInt8) × (Int) × (List UInt8) × (List UInt8) × (Int) × (Int) × (Int)) => units_Parse_m3 (units_Parse_K4 (fun negative rest n t54 t54_2 t55 t2 t2_2 => self (negative, rest, n, t54, t54_2, t55, t2, t2_2))) (units_Parse_K5) (fun negative rest n t54 t54_2 t55 t2 t2_2 => self (negative, rest, n, t54, t54_2, t55, t2, t2_2)) s.1 s.2.1 s.2.2.1 s.2.2.2.1 s.2.2.2.2.1 s.2.2.2.2.2.1 s.2.2.2.2.2.2.1 s.2.2.2.2.2.2.2) n (neg, rest, m, a, b, t, x, y)) neg rest m a a b t (Int.ofNat a.length) 0 0 0 else none else units_Parse_K5 neg rest m 0 0 := rfl
theorem parse_K3 (neg : Bool) (w r : List UInt8) (hw : ∀ c ∈ w, dg c = true) (hr : ∀ c ∈ r, dg c = true) (hwl : w.length < 1000000) (hrl : r.length < 256) :
    units_Parse_K3 neg r 0 w r 0 0 0 = if 1000000000000 < dvn (dvn 0 w) r then some ((0, 0), false, ()) else some ((if neg then -(dvn (dvn 0 w) r) else dvn (dvn 0 w) r, (r.length : Int)), true, ()) := by
  have h0 : (0 : Int) ≤ dvn 0 w := dvn_ge hw (Int.le_refl _)
  have h1 : dvn 0 w ≤ dvn (dvn 0 w) r := dvn_ge hr h0
  refine (K3_step 18446744073709551615 neg r 0 w r 0).trans ?_
  rw [if_pos (by decide), if_neg (by decide), if_pos (by decide), parse_K4 _ _ _ _ _ _ _ _ hw hwl (by decide) (by decide)]
  by_cases hb : 1000000000000 < dvn 0 w
  · rw [if_pos hb, if_pos (by omega)]
  · rw [if_neg hb, show add .i64 0 1 = 1 from rfl]
    refine (K3_step 18446744073709551614 neg r _ w r 1).trans ?_
    rw [if_pos (by decide), if_pos (by decide), parse_K4 _ _ _ _ _ _ _ _ hr (by omega) h0 (by omega)]
    by_cases hb2 : 1000000000000 < dvn (dvn 0 w) r
    · rw [if_pos hb2, if_pos hb2]
    · rw [if_neg hb2, if_neg hb2, show add .i64 1 1 = 2 from rfl]
      refine (K3_step 18446744073709551613 neg r _ w r 2).trans ?_
      rw [if_neg (by decide)]
      unfold units_Parse_K5 units_Parse_m5 units_Parse_K6 units_Parse_m6
      have e : cvt .u8 (Int.ofNat r.length) = (r.length : Int) := wu8 (by rw [ofNat_eq]; omega) (by rw [ofNat_eq]; omega)
      rw [e]
      cases neg
      · rfl
      · rw [if_pos rfl, neg64 (by omega) (by omega)]
        rfl
theorem stripz_len : ∀ r : List UInt8, (stripz r).length ≤ r.length
  | [] => Nat.le_refl _
  | c :: q => by
    have ih := stripz_len q
    show (match stripz q with | [] => _ | r => _ : List UInt8).length ≤ _
    cases h : stripz q with
    | nil => dsimp only; split <;> simp
    | cons a b => rw [h] at ih; simp at ih ⊢; omega
theorem stripz_mem : ∀ {r : List UInt8} {c : UInt8}, c ∈ stripz r → c ∈ r
  | a :: q, c, h => by
    have ih := @stripz_mem q c
    change c ∈ (match stripz q with | [] => _ | r => _ : List UInt8) at h
    cases hq : stripz q with
    | nil =>
      rw [hq] at h
      dsimp only at h
      split at h
      · cases h
      · simp at h; simp [h]
    | cons x y =>
      rw [hq] at h ih
      rcases List.mem_cons.1 h with h | h
      · simp [h]
      · exact List.mem_cons_of_mem _ (ih h)
theorem digs_iff {s : List UInt8} : digs s = true ↔ (∀ c ∈ s, dg c = true) ∧ s ≠ [] := by simp [digs, List.all_eq_true]
/-- from where the pieces are known -/
theorem parse_K1 (neg : Bool) (w r : List UInt8) (pt bad : Bool) (hwl : w.length < 1000000) (hrl : r.length < 1000000) (hpt : pt = false → r = [])
    (hbad : bad = true ↔ (digs w = false ∨ (1 < w.length ∧ w[0]? = some 48))) : units_Parse_K1 neg w r pt bad 0 0 = some ((parsePieces neg w r pt).1, (parsePieces neg w r pt).2, ()) := by
  unfold units_Parse_K1 units_Parse_m1 parsePieces
  by_cases hb : bad = true
  · rw [if_pos hb, if_pos (hbad.1 hb)]
  · rw [if_neg hb, if_neg (fun h => hb (hbad.2 h))]
    have hw : digs w = true := by
      cases h : digs w
      · exact absurd (hbad.2 (.inl h)) hb
      · rfl
    have hwd := digs_iff.1 hw
    have fin : (∀ c ∈ r, dg c = true) → r.length ≤ 6 → units_Parse_K2 neg w r false 0 0 = some ((if 1000000000000 < dvn (dvn 0 w) (stripz r) then ((0, 0), false) else ((if neg then -(dvn (dvn 0 w) (stripz r)) else dvn (dvn 0 w) (stripz r), ((stripz r).length : Int)), true) : PR).1, (if 1000000000000 < dvn (dvn 0 w) (stripz r) then ((0, 0), false) else ((if neg then -(dvn (dvn 0 w) (stripz r)) else dvn (dvn 0 w) (stripz r), ((stripz r).length : Int)), true) : PR).2, ()) := fun hr h6 => by
      unfold units_Parse_K2 units_Parse_m2
      rw [if_neg (by decide)]
      have go : units_Parse_K3 neg (stripz r) 0 w (stripz r) 0 0 0 = some ((if 1000000000000 < dvn (dvn 0 w) (stripz r) then ((0, 0), false) else ((if neg then -(dvn (dvn 0 w) (stripz r)) else dvn (dvn 0 w) (stripz r), ((stripz r).length : Int)), true) : PR).1, (if 1000000000000 < dvn (dvn 0 w) (stripz r) then ((0, 0), false) else ((if neg then -(dvn (dvn 0 w) (stripz r)) else dvn (dvn 0 w) (stripz r), ((stripz r).length : Int)), true) : PR).2, ()) := by
        rw [parse_K3 neg w (stripz r) hwd.1 (fun c hc => hr c (stripz_mem hc)) hwl (by have := stripz_len r; omega)]
        split <;> rfl
      by_cases hre : r = []
      · subst hre
        rw [if_pos (by decide)]
        exact go
      · rw [if_neg (by rw [eqs_iff]; exact hre), trimRight_eq hrl, Option.bind_some]
        exact go
    cases pt
    · rw [if_neg (by decide), if_neg (by simp)]
      rw [hpt rfl] at fin ⊢
      exact fin (fun c h => by cases h) (by simp)
    · rw [if_pos rfl, allDigits_eq hrl, Option.bind_some]
      by_cases hr : digs r = true
      · rw [if_neg (by simp [hr])]
        by_cases h6 : 6 < r.length
        · have e : gt (Int.ofNat r.length) 6 = true := by rw [gt_iff, ofNat_eq]; omega
          rw [e, if_pos ⟨rfl, .inr h6⟩]
          rfl
        · have e : gt (Int.ofNat r.length) 6 = false := by simp [gt]; omega
          rw [e, if_neg (by simp [hr]; omega)]
          exact fin (digs_iff.1 hr).1 (by omega)
      · have hr' : digs r = false := by simpa using hr
        rw [if_pos (by simp [hr']), if_pos ⟨rfl, .inl hr'⟩]
        rfl
/-- the number that a text without a sign says -/
def parseT (neg : Bool) (t : List UInt8) : PR := parsePieces neg (t.takeWhile (· != 46)) ((t.dropWhile (· != 46)).drop 1) (t.contains 46)
def parseS (s : List UInt8) : PR := if s.head? = some 45 then parseT true (s.drop 1) else parseT false s
theorem tw_no {c : UInt8} {s : List UInt8} (h : c ∉ s) : s.takeWhile (· != c) = s ∧ s.dropWhile (· != c) = [] ∧ s.contains c = false := by
  induction s with
  | nil => exact ⟨rfl, rfl, rfl⟩
  | cons b q ih =>
    have hb : b ≠ c := fun e => h (by simp [e])
    obtain ⟨h1, h2, h3⟩ := ih (fun hm => h (List.mem_cons_of_mem _ hm))
    have hb' : (b != c) = true := by simp [hb]
    refine ⟨by simp [hb', h1], by simp [hb', h2], ?_⟩
    simp only [List.contains_cons, h3, Bool.or_false]
    simp
    exact fun e => hb e.symm
theorem tw_yes {c : UInt8} {p q : List UInt8} (h : c ∉ p) : (p ++ c :: q).takeWhile (· != c) = p ∧ (p ++ c :: q).dropWhile (· != c) = c :: q ∧ (p ++ c :: q).contains c = true := by
  induction p with
  | nil => simp
  | cons b r ih =>
    have hb : b ≠ c := fun e => h (by simp [e])
    obtain ⟨h1, h2, h3⟩ := ih (fun hm => h (List.mem_cons_of_mem _ hm))
    have hb' : (b != c) = true := by simp [hb]
    refine ⟨by simp [hb', h1], by simp [hb', h2], ?_⟩
    simp
theorem parseT_no {neg : Bool} {t : List UInt8} (h : (46 : UInt8) ∉ t) : parseT neg t = parsePieces neg t [] false := by
  obtain ⟨h1, h2, h3⟩ := tw_no h
  unfold parseT
  rw [h1, h2, h3]
  rfl
theorem parseT_yes {neg : Bool} {p q : List UInt8} (h : (46 : UInt8) ∉ p) : parseT neg (p ++ 46 :: q) = parsePieces neg p q true := by
  obtain ⟨h1, h2, h3⟩ := tw_yes (q := q) h
  simp only [parseT, h1, h2, h3]
  simp
theorem bad_iff {w : List UInt8} (c : UInt8) (q : List UInt8) (e : w = c :: q) (h : digs w = true) (hl : 1 < w.length) : eqi (Int.ofNat c.toNat) 48 = true ↔ (digs w = false ∨ (1 < w.length ∧ w[0]? = some 48)) := by
  subst e
  simp [h, eqi] at hl ⊢
  constructor
  · intro h2
    refine ⟨hl, UInt8.toNat_inj.1 ?_⟩
    have : (48 : UInt8).toNat = 48 := rfl
    omega
  · rintro ⟨_, rfl⟩; rfl
theorem hasPrefix_eq {s p : List UInt8} : istringslite_HasPrefix (s, p, ()) = some (decide (p <+: s), ()) := by
  show (if ge (Int.ofNat s.length) (Int.ofNat p.length) = true then _ else _) = _
  by_cases h : p.length ≤ s.length
  · rw [if_pos (by rw [ge_iff, ofNat_eq, ofNat_eq]; omega), ofNat_eq, cut_to h, Option.bind_some]
    congr 2
    rw [Bool.eq_iff_iff, eqs_iff, decide_eq_true_iff, List.prefix_iff_eq_take]
    exact ⟨fun h => h.symm, fun h => h.symm⟩
  · rw [if_neg (by rw [ge_iff, ofNat_eq, ofNat_eq]; omega)]
    congr 2
    symm
    rw [decide_eq_false_iff_not]
    intro hp
    exact h hp.length_le
theorem cutPrefix_eq {s p : List UInt8} : strings_CutPrefix (s, p, ()) = some (if p <+: s then (s.drop p.length, true, ()) else (s, false, ())) := by
  show (istringslite_CutPrefix (s, p, ())).bind _ = _
  have : istringslite_CutPrefix (s, p, ()) = some (if p <+: s then (s.drop p.length, true, ()) else (s, false, ())) := by
    show (istringslite_HasPrefix (s, p, ())).bind _ = _
    rw [hasPrefix_eq, Option.bind_some]
    by_cases h : p <+: s
    · rw [if_neg (by simp [h]), if_pos h, ofNat_eq, cut_from h.length_le, Option.bind_some]
    · rw [if_pos (by simp [h]), if_neg h]
  rw [this, Option.bind_some]
theorem parse_eq {s : List UInt8} (hl : s.length < 1000000) : units_Parse (s, ()) = some ((parseS s).1, (parseS s).2, ()) := by
  show units_Parse_m0 units_Parse_K1 s = _
  have go : ∀ (neg : Bool) (t : List UInt8), t.length < 1000000 →
      (if eqs [46] t = true then (cut t 1 (Int.ofNat t.length)).bind fun y_1 => (units_allDigits ([], ())).bind fun y_2 => if (!y_2.1) = true then units_Parse_K1 neg [] y_1 true true 0 0 else units_Parse_K1 neg [] y_1 true false 0 0
       else if ge (Go.Lib.indexByte t 46) 0 = true then (cut t 0 (Go.Lib.indexByte t 46)).bind fun y_1 => (cut t (add .i64 (Go.Lib.indexByte t 46) 1) (Int.ofNat t.length)).bind fun y_2 => (units_allDigits (y_1, ())).bind fun y_3 => if (!y_3.1) = true then units_Parse_K1 neg y_1 y_2 true true 0 0 else if gt (Int.ofNat y_1.length) 1 = true then (at? y_1 0).bind fun c => units_Parse_K1 neg y_1 y_2 true (eqi (Int.ofNat c.toNat) 48) 0 0 else units_Parse_K1 neg y_1 y_2 true false 0 0
       else (units_allDigits (t, ())).bind fun y_1 => if (!y_1.1) = true then units_Parse_K1 neg t [] false true 0 0 else if gt (Int.ofNat t.length) 1 = true then (at? t 0).bind fun c => units_Parse_K1 neg t [] false (eqi (Int.ofNat c.toNat) 48) 0 0 else units_Parse_K1 neg t [] false false 0 0) = some ((parseT neg t).1, (parseT neg t).2, ()) := by
    intro neg t ht
    have side : ∀ (w r : List UInt8) (pt : Bool), w.length < 1000000 → r.length < 1000000 → (pt = false → r = []) → ((units_allDigits (w, ())).bind fun y_1 => if (!y_1.1) = true then units_Parse_K1 neg w r pt true 0 0 else if gt (Int.ofNat w.length) 1 = true then (at? w 0).bind fun c => units_Parse_K1 neg w r pt (eqi (Int.ofNat c.toNat) 48) 0 0 else units_Parse_K1 neg w r pt false 0 0) = some ((parsePieces neg w r pt).1, (parsePieces neg w r pt).2, ()) := by
      intro w r pt hw hr hp
      rw [allDigits_eq hw, Option.bind_some]
      by_cases hd : digs w = true
      · rw [if_neg (by simp [hd])]
        by_cases h1 : 1 < w.length
        · rw [if_pos (by rw [gt_iff, ofNat_eq]; omega)]
          cases w with
          | nil => simp at h1
          | cons c q => exact parse_K1 neg (c :: q) r pt _ hw hr hp (bad_iff c q rfl hd h1)
        · rw [if_neg (by rw [gt_iff, ofNat_eq]; omega)]
          exact parse_K1 neg w r pt false hw hr hp (by simp [hd]; omega)
      · have hd' : digs w = false := by simpa using hd
        rw [if_pos (by simp [hd'])]
        exact parse_K1 neg w r pt true hw hr hp (by simp [hd'])
    by_cases he : t = [46]
    · subst he
      rw [if_pos (by decide), show cut ([46] : List UInt8) 1 (Int.ofNat [(46 : UInt8)].length) = some [] from rfl, Option.bind_some, allDigits_eq (by simp), Option.bind_some, if_pos (by decide)]
      exact parse_K1 neg [] [] true true (by simp) (by simp) (by simp) (by simp [digs])
    · rw [if_neg (by rw [eqs_iff]; exact fun h => he h.symm)]
      rcases split_at 46 t with h46 | ⟨p, q, rfl, h46⟩
      · rw [index_no 46 t h46, if_neg (by decide), parseT_no h46]
        exact side t [] false ht (by simp) (fun _ => rfl)
      · simp at ht
        rw [index_yes 46 p q h46, if_pos (by rw [ge_iff]; omega), cut_app0, Option.bind_some, succ64 (by omega), cut_from (by simp), Option.bind_some, parseT_yes h46]
        have : (p ++ 46 :: q).drop (p.length + 1) = q := by simp
        rw [this]
        exact side p q true (by omega) (by omega) (by simp)
  unfold units_Parse_m0
  rw [cutPrefix_eq]
  cases s with
  | nil =>
    rw [if_neg (by simp), Option.bind_some]
    exact go false [] (by simp)
  | cons a q =>
    by_cases ha : a = 45
    · subst ha
      have : parseS (45 :: q) = parseT true q := by simp [parseS]
      rw [this, if_pos (by simp), Option.bind_some]
      exact go true q (by simp at hl; omega)
    · have : parseS (a :: q) = parseT false (a :: q) := by simp [parseS, ha]
      rw [this, if_neg (by simp; intro e; exact ha e.symm), Option.bind_some]
      exact go false (a :: q) hl
end Go.Proofs.Lx

end

section
/- Decimals shown, and said again, as lists of bytes. -/
namespace Go.Proofs.Lx
open Go Ev Sx Pl
set_option maxRecDepth 100000
abbrev dd (n : Nat) : List UInt8 := Lib.decDigits n
theorem dd_small {n : Nat} (h : n < 10) : dd n = [UInt8.ofNat (48 + n)] := by rw [dd, Lib.decDigits, dif_pos h]
theorem dd_big {n : Nat} (h : ¬ n < 10) : dd n = dd (n / 10) ++ [UInt8.ofNat (48 + n % 10)] := by
  conv => lhs; rw [dd, Lib.decDigits, dif_neg h]
theorem dig8 {k : Nat} (h : k < 10) : (UInt8.ofNat (48 + k)).toNat = 48 + k := by
  rw [UInt8.toNat_ofNat']
  omega
theorem dd_dig (n : Nat) : ∀ c ∈ dd n, dg c = true := by
  induction n using Nat.strongRecOn with
  | ind n ih =>
    intro c hc
    by_cases h : n < 10
    · rw [dd_small h] at hc
      cases List.mem_singleton.1 hc
      rw [dg_iff, dig8 h]
      omega
    · rw [dd_big h] at hc
      rcases List.mem_append.1 hc with hc | hc
      · exact ih (n / 10) (by omega) c hc
      · cases List.mem_singleton.1 hc
        rw [dg_iff, dig8 (by omega)]
        omega
theorem dd_ne (n : Nat) : dd n ≠ [] := by
  by_cases h : n < 10
  · rw [dd_small h]; simp
  · rw [dd_big h]; simp
theorem dvn_dig {a : Int} {k : Nat} (h : k < 10) : dvn a [UInt8.ofNat (48 + k)] = 10 * a + k := by
  show 10 * a + (((UInt8.ofNat (48 + k)).toNat : Int) - 48) = _
  rw [dig8 h]
  omega
theorem dvn_dd (n : Nat) : dvn 0 (dd n) = n := by
  induction n using Nat.strongRecOn with
  | ind n ih =>
    by_cases h : n < 10
    · rw [dd_small h, dvn_dig h]
      omega
    · rw [dd_big h, dvn_app, ih (n / 10) (by omega), dvn_dig (by omega)]
      omega
theorem dd_head {n : Nat} (h : 1 ≤ n) : (dd n)[0]? ≠ some 48 := by
  induction n using Nat.strongRecOn with
  | ind n ih =>
    by_cases h1 : n < 10
    · rw [dd_small h1]
      intro e
      have e : UInt8.ofNat (48 + n) = 48 := Option.some.inj e
      have := congrArg UInt8.toNat e
      rw [dig8 h1] at this
      have e48 : (48 : UInt8).toNat = 48 := rfl
      omega
    · rw [dd_big h1, List.getElem?_append_left (by have := dd_ne (n / 10); exact List.length_pos_iff.2 this)]
      exact ih (n / 10) (by omega) (by omega)
theorem dd_one {n : Nat} (h : 1 < (dd n).length) : (dd n)[0]? ≠ some 48 := by
  refine dd_head ?_
  rcases Nat.eq_zero_or_pos n with h0 | h0
  · subst h0
    rw [dd_small (by omega)] at h
    simp at h
  · exact h0
theorem dd_len {n k : Nat} (hk : 1 ≤ k) (h : n < 10 ^ k) : (dd n).length ≤ k := by
  induction n using Nat.strongRecOn generalizing k with
  | ind n ih =>
    by_cases h1 : n < 10
    · rw [dd_small h1]
      exact hk
    · rw [dd_big h1]
      obtain ⟨j, rfl⟩ : ∃ j, k = j + 2 := ⟨k - 2, by
        have : k ≠ 1 := fun e => by subst e; omega
        omega⟩
      have := ih (n / 10) (by omega) (k := j + 1) (by omega) (by rw [Nat.pow_succ] at h; omega)
      simp
      omega
/-- just k digits -/
def fx : Nat → Nat → List UInt8
  | 0, _ => []
  | k + 1, m => fx k (m / 10) ++ [UInt8.ofNat (48 + m % 10)]
theorem fx_len : ∀ k m, (fx k m).length = k
  | 0, _ => rfl
  | k + 1, m => by rw [fx, List.length_append, fx_len k]; rfl
theorem fx_zero : ∀ k, fx k 0 = List.replicate k 48
  | 0 => rfl
  | k + 1 => by
    rw [fx, Nat.zero_div, fx_zero k, List.replicate_succ']
    rfl
theorem fx_dig : ∀ k m, ∀ c ∈ fx k m, dg c = true
  | 0, _, c, h => by cases h
  | k + 1, m, c, h => by
    rw [fx] at h
    rcases List.mem_append.1 h with h | h
    · exact fx_dig k _ c h
    · cases List.mem_singleton.1 h
      rw [dg_iff, dig8 (by omega)]
      omega
theorem dvn_fx : ∀ (k m : Nat) (a : Int), m < 10 ^ k → dvn a (fx k m) = a * ((10 ^ k : Nat) : Int) + m
  | 0, m, a, h => by
    have h : m < 1 := by simpa using h
    have : m = 0 := by omega
    subst this
    show a = a * 1 + 0
    omega
  | k + 1, m, a, h => by
    rw [fx, dvn_app, dvn_fx k (m / 10) a (by rw [Nat.pow_succ] at h; omega), dvn_dig (by omega), Nat.pow_succ]
    push_cast
    have : (m : Int) = 10 * ((m / 10 : Nat) : Int) + ((m % 10 : Nat) : Int) := by omega
    rw [Int.mul_add, ← Int.mul_assoc, Int.mul_comm 10 a, Int.mul_assoc, Int.mul_comm 10]
    omega
theorem pad_fx : ∀ (k m : Nat), 1 ≤ k → m < 10 ^ k → List.replicate (k - (dd m).length) 48 ++ dd m = fx k m
  | 0, _, h, _ => by omega
  | k + 1, m, _, h => by
    by_cases h1 : m < 10
    · rw [dd_small h1, fx, Nat.div_eq_of_lt h1, fx_zero, Nat.mod_eq_of_lt h1]
      rfl
    · have hk : 1 ≤ k := by
        rcases Nat.eq_zero_or_pos k with e | e
        · subst e; simp at h; omega
        · exact e
      have ih := pad_fx k (m / 10) hk (by rw [Nat.pow_succ] at h; omega)
      rw [dd_big h1, fx, ← ih, List.length_append, List.append_assoc]
      congr 2
      show k + 1 - ((dd (m / 10)).length + 1) = _
      omega
theorem snoc_dig {c : UInt8} (h : dg c = true) : UInt8.ofNat (48 + (c.toNat - 48)) = c := by
  have := dg_iff.1 h
  rw [show 48 + (c.toNat - 48) = c.toNat by omega, UInt8.ofNat_toNat]
theorem dvn_nat : ∀ (r : List UInt8), (∀ c ∈ r, dg c = true) → ∃ m : Nat, dvn 0 r = m ∧ m < 10 ^ r.length ∧ fx r.length m = r := by
  have : ∀ (k : Nat) (r : List UInt8), r.length = k → (∀ c ∈ r, dg c = true) → ∃ m : Nat, dvn 0 r = m ∧ m < 10 ^ r.length ∧ fx r.length m = r := by
    intro k
    induction k with
    | zero =>
      intro r h _
      have := List.eq_nil_of_length_eq_zero h
      subst this
      exact ⟨0, rfl, by decide, rfl⟩
    | succ k ih =>
      intro r h hd
      rcases snoc_cases r with rfl | ⟨q, c, rfl⟩
      · simp at h
      · have hq : q.length = k := by simpa using h
        obtain ⟨m, h1, h2, h3⟩ := ih q hq (fun x hx => hd x (List.mem_append_left _ hx))
        have hc := hd c (by simp)
        have hc' := dg_iff.1 hc
        refine ⟨10 * m + (c.toNat - 48), ?_, ?_, ?_⟩
        · rw [dvn_app, h1]
          show 10 * (m : Int) + ((c.toNat : Int) - 48) = _
          omega
        · rw [List.length_append]
          show _ < 10 ^ (q.length + 1)
          rw [Nat.pow_succ]
          omega
        · rw [List.length_append]
          show fx (q.length + 1) _ = _
          rw [fx, show (10 * m + (c.toNat - 48)) / 10 = m by omega, h3, show (10 * m + (c.toNat - 48)) % 10 = c.toNat - 48 by omega, snoc_dig hc]
  exact fun r => this r.length r rfl
/-- a number without noughts ahead is what its value is shown as -/
theorem canon : ∀ (k : Nat) (w : List UInt8), w.length = k → (∀ c ∈ w, dg c = true) → w ≠ [] → ¬ (1 < w.length ∧ w[0]? = some 48) → ∃ n : Nat, dvn 0 w = n ∧ dd n = w := by
  intro k
  induction k with
  | zero => intro w h _ hne _; exact absurd (List.eq_nil_of_length_eq_zero h) hne
  | succ k ih =>
    intro w h hd hne hz
    rcases snoc_cases w with rfl | ⟨q, c, rfl⟩
    · exact absurd rfl hne
    · have hq : q.length = k := by simpa using h
      have hc := hd c (by simp)
      have hc' := dg_iff.1 hc
      by_cases hqn : q = []
      · subst hqn
        refine ⟨c.toNat - 48, ?_, ?_⟩
        · show 10 * (0 : Int) + ((c.toNat : Int) - 48) = _
          omega
        · rw [dd_small (by omega), snoc_dig hc]
          rfl
      · have hpos := List.length_pos_iff.2 hqn
        have hz0 : q[0]? ≠ some 48 := fun e => hz ⟨by simp; omega, by rw [List.getElem?_append_left hpos]; exact e⟩
        obtain ⟨n, h1, h2⟩ := ih q hq (fun x hx => hd x (List.mem_append_left _ hx)) hqn (fun e => hz0 e.2)
        have hn : n ≠ 0 := fun e => by
          subst e
          rw [← h2, dd_small (by omega)] at hz0
          exact hz0 rfl
        refine ⟨10 * n + (c.toNat - 48), ?_, ?_⟩
        · rw [dvn_app, h1]
          show 10 * (n : Int) + ((c.toNat : Int) - 48) = _
          omega
        · rw [dd_big (by omega), show (10 * n + (c.toNat - 48)) / 10 = n by omega, h2, show (10 * n + (c.toNat - 48)) % 10 = c.toNat - 48 by omega, snoc_dig hc]
theorem stripz_fx {k m : Nat} (hk : 1 ≤ k) (hm : m % 10 ≠ 0) : stripz (fx k m) = fx k m := by
  obtain ⟨j, rfl⟩ : ∃ j, k = j + 1 := ⟨k - 1, by omega⟩
  rw [fx]
  refine stripz_snoc _ fun e => ?_
  have := congrArg UInt8.toNat e
  rw [dig8 (by omega)] at this
  have e48 : (48 : UInt8).toNat = 48 := rfl
  omega
theorem stripz_rep (q : List UInt8) : ∀ k, stripz (q ++ List.replicate k 48) = stripz q
  | 0 => by simp
  | k + 1 => by rw [List.replicate_succ', ← List.append_assoc, stripz_snoc0, stripz_rep q k]
theorem stripz_dot (a : List UInt8) : ∀ q : List UInt8, stripz (a ++ 46 :: q) = a ++ 46 :: stripz q := by
  have : ∀ (k : Nat) (q : List UInt8), q.length = k → stripz (a ++ 46 :: q) = a ++ 46 :: stripz q := by
    intro k
    induction k with
    | zero =>
      intro q h
      have := List.eq_nil_of_length_eq_zero h
      subst this
      exact stripz_snoc a (by decide)
    | succ k ih =>
      intro q h
      rcases snoc_cases q with rfl | ⟨p, c, rfl⟩
      · simp at h
      · have hp : p.length = k := by simpa using h
        have e : a ++ 46 :: (p ++ [c]) = (a ++ 46 :: p) ++ [c] := by simp
        rw [e]
        by_cases hc : c = 48
        · subst hc
          rw [stripz_snoc0, stripz_snoc0, ih p hp]
        · rw [stripz_snoc _ hc, stripz_snoc _ hc]
          simp
  exact fun q => this q.length q rfl
theorem stripz_last : ∀ (q : List UInt8), stripz q = [] ∨ ∃ p c, stripz q = p ++ [c] ∧ c ≠ 48 := by
  have : ∀ (k : Nat) (q : List UInt8), q.length = k → stripz q = [] ∨ ∃ p c, stripz q = p ++ [c] ∧ c ≠ 48 := by
    intro k
    induction k with
    | zero =>
      intro q h
      have := List.eq_nil_of_length_eq_zero h
      subst this
      exact .inl rfl
    | succ k ih =>
      intro q h
      rcases snoc_cases q with rfl | ⟨p, c, rfl⟩
      · exact .inl rfl
      · by_cases hc : c = 48
        · subst hc
          rw [stripz_snoc0]
          exact ih p (by simpa using h)
        · rw [stripz_snoc _ hc]
          exact .inr ⟨p, c, rfl, hc⟩
  exact fun q => this q.length q rfl
end Go.Proofs.Lx

end

section
/- What is shown is said; what is said is shown as it: on bytes. -/
namespace Go.Proofs.Lx
open Go Ev Sx Pl
set_option maxRecDepth 100000
/-- a decimal that is right: its sign, its digits as a number, how many are behind the point -/
structure RtD (d : Int × Int) (sg : Bool) (n D : Nat) : Prop where
  e1 : d.1 = if sg then -(n : Int) else (n : Int)
  e2 : d.2 = (D : Int)
  nz : sg = true → n ≠ 0
  le : n ≤ 1000000000000
  d6 : D ≤ 6
  tz : D ≠ 0 → n % 10 ≠ 0
/-- how it is shown -/
def shw (sg : Bool) (n D : Nat) : List UInt8 := (if sg then [45] else []) ++ dd (n / 10 ^ D) ++ (if D = 0 then [] else 46 :: fx D (n % 10 ^ D))
theorem dot_no {w : List UInt8} (h : ∀ c ∈ w, dg c = true) : (46 : UInt8) ∉ w := fun hm => by
  have := dg_iff.1 (h 46 hm)
  have e : (46 : UInt8).toNat = 46 := rfl
  omega
theorem digs_of {w : List UInt8} (h : ∀ c ∈ w, dg c = true) (hne : w ≠ []) : digs w = true := digs_iff.2 ⟨h, hne⟩
theorem dd_ok (n : Nat) : ¬ (digs (dd n) = false ∨ (1 < (dd n).length ∧ (dd n)[0]? = some 48)) := by
  rintro (h | ⟨h1, h2⟩)
  · rw [digs_of (dd_dig n) (dd_ne n)] at h
    cases h
  · exact dd_one h1 h2
theorem pieces_no {sg : Bool} {n : Nat} (h : n ≤ 1000000000000) : parsePieces sg (dd n) [] false = ((if sg then -(n : Int) else (n : Int), 0), true) := by
  unfold parsePieces
  have e : dvn (dvn 0 (dd n)) (stripz []) = (n : Int) := by rw [dvn_dd]; rfl
  rw [if_neg (dd_ok n), if_neg (fun h => by cases h.1), e, if_neg (by omega)]
  rfl
theorem pieces_yes {sg : Bool} {q D m k : Nat} (hm : m < 10 ^ D) (hle : q * 10 ^ D + m ≤ 1000000000000) (hz : D ≠ 0 → m % 10 ≠ 0) (hne : D + k ≠ 0) :
    parsePieces sg (dd q) (fx D m ++ List.replicate k 48) true = if D + k ≤ 6 then ((if sg then -((q * 10 ^ D + m : Nat) : Int) else ((q * 10 ^ D + m : Nat) : Int), (D : Int)), true) else ((0, 0), false) := by
  have hd : digs (fx D m ++ List.replicate k 48) = true := by
    refine digs_of (fun c hc => ?_) ?_
    · rcases List.mem_append.1 hc with hc | hc
      · exact fx_dig D m c hc
      · rw [List.eq_of_mem_replicate hc]
        rfl
    · intro e
      have := congrArg List.length e
      rw [List.length_append, fx_len, List.length_replicate] at this
      exact hne this
  have hl : (fx D m ++ List.replicate k 48).length = D + k := by rw [List.length_append, fx_len, List.length_replicate]
  have hs : stripz (fx D m ++ List.replicate k 48) = fx D m := by
    rw [stripz_rep]
    by_cases h0 : D = 0
    · subst h0; rfl
    · exact stripz_fx (by omega) (hz h0)
  have hv : dvn (dvn 0 (dd q)) (fx D m) = ((q * 10 ^ D + m : Nat) : Int) := by
    rw [dvn_dd, dvn_fx D m _ hm]
    push_cast
    rfl
  unfold parsePieces
  rw [if_neg (dd_ok q), hd, hl, hs, hv, fx_len]
  by_cases h6 : D + k ≤ 6
  · rw [if_neg (by rintro ⟨_, h | h⟩; cases h; omega), if_neg (by omega), if_pos h6]
  · rw [if_pos ⟨rfl, .inr (by omega)⟩, if_neg h6]
theorem parseS_sg {sg : Bool} {w t : List UInt8} (hw : ∀ c ∈ w, dg c = true) (hne : w ≠ []) : parseS ((if sg then [45] else []) ++ (w ++ t)) = parseT sg (w ++ t) := by
  unfold parseS
  cases sg with
  | true => rw [if_pos rfl]; rfl
  | false =>
    rcases w with _ | ⟨c, w⟩
    · exact absurd rfl hne
    · have hc := dg_iff.1 (hw c List.mem_cons_self)
      rw [if_neg]
      · rfl
      · intro e
        have e : c = 45 := Option.some.inj e
        subst e
        have e : (45 : UInt8).toNat = 45 := rfl
        omega
theorem div_mod (n D : Nat) : n / 10 ^ D * 10 ^ D + n % 10 ^ D = n := by
  rw [Nat.mul_comm]
  exact Nat.div_add_mod n (10 ^ D)
theorem mod_tz {n D : Nat} (hD : D ≠ 0) (h : n % 10 ≠ 0) : n % 10 ^ D % 10 ≠ 0 := by
  obtain ⟨k, rfl⟩ : ∃ k, D = k + 1 := ⟨D - 1, by omega⟩
  rw [Nat.mod_mod_of_dvd _ ⟨10 ^ k, by rw [Nat.pow_succ, Nat.mul_comm]⟩]
  exact h
/-- what is shown is said -/
theorem shw_said {sg : Bool} {n D : Nat} (hle : n ≤ 1000000000000) (h6 : D ≤ 6) (hz : D ≠ 0 → n % 10 ≠ 0) : parseS (shw sg n D) = ((if sg then -(n : Int) else (n : Int), (D : Int)), true) := by
  unfold shw
  rw [List.append_assoc, parseS_sg (dd_dig _) (dd_ne _)]
  by_cases h0 : D = 0
  · subst h0
    rw [if_pos rfl, List.append_nil, Nat.pow_zero, Nat.div_one, parseT_no (dot_no (dd_dig n)), pieces_no hle]
    rfl
  · rw [if_neg h0, parseT_yes (dot_no (dd_dig _))]
    have h := pieces_yes (sg := sg) (q := n / 10 ^ D) (D := D) (m := n % 10 ^ D) (k := 0) (Nat.mod_lt _ (Nat.pow_pos (by omega))) (by rw [div_mod]; exact hle) (fun hD => mod_tz hD (hz hD)) (by omega)
    rw [div_mod, if_pos (by omega), List.replicate_zero, List.append_nil] at h
    exact h
/-- noughts behind a point's digits say the same -/
theorem shw_more {sg : Bool} {n D k : Nat} (hle : n ≤ 1000000000000) (hz : D ≠ 0 → n % 10 ≠ 0) (hk : 1 ≤ k) :
    parseS ((if D = 0 then shw sg n D ++ [46] else shw sg n D) ++ List.replicate k 48) = if D + k ≤ 6 then ((if sg then -(n : Int) else (n : Int), (D : Int)), true) else ((0, 0), false) := by
  have e : (if D = 0 then shw sg n D ++ [46] else shw sg n D) ++ List.replicate k 48 = (if sg then [45] else []) ++ (dd (n / 10 ^ D) ++ 46 :: (fx D (n % 10 ^ D) ++ List.replicate k 48)) := by
    unfold shw
    by_cases h0 : D = 0
    · subst h0
      rw [if_pos rfl, if_pos rfl]
      simp [fx]
    · rw [if_neg h0, if_neg h0]
      simp
  rw [e, parseS_sg (dd_dig _) (dd_ne _), parseT_yes (dot_no (dd_dig _))]
  have h := pieces_yes (sg := sg) (q := n / 10 ^ D) (D := D) (m := n % 10 ^ D) (k := k) (Nat.mod_lt _ (Nat.pow_pos (by omega))) (by rw [div_mod]; exact hle) (fun hD => mod_tz hD (hz hD)) (by omega)
  rw [div_mod] at h
  exact h
/-- a text without a point at its end -/
def noDot (s : List UInt8) : List UInt8 := if s.getLast? = some 46 then s.dropLast else s
theorem noDot_snoc (p : List UInt8) (c : UInt8) : noDot (p ++ [c]) = if c = 46 then p else p ++ [c] := by
  unfold noDot
  rw [List.getLast?_concat, List.dropLast_concat]
  by_cases h : c = 46
  · rw [if_pos (by rw [h]), if_pos h]
  · rw [if_neg (fun e => h (Option.some.inj e)), if_neg h]
/-- the text without its noughts at the end -/
def shortS (s : List UInt8) : List UInt8 := if (46 : UInt8) ∈ s then noDot (stripz s) else s
theorem split_dot : ∀ (t : List UInt8), (46 : UInt8) ∈ t → ∃ p q, t = p ++ 46 :: q ∧ (46 : UInt8) ∉ p
  | [], h => by cases h
  | c :: t, h => by
    by_cases hc : c = 46
    · subst hc
      exact ⟨[], t, rfl, by simp⟩
    · rcases List.mem_cons.1 h with e | h
      · exact absurd e.symm hc
      · obtain ⟨p, q, rfl, hp⟩ := split_dot t h
        refine ⟨c :: p, q, rfl, fun hm => ?_⟩
        rcases List.mem_cons.1 hm with e | hm
        · exact hc e.symm
        · exact hp hm
theorem said_T {sg : Bool} {t : List UInt8} {g : Int × Int} (h : parseT sg t = (g, true)) :
    ∃ (n D : Nat), RtD g (sg && decide (n ≠ 0)) n D ∧ (shw (sg && decide (n ≠ 0)) n D = (if sg then [45] else []) ++ (if (46 : UInt8) ∈ t then noDot (stripz t) else t) ∨ ((if sg then [45] else []) ++ (if (46 : UInt8) ∈ t then noDot (stripz t) else t) = [45, 48] ∧ shw (sg && decide (n ≠ 0)) n D = [48])) := by
  have fin : ∀ (n D : Nat) (body : List UInt8), dd (n / 10 ^ D) ++ (if D = 0 then [] else 46 :: fx D (n % 10 ^ D)) = body → (n = 0 → D = 0) →
      (shw (sg && decide (n ≠ 0)) n D = (if sg then [45] else []) ++ body ∨ ((if sg then [45] else []) ++ body = [45, 48] ∧ shw (sg && decide (n ≠ 0)) n D = [48])) := by
    intro n D body hb h0
    unfold shw
    cases sg with
    | false =>
      rw [Bool.false_and]
      left
      rw [← hb]
      simp
    | true =>
      rw [Bool.true_and]
      by_cases hn : n = 0
      · have := h0 hn
        subst hn
        subst this
        right
        rw [← hb, dd_small (by decide)]
        exact ⟨rfl, rfl⟩
      · left
        rw [decide_eq_true hn, ← hb]
        simp
  have sgn : ∀ n : Nat, (if sg then -(n : Int) else (n : Int)) = if (sg && decide (n ≠ 0)) = true then -(n : Int) else (n : Int) := by
    intro n
    cases sg with
    | false => rfl
    | true =>
      by_cases hn : n = 0
      · subst hn; rfl
      · rw [decide_eq_true hn]; rfl
  by_cases hm : (46 : UInt8) ∈ t
  · obtain ⟨p, q, rfl, hp⟩ := split_dot t hm
    rw [parseT_yes hp] at h
    unfold parsePieces at h
    by_cases h1 : digs p = false ∨ (1 < p.length ∧ p[0]? = some 48)
    · rw [if_pos h1] at h; cases h
    rw [if_neg h1] at h
    by_cases h2 : true = true ∧ (digs q = false ∨ 6 < q.length)
    · rw [if_pos h2] at h; cases h
    rw [if_neg h2] at h
    by_cases h3 : 1000000000000 < dvn (dvn 0 p) (stripz q)
    · rw [if_pos h3] at h; cases h
    rw [if_neg h3] at h
    have hdp : digs p = true := by
      cases e : digs p with
      | true => rfl
      | false => exact absurd (.inl e) h1
    have hdq : digs q = true := by
      cases e : digs q with
      | true => rfl
      | false => exact absurd ⟨rfl, .inl e⟩ h2
    obtain ⟨dp, np⟩ := digs_iff.1 hdp
    obtain ⟨dq, nq⟩ := digs_iff.1 hdq
    obtain ⟨a, ha1, ha2⟩ := canon p.length p rfl dp np (fun e => h1 (.inr e))
    have dz : ∀ c ∈ stripz q, dg c = true := fun c hc => dq c (stripz_mem hc)
    obtain ⟨m, hm1, hm2, hm3⟩ := dvn_nat (stripz q) dz
    have hl6 : (stripz q).length ≤ 6 := by
      have := stripz_len q
      have : ¬ 6 < q.length := fun e => h2 ⟨rfl, .inr e⟩
      omega
    generalize hD : (stripz q).length = D at *
    have hval : dvn (dvn 0 p) (stripz q) = ((a * 10 ^ D + m : Nat) : Int) := by
      rw [ha1, ← hm3, dvn_fx D m _ hm2]
      push_cast
      rfl
    have hlast : D ≠ 0 → m % 10 ≠ 0 := by
      intro hD0 hm10
      rcases stripz_last q with e | ⟨x, c, e, hc⟩
      · rw [e] at hD; exact hD0 hD.symm
      · obtain ⟨k, rfl⟩ : ∃ k, D = k + 1 := ⟨D - 1, by omega⟩
        rw [e, fx, hm10] at hm3
        have hm3 := List.append_inj_right' hm3 (by simp)
        exact hc (List.cons.inj hm3).1.symm
    have hn10 : D ≠ 0 → (a * 10 ^ D + m) % 10 ≠ 0 := by
      intro hD0
      obtain ⟨k, rfl⟩ : ∃ k, D = k + 1 := ⟨D - 1, by omega⟩
      have := hlast hD0
      rw [Nat.pow_succ, ← Nat.mul_assoc]
      omega
    have hdiv : (a * 10 ^ D + m) / 10 ^ D = a := by
      rw [Nat.mul_comm, Nat.mul_add_div (Nat.pow_pos (by omega)), Nat.div_eq_of_lt hm2, Nat.add_zero]
    have hmod : (a * 10 ^ D + m) % 10 ^ D = m := by
      rw [Nat.mul_comm, Nat.mul_add_mod, Nat.mod_eq_of_lt hm2]
    rw [hval] at h h3
    cases h
    refine ⟨a * 10 ^ D + m, D, ⟨sgn _, rfl, fun e => ?_, by omega, hl6, hn10⟩, ?_⟩
    · rw [Bool.and_eq_true, decide_eq_true_iff] at e
      exact e.2
    · rw [if_pos hm, stripz_dot]
      have hb : noDot (p ++ 46 :: stripz q) = p ++ (if D = 0 then [] else 46 :: stripz q) := by
        by_cases hD0 : D = 0
        · have e : stripz q = [] := List.eq_nil_of_length_eq_zero (by omega)
          rw [e, if_pos hD0, List.append_nil, noDot_snoc, if_pos rfl]
        · rw [if_neg hD0]
          rcases stripz_last q with e | ⟨x, c, e, hc⟩
          · rw [e] at hD; exact absurd hD.symm hD0
          · have hc46 : c ≠ 46 := fun e2 => by
              subst e2
              exact dot_no dz (by rw [e]; simp)
            rw [e, show p ++ 46 :: (x ++ [c]) = (p ++ 46 :: x) ++ [c] by simp, noDot_snoc, if_neg hc46]
      rw [hb]
      refine fin _ D _ (by rw [hdiv, hmod, ha2, hm3]) (fun e => ?_)
      by_cases hD0 : D = 0
      · exact hD0
      · exact absurd (by rw [e]) (hn10 hD0)
  · rw [parseT_no hm] at h
    unfold parsePieces at h
    by_cases h1 : digs t = false ∨ (1 < t.length ∧ t[0]? = some 48)
    · rw [if_pos h1] at h; cases h
    rw [if_neg h1, if_neg (fun e => by cases e.1)] at h
    have hdp : digs t = true := by
      cases e : digs t with
      | true => rfl
      | false => exact absurd (.inl e) h1
    obtain ⟨dp, np⟩ := digs_iff.1 hdp
    obtain ⟨a, ha1, ha2⟩ := canon t.length t rfl dp np (fun e => h1 (.inr e))
    have hval : dvn (dvn 0 t) (stripz []) = (a : Int) := ha1
    rw [hval] at h
    by_cases h3 : 1000000000000 < (a : Int)
    · rw [if_pos h3] at h; cases h
    rw [if_neg h3] at h
    cases h
    refine ⟨a, 0, ⟨sgn _, rfl, fun e => ?_, by omega, by omega, fun e => absurd rfl e⟩, ?_⟩
    · rw [Bool.and_eq_true, decide_eq_true_iff] at e
      exact e.2
    · rw [if_neg hm]
      refine fin a 0 t ?_ (fun _ => rfl)
      rw [if_pos rfl, List.append_nil, Nat.pow_zero, Nat.div_one, ha2]
/-- what a text says is shown as it, but for noughts, and -0 -/
theorem said_S {s : List UInt8} {g : Int × Int} (h : parseS s = (g, true)) :
    ∃ (sg : Bool) (n D : Nat), RtD g sg n D ∧ (shw sg n D = shortS s ∨ (shortS s = [45, 48] ∧ shw sg n D = [48])) := by
  unfold parseS at h
  by_cases h1 : s.head? = some 45
  · rw [if_pos h1] at h
    rcases s with _ | ⟨c, t⟩
    · cases h1
    · have hc : c = 45 := Option.some.inj h1
      subst hc
      obtain ⟨n, D, h2, h3⟩ := said_T (sg := true) (t := t) h
      have e : shortS (45 :: t) = (if true = true then [45] else []) ++ (if (46 : UInt8) ∈ t then noDot (stripz t) else t) := by
        unfold shortS
        by_cases hm : (46 : UInt8) ∈ t
        · rw [if_pos (List.mem_cons_of_mem _ hm), if_pos hm, if_pos rfl]
          obtain ⟨p, q, rfl, hp⟩ := split_dot t hm
          have e1 := stripz_dot (45 :: p) q
          have e2 := stripz_dot p q
          rw [show (45 : UInt8) :: (p ++ 46 :: q) = (45 :: p) ++ 46 :: q from rfl, e1, e2]
          rcases snoc_cases (stripz q) with e | ⟨x, c, e⟩
          · rw [e, noDot_snoc, noDot_snoc, if_pos rfl, if_pos rfl]
            rfl
          · rw [e, show (45 :: p) ++ 46 :: (x ++ [c]) = ((45 :: p) ++ 46 :: x) ++ [c] by simp, show p ++ 46 :: (x ++ [c]) = (p ++ 46 :: x) ++ [c] by simp, noDot_snoc, noDot_snoc]
            split <;> simp
        · rw [if_neg (fun e => by
            rcases List.mem_cons.1 e with e | e
            · exact absurd e (by decide)
            · exact hm e), if_neg hm, if_pos rfl]
          rfl
      rw [← e] at h3
      exact ⟨_, n, D, h2, h3⟩
  · rw [if_neg h1] at h
    obtain ⟨n, D, h2, h3⟩ := said_T (sg := false) h
    exact ⟨_, n, D, h2, h3⟩
end Go.Proofs.Lx

end

section
/- What the program's functions for decimals give. -/
namespace Go.Proofs.Lx
open Go Ev Sx Pl
set_option maxRecDepth 100000
theorem qnat {i d : Nat} (hi : i < 4611686018427387904) : quo .i64 (i : Int) (d : Int) = ((i / d : Nat) : Int) := by
  unfold quo
  have e : ((i : Int)).tdiv (d : Int) = ((i / d : Nat) : Int) := rfl
  have h := Nat.div_le_self i d
  rw [e]
  generalize i / d = q at h ⊢
  exact w64 (by omega) (by omega)
theorem rnat {i d : Nat} : rem (i : Int) (d : Int) = ((i % d : Nat) : Int) := rfl
theorem power_eq : ∀ {D : Nat}, D ≤ 6 → units_power ((D : Int), ()) = some (((10 ^ D : Nat) : Int), ())
  | 0, _ => by kernel_rfl
  | 1, _ => by kernel_rfl
  | 2, _ => by kernel_rfl
  | 3, _ => by kernel_rfl
  | 4, _ => by kernel_rfl
  | 5, _ => by kernel_rfl
  | 6, _ => by kernel_rfl
  | _ + 7, h => by omega
theorem repeat_eq : ∀ {k : Nat}, k ≤ 7 → strings_Repeat ([48], (k : Int), ()) = some (List.replicate k 48, ())
  | 0, _ => by kernel_rfl
  | 1, _ => by kernel_rfl
  | 2, _ => by kernel_rfl
  | 3, _ => by kernel_rfl
  | 4, _ => by kernel_rfl
  | 5, _ => by kernel_rfl
  | 6, _ => by kernel_rfl
  | 7, _ => by kernel_rfl
  | _ + 8, h => by omega
theorem fint_eq {n : Nat} (h : n ≤ 1000000000000) : strconv_FormatInt ((n : Int), 10, ()) = some (dd n, ()) := by
  show (if (-9223372036854775808 ≤ (n : Int) ∧ (n : Int) ≤ 9223372036854775807) ∧ (10 : Int) = 10 then some (itF (n : Int), ()) else none) = _
  rw [if_pos ⟨⟨by omega, by omega⟩, rfl⟩, itF, if_neg (by omega), Int.toNat_natCast, dF_eq 19 n (by omega)]
theorem RtD.right {d : Int × Int} {sg : Bool} {n D : Nat} (h : RtD d sg n D) : units_Right (d, ()) = some (true, ()) := by
  obtain ⟨x, y⟩ := d
  have e1 : x = if sg then -(n : Int) else (n : Int) := h.e1
  have e2 : y = (D : Int) := h.e2
  have hle := h.le
  have h6 := h.d6
  show units_Right_m0 (x, y) = _
  unfold units_Right_m0
  dsimp only
  have b1 : -1000000000000 ≤ x ∧ x ≤ 1000000000000 := by
    rw [e1]
    split <;> omega
  rw [if_pos (ge_iff.2 b1.1), if_pos (le_iff.2 b1.2), if_pos (by rw [le_iff]; omega)]
  by_cases h0 : D = 0
  · rw [if_pos (by rw [eqi_iff]; omega)]
  · rw [if_neg (by rw [eqi_iff]; omega)]
    have hz := h.tz h0
    have : nei (rem x 10) 0 = true := by
      rw [nei_iff]
      unfold rem
      rw [e1]
      cases sg with
      | true =>
        rw [if_pos rfl, Int.neg_tmod]
        show -((n % 10 : Nat) : Int) ≠ 0
        omega
      | false =>
        show ((n % 10 : Nat) : Int) ≠ 0
        omega
    rw [this]
theorem show_K1 {sign : List UInt8} {n D : Nat} {d : Int × Int} (he : d.2 = (D : Int)) (hle : n ≤ 1000000000000) (h6 : D ≤ 6) (hs : sign.length ≤ 1) :
    units_Show_K1 (n : Int) sign d = some (sign ++ dd (n / 10 ^ D) ++ (if D = 0 then [] else 46 :: fx D (n % 10 ^ D)), ()) := by
  obtain ⟨x, y⟩ := d
  have he : y = (D : Int) := he
  subst he
  unfold units_Show_K1 units_Show_m1
  dsimp only
  have ec : cvt .i64 (D : Int) = (D : Int) := cvt64 (by omega) (by omega)
  have hp : 0 < 10 ^ D := Nat.pow_pos (by omega)
  have hq : n / 10 ^ D ≤ 1000000000000 := Nat.le_trans (Nat.div_le_self _ _) hle
  have hm : n % 10 ^ D ≤ 1000000000000 := Nat.le_trans (Nat.mod_le _ _) hle
  have hlq : (dd (n / 10 ^ D)).length ≤ 13 := dd_len (by omega) (by omega)
  have hml : n % 10 ^ D < 10 ^ D := Nat.mod_lt _ hp
  rw [ec, power_eq h6, Option.bind_some]
  dsimp only
  rw [need_t (by rw [nei_iff]; omega), qnat (by omega), fint_eq hq, Option.bind_some]
  dsimp only
  rw [need_small (by omega)]
  by_cases h0 : D = 0
  · rw [if_pos (by rw [eqi_iff]; omega), if_pos h0, List.append_nil]
  · have hl : (dd (n % 10 ^ D)).length ≤ D := dd_len (by omega) hml
    rw [if_neg (by rw [eqi_iff]; omega), if_neg h0, need_t (by rw [nei_iff]; omega), rnat, fint_eq hm, Option.bind_some]
    dsimp only
    have es : sub .i64 (D : Int) (Int.ofNat (dd (n % 10 ^ D)).length) = ((D - (dd (n % 10 ^ D)).length : Nat) : Int) := by
      rw [ofNat_eq, sub64 (by omega) (by omega)]
      omega
    rw [need_small (by simp; omega), es, repeat_eq (by omega), Option.bind_some]
    dsimp only
    rw [need_small (by simp; omega), need_small (by simp; omega), ← pad_fx D _ (by omega) hml]
    simp
theorem show_eq {d : Int × Int} {sg : Bool} {n D : Nat} (h : RtD d sg n D) : units_Show (d, ()) = some (shw sg n D, ()) := by
  show units_Show_m0 units_Show_K1 d = _
  unfold units_Show_m0 shw
  have hle := h.le
  rw [h.right, Option.bind_some, if_neg (by decide)]
  cases sg with
  | true =>
    have e1 : d.1 = -(n : Int) := h.e1
    have hn := h.nz rfl
    have en : neg .i64 d.1 = (n : Int) := by rw [e1, neg64 (by omega) (by omega)]; omega
    rw [if_pos (by rw [lt_iff]; omega), en, show_K1 h.e2 h.le h.d6 (by decide)]
    rfl
  | false =>
    have e1 : d.1 = (n : Int) := h.e1
    rw [if_neg (by rw [lt_iff]; omega), e1, show_K1 h.e2 h.le h.d6 (by decide)]
    rfl
theorem rtd_of {x : Int} {D : Nat} (hx : -1000000000000 ≤ x ∧ x ≤ 1000000000000) (h6 : D ≤ 6) (hz : D ≠ 0 → x.tmod 10 ≠ 0) : ∃ sg n, RtD (x, (D : Int)) sg n D := by
  rcases Int.lt_or_le x 0 with h | h
  · obtain ⟨n, rfl⟩ : ∃ n : Nat, x = -(n : Int) := ⟨x.natAbs, by omega⟩
    refine ⟨true, n, rfl, rfl, fun _ => by omega, by omega, h6, fun h0 e => hz h0 ?_⟩
    rw [Int.neg_tmod]
    show -((n % 10 : Nat) : Int) = 0
    omega
  · obtain ⟨n, rfl⟩ := Int.eq_ofNat_of_zero_le h
    refine ⟨false, n, rfl, rfl, fun e => (by cases e), by omega, h6, fun h0 e => hz h0 ?_⟩
    show ((n % 10 : Nat) : Int) = 0
    omega
def FS : ((Int × Int) × (Int × Int) → Option (As [.pr (.int .i64) (.int .u8)])) → (Int × Int) × (Int × Int) → Option (As [.pr (.int .i64) (.int .u8)]) := fun self s => law12_some_m1 (law12_some_K2 (fun d t2 => self (d, t2))) (fun d t2 => self (d, t2)) s.1 s.2
theorem tdiv10 {x : Int} (h : -1000000000000 ≤ x ∧ x ≤ 1000000000000) : -1000000000000 ≤ x.tdiv 10 ∧ x.tdiv 10 ≤ 1000000000000 := by
  rcases Int.lt_or_le x 0 with h0 | h0
  · obtain ⟨n, rfl⟩ : ∃ n : Nat, x = -(n : Int) := ⟨x.natAbs, by omega⟩
    rw [Int.neg_tdiv]
    have e : ((n : Int)).tdiv 10 = ((n / 10 : Nat) : Int) := rfl
    rw [e]
    omega
  · obtain ⟨n, rfl⟩ := Int.eq_ofNat_of_zero_le h0
    have e : ((n : Int)).tdiv 10 = ((n / 10 : Nat) : Int) := rfl
    rw [e]
    omega
theorem tmod_big (x : Int) : -1000000000000 ≤ x.tmod 1000000000001 ∧ x.tmod 1000000000001 ≤ 1000000000000 := by
  rcases Int.lt_or_le x 0 with h0 | h0
  · obtain ⟨n, rfl⟩ : ∃ n : Nat, x = -(n : Int) := ⟨x.natAbs, by omega⟩
    rw [Int.neg_tmod]
    have e : ((n : Int)).tmod 1000000000001 = ((n % 1000000000001 : Nat) : Int) := rfl
    rw [e]
    omega
  · obtain ⟨n, rfl⟩ := Int.eq_ofNat_of_zero_le h0
    have e : ((n : Int)).tmod 1000000000001 = ((n % 1000000000001 : Nat) : Int) := rfl
    rw [e]
    omega
theorem some_loop (t : Int × Int) : ∀ (D : Nat) (x : Int) (N : Nat), D ≤ 6 → -1000000000000 ≤ x ∧ x ≤ 1000000000000 → ∃ d sg n D', loopF FS (N + D + 1) ((x, (D : Int)), t) = some (d, ()) ∧ RtD d sg n D'
  | 0, x, N, _, hx => by
    obtain ⟨sg, n, h⟩ := rtd_of (D := 0) hx (by omega) (fun e => absurd rfl e)
    refine ⟨_, sg, n, 0, ?_, h⟩
    rfl
  | D + 1, x, N, h6, hx => by
    have ht := tdiv10 hx
    have hb := w64 (x := x.tdiv 10) (by omega) (by omega)
    rw [show N + (D + 1) + 1 = (N + D + 1) + 1 by omega, loopF_succ]
    show ∃ d sg n D', law12_some_m1 (law12_some_K2 (fun d t2 => loopF FS (N + D + 1) (d, t2))) (fun d t2 => loopF FS (N + D + 1) (d, t2)) (x, ((D + 1 : Nat) : Int)) t = some (d, ()) ∧ RtD d sg n D'
    unfold law12_some_m1
    rw [if_pos (by rw [gt_iff]; show (0 : Int) < ((D + 1 : Nat) : Int); omega)]
    unfold law12_some_K2 law12_some_m2
    show ∃ d sg n D', (if eqi (rem x 10) 0 = true then loopF FS (N + D + 1) ((quo .i64 x 10, sub .u8 ((D + 1 : Nat) : Int) 1), t) else some ((x, ((D + 1 : Nat) : Int)), ())) = some (d, ()) ∧ RtD d sg n D'
    by_cases hz : rem x 10 = 0
    · rw [if_pos (eqi_iff.2 hz)]
      have es : sub .u8 ((D + 1 : Nat) : Int) 1 = (D : Int) := by
        unfold sub
        rw [wu8 (by omega) (by omega)]
        omega
      have eq : quo .i64 x 10 = x.tdiv 10 := hb
      rw [es, eq]
      exact some_loop t D (x.tdiv 10) N (by omega) ht
    · rw [if_neg (fun e => hz (eqi_iff.1 e))]
      obtain ⟨sg, n, h⟩ := rtd_of (D := D + 1) hx h6 (fun _ => hz)
      exact ⟨_, sg, n, D + 1, rfl, h⟩
theorem some_eq {x y : Int} (hy : 0 ≤ y) : ∃ d sg n D, law12_some ((x, y), ()) = some (d, ()) ∧ RtD d sg n D := by
  have e : law12_some ((x, y), ()) = loopF FS 18446744073709551616 ((rem x 1000000000001, rem y 7), (0, 0)) := rfl
  have hD : rem y 7 = (((y % 7).toNat : Nat) : Int) := by
    unfold rem
    rw [Int.tmod_eq_emod_of_nonneg hy]
    omega
  have hx : -1000000000000 ≤ rem x 1000000000001 ∧ rem x 1000000000001 ≤ 1000000000000 := by
    exact tmod_big x
  rw [e, hD]
  obtain ⟨d, sg, n, D', h1, h2⟩ := some_loop (0, 0) (y % 7).toNat (rem x 1000000000001) (18446744073709551615 - (y % 7).toNat) (by omega) hx
  refine ⟨d, sg, n, D', ?_, h2⟩
  rw [show 18446744073709551615 - (y % 7).toNat + (y % 7).toNat + 1 = 18446744073709551616 by omega] at h1
  exact h1
theorem trims_eq (s : List UInt8) (hl : s.length ≤ 1000000) : strings_TrimSuffix (s, [46], ()) = some (noDot s, ()) := by
  have e : istringslite_TrimSuffix (s, [46], ()) = some (noDot s, ()) := by
    show istringslite_TrimSuffix_m0 s [46] = _
    unfold istringslite_TrimSuffix_m0
    rcases snoc_cases s with rfl | ⟨p, c, rfl⟩
    · rfl
    · have hpl : p.length ≤ 1000000 := by simp at hl; omega
      have es : sub .i64 (Int.ofNat (p ++ [c]).length) (Int.ofNat [(46 : UInt8)].length) = (p.length : Int) := by
        rw [ofNat_eq, ofNat_eq, sub64 (by simp <;> omega) (by simp <;> omega)]
        simp
      have eh : istringslite_HasSuffix (p ++ [c], [46], ()) = some (decide (c = 46), ()) := by
        show istringslite_HasSuffix_m0 (p ++ [c]) [46] = _
        unfold istringslite_HasSuffix_m0
        rw [if_pos (by rw [ge_iff, ofNat_eq, ofNat_eq]; simp; omega), es, cut_from (by simp), Option.bind_some, List.drop_left]
        have : eqs [c] [46] = decide (c = 46) := by
          rw [Bool.eq_iff_iff, eqs_iff, decide_eq_true_iff]
          exact ⟨fun e => (List.cons.inj e).1, fun e => by rw [e]⟩
        rw [this]
      rw [eh, Option.bind_some, noDot_snoc]
      by_cases hc : c = 46
      · rw [if_pos (by rw [decide_eq_true hc]), if_pos hc, es, cut_to (by simp), Option.bind_some, List.take_left]
      · rw [if_neg (by rw [decide_eq_false hc]; decide), if_neg hc]
  show strings_TrimSuffix_m0 s [46] = _
  unfold strings_TrimSuffix_m0
  rw [e]
  rfl
theorem index_in (c : UInt8) : ∀ s : List UInt8, (0 ≤ Go.Lib.indexByte s c ↔ c ∈ s) ∧ -1 ≤ Go.Lib.indexByte s c
  | [] => ⟨⟨fun h => absurd (show (0 : Int) ≤ -1 from h) (by decide), fun h => (by cases h)⟩, by show (-1 : Int) ≤ -1; decide⟩
  | b :: s => by
    obtain ⟨h1, h2⟩ := index_in c s
    unfold Go.Lib.indexByte
    by_cases hb : b = c
    · subst hb
      rw [if_pos (by simp)]
      exact ⟨⟨fun _ => List.mem_cons_self, fun _ => Int.le_refl _⟩, by omega⟩
    · rw [if_neg (by simpa using hb)]
      have hc : c ∈ b :: s ↔ c ∈ s := ⟨fun h => by
        rcases List.mem_cons.1 h with e | h
        · exact absurd e.symm hb
        · exact h, List.mem_cons_of_mem _⟩
      rw [hc, ← h1]
      by_cases hi : Go.Lib.indexByte s c = -1
      · rw [if_pos (by rw [hi]; decide), hi]
        exact ⟨⟨fun h => h, fun h => h⟩, Int.le_refl _⟩
      · rw [if_neg (by simpa using hi)]
        exact ⟨⟨fun h => by omega, fun h => by omega⟩, by omega⟩
theorem contains_eq (s : List UInt8) : strings_Contains (s, [46], ()) = some (decide ((46 : UInt8) ∈ s), ()) := by
  have e : ∃ i, strings_Index (s, [46], ()) = some (i, ()) ∧ (0 ≤ i ↔ (46 : UInt8) ∈ s) := by
    show ∃ i, strings_Index_m0 s [46] = some (i, ()) ∧ _
    unfold strings_Index_m0
    rw [if_neg (by decide)]
    by_cases h : s = [46]
    · subst h
      exact ⟨0, by rw [if_pos (by decide)], by decide⟩
    · rw [if_neg (by rw [eqs_iff]; exact fun e => h e.symm), if_pos (by decide)]
      exact ⟨_, rfl, (index_in 46 s).1⟩
  obtain ⟨i, h1, h2⟩ := e
  show strings_Contains_m0 s [46] = _
  unfold strings_Contains_m0
  rw [h1, Option.bind_some]
  have : ge i 0 = decide ((46 : UInt8) ∈ s) := by
    rw [Bool.eq_iff_iff, ge_iff, decide_eq_true_iff]
    exact h2
  rw [this]
end Go.Proofs.Lx

end

section
/- UnitsBack, as a plain law. -/
namespace Go.Proofs.Lx
open Go Ev Sx Pl
set_option maxRecDepth 100000
theorem awake12 : law12_awake () = some (true, ()) := by kernel_rfl
theorem shw_len {sg : Bool} {n D : Nat} (hle : n ≤ 1000000000000) (h6 : D ≤ 6) : (shw sg n D).length ≤ 22 := by
  have h1 : (dd (n / 10 ^ D)).length ≤ 13 := dd_len (by omega) (by have := Nat.div_le_self n (10 ^ D); omega)
  unfold shw
  rw [List.length_append, List.length_append]
  have h2 : (if sg = true then [(45 : UInt8)] else []).length ≤ 1 := by cases sg <;> decide
  have h3 : (if D = 0 then [] else (46 : UInt8) :: fx D (n % 10 ^ D)).length ≤ 7 := by
    split
    · exact Nat.zero_le _
    · rw [List.length_cons, fx_len]
      omega
  omega
/-- are two decimals the same, as the program compares them -/
theorem same_dec (d : Int × Int) : (eqi d.1 d.1 && (eqi d.2 d.2 && true)) = true := by
  rw [eqi_iff.2 rfl, eqi_iff.2 rfl]
  rfl
theorem RtD.eq {d : Int × Int} {sg : Bool} {n D : Nat} (h : RtD d sg n D) : (if sg then -(n : Int) else (n : Int), (D : Int)) = d := by
  obtain ⟨x, y⟩ := d
  have e1 : x = if sg then -(n : Int) else (n : Int) := h.e1
  have e2 : y = (D : Int) := h.e2
  rw [e1, e2]
theorem back_K4 {s : List UInt8} {g : Int × Int} (h : parseS s = (g, true)) : law12_UnitsBack_K4 (shortS s) g = some (true, ()) := by
  obtain ⟨sg, n, D, h1, h2⟩ := said_S h
  unfold law12_UnitsBack_K4 law12_UnitsBack_m4
  rw [h1.right, Option.bind_some, if_pos rfl, show_eq h1, Option.bind_some]
  dsimp only
  rcases h2 with h2 | ⟨h2, h3⟩
  · rw [if_pos (by rw [eqs_iff]; exact h2), awake12]
    rfl
  · by_cases he : eqs (shw sg n D) (shortS s) = true
    · rw [if_pos he, awake12]
      rfl
    · rw [if_neg he, if_pos (by rw [eqs_iff]; exact h2), Option.bind_some, if_pos (by rw [eqs_iff]; exact h3), awake12]
      rfl
theorem back_K3 {s : List UInt8} (hl : s.length ≤ 40) : law12_UnitsBack_K3 s false = some (true, ()) := by
  unfold law12_UnitsBack_K3 law12_UnitsBack_m3
  rw [if_neg (by decide), parse_eq (by omega), Option.bind_some]
  dsimp only
  cases hp : (parseS s).2 with
  | false =>
    rw [if_neg (by decide), awake12]
    rfl
  | true =>
    have h : parseS s = ((parseS s).1, true) := by rw [← hp]
    have k4 := back_K4 h
    rw [if_pos rfl, contains_eq, Option.bind_some]
    unfold shortS at k4
    by_cases hm : (46 : UInt8) ∈ s
    · rw [if_pos hm] at k4
      rw [if_pos (by rw [decide_eq_true hm])]
      have hne : ¬ eqs s [] = true := by
        rw [eqs_iff]
        intro e
        rw [e] at hm
        cases hm
      have hsl := stripz_len s
      rw [if_neg hne, trimRight_eq (by omega), Option.bind_some]
      show Option.bind (strings_TrimSuffix (stripz s, [46], ())) _ = _
      rw [trims_eq _ (by omega), Option.bind_some]
      exact k4
    · rw [if_neg hm] at k4
      rw [if_neg (by rw [decide_eq_false hm]; decide)]
      exact k4
theorem back_law {d : Int × Int} {noughts : Int} {s : List UInt8} (hd : 0 ≤ d.2) (hn : 0 ≤ noughts ∧ noughts ≤ 255) : law12_UnitsBack (d, noughts, s, ()) = some (true, ()) := by
  show law12_UnitsBack_m0 law12_UnitsBack_K1 d noughts s = _
  unfold law12_UnitsBack_m0
  by_cases hl : s.length ≤ 40
  · rw [if_neg (by rw [gt_iff, ofNat_eq]; omega)]
    obtain ⟨x, y⟩ := d
    obtain ⟨e, sg, n, D, h1, h2⟩ := some_eq (x := x) (y := y) hd
    have hle := h2.le
    have h6 := h2.d6
    have hlen := shw_len (sg := sg) hle h6
    have hsaid := shw_said (sg := sg) hle h6 h2.tz
    rw [h2.eq] at hsaid
    rw [h1, Option.bind_some]
    dsimp only
    rw [show_eq h2, Option.bind_some]
    dsimp only
    rw [parse_eq (by omega), hsaid, Option.bind_some, h2.right, Option.bind_some]
    dsimp only
    rw [if_neg (by decide), if_neg (by decide), same_dec]
    show law12_UnitsBack_K1 noughts s (shw sg n D) false e = _
    unfold law12_UnitsBack_K1 law12_UnitsBack_m1
    rw [if_neg (by decide)]
    have ek : add .i64 1 (cvt .i64 (rem noughts 7)) = ((1 + (noughts % 7).toNat : Nat) : Int) := by
      have er : rem noughts 7 = noughts % 7 := by
        unfold rem
        exact Int.tmod_eq_emod_of_nonneg hn.1
      rw [er, cvt64 (by omega) (by omega), add64 (by omega) (by omega)]
      omega
    generalize hk : 1 + (noughts % 7).toNat = k at ek
    have hk1 : 1 ≤ k ∧ k ≤ 7 := by omega
    have hmore := shw_more (sg := sg) (n := n) (D := D) (k := k) hle h2.tz hk1.1
    have e2 := h2.e2
    have K2 : ∀ more : List UInt8, more.length ≤ 30 → parseS (more ++ List.replicate k 48) = (if D + k ≤ 6 then (e, true) else ((0, 0), false)) → law12_UnitsBack_K2 noughts s more e = some (true, ()) := by
      intro more hm hp
      unfold law12_UnitsBack_K2 law12_UnitsBack_m2
      rw [ek, repeat_eq hk1.2, Option.bind_some]
      dsimp only
      rw [need_small (by rw [List.length_replicate]; omega), parse_eq (by rw [List.length_append, List.length_replicate]; omega), hp, Option.bind_some]
      dsimp only
      have ec : cvt .i64 e.2 = (D : Int) := by rw [e2, cvt64 (by omega) (by omega)]
      have ea : add .i64 (D : Int) (k : Int) = ((D + k : Nat) : Int) := by rw [add64 (by omega) (by omega)]; omega
      rw [ec, ea]
      by_cases h : D + k ≤ 6
      · rw [if_pos h]
        have el : le ((D + k : Nat) : Int) 6 = true := by rw [le_iff]; omega
        rw [el]
        show law12_UnitsBack_K3 s (!(eqi e.1 e.1 && (eqi e.2 e.2 && true))) = _
        rw [same_dec]
        exact back_K3 hl
      · rw [if_neg h]
        have el : le ((D + k : Nat) : Int) 6 = false := by
          rw [Bool.eq_false_iff]
          intro h'
          rw [le_iff] at h'
          omega
        rw [el]
        exact back_K3 hl
    rw [h2.eq] at hmore
    by_cases h0 : D = 0
    · rw [if_pos h0] at hmore
      rw [if_pos (by rw [eqi_iff, e2]; omega), need_small (by omega)]
      exact K2 _ (by simp; omega) hmore
    · rw [if_neg h0] at hmore
      rw [if_neg (by rw [eqi_iff, e2]; omega)]
      exact K2 _ (by omega) hmore
  · rw [if_pos (by rw [gt_iff, ofNat_eq]; omega), awake12]
    rfl
theorem ok8u {x : Int} (h : (Lit.int .u8 x).wf = true) : 0 ≤ x ∧ x ≤ 255 := by
  simp [Lit.wf] at h
  have e1 : IntKind.u8.min = 0 := rfl
  have e2 : IntKind.u8.max = 255 := rfl
  omega
theorem ub_row (x : As [.pr (.int .i64) (.int .u8), .int .u8, .str]) (h : Rw.okA [.pr (.int .i64) (.int .u8), .int .u8, .str] x) : law12_UnitsBack x = some (true, ()) :=
  back_law (d := x.1) (noughts := x.2.1) (s := x.2.2.1) (ok8u h.1.2).1 (ok8u h.2.1)
end Go.Proofs.Lx

end

section
/- What the rows' lists of variables give: what the library's contracts ask. -/
namespace Go.Proofs.Lx
open Go Go.RowKit Go.ChangeShapes Go.Proofs Go.Proofs.YtchfbdfmphoebaaDoor
theorem gP : Tryd.prog.globalNamed p10 = some 2 := by kernel_rfl
theorem heap_var {W W' : World} {n : String} {g : Nat} {cs : Array Value} (hg : Tryd.prog.globalNamed n = some g) (h : W.var? Tryd.prog n = some cs) (hB : Below W.heap.size W W') : W'.var? Tryd.prog n = some cs := by
  unfold World.var? at h ⊢
  rw [hg] at h ⊢
  simp only [Option.bind_some] at h ⊢
  have hlt : g < W.heap.size := by
    rcases Nat.lt_or_ge g W.heap.size with h' | h'
    · exact h'
    · simp [Array.getElem?_eq_none h'] at h
  rw [hB.block g hlt]
  exact h
theorem I0_laid {W : World} (hL : laidMet Tryd.prog Rows.unitsBackRow.laid W) : ∀ W', Below W.heap.size W W' → I0 W' := by
  intro W' hB
  have t2 : laidMet Tryd.prog ((p10, Lib.tabData .u64 Lib.pow10Tab) :: (Rows.unitsBackRow.laid.drop 3)) W := hL.tail.tail
  exact heap_var gP (Lib.tabIs_of_head gP (t := 142) (by kernel_rfl) Tryd.underlying142 Tryd.underlying23 (by kernel_rfl) (by kernel_rfl) t2) hB
end Go.Proofs.Lx

end
