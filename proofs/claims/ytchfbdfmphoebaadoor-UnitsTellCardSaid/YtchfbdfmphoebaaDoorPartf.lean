/- Proved in the last of these 9 parts (this is part 6): UnitsTell is true for every input. Conditions: those of the given statement, and no others. -/
import Derived.Test.YtchfbdfmphoebaaDoorPartd
import Derived.Test.YtchfbdfmphoebaaDoorParte
import Derived.Test.YtchfbdfmphoebaaDoorProg
import Derived.Stop.LaidErr
import Derived.Lib.LaidTab
set_option linter.unusedVariables false
set_option linter.unusedSimpArgs false
set_option linter.unusedSectionVars false
section
/- Contracts, made by a program. -/
open Go Go.Proofs Ev Sx
set_option maxRecDepth 100000
namespace Go.Proofs.Lx
/-! units_To -/
@[reducible] def units_To_s : Sh := ⟨[.d (.pr (.int .i64) (.int .u8)), .d (.str), .d (.str)], [], [.pr (.int .i64) (.int .u8), .str, .str], [.d (.pr (.int .i64) (.int .u8)), .d (.bool)], [], 0, [.pr (.int .i64) (.int .u8), .bool]⟩
def units_To_e : Env := (cts [(22, (⟨units_Times_s, units_Times⟩ : Ct))])
def units_To_h : List (Nat × Hint) := [(62, ⟨[], [3, 6, 9, 11, 38]⟩)]
def units_To_k1 (t38 : Bool) (d : Int) (d_2 : Int) (t6 : Int) (t6_2 : Int) (a : List UInt8) (a_2 : Int) (a_3 : Int) (b : List UInt8) (b_2 : Int) (b_3 : Int) : St := { fr := [(3, .pb 0 0), (6, .pb 1 0), (9, .pb 2 0), (11, .pb 3 0), (38, .d .bool t38)], nt := 54, up := [], own := [(0, .box 40 [.d (.int .i64) d, .d (.int .u8) d_2]), (1, .box 40 [.d (.int .i64) t6, .d (.int .u8) t6_2]), (2, .box 49 [.d .str a, .d (.int .i64) a_2, .d (.int .i64) a_3]), (3, .box 49 [.d .str b, .d (.int .i64) b_2, .d (.int .i64) b_3])], nx := 4, log := [], ln := 0 }
def units_To_m1 (t38 : Bool) (d : Int) (d_2 : Int) (t6 : Int) (t6_2 : Int) (a : List UInt8) (a_2 : Int) (a_3 : Int) (b : List UInt8) (b_2 : Int) (b_3 : Int) : Option (As [.pr (.int .i64) (.int .u8), .bool]) :=
  if t38 = true then some ((0, 0), false, ()) else Option.bind (units_Times ((d, d_2), mul .i64 a_2 b_3, mul .i64 a_3 b_2, ())) fun (y : (Int × Int) × Bool × Unit) => some (y.1, y.2.1, ())
def units_To_m0 (j1 : Bool → Int → Int → Int → Int → List UInt8 → Int → Int → List UInt8 → Int → Int → Option (As [.pr (.int .i64) (.int .u8), .bool])) (d : Int × Int) (from' : List UInt8) (to' : List UInt8) : Option (As [.pr (.int .i64) (.int .u8), .bool]) :=
  if (!Ev.isV LAT0 (if eqs [] from' = true then some ([], 1, 1) else if eqs [37] from' = true then some ([], 1, 1) else if eqs [109] from' = true then some ([109], 1, 1) else if eqs [99, 109] from' = true then some ([109], 1, 100) else if eqs [109, 109] from' = true then some ([109], 1, 1000) else if eqs [115] from' = true then some ([115], 1, 1) else if eqs [109, 115] from' = true then some ([115], 1, 1000) else if eqs [109, 105, 110] from' = true then some ([115], 60, 1) else if eqs [104] from' = true then some ([115], 3600, 1) else if eqs [98, 97, 114] from' = true then some ([98, 97, 114], 1, 1) else if eqs [109, 98, 97, 114] from' = true then some ([98, 97, 114], 1, 1000) else if eqs [107, 80, 97] from' = true then some ([98, 97, 114], 1, 100) else if eqs [107, 103] from' = true then some ([107, 103], 1, 1) else if eqs [103] from' = true then some ([107, 103], 1, 1000) else if eqs [116] from' = true then some ([107, 103], 1000, 1) else if eqs [108] from' = true then some ([108], 1, 1) else if eqs [109, 108] from' = true then some ([108], 1, 1000) else if eqs [67] from' = true then some ([67], 1, 1) else Option.none)) = true then j1 true d.1 d.2 0 0 (Ev.gdV LAT0 (if eqs [] from' = true then some ([], 1, 1) else if eqs [37] from' = true then some ([], 1, 1) else if eqs [109] from' = true then some ([109], 1, 1) else if eqs [99, 109] from' = true then some ([109], 1, 100) else if eqs [109, 109] from' = true then some ([109], 1, 1000) else if eqs [115] from' = true then some ([115], 1, 1) else if eqs [109, 115] from' = true then some ([115], 1, 1000) else if eqs [109, 105, 110] from' = true then some ([115], 60, 1) else if eqs [104] from' = true then some ([115], 3600, 1) else if eqs [98, 97, 114] from' = true then some ([98, 97, 114], 1, 1) else if eqs [109, 98, 97, 114] from' = true then some ([98, 97, 114], 1, 1000) else if eqs [107, 80, 97] from' = true then some ([98, 97, 114], 1, 100) else if eqs [107, 103] from' = true then some ([107, 103], 1, 1) else if eqs [103] from' = true then some ([107, 103], 1, 1000) else if eqs [116] from' = true then some ([107, 103], 1000, 1) else if eqs [108] from' = true then some ([108], 1, 1) else if eqs [109, 108] from' = true then some ([108], 1, 1000) else if eqs [67] from' = true then some ([67], 1, 1) else Option.none) ([], 0, 0)).1 (Ev.gdV LAT0 (if eqs [] from' = true then some ([], 1, 1) else if eqs [37] from' = true then some ([], 1, 1) else if eqs [109] from' = true then some ([109], 1, 1) else if eqs [99, 109] from' = true then some ([109], 1, 100) else if eqs [109, 109] from' = true then some ([109], 1, 1000) else if eqs [115] from' = true then some ([115], 1, 1) else if eqs [109, 115] from' = true then some ([115], 1, 1000) else if eqs [109, 105, 110] from' = true then some ([115], 60, 1) else if eqs [104] from' = true then some ([115], 3600, 1) else if eqs [98, 97, 114] from' = true then some ([98, 97, 114], 1, 1) else if eqs [109, 98, 97, 114] from' = true then some ([98, 97, 114], 1, 1000) else if eqs [107, 80, 97] from' = true then some ([98, 97, 114], 1, 100) else if eqs [107, 103] from' = true then some ([107, 103], 1, 1) else if eqs [103] from' = true then some ([107, 103], 1, 1000) else if eqs [116] from' = true then some ([107, 103], 1000, 1) else if eqs [108] from' = true then some ([108], 1, 1) else if eqs [109, 108] from' = true then some ([108], 1, 1000) else if eqs [67] from' = true then some ([67], 1, 1) else Option.none) ([], 0, 0)).2.1 (Ev.gdV LAT0 (if eqs [] from' = true then some ([], 1, 1) else if eqs [37] from' = true then some ([], 1, 1) else if eqs [109] from' = true then some ([109], 1, 1) else if eqs [99, 109] from' = true then some ([109], 1, 100) else if eqs [109, 109] from' = true then some ([109], 1, 1000) else if eqs [115] from' = true then some ([115], 1, 1) else if eqs [109, 115] from' = true then some ([115], 1, 1000) else if eqs [109, 105, 110] from' = true then some ([115], 60, 1) else if eqs [104] from' = true then some ([115], 3600, 1) else if eqs [98, 97, 114] from' = true then some ([98, 97, 114], 1, 1) else if eqs [109, 98, 97, 114] from' = true then some ([98, 97, 114], 1, 1000) else if eqs [107, 80, 97] from' = true then some ([98, 97, 114], 1, 100) else if eqs [107, 103] from' = true then some ([107, 103], 1, 1) else if eqs [103] from' = true then some ([107, 103], 1, 1000) else if eqs [116] from' = true then some ([107, 103], 1000, 1) else if eqs [108] from' = true then some ([108], 1, 1) else if eqs [109, 108] from' = true then some ([108], 1, 1000) else if eqs [67] from' = true then some ([67], 1, 1) else Option.none) ([], 0, 0)).2.2 (Ev.gdV LAT0 (if eqs [] to' = true then some ([], 1, 1) else if eqs [37] to' = true then some ([], 1, 1) else if eqs [109] to' = true then some ([109], 1, 1) else if eqs [99, 109] to' = true then some ([109], 1, 100) else if eqs [109, 109] to' = true then some ([109], 1, 1000) else if eqs [115] to' = true then some ([115], 1, 1) else if eqs [109, 115] to' = true then some ([115], 1, 1000) else if eqs [109, 105, 110] to' = true then some ([115], 60, 1) else if eqs [104] to' = true then some ([115], 3600, 1) else if eqs [98, 97, 114] to' = true then some ([98, 97, 114], 1, 1) else if eqs [109, 98, 97, 114] to' = true then some ([98, 97, 114], 1, 1000) else if eqs [107, 80, 97] to' = true then some ([98, 97, 114], 1, 100) else if eqs [107, 103] to' = true then some ([107, 103], 1, 1) else if eqs [103] to' = true then some ([107, 103], 1, 1000) else if eqs [116] to' = true then some ([107, 103], 1000, 1) else if eqs [108] to' = true then some ([108], 1, 1) else if eqs [109, 108] to' = true then some ([108], 1, 1000) else if eqs [67] to' = true then some ([67], 1, 1) else Option.none) ([], 0, 0)).1 (Ev.gdV LAT0 (if eqs [] to' = true then some ([], 1, 1) else if eqs [37] to' = true then some ([], 1, 1) else if eqs [109] to' = true then some ([109], 1, 1) else if eqs [99, 109] to' = true then some ([109], 1, 100) else if eqs [109, 109] to' = true then some ([109], 1, 1000) else if eqs [115] to' = true then some ([115], 1, 1) else if eqs [109, 115] to' = true then some ([115], 1, 1000) else if eqs [109, 105, 110] to' = true then some ([115], 60, 1) else if eqs [104] to' = true then some ([115], 3600, 1) else if eqs [98, 97, 114] to' = true then some ([98, 97, 114], 1, 1) else if eqs [109, 98, 97, 114] to' = true then some ([98, 97, 114], 1, 1000) else if eqs [107, 80, 97] to' = true then some ([98, 97, 114], 1, 100) else if eqs [107, 103] to' = true then some ([107, 103], 1, 1) else if eqs [103] to' = true then some ([107, 103], 1, 1000) else if eqs [116] to' = true then some ([107, 103], 1000, 1) else if eqs [108] to' = true then some ([108], 1, 1) else if eqs [109, 108] to' = true then some ([108], 1, 1000) else if eqs [67] to' = true then some ([67], 1, 1) else Option.none) ([], 0, 0)).2.1 (Ev.gdV LAT0 (if eqs [] to' = true then some ([], 1, 1) else if eqs [37] to' = true then some ([], 1, 1) else if eqs [109] to' = true then some ([109], 1, 1) else if eqs [99, 109] to' = true then some ([109], 1, 100) else if eqs [109, 109] to' = true then some ([109], 1, 1000) else if eqs [115] to' = true then some ([115], 1, 1) else if eqs [109, 115] to' = true then some ([115], 1, 1000) else if eqs [109, 105, 110] to' = true then some ([115], 60, 1) else if eqs [104] to' = true then some ([115], 3600, 1) else if eqs [98, 97, 114] to' = true then some ([98, 97, 114], 1, 1) else if eqs [109, 98, 97, 114] to' = true then some ([98, 97, 114], 1, 1000) else if eqs [107, 80, 97] to' = true then some ([98, 97, 114], 1, 100) else if eqs [107, 103] to' = true then some ([107, 103], 1, 1) else if eqs [103] to' = true then some ([107, 103], 1, 1000) else if eqs [116] to' = true then some ([107, 103], 1000, 1) else if eqs [108] to' = true then some ([108], 1, 1) else if eqs [109, 108] to' = true then some ([108], 1, 1000) else if eqs [67] to' = true then some ([67], 1, 1) else Option.none) ([], 0, 0)).2.2 else if (!Ev.isV LAT0 (if eqs [] to' = true then some ([], 1, 1) else if eqs [37] to' = true then some ([], 1, 1) else if eqs [109] to' = true then some ([109], 1, 1) else if eqs [99, 109] to' = true then some ([109], 1, 100) else if eqs [109, 109] to' = true then some ([109], 1, 1000) else if eqs [115] to' = true then some ([115], 1, 1) else if eqs [109, 115] to' = true then some ([115], 1, 1000) else if eqs [109, 105, 110] to' = true then some ([115], 60, 1) else if eqs [104] to' = true then some ([115], 3600, 1) else if eqs [98, 97, 114] to' = true then some ([98, 97, 114], 1, 1) else if eqs [109, 98, 97, 114] to' = true then some ([98, 97, 114], 1, 1000) else if eqs [107, 80, 97] to' = true then some ([98, 97, 114], 1, 100) else if eqs [107, 103] to' = true then some ([107, 103], 1, 1) else if eqs [103] to' = true then some ([107, 103], 1, 1000) else if eqs [116] to' = true then some ([107, 103], 1000, 1) else if eqs [108] to' = true then some ([108], 1, 1) else if eqs [109, 108] to' = true then some ([108], 1, 1000) else if eqs [67] to' = true then some ([67], 1, 1) else Option.none)) = true then j1 true d.1 d.2 0 0 (Ev.gdV LAT0 (if eqs [] from' = true then some ([], 1, 1) else if eqs [37] from' = true then some ([], 1, 1) else if eqs [109] from' = true then some ([109], 1, 1) else if eqs [99, 109] from' = true then some ([109], 1, 100) else if eqs [109, 109] from' = true then some ([109], 1, 1000) else if eqs [115] from' = true then some ([115], 1, 1) else if eqs [109, 115] from' = true then some ([115], 1, 1000) else if eqs [109, 105, 110] from' = true then some ([115], 60, 1) else if eqs [104] from' = true then some ([115], 3600, 1) else if eqs [98, 97, 114] from' = true then some ([98, 97, 114], 1, 1) else if eqs [109, 98, 97, 114] from' = true then some ([98, 97, 114], 1, 1000) else if eqs [107, 80, 97] from' = true then some ([98, 97, 114], 1, 100) else if eqs [107, 103] from' = true then some ([107, 103], 1, 1) else if eqs [103] from' = true then some ([107, 103], 1, 1000) else if eqs [116] from' = true then some ([107, 103], 1000, 1) else if eqs [108] from' = true then some ([108], 1, 1) else if eqs [109, 108] from' = true then some ([108], 1, 1000) else if eqs [67] from' = true then some ([67], 1, 1) else Option.none) ([], 0, 0)).1 (Ev.gdV LAT0 (if eqs [] from' = true then some ([], 1, 1) else if eqs [37] from' = true then some ([], 1, 1) else if eqs [109] from' = true then some ([109], 1, 1) else if eqs [99, 109] from' = true then some ([109], 1, 100) else if eqs [109, 109] from' = true then some ([109], 1, 1000) else if eqs [115] from' = true then some ([115], 1, 1) else if eqs [109, 115] from' = true then some ([115], 1, 1000) else if eqs [109, 105, 110] from' = true then some ([115], 60, 1) else if eqs [104] from' = true then some ([115], 3600, 1) else if eqs [98, 97, 114] from' = true then some ([98, 97, 114], 1, 1) else if eqs [109, 98, 97, 114] from' = true then some ([98, 97, 114], 1, 1000) else if eqs [107, 80, 97] from' = true then some ([98, 97, 114], 1, 100) else if eqs [107, 103] from' = true then some ([107, 103], 1, 1) else if eqs [103] from' = true then some ([107, 103], 1, 1000) else if eqs [116] from' = true then some ([107, 103], 1000, 1) else if eqs [108] from' = true then some ([108], 1, 1) else if eqs [109, 108] from' = true then some ([108], 1, 1000) else if eqs [67] from' = true then some ([67], 1, 1) else Option.none) ([], 0, 0)).2.1 (Ev.gdV LAT0 (if eqs [] from' = true then some ([], 1, 1) else if eqs [37] from' = true then some ([], 1, 1) else if eqs [109] from' = true then some ([109], 1, 1) else if eqs [99, 109] from' = true then some ([109], 1, 100) else if eqs [109, 109] from' = true then some ([109], 1, 1000) else if eqs [115] from' = true then some ([115], 1, 1) else if eqs [109, 115] from' = true then some ([115], 1, 1000) else if eqs [109, 105, 110] from' = true then some ([115], 60, 1) else if eqs [104] from' = true then some ([115], 3600, 1) else if eqs [98, 97, 114] from' = true then some ([98, 97, 114], 1, 1) else if eqs [109, 98, 97, 114] from' = true then some ([98, 97, 114], 1, 1000) else if eqs [107, 80, 97] from' = true then some ([98, 97, 114], 1, 100) else if eqs [107, 103] from' = true then some ([107, 103], 1, 1) else if eqs [103] from' = true then some ([107, 103], 1, 1000) else if eqs [116] from' = true then some ([107, 103], 1000, 1) else if eqs [108] from' = true then some ([108], 1, 1) else if eqs [109, 108] from' = true then some ([108], 1, 1000) else if eqs [67] from' = true then some ([67], 1, 1) else Option.none) ([], 0, 0)).2.2 (Ev.gdV LAT0 (if eqs [] to' = true then some ([], 1, 1) else if eqs [37] to' = true then some ([], 1, 1) else if eqs [109] to' = true then some ([109], 1, 1) else if eqs [99, 109] to' = true then some ([109], 1, 100) else if eqs [109, 109] to' = true then some ([109], 1, 1000) else if eqs [115] to' = true then some ([115], 1, 1) else if eqs [109, 115] to' = true then some ([115], 1, 1000) else if eqs [109, 105, 110] to' = true then some ([115], 60, 1) else if eqs [104] to' = true then some ([115], 3600, 1) else if eqs [98, 97, 114] to' = true then some ([98, 97, 114], 1, 1) else if eqs [109, 98, 97, 114] to' = true then some ([98, 97, 114], 1, 1000) else if eqs [107, 80, 97] to' = true then some ([98, 97, 114], 1, 100) else if eqs [107, 103] to' = true then some ([107, 103], 1, 1) else if eqs [103] to' = true then some ([107, 103], 1, 1000) else if eqs [116] to' = true then some ([107, 103], 1000, 1) else if eqs [108] to' = true then some ([108], 1, 1) else if eqs [109, 108] to' = true then some ([108], 1, 1000) else if eqs [67] to' = true then some ([67], 1, 1) else Option.none) ([], 0, 0)).1 (Ev.gdV LAT0 (if eqs [] to' = true then some ([], 1, 1) else if eqs [37] to' = true then some ([], 1, 1) else if eqs [109] to' = true then some ([109], 1, 1) else if eqs [99, 109] to' = true then some ([109], 1, 100) else if eqs [109, 109] to' = true then some ([109], 1, 1000) else if eqs [115] to' = true then some ([115], 1, 1) else if eqs [109, 115] to' = true then some ([115], 1, 1000) else if eqs [109, 105, 110] to' = true then some ([115], 60, 1) else if eqs [104] to' = true then some ([115], 3600, 1) else if eqs [98, 97, 114] to' = true then some ([98, 97, 114], 1, 1) else if eqs [109, 98, 97, 114] to' = true then some ([98, 97, 114], 1, 1000) else if eqs [107, 80, 97] to' = true then some ([98, 97, 114], 1, 100) else if eqs [107, 103] to' = true then some ([107, 103], 1, 1) else if eqs [103] to' = true then some ([107, 103], 1, 1000) else if eqs [116] to' = true then some ([107, 103], 1000, 1) else if eqs [108] to' = true then some ([108], 1, 1) else if eqs [109, 108] to' = true then some ([108], 1, 1000) else if eqs [67] to' = true then some ([67], 1, 1) else Option.none) ([], 0, 0)).2.1 (Ev.gdV LAT0 (if eqs [] to' = true then some ([], 1, 1) else if eqs [37] to' = true then some ([], 1, 1) else if eqs [109] to' = true then some ([109], 1, 1) else if eqs [99, 109] to' = true then some ([109], 1, 100) else if eqs [109, 109] to' = true then some ([109], 1, 1000) else if eqs [115] to' = true then some ([115], 1, 1) else if eqs [109, 115] to' = true then some ([115], 1, 1000) else if eqs [109, 105, 110] to' = true then some ([115], 60, 1) else if eqs [104] to' = true then some ([115], 3600, 1) else if eqs [98, 97, 114] to' = true then some ([98, 97, 114], 1, 1) else if eqs [109, 98, 97, 114] to' = true then some ([98, 97, 114], 1, 1000) else if eqs [107, 80, 97] to' = true then some ([98, 97, 114], 1, 100) else if eqs [107, 103] to' = true then some ([107, 103], 1, 1) else if eqs [103] to' = true then some ([107, 103], 1, 1000) else if eqs [116] to' = true then some ([107, 103], 1000, 1) else if eqs [108] to' = true then some ([108], 1, 1) else if eqs [109, 108] to' = true then some ([108], 1, 1000) else if eqs [67] to' = true then some ([67], 1, 1) else Option.none) ([], 0, 0)).2.2 else j1 (nes (Ev.gdV LAT0 (if eqs [] from' = true then some ([], 1, 1) else if eqs [37] from' = true then some ([], 1, 1) else if eqs [109] from' = true then some ([109], 1, 1) else if eqs [99, 109] from' = true then some ([109], 1, 100) else if eqs [109, 109] from' = true then some ([109], 1, 1000) else if eqs [115] from' = true then some ([115], 1, 1) else if eqs [109, 115] from' = true then some ([115], 1, 1000) else if eqs [109, 105, 110] from' = true then some ([115], 60, 1) else if eqs [104] from' = true then some ([115], 3600, 1) else if eqs [98, 97, 114] from' = true then some ([98, 97, 114], 1, 1) else if eqs [109, 98, 97, 114] from' = true then some ([98, 97, 114], 1, 1000) else if eqs [107, 80, 97] from' = true then some ([98, 97, 114], 1, 100) else if eqs [107, 103] from' = true then some ([107, 103], 1, 1) else if eqs [103] from' = true then some ([107, 103], 1, 1000) else if eqs [116] from' = true then some ([107, 103], 1000, 1) else if eqs [108] from' = true then some ([108], 1, 1) else if eqs [109, 108] from' = true then some ([108], 1, 1000) else if eqs [67] from' = true then some ([67], 1, 1) else Option.none) ([], 0, 0)).1 (Ev.gdV LAT0 (if eqs [] to' = true then some ([], 1, 1) else if eqs [37] to' = true then some ([], 1, 1) else if eqs [109] to' = true then some ([109], 1, 1) else if eqs [99, 109] to' = true then some ([109], 1, 100) else if eqs [109, 109] to' = true then some ([109], 1, 1000) else if eqs [115] to' = true then some ([115], 1, 1) else if eqs [109, 115] to' = true then some ([115], 1, 1000) else if eqs [109, 105, 110] to' = true then some ([115], 60, 1) else if eqs [104] to' = true then some ([115], 3600, 1) else if eqs [98, 97, 114] to' = true then some ([98, 97, 114], 1, 1) else if eqs [109, 98, 97, 114] to' = true then some ([98, 97, 114], 1, 1000) else if eqs [107, 80, 97] to' = true then some ([98, 97, 114], 1, 100) else if eqs [107, 103] to' = true then some ([107, 103], 1, 1) else if eqs [103] to' = true then some ([107, 103], 1, 1000) else if eqs [116] to' = true then some ([107, 103], 1000, 1) else if eqs [108] to' = true then some ([108], 1, 1) else if eqs [109, 108] to' = true then some ([108], 1, 1000) else if eqs [67] to' = true then some ([67], 1, 1) else Option.none) ([], 0, 0)).1) d.1 d.2 0 0 (Ev.gdV LAT0 (if eqs [] from' = true then some ([], 1, 1) else if eqs [37] from' = true then some ([], 1, 1) else if eqs [109] from' = true then some ([109], 1, 1) else if eqs [99, 109] from' = true then some ([109], 1, 100) else if eqs [109, 109] from' = true then some ([109], 1, 1000) else if eqs [115] from' = true then some ([115], 1, 1) else if eqs [109, 115] from' = true then some ([115], 1, 1000) else if eqs [109, 105, 110] from' = true then some ([115], 60, 1) else if eqs [104] from' = true then some ([115], 3600, 1) else if eqs [98, 97, 114] from' = true then some ([98, 97, 114], 1, 1) else if eqs [109, 98, 97, 114] from' = true then some ([98, 97, 114], 1, 1000) else if eqs [107, 80, 97] from' = true then some ([98, 97, 114], 1, 100) else if eqs [107, 103] from' = true then some ([107, 103], 1, 1) else if eqs [103] from' = true then some ([107, 103], 1, 1000) else if eqs [116] from' = true then some ([107, 103], 1000, 1) else if eqs [108] from' = true then some ([108], 1, 1) else if eqs [109, 108] from' = true then some ([108], 1, 1000) else if eqs [67] from' = true then some ([67], 1, 1) else Option.none) ([], 0, 0)).1 (Ev.gdV LAT0 (if eqs [] from' = true then some ([], 1, 1) else if eqs [37] from' = true then some ([], 1, 1) else if eqs [109] from' = true then some ([109], 1, 1) else if eqs [99, 109] from' = true then some ([109], 1, 100) else if eqs [109, 109] from' = true then some ([109], 1, 1000) else if eqs [115] from' = true then some ([115], 1, 1) else if eqs [109, 115] from' = true then some ([115], 1, 1000) else if eqs [109, 105, 110] from' = true then some ([115], 60, 1) else if eqs [104] from' = true then some ([115], 3600, 1) else if eqs [98, 97, 114] from' = true then some ([98, 97, 114], 1, 1) else if eqs [109, 98, 97, 114] from' = true then some ([98, 97, 114], 1, 1000) else if eqs [107, 80, 97] from' = true then some ([98, 97, 114], 1, 100) else if eqs [107, 103] from' = true then some ([107, 103], 1, 1) else if eqs [103] from' = true then some ([107, 103], 1, 1000) else if eqs [116] from' = true then some ([107, 103], 1000, 1) else if eqs [108] from' = true then some ([108], 1, 1) else if eqs [109, 108] from' = true then some ([108], 1, 1000) else if eqs [67] from' = true then some ([67], 1, 1) else Option.none) ([], 0, 0)).2.1 (Ev.gdV LAT0 (if eqs [] from' = true then some ([], 1, 1) else if eqs [37] from' = true then some ([], 1, 1) else if eqs [109] from' = true then some ([109], 1, 1) else if eqs [99, 109] from' = true then some ([109], 1, 100) else if eqs [109, 109] from' = true then some ([109], 1, 1000) else if eqs [115] from' = true then some ([115], 1, 1) else if eqs [109, 115] from' = true then some ([115], 1, 1000) else if eqs [109, 105, 110] from' = true then some ([115], 60, 1) else if eqs [104] from' = true then some ([115], 3600, 1) else if eqs [98, 97, 114] from' = true then some ([98, 97, 114], 1, 1) else if eqs [109, 98, 97, 114] from' = true then some ([98, 97, 114], 1, 1000) else if eqs [107, 80, 97] from' = true then some ([98, 97, 114], 1, 100) else if eqs [107, 103] from' = true then some ([107, 103], 1, 1) else if eqs [103] from' = true then some ([107, 103], 1, 1000) else if eqs [116] from' = true then some ([107, 103], 1000, 1) else if eqs [108] from' = true then some ([108], 1, 1) else if eqs [109, 108] from' = true then some ([108], 1, 1000) else if eqs [67] from' = true then some ([67], 1, 1) else Option.none) ([], 0, 0)).2.2 (Ev.gdV LAT0 (if eqs [] to' = true then some ([], 1, 1) else if eqs [37] to' = true then some ([], 1, 1) else if eqs [109] to' = true then some ([109], 1, 1) else if eqs [99, 109] to' = true then some ([109], 1, 100) else if eqs [109, 109] to' = true then some ([109], 1, 1000) else if eqs [115] to' = true then some ([115], 1, 1) else if eqs [109, 115] to' = true then some ([115], 1, 1000) else if eqs [109, 105, 110] to' = true then some ([115], 60, 1) else if eqs [104] to' = true then some ([115], 3600, 1) else if eqs [98, 97, 114] to' = true then some ([98, 97, 114], 1, 1) else if eqs [109, 98, 97, 114] to' = true then some ([98, 97, 114], 1, 1000) else if eqs [107, 80, 97] to' = true then some ([98, 97, 114], 1, 100) else if eqs [107, 103] to' = true then some ([107, 103], 1, 1) else if eqs [103] to' = true then some ([107, 103], 1, 1000) else if eqs [116] to' = true then some ([107, 103], 1000, 1) else if eqs [108] to' = true then some ([108], 1, 1) else if eqs [109, 108] to' = true then some ([108], 1, 1000) else if eqs [67] to' = true then some ([67], 1, 1) else Option.none) ([], 0, 0)).1 (Ev.gdV LAT0 (if eqs [] to' = true then some ([], 1, 1) else if eqs [37] to' = true then some ([], 1, 1) else if eqs [109] to' = true then some ([109], 1, 1) else if eqs [99, 109] to' = true then some ([109], 1, 100) else if eqs [109, 109] to' = true then some ([109], 1, 1000) else if eqs [115] to' = true then some ([115], 1, 1) else if eqs [109, 115] to' = true then some ([115], 1, 1000) else if eqs [109, 105, 110] to' = true then some ([115], 60, 1) else if eqs [104] to' = true then some ([115], 3600, 1) else if eqs [98, 97, 114] to' = true then some ([98, 97, 114], 1, 1) else if eqs [109, 98, 97, 114] to' = true then some ([98, 97, 114], 1, 1000) else if eqs [107, 80, 97] to' = true then some ([98, 97, 114], 1, 100) else if eqs [107, 103] to' = true then some ([107, 103], 1, 1) else if eqs [103] to' = true then some ([107, 103], 1, 1000) else if eqs [116] to' = true then some ([107, 103], 1000, 1) else if eqs [108] to' = true then some ([108], 1, 1) else if eqs [109, 108] to' = true then some ([108], 1, 1000) else if eqs [67] to' = true then some ([67], 1, 1) else Option.none) ([], 0, 0)).2.1 (Ev.gdV LAT0 (if eqs [] to' = true then some ([], 1, 1) else if eqs [37] to' = true then some ([], 1, 1) else if eqs [109] to' = true then some ([109], 1, 1) else if eqs [99, 109] to' = true then some ([109], 1, 100) else if eqs [109, 109] to' = true then some ([109], 1, 1000) else if eqs [115] to' = true then some ([115], 1, 1) else if eqs [109, 115] to' = true then some ([115], 1, 1000) else if eqs [109, 105, 110] to' = true then some ([115], 60, 1) else if eqs [104] to' = true then some ([115], 3600, 1) else if eqs [98, 97, 114] to' = true then some ([98, 97, 114], 1, 1) else if eqs [109, 98, 97, 114] to' = true then some ([98, 97, 114], 1, 1000) else if eqs [107, 80, 97] to' = true then some ([98, 97, 114], 1, 100) else if eqs [107, 103] to' = true then some ([107, 103], 1, 1) else if eqs [103] to' = true then some ([107, 103], 1, 1000) else if eqs [116] to' = true then some ([107, 103], 1000, 1) else if eqs [108] to' = true then some ([108], 1, 1) else if eqs [109, 108] to' = true then some ([108], 1, 1000) else if eqs [67] to' = true then some ([67], 1, 1) else Option.none) ([], 0, 0)).2.2
def units_To_K1 (t38 : Bool) (d : Int) (d_2 : Int) (t6 : Int) (t6_2 : Int) (a : List UInt8) (a_2 : Int) (a_3 : Int) (b : List UInt8) (b_2 : Int) (b_3 : Int) : Option (As [.pr (.int .i64) (.int .u8), .bool]) := units_To_m1 t38 d d_2 t6 t6_2 a a_2 a_3 b b_2 b_3
def units_To (x : As [.pr (.int .i64) (.int .u8), .str, .str]) : Option (As [.pr (.int .i64) (.int .u8), .bool]) := units_To_m0 units_To_K1 x.1 x.2.1 x.2.2.1
theorem units_To_c1 (J : Orc (As [.pr (.int .i64) (.int .u8), .bool])) (t38 : Bool) (d : Int) (d_2 : Int) (t6 : Int) (t6_2 : Int) (a : List UInt8) (a_2 : Int) (a_3 : Int) (b : List UInt8) (b_2 : Int) (b_3 : Int) : pfn Tryd.prog units_To_e 6 18446744073709551616 (Ev.get units_To_h) 26 units_To_s J 62 [] (units_To_k1 t38 d d_2 t6 t6_2 a a_2 a_3 b b_2 b_3) = units_To_m1 t38 d d_2 t6 t6_2 a a_2 a_3 b b_2 b_3 := by kernel_rfl
theorem units_To_c0 (J : Orc (As [.pr (.int .i64) (.int .u8), .bool])) (x : As [.pr (.int .i64) (.int .u8), .str, .str]) : rfn Tryd.prog units_To_e 6 18446744073709551616 (Ev.get units_To_h) 26 units_To_s J x = units_To_m0 (fun t38 d d_2 t6 t6_2 a a_2 a_3 b b_2 b_3 => J 62 [] (units_To_k1 t38 d d_2 t6 t6_2 a a_2 a_3 b b_2 b_3)) x.1 x.2.1 x.2.2.1 := by kernel_rfl
theorem units_To_g1 (t38 : Bool) (d : Int) (d_2 : Int) (t6 : Int) (t6_2 : Int) (a : List UInt8) (a_2 : Int) (a_3 : Int) (b : List UInt8) (b_2 : Int) (b_3 : Int) : jfn Tryd.prog units_To_e 6 18446744073709551616 (Ev.get units_To_h) 26 units_To_s 62 [] (units_To_k1 t38 d d_2 t6 t6_2 a a_2 a_3 b b_2 b_3) = units_To_K1 t38 d d_2 t6 t6_2 a a_2 a_3 b b_2 b_3 := by
  rw [pfn_eq (by decide)]
  rw [units_To_c1]
  rfl
theorem units_To_t (x : As [.pr (.int .i64) (.int .u8), .str, .str]) : evT Tryd.prog units_To_e 6 18446744073709551616 (Ev.get units_To_h) 26 units_To_s x = units_To x := by
  have e1 : (fun t38 d d_2 t6 t6_2 a a_2 a_3 b b_2 b_3 => (jfn Tryd.prog units_To_e 6 18446744073709551616 (Ev.get units_To_h) 26 units_To_s) 62 [] (units_To_k1 t38 d d_2 t6 t6_2 a a_2 a_3 b b_2 b_3)) = units_To_K1 := funext fun t38 => funext fun d => funext fun d_2 => funext fun t6 => funext fun t6_2 => funext fun a => funext fun a_2 => funext fun a_3 => funext fun b => funext fun b_2 => funext fun b_3 => units_To_g1 t38 d d_2 t6 t6_2 a a_2 a_3 b b_2 b_3
  rw [rfn_eq, units_To_c0, e1]
  rfl
theorem units_To_ok : CtOk Tryd.prog I0 26 ⟨units_To_s, units_To⟩ := ct_of_ev (env_cons units_Times_ok env_nil) units_To_t
/-! words_Word -/
@[reducible] def words_Word_s : Sh := ⟨[.d (.int .i64)], [], [.int .i64], [.d (.int .u16), .d (.bool)], [], 0, [.int .u16, .bool]⟩
def words_Word_e : Env := (cts [])
def words_Word_h : List (Nat × Hint) := [(6, ⟨[], [0, 9]⟩)]
def words_Word_k1 (x : Int) (t9 : Bool) : St := { fr := [(0, .d (.int .i64) x), (9, .d .bool t9)], nt := 12, up := [], own := [], nx := 0, log := [], ln := 0 }
def words_Word_m1 (x : Int) (t9 : Bool) : Option (As [.int .u16, .bool]) :=
  if t9 = true then some (0, false, ()) else some (cvt .u16 x, true, ())
def words_Word_m0 (j1 : Int → Bool → Option (As [.int .u16, .bool])) (x : Int) : Option (As [.int .u16, .bool]) :=
  if lt x (-32768) = true then j1 x true else j1 x (ge x 32768)
def words_Word_K1 (x : Int) (t9 : Bool) : Option (As [.int .u16, .bool]) := words_Word_m1 x t9
def words_Word (x : As [.int .i64]) : Option (As [.int .u16, .bool]) := words_Word_m0 words_Word_K1 x.1
theorem words_Word_c1 (J : Orc (As [.int .u16, .bool])) (x : Int) (t9 : Bool) : pfn Tryd.prog words_Word_e 6 18446744073709551616 (Ev.get words_Word_h) 58 words_Word_s J 6 [] (words_Word_k1 x t9) = words_Word_m1 x t9 := by kernel_rfl
theorem words_Word_c0 (J : Orc (As [.int .u16, .bool])) (x : As [.int .i64]) : rfn Tryd.prog words_Word_e 6 18446744073709551616 (Ev.get words_Word_h) 58 words_Word_s J x = words_Word_m0 (fun x t9 => J 6 [] (words_Word_k1 x t9)) x.1 := by kernel_rfl
theorem words_Word_g1 (x : Int) (t9 : Bool) : jfn Tryd.prog words_Word_e 6 18446744073709551616 (Ev.get words_Word_h) 58 words_Word_s 6 [] (words_Word_k1 x t9) = words_Word_K1 x t9 := by
  rw [pfn_eq (by decide)]
  rw [words_Word_c1]
  rfl
theorem words_Word_t (x : As [.int .i64]) : evT Tryd.prog words_Word_e 6 18446744073709551616 (Ev.get words_Word_h) 58 words_Word_s x = words_Word x := by
  have e1 : (fun x t9 => (jfn Tryd.prog words_Word_e 6 18446744073709551616 (Ev.get words_Word_h) 58 words_Word_s) 6 [] (words_Word_k1 x t9)) = words_Word_K1 := funext fun x => funext fun t9 => words_Word_g1 x t9
  rw [rfn_eq, words_Word_c0, e1]
  rfl
theorem words_Word_ok : CtOk Tryd.prog I0 58 ⟨words_Word_s, words_Word⟩ := ct_of_ev env_nil words_Word_t
/-! units_Word -/
@[reducible] def units_Word_s : Sh := ⟨[.d (.pr (.int .i64) (.int .u8)), .d (.int .i64), .d (.bool)], [], [.pr (.int .i64) (.int .u8), .int .i64, .bool], [.d (.int .u16), .d (.bool)], [], 0, [.int .u16, .bool]⟩
def units_Word_e : Env := (cts [(16, (⟨units_Right_s, units_Right⟩ : Ct)), (50, (⟨units_power_s, units_power⟩ : Ct)), (58, (⟨words_Word_s, words_Word⟩ : Ct))])
def units_Word_h : List (Nat × Hint) := [(30, ⟨[], [2, 8, 37]⟩), (6, ⟨[], [1, 2, 3, 22, 35, 36]⟩)]
def units_Word_k1 (digits : Int) (signed : Bool) (t22 : Bool) (d : Int × Int) : St := { fr := [(1, .d (.int .i64) digits), (2, .d .bool signed), (3, .pb 0 0), (22, .d .bool t22)], nt := 47, up := [], own := [(0, .box 40 [.d (.int .i64) d.1, .d (.int .u8) d.2])], nx := 1, log := [], ln := 0 }
def units_Word_k2 (signed : Bool) (n : Int) (t37 : Bool) : St := { fr := [(2, .d .bool signed), (8, .d (.int .i64) n), (37, .d .bool t37)], nt := 47, up := [], own := [], nx := 0, log := [], ln := 0 }
def units_Word_m1 (j2 : Bool → Int → Bool → Option (As [.int .u16, .bool])) (digits : Int) (signed : Bool) (t22 : Bool) (d : Int × Int) : Option (As [.int .u16, .bool]) :=
  if t22 = true then some (0, false, ()) else Option.bind (units_power (Sx.sub .i64 digits (cvt .i64 d.2), ())) fun (y : Int × Unit) => if lt (mul .i64 d.1 y.1) (-32768) = true then j2 signed (mul .i64 d.1 y.1) true else j2 signed (mul .i64 d.1 y.1) (ge (mul .i64 d.1 y.1) 65536)
def units_Word_m2 (signed : Bool) (n : Int) (t37 : Bool) : Option (As [.int .u16, .bool]) :=
  if t37 = true then some (0, false, ()) else if signed = true then Option.bind (words_Word (n, ())) fun (y : Int × Bool × Unit) => some (y.1, y.2.1, ()) else if lt n 0 = true then some (0, false, ()) else some (cvt .u16 n, true, ())
def units_Word_m0 (j1 : Int → Bool → Bool → Int × Int → Option (As [.int .u16, .bool])) (d : Int × Int) (digits : Int) (signed : Bool) : Option (As [.int .u16, .bool]) :=
  Option.bind (units_Right (d, ())) fun (y : Bool × Unit) => if (!y.1) = true then j1 digits signed true d else if lt digits (cvt .i64 d.2) = true then j1 digits signed true d else j1 digits signed (gt digits 6) d
def units_Word_K2 (signed : Bool) (n : Int) (t37 : Bool) : Option (As [.int .u16, .bool]) := units_Word_m2 signed n t37
def units_Word_K1 (digits : Int) (signed : Bool) (t22 : Bool) (d : Int × Int) : Option (As [.int .u16, .bool]) := units_Word_m1 (units_Word_K2) digits signed t22 d
def units_Word (x : As [.pr (.int .i64) (.int .u8), .int .i64, .bool]) : Option (As [.int .u16, .bool]) := units_Word_m0 units_Word_K1 x.1 x.2.1 x.2.2.1
theorem units_Word_c2 (J : Orc (As [.int .u16, .bool])) (signed : Bool) (n : Int) (t37 : Bool) : pfn Tryd.prog units_Word_e 6 18446744073709551616 (Ev.get units_Word_h) 28 units_Word_s J 30 [] (units_Word_k2 signed n t37) = units_Word_m2 signed n t37 := by kernel_rfl
theorem units_Word_c1 (J : Orc (As [.int .u16, .bool])) (digits : Int) (signed : Bool) (t22 : Bool) (d : Int × Int) : pfn Tryd.prog units_Word_e 6 18446744073709551616 (Ev.get units_Word_h) 28 units_Word_s J 6 [] (units_Word_k1 digits signed t22 d) = units_Word_m1 (fun signed n t37 => J 30 [] (units_Word_k2 signed n t37)) digits signed t22 d := by kernel_rfl
theorem units_Word_c0 (J : Orc (As [.int .u16, .bool])) (x : As [.pr (.int .i64) (.int .u8), .int .i64, .bool]) : rfn Tryd.prog units_Word_e 6 18446744073709551616 (Ev.get units_Word_h) 28 units_Word_s J x = units_Word_m0 (fun digits signed t22 d => J 6 [] (units_Word_k1 digits signed t22 d)) x.1 x.2.1 x.2.2.1 := by kernel_rfl
theorem units_Word_g2 (signed : Bool) (n : Int) (t37 : Bool) : jfn Tryd.prog units_Word_e 6 18446744073709551616 (Ev.get units_Word_h) 28 units_Word_s 30 [] (units_Word_k2 signed n t37) = units_Word_K2 signed n t37 := by
  rw [pfn_eq (by decide)]
  rw [units_Word_c2]
  rfl
theorem units_Word_g1 (digits : Int) (signed : Bool) (t22 : Bool) (d : Int × Int) : jfn Tryd.prog units_Word_e 6 18446744073709551616 (Ev.get units_Word_h) 28 units_Word_s 6 [] (units_Word_k1 digits signed t22 d) = units_Word_K1 digits signed t22 d := by
  rw [pfn_eq (by decide)]
  have e2 : (fun signed n t37 => (jfn Tryd.prog units_Word_e 6 18446744073709551616 (Ev.get units_Word_h) 28 units_Word_s) 30 [] (units_Word_k2 signed n t37)) = units_Word_K2 := funext fun signed => funext fun n => funext fun t37 => units_Word_g2 signed n t37
  rw [units_Word_c1, e2]
  rfl
theorem units_Word_t (x : As [.pr (.int .i64) (.int .u8), .int .i64, .bool]) : evT Tryd.prog units_Word_e 6 18446744073709551616 (Ev.get units_Word_h) 28 units_Word_s x = units_Word x := by
  have e1 : (fun digits signed t22 d => (jfn Tryd.prog units_Word_e 6 18446744073709551616 (Ev.get units_Word_h) 28 units_Word_s) 6 [] (units_Word_k1 digits signed t22 d)) = units_Word_K1 := funext fun digits => funext fun signed => funext fun t22 => funext fun d => units_Word_g1 digits signed t22 d
  rw [rfn_eq, units_Word_c0, e1]
  rfl
theorem units_Word_ok : CtOk Tryd.prog I0 28 ⟨units_Word_s, units_Word⟩ := ct_of_ev (env_cons units_Right_ok (env_cons units_power_ok (env_cons words_Word_ok env_nil))) units_Word_t
/-! words_Signed -/
@[reducible] def words_Signed_s : Sh := ⟨[.d (.int .u16)], [], [.int .u16], [.d (.int .i64)], [], 0, [.int .i64]⟩
def words_Signed_e : Env := (cts [])
def words_Signed_h : List (Nat × Hint) := []
def words_Signed_m0 (x : Int) : Option (As [.int .i64]) :=
  some (cvt .i64 (cvt .i16 x), ())
def words_Signed (x : As [.int .u16]) : Option (As [.int .i64]) := words_Signed_m0 x.1
theorem words_Signed_c0 (J : Orc (As [.int .i64])) (x : As [.int .u16]) : rfn Tryd.prog words_Signed_e 6 18446744073709551616 (Ev.get words_Signed_h) 59 words_Signed_s J x = words_Signed_m0 x.1 := by kernel_rfl
theorem words_Signed_t (x : As [.int .u16]) : evT Tryd.prog words_Signed_e 6 18446744073709551616 (Ev.get words_Signed_h) 59 words_Signed_s x = words_Signed x := by
  rw [rfn_eq, words_Signed_c0]
  rfl
theorem words_Signed_ok : CtOk Tryd.prog I0 59 ⟨words_Signed_s, words_Signed⟩ := ct_of_ev env_nil words_Signed_t
/-! units_Worth -/
@[reducible] def units_Worth_s : Sh := ⟨[.d (.int .u16), .d (.int .i64), .d (.bool)], [], [.int .u16, .int .i64, .bool], [.d (.pr (.int .i64) (.int .u8)), .d (.bool)], [], 0, [.pr (.int .i64) (.int .u8), .bool]⟩
def units_Worth_e : Env := (cts [(59, (⟨words_Signed_s, words_Signed⟩ : Ct))])
def units_Worth_h : List (Nat × Hint) := [(15, ⟨[], [1, 6, 8, 24, 25, 26]⟩), (31, ⟨[], [1, 6, 8]⟩), (124, ⟨[], [1, 6, 8, 24, 25, 26]⟩), (496, ⟨[], [1, 6, 8, 27]⟩), (6, ⟨[], [0, 1, 2, 6, 14, 24, 25, 26]⟩)]
def units_Worth_k1 (w : Int) (digits : Int) (signed : Bool) (t14 : Bool) (t6 : Int × Int) : St := { fr := [(0, .d (.int .u16) w), (1, .d (.int .i64) digits), (2, .d .bool signed), (6, .pb 0 0), (14, .d .bool t14)], nt := 36, up := [], own := [(0, .box 40 [.d (.int .i64) t6.1, .d (.int .u8) t6.2])], nx := 1, log := [], ln := 0 }
def units_Worth_k2 (digits : Int) (n : Int) (t6 : Int × Int) : St := { fr := [(1, .d (.int .i64) digits), (6, .pb 0 0), (8, .d (.int .i64) n)], nt := 36, up := [], own := [(0, .box 40 [.d (.int .i64) t6.1, .d (.int .u8) t6.2])], nx := 1, log := [], ln := 0 }
def units_Worth_k3 (digits : Int) (n : Int) (t6 : Int × Int) : St := { fr := [(1, .d (.int .i64) digits), (6, .pb 0 0), (8, .d (.int .i64) n)], nt := 36, up := [], own := [(0, .box 40 [.d (.int .i64) t6.1, .d (.int .u8) t6.2])], nx := 1, log := [], ln := 0 }
def units_Worth_k4 (digits : Int) (n : Int) (t27 : Bool) (t6 : Int × Int) : St := { fr := [(1, .d (.int .i64) digits), (6, .pb 0 0), (8, .d (.int .i64) n), (27, .d .bool t27)], nt := 36, up := [], own := [(0, .box 40 [.d (.int .i64) t6.1, .d (.int .u8) t6.2])], nx := 1, log := [], ln := 0 }
def units_Worth_k5 (digits : Int) (n : Int) (t6 : Int × Int) : St := { fr := [(1, .d (.int .i64) digits), (6, .pb 0 0), (8, .d (.int .i64) n)], nt := 36, up := [], own := [(0, .box 40 [.d (.int .i64) t6.1, .d (.int .u8) t6.2])], nx := 1, log := [], ln := 0 }
def units_Worth_m1 (j2 : Int → Int → Int × Int → Option (As [.pr (.int .i64) (.int .u8), .bool])) (w : Int) (digits : Int) (signed : Bool) (t14 : Bool) (t6 : Int × Int) : Option (As [.pr (.int .i64) (.int .u8), .bool]) :=
  if t14 = true then some ((0, 0), false, ()) else if signed = true then Option.bind (words_Signed (w, ())) fun (y : Int × Unit) => j2 digits y.1 t6 else j2 digits (cvt .i64 w) t6
def units_Worth_m2 (j3 : Int → Int → Int × Int → Option (As [.pr (.int .i64) (.int .u8), .bool])) (digits : Int) (n : Int) (t6 : Int × Int) : Option (As [.pr (.int .i64) (.int .u8), .bool]) :=
  j3 digits n t6
def units_Worth_m3 (j4 : Int → Int → Bool → Int × Int → Option (As [.pr (.int .i64) (.int .u8), .bool])) (self3 : Int → Int → Int × Int → Option (As [.pr (.int .i64) (.int .u8), .bool])) (digits : Int) (n : Int) (t6 : Int × Int) : Option (As [.pr (.int .i64) (.int .u8), .bool]) :=
  if gt digits 0 = true then j4 digits n (eqi (rem n 10) 0) t6 else j4 digits n false t6
def units_Worth_m4 (j5 : Int → Int → Int × Int → Option (As [.pr (.int .i64) (.int .u8), .bool])) (self3 : Int → Int → Int × Int → Option (As [.pr (.int .i64) (.int .u8), .bool])) (digits : Int) (n : Int) (t27 : Bool) (t6 : Int × Int) : Option (As [.pr (.int .i64) (.int .u8), .bool]) :=
  if t27 = true then self3 (Sx.sub .i64 digits 1) (quo .i64 n 10) t6 else j5 digits n t6
def units_Worth_m5 (digits : Int) (n : Int) (t6 : Int × Int) : Option (As [.pr (.int .i64) (.int .u8), .bool]) :=
  some ((n, cvt .u8 digits), true, ())
def units_Worth_m0 (j1 : Int → Int → Bool → Bool → Int × Int → Option (As [.pr (.int .i64) (.int .u8), .bool])) (w : Int) (digits : Int) (signed : Bool) : Option (As [.pr (.int .i64) (.int .u8), .bool]) :=
  if lt digits 0 = true then j1 w digits signed true (0, 0) else j1 w digits signed (gt digits 6) (0, 0)
def units_Worth_K5 (digits : Int) (n : Int) (t6 : Int × Int) : Option (As [.pr (.int .i64) (.int .u8), .bool]) := units_Worth_m5 digits n t6
def units_Worth_K4 (u3 : Int → Int → Int × Int → Option (As [.pr (.int .i64) (.int .u8), .bool])) (digits : Int) (n : Int) (t27 : Bool) (t6 : Int × Int) : Option (As [.pr (.int .i64) (.int .u8), .bool]) := units_Worth_m4 (units_Worth_K5) u3 digits n t27 t6
def units_Worth_K3 (digits : Int) (n : Int) (t6 : Int × Int) : Option (As [.pr (.int .i64) (.int .u8), .bool]) :=
  loopF (fun (self : (Int) × (Int) × (Int × Int) → Option (As [.pr (.int .i64) (.int .u8), .bool])) (s : (Int) × (Int) × (Int × Int)) => units_Worth_m3 (units_Worth_K4 (fun digits n t6 => self (digits, n, t6))) (fun digits n t6 => self (digits, n, t6)) s.1 s.2.1 s.2.2) 18446744073709551616 (digits, n, t6)
def units_Worth_K2 (digits : Int) (n : Int) (t6 : Int × Int) : Option (As [.pr (.int .i64) (.int .u8), .bool]) := units_Worth_m2 (units_Worth_K3) digits n t6
def units_Worth_K1 (w : Int) (digits : Int) (signed : Bool) (t14 : Bool) (t6 : Int × Int) : Option (As [.pr (.int .i64) (.int .u8), .bool]) := units_Worth_m1 (units_Worth_K2) w digits signed t14 t6
def units_Worth (x : As [.int .u16, .int .i64, .bool]) : Option (As [.pr (.int .i64) (.int .u8), .bool]) := units_Worth_m0 units_Worth_K1 x.1 x.2.1 x.2.2.1
theorem units_Worth_c5 (J : Orc (As [.pr (.int .i64) (.int .u8), .bool])) (digits : Int) (n : Int) (t6 : Int × Int) : pfn Tryd.prog units_Worth_e 6 18446744073709551616 (Ev.get units_Worth_h) 30 units_Worth_s J 31 [] (units_Worth_k5 digits n t6) = units_Worth_m5 digits n t6 := by kernel_rfl
theorem units_Worth_c4 (J : Orc (As [.pr (.int .i64) (.int .u8), .bool])) (w3 : St → Option (As [.pr (.int .i64) (.int .u8), .bool])) (digits : Int) (n : Int) (t27 : Bool) (t6 : Int × Int) : pfn Tryd.prog units_Worth_e 6 18446744073709551616 (Ev.get units_Worth_h) 30 units_Worth_s J 496 [w3] (units_Worth_k4 digits n t27 t6) = units_Worth_m4 (fun digits n t6 => J 31 [] (units_Worth_k5 digits n t6)) (fun digits n t6 => w3 (units_Worth_k3 digits n t6)) digits n t27 t6 := by kernel_rfl
theorem units_Worth_c3 (J : Orc (As [.pr (.int .i64) (.int .u8), .bool])) (w3 : St → Option (As [.pr (.int .i64) (.int .u8), .bool])) (digits : Int) (n : Int) (t6 : Int × Int) : pfn Tryd.prog units_Worth_e 6 18446744073709551616 (Ev.get units_Worth_h) 30 units_Worth_s J 124 [w3] (units_Worth_k3 digits n t6) = units_Worth_m3 (fun digits n t27 t6 => J 496 [w3] (units_Worth_k4 digits n t27 t6)) (fun digits n t6 => w3 (units_Worth_k3 digits n t6)) digits n t6 := by kernel_rfl
theorem units_Worth_c2 (J : Orc (As [.pr (.int .i64) (.int .u8), .bool])) (digits : Int) (n : Int) (t6 : Int × Int) : pfn Tryd.prog units_Worth_e 6 18446744073709551616 (Ev.get units_Worth_h) 30 units_Worth_s J 15 [] (units_Worth_k2 digits n t6) = units_Worth_m2 (fun digits n t6 => J 124 [] (units_Worth_k3 digits n t6)) digits n t6 := by kernel_rfl
theorem units_Worth_c1 (J : Orc (As [.pr (.int .i64) (.int .u8), .bool])) (w : Int) (digits : Int) (signed : Bool) (t14 : Bool) (t6 : Int × Int) : pfn Tryd.prog units_Worth_e 6 18446744073709551616 (Ev.get units_Worth_h) 30 units_Worth_s J 6 [] (units_Worth_k1 w digits signed t14 t6) = units_Worth_m1 (fun digits n t6 => J 15 [] (units_Worth_k2 digits n t6)) w digits signed t14 t6 := by kernel_rfl
theorem units_Worth_c0 (J : Orc (As [.pr (.int .i64) (.int .u8), .bool])) (x : As [.int .u16, .int .i64, .bool]) : rfn Tryd.prog units_Worth_e 6 18446744073709551616 (Ev.get units_Worth_h) 30 units_Worth_s J x = units_Worth_m0 (fun w digits signed t14 t6 => J 6 [] (units_Worth_k1 w digits signed t14 t6)) x.1 x.2.1 x.2.2.1 := by kernel_rfl
theorem units_Worth_g5 (digits : Int) (n : Int) (t6 : Int × Int) : jfn Tryd.prog units_Worth_e 6 18446744073709551616 (Ev.get units_Worth_h) 30 units_Worth_s 31 [] (units_Worth_k5 digits n t6) = units_Worth_K5 digits n t6 := by
  rw [pfn_eq (by decide)]
  rw [units_Worth_c5]
  rfl
theorem units_Worth_g4 (w3 : St → Option (As [.pr (.int .i64) (.int .u8), .bool])) (digits : Int) (n : Int) (t27 : Bool) (t6 : Int × Int) : jfn Tryd.prog units_Worth_e 6 18446744073709551616 (Ev.get units_Worth_h) 30 units_Worth_s 496 [w3] (units_Worth_k4 digits n t27 t6) = units_Worth_K4 (fun digits n t6 => w3 (units_Worth_k3 digits n t6)) digits n t27 t6 := by
  rw [pfn_eq (by decide)]
  have e5 : (fun digits n t6 => (jfn Tryd.prog units_Worth_e 6 18446744073709551616 (Ev.get units_Worth_h) 30 units_Worth_s) 31 [] (units_Worth_k5 digits n t6)) = units_Worth_K5 := funext fun digits => funext fun n => funext fun t6 => units_Worth_g5 digits n t6
  rw [units_Worth_c4, e5]
  rfl
theorem units_Worth_g3 (digits : Int) (n : Int) (t6 : Int × Int) : jfn Tryd.prog units_Worth_e 6 18446744073709551616 (Ev.get units_Worth_h) 30 units_Worth_s 124 [] (units_Worth_k3 digits n t6) = units_Worth_K3 digits n t6 := by
  rw [pfn_eq (by decide)]
  rw [pfn_loop (by kernel_rfl)]
  refine loopF_sim (σ := (Int) × (Int) × (Int × Int)) (mk := fun s => units_Worth_k3 s.1 s.2.1 s.2.2) (fun w3 s => ?_) 18446744073709551616 (digits, n, t6)
  have e4 : (fun digits n t27 t6 => (jfn Tryd.prog units_Worth_e 6 18446744073709551616 (Ev.get units_Worth_h) 30 units_Worth_s) 496 [w3] (units_Worth_k4 digits n t27 t6)) = units_Worth_K4 (fun digits n t6 => w3 (units_Worth_k3 digits n t6)) := funext fun digits => funext fun n => funext fun t27 => funext fun t6 => units_Worth_g4 w3 digits n t27 t6
  refine (units_Worth_c3 _ w3 s.1 s.2.1 s.2.2).trans ?_
  rw [e4]
theorem units_Worth_g2 (digits : Int) (n : Int) (t6 : Int × Int) : jfn Tryd.prog units_Worth_e 6 18446744073709551616 (Ev.get units_Worth_h) 30 units_Worth_s 15 [] (units_Worth_k2 digits n t6) = units_Worth_K2 digits n t6 := by
  rw [pfn_eq (by decide)]
  have e3 : (fun digits n t6 => (jfn Tryd.prog units_Worth_e 6 18446744073709551616 (Ev.get units_Worth_h) 30 units_Worth_s) 124 [] (units_Worth_k3 digits n t6)) = units_Worth_K3 := funext fun digits => funext fun n => funext fun t6 => units_Worth_g3 digits n t6
  rw [units_Worth_c2, e3]
  rfl
theorem units_Worth_g1 (w : Int) (digits : Int) (signed : Bool) (t14 : Bool) (t6 : Int × Int) : jfn Tryd.prog units_Worth_e 6 18446744073709551616 (Ev.get units_Worth_h) 30 units_Worth_s 6 [] (units_Worth_k1 w digits signed t14 t6) = units_Worth_K1 w digits signed t14 t6 := by
  rw [pfn_eq (by decide)]
  have e2 : (fun digits n t6 => (jfn Tryd.prog units_Worth_e 6 18446744073709551616 (Ev.get units_Worth_h) 30 units_Worth_s) 15 [] (units_Worth_k2 digits n t6)) = units_Worth_K2 := funext fun digits => funext fun n => funext fun t6 => units_Worth_g2 digits n t6
  rw [units_Worth_c1, e2]
  rfl
theorem units_Worth_t (x : As [.int .u16, .int .i64, .bool]) : evT Tryd.prog units_Worth_e 6 18446744073709551616 (Ev.get units_Worth_h) 30 units_Worth_s x = units_Worth x := by
  have e1 : (fun w digits signed t14 t6 => (jfn Tryd.prog units_Worth_e 6 18446744073709551616 (Ev.get units_Worth_h) 30 units_Worth_s) 6 [] (units_Worth_k1 w digits signed t14 t6)) = units_Worth_K1 := funext fun w => funext fun digits => funext fun signed => funext fun t14 => funext fun t6 => units_Worth_g1 w digits signed t14 t6
  rw [rfn_eq, units_Worth_c0, e1]
  rfl
theorem units_Worth_ok : CtOk Tryd.prog I0 30 ⟨units_Worth_s, units_Worth⟩ := ct_of_ev (env_cons words_Signed_ok env_nil) units_Worth_t
/-! law12_said -/
@[reducible] def law12_said_s : Sh := ⟨[.d (.str)], [], [.str], [.d (.pr (.int .i64) (.int .u8))], [], 0, [.pr (.int .i64) (.int .u8)]⟩
def law12_said_e : Env := (cts [(14, (⟨units_Parse_s, units_Parse⟩ : Ct))])
def law12_said_h : List (Nat × Hint) := []
def law12_said_m0 (s : List UInt8) : Option (As [.pr (.int .i64) (.int .u8)]) :=
  Option.bind (units_Parse (s, ())) fun (y : (Int × Int) × Bool × Unit) => some (y.1, ())
def law12_said (x : As [.str]) : Option (As [.pr (.int .i64) (.int .u8)]) := law12_said_m0 x.1
theorem law12_said_c0 (J : Orc (As [.pr (.int .i64) (.int .u8)])) (x : As [.str]) : rfn Tryd.prog law12_said_e 6 18446744073709551616 (Ev.get law12_said_h) 45 law12_said_s J x = law12_said_m0 x.1 := by kernel_rfl
theorem law12_said_t (x : As [.str]) : evT Tryd.prog law12_said_e 6 18446744073709551616 (Ev.get law12_said_h) 45 law12_said_s x = law12_said x := by
  rw [rfn_eq, law12_said_c0]
  rfl
theorem law12_said_ok : CtOk Tryd.prog I0 45 ⟨law12_said_s, law12_said⟩ := ct_of_ev (env_cons units_Parse_ok env_nil) law12_said_t
/-! law12_none -/
@[reducible] def law12_none_s : Sh := ⟨[.d (.str)], [], [.str], [.d (.bool)], [], 0, [.bool]⟩
def law12_none_e : Env := (cts [(14, (⟨units_Parse_s, units_Parse⟩ : Ct))])
def law12_none_h : List (Nat × Hint) := []
def law12_none_m0 (s : List UInt8) : Option (As [.bool]) :=
  Option.bind (units_Parse (s, ())) fun (y : (Int × Int) × Bool × Unit) => some (!y.2.1, ())
def law12_none (x : As [.str]) : Option (As [.bool]) := law12_none_m0 x.1
theorem law12_none_c0 (J : Orc (As [.bool])) (x : As [.str]) : rfn Tryd.prog law12_none_e 6 18446744073709551616 (Ev.get law12_none_h) 46 law12_none_s J x = law12_none_m0 x.1 := by kernel_rfl
theorem law12_none_t (x : As [.str]) : evT Tryd.prog law12_none_e 6 18446744073709551616 (Ev.get law12_none_h) 46 law12_none_s x = law12_none x := by
  rw [rfn_eq, law12_none_c0]
  rfl
theorem law12_none_ok : CtOk Tryd.prog I0 46 ⟨law12_none_s, law12_none⟩ := ct_of_ev (env_cons units_Parse_ok env_nil) law12_none_t
/-! law12_awake -/
@[reducible] def law12_awake_s : Sh := ⟨[], [], [], [.d (.bool)], [], 0, [.bool]⟩
def law12_awake_e : Env := (cts [(14, (⟨units_Parse_s, units_Parse⟩ : Ct)), (18, (⟨units_Show_s, units_Show⟩ : Ct)), (22, (⟨units_Times_s, units_Times⟩ : Ct)), (26, (⟨units_To_s, units_To⟩ : Ct)), (28, (⟨units_Word_s, units_Word⟩ : Ct)), (30, (⟨units_Worth_s, units_Worth⟩ : Ct)), (45, (⟨law12_said_s, law12_said⟩ : Ct)), (46, (⟨law12_none_s, law12_none⟩ : Ct))])
def law12_awake_h : List (Nat × Hint) := []
def law12_awake_m0 : Option (As [.bool]) :=
  Option.bind (units_Parse ([49, 50, 46, 53, 48], ())) fun (y : (Int × Int) × Bool × Unit) => Option.bind (law12_said ([50, 46, 53], ())) fun (y_1 : (Int × Int) × Unit) => Option.bind (units_Times (y_1.1, 3, 2, ())) fun (y_2 : (Int × Int) × Bool × Unit) => Option.bind (law12_said ([50, 46, 53], ())) fun (y_3 : (Int × Int) × Unit) => Option.bind (units_Times (y_3.1, 3, 7, ())) fun (y_4 : (Int × Int) × Bool × Unit) => Option.bind (law12_said ([49, 46, 53], ())) fun (y_5 : (Int × Int) × Unit) => Option.bind (units_To (y_5.1, [109, 105, 110], [109, 115], ())) fun (y_6 : (Int × Int) × Bool × Unit) => Option.bind (law12_said ([53], ())) fun (y_7 : (Int × Int) × Unit) => Option.bind (units_To (y_7.1, [109, 115], [104], ())) fun (y_8 : (Int × Int) × Bool × Unit) => Option.bind (law12_said ([45, 49, 46, 50], ())) fun (y_9 : (Int × Int) × Unit) => Option.bind (units_Word (y_9.1, 1, true, ())) fun (y_10 : Int × Bool × Unit) => Option.bind (law12_said ([45, 49, 46, 50], ())) fun (y_11 : (Int × Int) × Unit) => Option.bind (units_Word (y_11.1, 1, false, ())) fun (y_12 : Int × Bool × Unit) => Option.bind (units_Worth (65524, 1, true, ())) fun (y_13 : (Int × Int) × Bool × Unit) => if y.2.1 = true then if (eqi y.1.1 125 && (eqi y.1.2 1 && true)) = true then Option.bind (units_Show (y.1, ())) fun (y : List UInt8 × Unit) => if eqs y.1 [49, 50, 46, 53] = true then Option.bind (law12_none ([48, 49], ())) fun (y : Bool × Unit) => if y.1 = true then Option.bind (law12_none ([46, 53], ())) fun (y : Bool × Unit) => if y.1 = true then Option.bind (law12_none ([49, 46], ())) fun (y : Bool × Unit) => if y.1 = true then Option.bind (law12_none ([49, 46, 48, 48, 48, 48, 48, 48, 49], ())) fun (y : Bool × Unit) => if y.1 = true then Option.bind (law12_none ([43, 49], ())) fun (y : Bool × Unit) => if y.1 = true then if y_2.2.1 = true then Option.bind (law12_said ([51, 46, 55, 53], ())) fun (y : (Int × Int) × Unit) => if (eqi y_2.1.1 y.1.1 && (eqi y_2.1.2 y.1.2 && true)) = true then if (!y_4.2.1) = true then if y_6.2.1 = true then Option.bind (law12_said ([57, 48, 48, 48, 48], ())) fun (y : (Int × Int) × Unit) => if (eqi y_6.1.1 y.1.1 && (eqi y_6.1.2 y.1.2 && true)) = true then if (!y_8.2.1) = true then if y_10.2.1 = true then if eqi y_10.1 65524 = true then if (!y_12.2.1) = true then if y_13.2.1 = true then Option.bind (law12_said ([45, 49, 46, 50], ())) fun (y : (Int × Int) × Unit) => some (eqi y_13.1.1 y.1.1 && (eqi y_13.1.2 y.1.2 && true), ()) else some (false, ()) else some (false, ()) else some (false, ()) else some (false, ()) else some (false, ()) else some (false, ()) else some (false, ()) else some (false, ()) else some (false, ()) else some (false, ()) else some (false, ()) else some (false, ()) else some (false, ()) else some (false, ()) else some (false, ()) else some (false, ()) else some (false, ()) else some (false, ())
def law12_awake (x : As []) : Option (As [.bool]) := law12_awake_m0
theorem law12_awake_c0 (J : Orc (As [.bool])) (x : As []) : rfn Tryd.prog law12_awake_e 6 18446744073709551616 (Ev.get law12_awake_h) 13 law12_awake_s J x = law12_awake_m0 := by kernel_rfl
theorem law12_awake_t (x : As []) : evT Tryd.prog law12_awake_e 6 18446744073709551616 (Ev.get law12_awake_h) 13 law12_awake_s x = law12_awake x := by
  rw [rfn_eq, law12_awake_c0]
  rfl
theorem law12_awake_ok : CtOk Tryd.prog I0 13 ⟨law12_awake_s, law12_awake⟩ := ct_of_ev (env_cons units_Parse_ok (env_cons units_Show_ok (env_cons units_Times_ok (env_cons units_To_ok (env_cons units_Word_ok (env_cons units_Worth_ok (env_cons law12_said_ok (env_cons law12_none_ok env_nil)))))))) law12_awake_t
/-! law12_some -/
def law12_some_m1 (j2 : Bool → Int × Int → Int × Int → Option (As [.pr (.int .i64) (.int .u8)])) (self1 : Int × Int → Int × Int → Option (As [.pr (.int .i64) (.int .u8)])) (d : Int × Int) (t2 : Int × Int) : Option (As [.pr (.int .i64) (.int .u8)]) :=
  if gt d.2 0 = true then j2 (eqi (rem d.1 10) 0) d t2 else j2 false d t2
def law12_some_m2 (self1 : Int × Int → Int × Int → Option (As [.pr (.int .i64) (.int .u8)])) (t19 : Bool) (d : Int × Int) (t2 : Int × Int) : Option (As [.pr (.int .i64) (.int .u8)]) :=
  if t19 = true then self1 (quo .i64 d.1 10, Sx.sub .u8 d.2 1) t2 else some (d, ())
def law12_some_m0 (j1 : Int × Int → Int × Int → Option (As [.pr (.int .i64) (.int .u8)])) (d : Int × Int) : Option (As [.pr (.int .i64) (.int .u8)]) :=
  j1 (rem d.1 1000000000001, rem d.2 7) (0, 0)
def law12_some_K2 (u1 : Int × Int → Int × Int → Option (As [.pr (.int .i64) (.int .u8)])) (t19 : Bool) (d : Int × Int) (t2 : Int × Int) : Option (As [.pr (.int .i64) (.int .u8)]) := law12_some_m2 u1 t19 d t2
def law12_some_K1 (d : Int × Int) (t2 : Int × Int) : Option (As [.pr (.int .i64) (.int .u8)]) :=
  loopF (fun (self : (Int × Int) × (Int × Int) → Option (As [.pr (.int .i64) (.int .u8)])) (s : (Int × Int) × (Int × Int)) => law12_some_m1 (law12_some_K2 (fun d t2 => self (d, t2))) (fun d t2 => self (d, t2)) s.1 s.2) 18446744073709551616 (d, t2)
def law12_some (x : As [.pr (.int .i64) (.int .u8)]) : Option (As [.pr (.int .i64) (.int .u8)]) := law12_some_m0 law12_some_K1 x.1
/-! istringslite_HasSuffix -/
def istringslite_HasSuffix_m0 (s : List UInt8) (suffix : List UInt8) : Option (As [.bool]) :=
  if ge (Int.ofNat (List.length s)) (Int.ofNat (List.length suffix)) = true then Option.bind (cut s (Sx.sub .i64 (Int.ofNat (List.length s)) (Int.ofNat (List.length suffix))) (Int.ofNat (List.length s))) fun (y : List UInt8) => some (eqs y suffix, ()) else some (false, ())
def istringslite_HasSuffix (x : As [.str, .str]) : Option (As [.bool]) := istringslite_HasSuffix_m0 x.1 x.2.1
/-! istringslite_TrimSuffix -/
def istringslite_TrimSuffix_m0 (s : List UInt8) (suffix : List UInt8) : Option (As [.str]) :=
  Option.bind (istringslite_HasSuffix (s, suffix, ())) fun (y : Bool × Unit) => if y.1 = true then Option.bind (cut s 0 (Sx.sub .i64 (Int.ofNat (List.length s)) (Int.ofNat (List.length suffix)))) fun (y : List UInt8) => some (y, ()) else some (s, ())
def istringslite_TrimSuffix (x : As [.str, .str]) : Option (As [.str]) := istringslite_TrimSuffix_m0 x.1 x.2.1
/-! strings_TrimSuffix -/
def strings_TrimSuffix_m0 (s : List UInt8) (suffix : List UInt8) : Option (As [.str]) :=
  Option.bind (istringslite_TrimSuffix (s, suffix, ())) fun (y : List UInt8 × Unit) => some (y.1, ())
def strings_TrimSuffix (x : As [.str, .str]) : Option (As [.str]) := strings_TrimSuffix_m0 x.1 x.2.1
/-! law12_UnitsBack -/
def law12_UnitsBack_m1 (j2 : Int → List UInt8 → List UInt8 → Int × Int → Option (As [.bool])) (noughts : Int) (s : List UInt8) (text : List UInt8) (t41 : Bool) (d : Int × Int) : Option (As [.bool]) :=
  if t41 = true then some (false, ()) else if eqi d.2 0 = true then need (small (List.length text + 1)) (j2 noughts s (text ++ [46]) d) else j2 noughts s text d
def law12_UnitsBack_m2 (j3 : List UInt8 → Bool → Option (As [.bool])) (noughts : Int) (s : List UInt8) (more : List UInt8) (d : Int × Int) : Option (As [.bool]) :=
  Option.bind (strings_Repeat ([48], add .i64 1 (cvt .i64 (rem noughts 7)), ())) fun (y : List UInt8 × Unit) => need (small (List.length more + List.length y.1)) (Option.bind (units_Parse (more ++ y.1, ())) fun (y : (Int × Int) × Bool × Unit) => if Sx.neb y.2.1 (le (add .i64 (cvt .i64 d.2) (add .i64 1 (cvt .i64 (rem noughts 7)))) 6) = true then j3 s true else if y.2.1 = true then j3 s !(eqi y.1.1 d.1 && (eqi y.1.2 d.2 && true)) else j3 s false)
def law12_UnitsBack_m3 (j4 : List UInt8 → Int × Int → Option (As [.bool])) (s : List UInt8) (t76 : Bool) : Option (As [.bool]) :=
  if t76 = true then some (false, ()) else Option.bind (units_Parse (s, ())) fun (y : (Int × Int) × Bool × Unit) => if y.2.1 = true then Option.bind (strings_Contains (s, [46], ())) fun (y_1 : Bool × Unit) => if y_1.1 = true then if eqs s [] = true then Option.bind (strings_TrimSuffix (s, [46], ())) fun (y_2 : List UInt8 × Unit) => j4 y_2.1 y.1 else Option.bind (strings_trimRightByte (s, 48, ())) fun (y_2 : List UInt8 × Unit) => Option.bind (strings_TrimSuffix (y_2.1, [46], ())) fun (y_3 : List UInt8 × Unit) => j4 y_3.1 y.1 else j4 s y.1 else Option.bind (law12_awake ()) fun (y : Bool × Unit) => some (y.1, ())
def law12_UnitsBack_m4 (short : List UInt8) (g : Int × Int) : Option (As [.bool]) :=
  Option.bind (units_Right (g, ())) fun (y : Bool × Unit) => if y.1 = true then Option.bind (units_Show (g, ())) fun (y : List UInt8 × Unit) => if eqs y.1 short = true then Option.bind (law12_awake ()) fun (y : Bool × Unit) => some (y.1, ()) else if eqs short [45, 48] = true then Option.bind (units_Show (g, ())) fun (y : List UInt8 × Unit) => if eqs y.1 [48] = true then Option.bind (law12_awake ()) fun (y : Bool × Unit) => some (y.1, ()) else some (false, ()) else some (false, ()) else some (false, ())
def law12_UnitsBack_m0 (j1 : Int → List UInt8 → List UInt8 → Bool → Int × Int → Option (As [.bool])) (d : Int × Int) (noughts : Int) (s : List UInt8) : Option (As [.bool]) :=
  if gt (Int.ofNat (List.length s)) 40 = true then Option.bind (law12_awake ()) fun (y : Bool × Unit) => some (y.1, ()) else Option.bind (law12_some (d, ())) fun (y : (Int × Int) × Unit) => Option.bind (units_Show (y.1, ())) fun (y_1 : List UInt8 × Unit) => Option.bind (units_Parse (y_1.1, ())) fun (y_2 : (Int × Int) × Bool × Unit) => Option.bind (units_Right (y.1, ())) fun (y_3 : Bool × Unit) => if (!y_3.1) = true then j1 noughts s y_1.1 true y.1 else if (!y_2.2.1) = true then j1 noughts s y_1.1 true y.1 else j1 noughts s y_1.1 (!(eqi y_2.1.1 y.1.1 && (eqi y_2.1.2 y.1.2 && true))) y.1
def law12_UnitsBack_K4 (short : List UInt8) (g : Int × Int) : Option (As [.bool]) := law12_UnitsBack_m4 short g
def law12_UnitsBack_K3 (s : List UInt8) (t76 : Bool) : Option (As [.bool]) := law12_UnitsBack_m3 (law12_UnitsBack_K4) s t76
def law12_UnitsBack_K2 (noughts : Int) (s : List UInt8) (more : List UInt8) (d : Int × Int) : Option (As [.bool]) := law12_UnitsBack_m2 (law12_UnitsBack_K3) noughts s more d
def law12_UnitsBack_K1 (noughts : Int) (s : List UInt8) (text : List UInt8) (t41 : Bool) (d : Int × Int) : Option (As [.bool]) := law12_UnitsBack_m1 (law12_UnitsBack_K2) noughts s text t41 d
def law12_UnitsBack (x : As [.pr (.int .i64) (.int .u8), .int .u8, .str]) : Option (As [.bool]) := law12_UnitsBack_m0 law12_UnitsBack_K1 x.1 x.2.1 x.2.2.1
end Go.Proofs.Lx

end

section
/- Plain laws: a kit of lemmas about what the models are made of. -/
namespace Pl
open Go Ev Sx
set_option maxRecDepth 10000

/-! ### loops -/
theorem loopF_succ {σ R : Type} (F : (σ → Option R) → σ → Option R) (n : Nat) (s : σ) : loopF F (n + 1) s = F (loopF F n) s := rfl
/-- a loop is G, where each step is, if the next ones are -/
theorem loopF_eq {σ R : Type} {F : (σ → Option R) → σ → Option R} {Inv : σ → Prop} {μ : σ → Nat} {G : σ → Option R}
    (step : ∀ self s, Inv s → (∀ s', Inv s' → μ s' < μ s → self s' = G s') → F self s = G s) : ∀ (n : Nat) (s : σ), Inv s → μ s < n → loopF F n s = G s
  | 0, s, _, h => by omega
  | n + 1, s, hs, h => by
    rw [loopF_succ]
    exact step _ s hs fun s' hs' hlt => loopF_eq step n s' hs' (by omega)
/-! ### numbers -/
theorem w64 {x : Int} (h1 : -9223372036854775808 ≤ x) (h2 : x ≤ 9223372036854775807) : IntKind.i64.wrap x = x := by
  simp only [IntKind.wrap, IntKind.signed, IntKind.bits]
  simp
  omega
theorem wu8 {x : Int} (h1 : 0 ≤ x) (h2 : x ≤ 255) : IntKind.u8.wrap x = x := by
  simp only [IntKind.wrap, IntKind.signed, IntKind.bits]
  simp
  omega
theorem add64 {a b : Int} (h1 : -9223372036854775808 ≤ a + b) (h2 : a + b ≤ 9223372036854775807) : add .i64 a b = a + b := w64 h1 h2
theorem sub64 {a b : Int} (h1 : -9223372036854775808 ≤ a - b) (h2 : a - b ≤ 9223372036854775807) : sub .i64 a b = a - b := w64 h1 h2
theorem mul64 {a b : Int} (h1 : -9223372036854775808 ≤ a * b) (h2 : a * b ≤ 9223372036854775807) : mul .i64 a b = a * b := w64 h1 h2
theorem neg64 {a : Int} (h1 : -9223372036854775808 ≤ -a) (h2 : -a ≤ 9223372036854775807) : neg .i64 a = -a := w64 h1 h2
theorem cvt64 {a : Int} (h1 : -9223372036854775808 ≤ a) (h2 : a ≤ 9223372036854775807) : cvt .i64 a = a := w64 h1 h2
theorem succ64 {n : Nat} (h : n < 4611686018427387904) : add .i64 (n : Int) 1 = ((n + 1 : Nat) : Int) := by rw [add64 (by omega) (by omega)]; rfl
theorem ofNat_eq (n : Nat) : Int.ofNat n = (n : Int) := rfl
theorem lt_iff {a b : Int} : lt a b = true ↔ a < b := by simp [lt]
theorem le_iff {a b : Int} : le a b = true ↔ a ≤ b := by simp [le]
theorem gt_iff {a b : Int} : gt a b = true ↔ b < a := by simp [gt]
theorem ge_iff {a b : Int} : ge a b = true ↔ b ≤ a := by simp [ge]
theorem eqi_iff {a b : Int} : eqi a b = true ↔ a = b := by simp [eqi]
theorem nei_iff {a b : Int} : nei a b = true ↔ a ≠ b := by simp [nei]
theorem eqs_iff {a b : List UInt8} : eqs a b = true ↔ a = b := by simp [eqs]
theorem nes_iff {a b : List UInt8} : nes a b = true ↔ a ≠ b := by simp [nes]
theorem small_iff {n : Nat} : small n = true ↔ n ≤ 1073741824 := by simp [small]
theorem gt_dec (a b : Int) : gt a b = decide (b < a) := rfl
theorem need_t {b : Bool} {β : Type} {k : Option β} (h : b = true) : need b k = k := by unfold need; rw [if_pos h]
theorem need_small {n : Nat} {β : Type} {k : Option β} (h : n ≤ 1073741824) : need (small n) k = k := need_t (small_iff.2 h)
/-! ### rows -/
theorem at_get {α : Type} {s : List α} {i : Nat} {c : α} (h : s[i]? = some c) : at? s (i : Int) = some c := by
  unfold at?
  simp [h]
theorem at_zero {α : Type} (c : α) (q : List α) : at? (c :: q) 0 = some c := rfl
theorem at_drop {α : Type} {s : List α} {i : Nat} {c : α} {r : List α} (h : s.drop i = c :: r) : at? s (i : Int) = some c := by
  apply at_get
  have := congrArg (·[0]?) h
  simpa using this
theorem at_app {α : Type} (p : List α) (c : α) (q : List α) : at? (p ++ c :: q) (p.length : Int) = some c := at_get (by simp)
theorem drop_succ {α : Type} {s : List α} {i : Nat} {c : α} {r : List α} (h : s.drop i = c :: r) : s.drop (i + 1) = r ∧ i < s.length ∧ s.length - i = r.length + 1 := by
  have hl := congrArg List.length h
  simp at hl
  refine ⟨?_, by omega, by omega⟩
  rw [← List.drop_drop, h]
  rfl
theorem drop_nil {α : Type} {s : List α} {i : Nat} (h : s.drop i = []) : s.length ≤ i := by
  have := congrArg List.length h
  simp at this
  omega
theorem cut_nat {α : Type} {xs : List α} {i j : Nat} (h1 : i ≤ j) (h2 : j ≤ xs.length) : cut xs (i : Int) (j : Int) = some ((xs.take j).drop i) := by
  unfold cut
  rw [if_pos ⟨by omega, by omega, by omega⟩]
  simp
theorem cut_from {α : Type} {xs : List α} {i : Nat} (h : i ≤ xs.length) : cut xs (i : Int) (Int.ofNat xs.length) = some (xs.drop i) := by
  rw [ofNat_eq, cut_nat h (Nat.le_refl _)]
  simp
theorem cut_to {α : Type} {xs : List α} {j : Nat} (h : j ≤ xs.length) : cut xs 0 (j : Int) = some (xs.take j) := by
  have := cut_nat (xs := xs) (Nat.zero_le j) h
  simpa using this
theorem cut_one {α : Type} (c : α) (q : List α) : cut (c :: q) 1 (Int.ofNat (c :: q).length) = some q := by
  have := cut_from (xs := c :: q) (i := 1) (by simp)
  simpa using this
theorem cut_app0 {α : Type} (p q : List α) : cut (p ++ q) 0 (p.length : Int) = some p := by rw [cut_to (by simp)]; simp
theorem cut_app1 {α : Type} (p q : List α) : cut (p ++ q) (p.length : Int) (Int.ofNat (p ++ q).length) = some q := by rw [cut_from (by simp)]; simp
/-- a byte's place -/
theorem index_no (c : UInt8) : ∀ s : List UInt8, c ∉ s → Go.Lib.indexByte s c = -1
  | [], _ => rfl
  | b :: q, h => by
    have hb : (b == c) = false := by
      rw [beq_eq_false_iff_ne]
      exact fun e => h (by simp [e])
    have ih := index_no c q (fun hx => h (List.mem_cons_of_mem _ hx))
    unfold Go.Lib.indexByte
    rw [hb, ih]
    rfl
theorem index_yes (c : UInt8) : ∀ (p q : List UInt8), c ∉ p → Go.Lib.indexByte (p ++ c :: q) c = (p.length : Int)
  | [], q, _ => by unfold Go.Lib.indexByte; simp
  | b :: p, q, h => by
    have hb : (b == c) = false := by
      rw [beq_eq_false_iff_ne]
      exact fun e => h (by simp [e])
    have ih := index_yes c p q (fun hx => h (List.mem_cons_of_mem _ hx))
    show Go.Lib.indexByte (b :: (p ++ c :: q)) c = _
    unfold Go.Lib.indexByte
    rw [hb, ih]
    have : ((p.length : Int) == -1) = false := by simp
    rw [this]
    simp
/-- a text up to a byte, and behind it -/
theorem split_at (c : UInt8) (s : List UInt8) : (c ∉ s) ∨ ∃ p q, s = p ++ c :: q ∧ c ∉ p := by
  induction s with
  | nil => exact .inl (by simp)
  | cons b r ih =>
    by_cases hb : b = c
    · exact .inr ⟨[], r, by simp [hb], by simp⟩
    · rcases ih with h | ⟨p, q, h1, h2⟩
      · exact .inl (by simp; exact ⟨fun e => hb e.symm, h⟩)
      · exact .inr ⟨b :: p, q, by simp [h1], by simp; exact ⟨fun e => hb e.symm, h2⟩⟩
/-! ### bytes -/
theorem eqV_refl : ∀ (t : Ty) (x : Vl t), eqV t x x = true := by
  have hl : ∀ {α : Type} {f : α → α → Bool}, (∀ a, f a a = true) → ∀ x : List α, eqL f x x = true := fun h x => by
    induction x with
    | nil => rfl
    | cons a q ih => simp [eqL, h, ih]
  intro t
  induction t with
  | int k => intro x; simp [eqV, eqi]
  | bool => intro x; simp [eqV, eqb]
  | str => intro x; simp [eqV, eqs]
  | sl t ih => intro x; exact hl ih x
  | pr a b iha ihb => intro x; simp [eqV, iha, ihb]
  | wr a ih => intro x; exact ih x
  | un => intro x; rfl
  | ar n t ih => intro x; exact hl ih x
theorem eqAs_refl : ∀ (rs : List Ty) (x : As rs), eqAs rs x x = true
  | [], _ => rfl
  | t :: r, x => by simp [eqAs, eqV_refl, eqAs_refl r]
theorem amb2 {R : Type} {eq : R → R → Bool} (h : ∀ x, eq x x = true) (a : Option R) : amb eq [a, a] = a := by
  cases a <;> simp [amb, ambC, h]
end Pl

end

section
/- Decimals: the program's reader and the document's are one. -/
namespace Go.Proofs.Lx
open Go Ev Sx Pl
set_option maxRecDepth 10000
def isD (n : Nat) : Bool := decide (48 ≤ n) && decide (n ≤ 57)
def dg (c : UInt8) : Bool := isD c.toNat
def digs (s : List UInt8) : Bool := s.all dg && s != []
def dvn (n : Int) (q : List UInt8) : Int := q.foldl (fun n c => 10 * n + ((c.toNat : Int) - 48)) n
theorem dvn_nil (n : Int) : dvn n [] = n := rfl
theorem dvn_cons (n : Int) (c : UInt8) (q : List UInt8) : dvn n (c :: q) = dvn (10 * n + ((c.toNat : Int) - 48)) q := rfl
theorem dvn_app (n : Int) (p q : List UInt8) : dvn n (p ++ q) = dvn (dvn n p) q := List.foldl_append ..
theorem dg_iff {c : UInt8} : dg c = true ↔ 48 ≤ c.toNat ∧ c.toNat ≤ 57 := by simp [dg, isD]
theorem dvn_ge : ∀ {q : List UInt8} {n : Int}, (∀ c ∈ q, dg c = true) → 0 ≤ n → n ≤ dvn n q
  | [], n, _, _ => Int.le_refl _
  | c :: q, n, h, hn => by
    have hc := dg_iff.1 (h c (List.mem_cons_self ..))
    have := dvn_ge (q := q) (n := 10 * n + ((c.toNat : Int) - 48)) (fun x hx => h x (List.mem_cons_of_mem _ hx)) (by omega)
    rw [dvn_cons]
    omega
theorem allDigits_eq {s : List UInt8} (h : s.length < 1000000) : units_allDigits (s, ()) = some (digs s, ()) := by
  have key : ∀ (n : Nat) (st : List UInt8 × Int × Int), (∃ i : Nat, st = (s, Int.ofNat s.length, (i : Int)) ∧ i ≤ s.length) → (s.length - st.2.2.toNat < n) →
      loopF (fun (self : (List UInt8) × Int × Int → Option (As [.bool])) (s : (List UInt8) × Int × Int) => units_allDigits_m1 (units_allDigits_K2 (fun a b c => self (a, b, c))) units_allDigits_K3 (fun a b c => self (a, b, c)) s.1 s.2.1 s.2.2) n st = some ((s.drop st.2.2.toNat).all dg && s != [], ()) := by
    refine loopF_eq (σ := List UInt8 × Int × Int) (μ := fun st => s.length - st.2.2.toNat) (G := fun st => some ((s.drop st.2.2.toNat).all dg && s != [], ())) ?_
    rintro self st ⟨i, rfl, hi⟩ ih
    simp only [Int.toNat_natCast] at ih ⊢
    unfold units_allDigits_m1
    cases hd : s.drop i with
    | nil =>
      have := drop_nil hd
      rw [if_neg (by rw [lt_iff, ofNat_eq]; omega)]
      unfold units_allDigits_K3 units_allDigits_m3
      rfl
    | cons c r =>
      obtain ⟨h1, h2, h3⟩ := drop_succ hd
      rw [if_pos (by rw [lt_iff, ofNat_eq]; omega), at_drop hd]
      simp only [Option.bind_some]
      have hgo : dg c = true → units_allDigits_K2 (fun a b c => self (a, b, c)) s (Int.ofNat s.length) (i : Int) false = some ((c :: r).all dg && s != [], ()) := fun hc => by
        unfold units_allDigits_K2 units_allDigits_m2
        rw [if_neg (by decide), succ64 (by omega)]
        have := ih (s, Int.ofNat s.length, ((i + 1 : Nat) : Int)) ⟨i + 1, rfl, by omega⟩ (by simp; omega)
        refine this.trans ?_
        simp [h1, hc]
      have hno : dg c = false → units_allDigits_K2 (fun a b c => self (a, b, c)) s (Int.ofNat s.length) (i : Int) true = some ((c :: r).all dg && s != [], ()) := fun hc => by
        unfold units_allDigits_K2 units_allDigits_m2
        rw [if_pos rfl]
        simp [hc]
      by_cases hc : dg c = true
      · have := dg_iff.1 hc
        rw [if_neg (by rw [lt_iff, ofNat_eq]; omega)]
        have e : gt (Int.ofNat c.toNat) 57 = false := by simp [gt]; omega
        rw [e]
        exact hgo hc
      · have hc' : dg c = false := by simpa using hc
        have h4 : ¬ (48 ≤ c.toNat ∧ c.toNat ≤ 57) := fun h => hc (dg_iff.2 h)
        by_cases h5 : c.toNat < 48
        · rw [if_pos (by rw [lt_iff, ofNat_eq]; omega)]
          exact hno hc'
        · rw [if_neg (by rw [lt_iff, ofNat_eq]; omega)]
          have e : gt (Int.ofNat c.toNat) 57 = true := by simp [gt]; omega
          rw [e]
          exact hno hc'
  have := key 18446744073709551616 (s, Int.ofNat s.length, 0) ⟨0, rfl, by omega⟩ (by simp; omega)
  refine this.trans ?_
  simp [digs]
/-- without the noughts at the end -/
def stripz : List UInt8 → List UInt8
  | [] => []
  | c :: q => match stripz q with
    | [] => if c = 48 then [] else [c]
    | r => c :: r
theorem stripz_snoc0 (q : List UInt8) : stripz (q ++ [48]) = stripz q := by
  induction q with
  | nil => rfl
  | cons c q ih => show (match stripz (q ++ [48]) with | [] => _ | r => _) = _; rw [ih]; rfl
theorem stripz_snoc {c : UInt8} (q : List UInt8) (h : c ≠ 48) : stripz (q ++ [c]) = q ++ [c] := by
  induction q with
  | nil => show (if c = 48 then [] else [c]) = _; rw [if_neg h]; rfl
  | cons a q ih =>
    show (match stripz (q ++ [c]) with | [] => _ | r => _) = _
    rw [ih]
    cases q <;> rfl
theorem snoc_cases {α : Type} (q : List α) : q = [] ∨ ∃ p c, q = p ++ [c] := by
  rcases List.eq_nil_or_concat q with h | ⟨p, c, h⟩
  · exact .inl h
  · exact .inr ⟨p, c, by simpa using h⟩
theorem trimRight_eq {s : List UInt8} (h : s.length < 1000000) : strings_trimRightByte (s, 48, ()) = some (stripz s, ()) := by
  have key : ∀ (n : Nat) (st : List UInt8 × Int), (st.2 = 48 ∧ st.1.length < 1000000) → st.1.length < n →
      loopF (fun (self : (List UInt8) × Int → Option (As [.str])) (s : (List UInt8) × Int) => strings_trimRightByte_m1 (strings_trimRightByte_K2 (fun a b => self (a, b))) (fun a b => self (a, b)) s.1 s.2) n st = some (stripz st.1, ()) := by
    refine loopF_eq (σ := List UInt8 × Int) (μ := fun st => st.1.length) (G := fun st => some (stripz st.1, ())) ?_
    rintro self ⟨s, c⟩ ⟨rfl, hl⟩ ih
    unfold strings_trimRightByte_m1
    rcases snoc_cases s with rfl | ⟨p, c, rfl⟩
    · rfl
    · simp at hl
      have hn : Int.ofNat (p ++ [c]).length = ((p.length + 1 : Nat) : Int) := by simp
      rw [if_pos (by rw [gt_iff, hn]; omega)]
      have h1 : sub .i64 (Int.ofNat (p ++ [c]).length) 1 = (p.length : Int) := by rw [hn, sub64 (by omega) (by omega)]; omega
      simp only [h1, at_app, Option.bind_some]
      unfold strings_trimRightByte_K2 strings_trimRightByte_m2
      by_cases hc : c = 48
      · subst hc
        rw [if_pos (show eqi (Int.ofNat (UInt8.toNat 48)) 48 = true from rfl), h1, cut_app0]
        have := ih (p, 48) ⟨rfl, by show p.length < _; omega⟩ (by simp)
        refine Eq.trans this ?_
        simp [stripz_snoc0]
      · have : eqi (Int.ofNat c.toNat) 48 = false := by
          simp [eqi]
          intro e
          apply hc
          apply UInt8.toNat_inj.1
          have : (48 : UInt8).toNat = 48 := rfl
          omega
        rw [this, if_neg (by decide)]
        simp [stripz_snoc p hc]
  exact key 18446744073709551616 (s, 48) ⟨rfl, h⟩ (by show s.length < _; omega)
/-! ### the program's reader -/
abbrev PR := (Int × Int) × Bool
def parsePieces (neg : Bool) (w r : List UInt8) (pt : Bool) : PR :=
  if digs w = false ∨ (1 < w.length ∧ w[0]? = some 48) then ((0, 0), false)
  else if pt = true ∧ (digs r = false ∨ 6 < r.length) then ((0, 0), false)
  else if 1000000000000 < dvn (dvn 0 w) (stripz r) then ((0, 0), false)
  else ((if neg then -(dvn (dvn 0 w) (stripz r)) else dvn (dvn 0 w) (stripz r), ((stripz r).length : Int)), true)
theorem byte_val {c : UInt8} (h : dg c = true) : cvt .i64 (sub .u8 (Int.ofNat c.toNat) 48) = (c.toNat : Int) - 48 := by
  have := dg_iff.1 h
  have e : sub .u8 (Int.ofNat c.toNat) 48 = (c.toNat : Int) - 48 := by unfold sub; rw [ofNat_eq, wu8 (by omega) (by omega)]
  rw [e, cvt64 (by omega) (by omega)]
abbrev P4 := Bool × List UInt8 × Int × List UInt8 × List UInt8 × List UInt8 × Int × Int × Int × Int × Int
theorem parse_K4 (u3 : Bool → List UInt8 → Int → List UInt8 → List UInt8 → Int → Int → Int → Option (As [.pr (.int .i64) (.int .u8), .bool])) (neg : Bool) (rest part a b : List UInt8) (n t : Int) (hd : ∀ c ∈ part, dg c = true) (hl : part.length < 1000000) (hn0 : 0 ≤ n) (hn1 : n ≤ 1000000000000) :
    units_Parse_K4 u3 neg rest n part a b t (Int.ofNat part.length) 0 0 0 = if 1000000000000 < dvn n part then some ((0, 0), false, ()) else u3 neg rest (dvn n part) a b (add .i64 t 1) 0 0 := by
  have key : ∀ (n : Nat) (st : P4), (∃ (i : Nat) (m : Int), st = (neg, rest, m, part, a, b, t, Int.ofNat part.length, (i : Int), 0, 0) ∧ i ≤ part.length ∧ 0 ≤ m ∧ m ≤ 1000000000000) → part.length - st.2.2.2.2.2.2.2.2.1.toNat < n →
      loopF (fun (self : P4 → Option (As [.pr (.int .i64) (.int .u8), .bool])) (s : P4) => units_Parse_m4 u3 (fun negative rest n part t54 t54_2 t55 t59 t60 t2 t2_2 => self (negative, rest, n, part, t54, t54_2, t55, t59, t60, t2, t2_2)) s.1 s.2.1 s.2.2.1 s.2.2.2.1 s.2.2.2.2.1 s.2.2.2.2.2.1 s.2.2.2.2.2.2.1 s.2.2.2.2.2.2.2.1 s.2.2.2.2.2.2.2.2.1 s.2.2.2.2.2.2.2.2.2.1 s.2.2.2.2.2.2.2.2.2.2) n st =
        if 1000000000000 < dvn st.2.2.1 (part.drop st.2.2.2.2.2.2.2.2.1.toNat) then some ((0, 0), false, ()) else u3 neg rest (dvn st.2.2.1 (part.drop st.2.2.2.2.2.2.2.2.1.toNat)) a b (add .i64 t 1) 0 0 := by
    refine loopF_eq (σ := P4) (μ := fun st => part.length - st.2.2.2.2.2.2.2.2.1.toNat) (G := fun st => if 1000000000000 < dvn st.2.2.1 (part.drop st.2.2.2.2.2.2.2.2.1.toNat) then some ((0, 0), false, ()) else u3 neg rest (dvn st.2.2.1 (part.drop st.2.2.2.2.2.2.2.2.1.toNat)) a b (add .i64 t 1) 0 0) ?_
    rintro self st ⟨i, m, rfl, hi, hm0, hm1⟩ ih
    simp only [Int.toNat_natCast] at ih ⊢
    unfold units_Parse_m4
    cases hdr : part.drop i with
    | nil =>
      have := drop_nil hdr
      rw [if_neg (by rw [lt_iff, ofNat_eq]; omega), dvn_nil, if_neg (by omega)]
    | cons c r =>
      obtain ⟨h1, h2, h3⟩ := drop_succ hdr
      have hc : dg c = true := hd c (List.mem_of_mem_drop (by rw [hdr]; exact List.mem_cons_self ..))
      have hcv := dg_iff.1 hc
      rw [if_pos (by rw [lt_iff, ofNat_eq]; omega), at_drop hdr, Option.bind_some, byte_val hc, mul64 (by omega) (by omega), add64 (by omega) (by omega), dvn_cons, succ64 (by omega)]
      have hr : ∀ x ∈ r, dg x = true := fun x hx => hd x (List.mem_of_mem_drop (by rw [hdr]; exact List.mem_cons_of_mem _ hx))
      have hge := dvn_ge (q := r) (n := 10 * m + ((c.toNat : Int) - 48)) hr (by omega)
      by_cases hgt : 1000000000000 < 10 * m + ((c.toNat : Int) - 48)
      · rw [if_pos (by rw [gt_iff]; omega), if_pos (by omega)]
      · rw [if_neg (by rw [gt_iff]; omega)]
        have := ih (neg, rest, 10 * m + ((c.toNat : Int) - 48), part, a, b, t, Int.ofNat part.length, ((i + 1 : Nat) : Int), 0, 0) ⟨i + 1, _, rfl, by omega, by omega, by omega⟩ (by simp; omega)
        refine this.trans ?_
        simp only [Int.toNat_natCast, h1]
  have := key 18446744073709551616 (neg, rest, n, part, a, b, t, Int.ofNat part.length, 0, 0, 0) ⟨0, n, rfl, by omega, hn0, hn1⟩ (by simp; omega)
  refine this.trans ?_
  simp
theorem K3_step (n : Nat) (neg : Bool) (rest : List UInt8) (m : Int) (a b : List UInt8) (t : Int) : 
    loopF (fun (self : (Bool) × (List UInt8) × (Int) × (List UInt8) × (List UInt8) × (Int) × (Int) × (Int) → Option (As [.pr (.int .i64) (.int .u8), .bool])) (s : (Bool) × (List UInt8) × (Int) × (List UInt8) × (List UInt8) × (Int) × (Int) × (Int)) => units_Parse_m3 (units_Parse_K4 (fun negative rest n t54 t54_2 t55 t2 t2_2 => self (negative, rest, n, t54, t54_2, t55, t2, t2_2))) (units_Parse_K5) (fun negative rest n t54 t54_2 t55 t2 t2_2 => self (negative, rest, n, t54, t54_2, t55, t2, t2_2)) s.1 s.2.1 s.2.2.1 s.2.2.2.1 s.2.2.2.2.1 s.2.2.2.2.2.1 s.2.2.2.2.2.2.1 s.2.2.2.2.2.2.2) (n + 1) (neg, rest, m, a, b, t, 0, 0) =
    if lt t 2 = true then if eqi t 1 = true then units_Parse_K4 (fun neg rest m a b t x y => loopF (fun (self : (Bool) × (List UInt8) × (Int) × (List UInt8) × (List UInt8) × (Int) × (Int) × (Int) → Option (As [.pr (.int .i64) (.int .u8), .bool])) (s : (Bool) × (List UInt8) × (Int) × (List UInt8) × (List UInt8) × (Int) × (Int) × (Int)) => units_Parse_m3 (units_Parse_K4 (fun negative rest n t54 t54_2 t55 t2 t2_2 => self (negative, rest, n, t54, t54_2, t55, t2, t2_2))) (units_Parse_K5) (fun negative rest n t54 t54_2 t55 t2 t2_2 => self (negative, rest, n, t54, t54_2, t55, t2, t2_2)) s.1 s.2.1 s.2.2.1 s.2.2.2.1 s.2.2.2.2.1 s.2.2.2.2.2.1 s.2.2.2.2.2.2.1 s.2.2.2.2.2.2.2) n (neg, rest, m, a, b, t, x, y)) neg rest m b a b t (Int.ofNat b.length) 0 0 0 else if eqi t 0 = true then units_Parse_K4 (fun neg rest m a b t x y => loopF (fun (self : (Bool) × (List UInt8) × (Int) × (List UInt8) × (List UInt8) × (Int) × (Int) × (Int) → Option (As [.pr (.int .i64) (.int .u8), .bool])) (s : (Bool) × (List UInt8) × (Int) × (List UInt8) × (List UInt8) × (Int) × (Int) × (Int)) => units_Parse_m3 (units_Parse_K4 (fun negative rest n t54 t54_2 t55 t2 t2_2 => self (negative, rest, n, t54, t54_2, t55, t2, t2_2))) (units_Parse_K5) (fun negative rest n t54 t54_2 t55 t2 t2_2 => self (negative, rest, n, t54, t54_2, t55, t2, t2_2)) s.1 s.2.1 s.2.2.1 s.2.2.2.1 s.2.2.2.2.1 s.2.2.2.2.2.1 s.2.2.2.2.2.2.1 s.2.2.2.2.2.2.2) n (neg, rest, m, a, b, t, x, y)) neg rest m a a b t (Int.ofNat a.length) 0 0 0 else none else units_Parse_K5 neg rest m 0 0 := rfl
theorem parse_K3 (neg : Bool) (w r : List UInt8) (hw : ∀ c ∈ w, dg c = true) (hr : ∀ c ∈ r, dg c = true) (hwl : w.length < 1000000) (hrl : r.length < 256) :
    units_Parse_K3 neg r 0 w r 0 0 0 = if 1000000000000 < dvn (dvn 0 w) r then some ((0, 0), false, ()) else some ((if neg then -(dvn (dvn 0 w) r) else dvn (dvn 0 w) r, (r.length : Int)), true, ()) := by
  have h0 : (0 : Int) ≤ dvn 0 w := dvn_ge hw (Int.le_refl _)
  have h1 : dvn 0 w ≤ dvn (dvn 0 w) r := dvn_ge hr h0
  refine (K3_step 18446744073709551615 neg r 0 w r 0).trans ?_
  rw [if_pos (by decide), if_neg (by decide), if_pos (by decide), parse_K4 _ _ _ _ _ _ _ _ hw hwl (by decide) (by decide)]
  by_cases hb : 1000000000000 < dvn 0 w
  · rw [if_pos hb, if_pos (by omega)]
  · rw [if_neg hb, show add .i64 0 1 = 1 from rfl]
    refine (K3_step 18446744073709551614 neg r _ w r 1).trans ?_
    rw [if_pos (by decide), if_pos (by decide), parse_K4 _ _ _ _ _ _ _ _ hr (by omega) h0 (by omega)]
    by_cases hb2 : 1000000000000 < dvn (dvn 0 w) r
    · rw [if_pos hb2, if_pos hb2]
    · rw [if_neg hb2, if_neg hb2, show add .i64 1 1 = 2 from rfl]
      refine (K3_step 18446744073709551613 neg r _ w r 2).trans ?_
      rw [if_neg (by decide)]
      unfold units_Parse_K5 units_Parse_m5 units_Parse_K6 units_Parse_m6
      have e : cvt .u8 (Int.ofNat r.length) = (r.length : Int) := wu8 (by rw [ofNat_eq]; omega) (by rw [ofNat_eq]; omega)
      rw [e]
      cases neg
      · rfl
      · rw [if_pos rfl, neg64 (by omega) (by omega)]
        rfl
theorem stripz_len : ∀ r : List UInt8, (stripz r).length ≤ r.length
  | [] => Nat.le_refl _
  | c :: q => by
    have ih := stripz_len q
    show (match stripz q with | [] => _ | r => _ : List UInt8).length ≤ _
    cases h : stripz q with
    | nil => dsimp only; split <;> simp
    | cons a b => rw [h] at ih; simp at ih ⊢; omega
theorem stripz_mem : ∀ {r : List UInt8} {c : UInt8}, c ∈ stripz r → c ∈ r
  | a :: q, c, h => by
    have ih := @stripz_mem q c
    change c ∈ (match stripz q with | [] => _ | r => _ : List UInt8) at h
    cases hq : stripz q with
    | nil =>
      rw [hq] at h
      dsimp only at h
      split at h
      · cases h
      · simp at h; simp [h]
    | cons x y =>
      rw [hq] at h ih
      rcases List.mem_cons.1 h with h | h
      · simp [h]
      · exact List.mem_cons_of_mem _ (ih h)
theorem digs_iff {s : List UInt8} : digs s = true ↔ (∀ c ∈ s, dg c = true) ∧ s ≠ [] := by simp [digs, List.all_eq_true]
/-- from where the pieces are known -/
theorem parse_K1 (neg : Bool) (w r : List UInt8) (pt bad : Bool) (hwl : w.length < 1000000) (hrl : r.length < 1000000) (hpt : pt = false → r = [])
    (hbad : bad = true ↔ (digs w = false ∨ (1 < w.length ∧ w[0]? = some 48))) : units_Parse_K1 neg w r pt bad 0 0 = some ((parsePieces neg w r pt).1, (parsePieces neg w r pt).2, ()) := by
  unfold units_Parse_K1 units_Parse_m1 parsePieces
  by_cases hb : bad = true
  · rw [if_pos hb, if_pos (hbad.1 hb)]
  · rw [if_neg hb, if_neg (fun h => hb (hbad.2 h))]
    have hw : digs w = true := by
      cases h : digs w
      · exact absurd (hbad.2 (.inl h)) hb
      · rfl
    have hwd := digs_iff.1 hw
    have fin : (∀ c ∈ r, dg c = true) → r.length ≤ 6 → units_Parse_K2 neg w r false 0 0 = some ((if 1000000000000 < dvn (dvn 0 w) (stripz r) then ((0, 0), false) else ((if neg then -(dvn (dvn 0 w) (stripz r)) else dvn (dvn 0 w) (stripz r), ((stripz r).length : Int)), true) : PR).1, (if 1000000000000 < dvn (dvn 0 w) (stripz r) then ((0, 0), false) else ((if neg then -(dvn (dvn 0 w) (stripz r)) else dvn (dvn 0 w) (stripz r), ((stripz r).length : Int)), true) : PR).2, ()) := fun hr h6 => by
      unfold units_Parse_K2 units_Parse_m2
      rw [if_neg (by decide)]
      have go : units_Parse_K3 neg (stripz r) 0 w (stripz r) 0 0 0 = some ((if 1000000000000 < dvn (dvn 0 w) (stripz r) then ((0, 0), false) else ((if neg then -(dvn (dvn 0 w) (stripz r)) else dvn (dvn 0 w) (stripz r), ((stripz r).length : Int)), true) : PR).1, (if 1000000000000 < dvn (dvn 0 w) (stripz r) then ((0, 0), false) else ((if neg then -(dvn (dvn 0 w) (stripz r)) else dvn (dvn 0 w) (stripz r), ((stripz r).length : Int)), true) : PR).2, ()) := by
        rw [parse_K3 neg w (stripz r) hwd.1 (fun c hc => hr c (stripz_mem hc)) hwl (by have := stripz_len r; omega)]
        split <;> rfl
      by_cases hre : r = []
      · subst hre
        rw [if_pos (by decide)]
        exact go
      · rw [if_neg (by rw [eqs_iff]; exact hre), trimRight_eq hrl, Option.bind_some]
        exact go
    cases pt
    · rw [if_neg (by decide), if_neg (by simp)]
      rw [hpt rfl] at fin ⊢
      exact fin (fun c h => by cases h) (by simp)
    · rw [if_pos rfl, allDigits_eq hrl, Option.bind_some]
      by_cases hr : digs r = true
      · rw [if_neg (by simp [hr])]
        by_cases h6 : 6 < r.length
        · have e : gt (Int.ofNat r.length) 6 = true := by rw [gt_iff, ofNat_eq]; omega
          rw [e, if_pos ⟨rfl, .inr h6⟩]
          rfl
        · have e : gt (Int.ofNat r.length) 6 = false := by simp [gt]; omega
          rw [e, if_neg (by simp [hr]; omega)]
          exact fin (digs_iff.1 hr).1 (by omega)
      · have hr' : digs r = false := by simpa using hr
        rw [if_pos (by simp [hr']), if_pos ⟨rfl, .inl hr'⟩]
        rfl
/-- the number that a text without a sign says -/
def parseT (neg : Bool) (t : List UInt8) : PR := parsePieces neg (t.takeWhile (· != 46)) ((t.dropWhile (· != 46)).drop 1) (t.contains 46)
def parseS (s : List UInt8) : PR := if s.head? = some 45 then parseT true (s.drop 1) else parseT false s
theorem tw_no {c : UInt8} {s : List UInt8} (h : c ∉ s) : s.takeWhile (· != c) = s ∧ s.dropWhile (· != c) = [] ∧ s.contains c = false := by
  induction s with
  | nil => exact ⟨rfl, rfl, rfl⟩
  | cons b q ih =>
    have hb : b ≠ c := fun e => h (by simp [e])
    obtain ⟨h1, h2, h3⟩ := ih (fun hm => h (List.mem_cons_of_mem _ hm))
    have hb' : (b != c) = true := by simp [hb]
    refine ⟨by simp [hb', h1], by simp [hb', h2], ?_⟩
    simp only [List.contains_cons, h3, Bool.or_false]
    simp
    exact fun e => hb e.symm
theorem tw_yes {c : UInt8} {p q : List UInt8} (h : c ∉ p) : (p ++ c :: q).takeWhile (· != c) = p ∧ (p ++ c :: q).dropWhile (· != c) = c :: q ∧ (p ++ c :: q).contains c = true := by
  induction p with
  | nil => simp
  | cons b r ih =>
    have hb : b ≠ c := fun e => h (by simp [e])
    obtain ⟨h1, h2, h3⟩ := ih (fun hm => h (List.mem_cons_of_mem _ hm))
    have hb' : (b != c) = true := by simp [hb]
    refine ⟨by simp [hb', h1], by simp [hb', h2], ?_⟩
    simp
theorem parseT_no {neg : Bool} {t : List UInt8} (h : (46 : UInt8) ∉ t) : parseT neg t = parsePieces neg t [] false := by
  obtain ⟨h1, h2, h3⟩ := tw_no h
  unfold parseT
  rw [h1, h2, h3]
  rfl
theorem parseT_yes {neg : Bool} {p q : List UInt8} (h : (46 : UInt8) ∉ p) : parseT neg (p ++ 46 :: q) = parsePieces neg p q true := by
  obtain ⟨h1, h2, h3⟩ := tw_yes (q := q) h
  simp only [parseT, h1, h2, h3]
  simp
theorem bad_iff {w : List UInt8} (c : UInt8) (q : List UInt8) (e : w = c :: q) (h : digs w = true) (hl : 1 < w.length) : eqi (Int.ofNat c.toNat) 48 = true ↔ (digs w = false ∨ (1 < w.length ∧ w[0]? = some 48)) := by
  subst e
  simp [h, eqi] at hl ⊢
  constructor
  · intro h2
    refine ⟨hl, UInt8.toNat_inj.1 ?_⟩
    have : (48 : UInt8).toNat = 48 := rfl
    omega
  · rintro ⟨_, rfl⟩; rfl
theorem hasPrefix_eq {s p : List UInt8} : istringslite_HasPrefix (s, p, ()) = some (decide (p <+: s), ()) := by
  show (if ge (Int.ofNat s.length) (Int.ofNat p.length) = true then _ else _) = _
  by_cases h : p.length ≤ s.length
  · rw [if_pos (by rw [ge_iff, ofNat_eq, ofNat_eq]; omega), ofNat_eq, cut_to h, Option.bind_some]
    congr 2
    rw [Bool.eq_iff_iff, eqs_iff, decide_eq_true_iff, List.prefix_iff_eq_take]
    exact ⟨fun h => h.symm, fun h => h.symm⟩
  · rw [if_neg (by rw [ge_iff, ofNat_eq, ofNat_eq]; omega)]
    congr 2
    symm
    rw [decide_eq_false_iff_not]
    intro hp
    exact h hp.length_le
theorem cutPrefix_eq {s p : List UInt8} : strings_CutPrefix (s, p, ()) = some (if p <+: s then (s.drop p.length, true, ()) else (s, false, ())) := by
  show (istringslite_CutPrefix (s, p, ())).bind _ = _
  have : istringslite_CutPrefix (s, p, ()) = some (if p <+: s then (s.drop p.length, true, ()) else (s, false, ())) := by
    show (istringslite_HasPrefix (s, p, ())).bind _ = _
    rw [hasPrefix_eq, Option.bind_some]
    by_cases h : p <+: s
    · rw [if_neg (by simp [h]), if_pos h, ofNat_eq, cut_from h.length_le, Option.bind_some]
    · rw [if_pos (by simp [h]), if_neg h]
  rw [this, Option.bind_some]
theorem parse_eq {s : List UInt8} (hl : s.length < 1000000) : units_Parse (s, ()) = some ((parseS s).1, (parseS s).2, ()) := by
  show units_Parse_m0 units_Parse_K1 s = _
  have go : ∀ (neg : Bool) (t : List UInt8), t.length < 1000000 →
      (if eqs [46] t = true then (cut t 1 (Int.ofNat t.length)).bind fun y_1 => (units_allDigits ([], ())).bind fun y_2 => if (!y_2.1) = true then units_Parse_K1 neg [] y_1 true true 0 0 else units_Parse_K1 neg [] y_1 true false 0 0
       else if ge (Go.Lib.indexByte t 46) 0 = true then (cut t 0 (Go.Lib.indexByte t 46)).bind fun y_1 => (cut t (add .i64 (Go.Lib.indexByte t 46) 1) (Int.ofNat t.length)).bind fun y_2 => (units_allDigits (y_1, ())).bind fun y_3 => if (!y_3.1) = true then units_Parse_K1 neg y_1 y_2 true true 0 0 else if gt (Int.ofNat y_1.length) 1 = true then (at? y_1 0).bind fun c => units_Parse_K1 neg y_1 y_2 true (eqi (Int.ofNat c.toNat) 48) 0 0 else units_Parse_K1 neg y_1 y_2 true false 0 0
       else (units_allDigits (t, ())).bind fun y_1 => if (!y_1.1) = true then units_Parse_K1 neg t [] false true 0 0 else if gt (Int.ofNat t.length) 1 = true then (at? t 0).bind fun c => units_Parse_K1 neg t [] false (eqi (Int.ofNat c.toNat) 48) 0 0 else units_Parse_K1 neg t [] false false 0 0) = some ((parseT neg t).1, (parseT neg t).2, ()) := by
    intro neg t ht
    have side : ∀ (w r : List UInt8) (pt : Bool), w.length < 1000000 → r.length < 1000000 → (pt = false → r = []) → ((units_allDigits (w, ())).bind fun y_1 => if (!y_1.1) = true then units_Parse_K1 neg w r pt true 0 0 else if gt (Int.ofNat w.length) 1 = true then (at? w 0).bind fun c => units_Parse_K1 neg w r pt (eqi (Int.ofNat c.toNat) 48) 0 0 else units_Parse_K1 neg w r pt false 0 0) = some ((parsePieces neg w r pt).1, (parsePieces neg w r pt).2, ()) := by
      intro w r pt hw hr hp
      rw [allDigits_eq hw, Option.bind_some]
      by_cases hd : digs w = true
      · rw [if_neg (by simp [hd])]
        by_cases h1 : 1 < w.length
        · rw [if_pos (by rw [gt_iff, ofNat_eq]; omega)]
          cases w with
          | nil => simp at h1
          | cons c q => exact parse_K1 neg (c :: q) r pt _ hw hr hp (bad_iff c q rfl hd h1)
        · rw [if_neg (by rw [gt_iff, ofNat_eq]; omega)]
          exact parse_K1 neg w r pt false hw hr hp (by simp [hd]; omega)
      · have hd' : digs w = false := by simpa using hd
        rw [if_pos (by simp [hd'])]
        exact parse_K1 neg w r pt true hw hr hp (by simp [hd'])
    by_cases he : t = [46]
    · subst he
      rw [if_pos (by decide), show cut ([46] : List UInt8) 1 (Int.ofNat [(46 : UInt8)].length) = some [] from rfl, Option.bind_some, allDigits_eq (by simp), Option.bind_some, if_pos (by decide)]
      exact parse_K1 neg [] [] true true (by simp) (by simp) (by simp) (by simp [digs])
    · rw [if_neg (by rw [eqs_iff]; exact fun h => he h.symm)]
      rcases split_at 46 t with h46 | ⟨p, q, rfl, h46⟩
      · rw [index_no 46 t h46, if_neg (by decide), parseT_no h46]
        exact side t [] false ht (by simp) (fun _ => rfl)
      · simp at ht
        rw [index_yes 46 p q h46, if_pos (by rw [ge_iff]; omega), cut_app0, Option.bind_some, succ64 (by omega), cut_from (by simp), Option.bind_some, parseT_yes h46]
        have : (p ++ 46 :: q).drop (p.length + 1) = q := by simp
        rw [this]
        exact side p q true (by omega) (by omega) (by simp)
  unfold units_Parse_m0
  rw [cutPrefix_eq]
  cases s with
  | nil =>
    rw [if_neg (by simp), Option.bind_some]
    exact go false [] (by simp)
  | cons a q =>
    by_cases ha : a = 45
    · subst ha
      have : parseS (45 :: q) = parseT true q := by simp [parseS]
      rw [this, if_pos (by simp), Option.bind_some]
      exact go true q (by simp at hl; omega)
    · have : parseS (a :: q) = parseT false (a :: q) := by simp [parseS, ha]
      rw [this, if_neg (by simp; intro e; exact ha e.symm), Option.bind_some]
      exact go false (a :: q) hl
end Go.Proofs.Lx

end

section
/- Decimals shown, and said again, as lists of bytes. -/
namespace Go.Proofs.Lx
open Go Ev Sx Pl
set_option maxRecDepth 100000
abbrev dd (n : Nat) : List UInt8 := Lib.decDigits n
theorem dd_small {n : Nat} (h : n < 10) : dd n = [UInt8.ofNat (48 + n)] := by rw [dd, Lib.decDigits, dif_pos h]
theorem dd_big {n : Nat} (h : ¬ n < 10) : dd n = dd (n / 10) ++ [UInt8.ofNat (48 + n % 10)] := by
  conv => lhs; rw [dd, Lib.decDigits, dif_neg h]
theorem dd_ne (n : Nat) : dd n ≠ [] := by
  by_cases h : n < 10
  · rw [dd_small h]; simp
  · rw [dd_big h]; simp
theorem dd_len {n k : Nat} (hk : 1 ≤ k) (h : n < 10 ^ k) : (dd n).length ≤ k := by
  induction n using Nat.strongRecOn generalizing k with
  | ind n ih =>
    by_cases h1 : n < 10
    · rw [dd_small h1]
      exact hk
    · rw [dd_big h1]
      obtain ⟨j, rfl⟩ : ∃ j, k = j + 2 := ⟨k - 2, by
        have : k ≠ 1 := fun e => by subst e; omega
        omega⟩
      have := ih (n / 10) (by omega) (k := j + 1) (by omega) (by rw [Nat.pow_succ] at h; omega)
      simp
      omega
/-- just k digits -/
def fx : Nat → Nat → List UInt8
  | 0, _ => []
  | k + 1, m => fx k (m / 10) ++ [UInt8.ofNat (48 + m % 10)]
theorem fx_len : ∀ k m, (fx k m).length = k
  | 0, _ => rfl
  | k + 1, m => by rw [fx, List.length_append, fx_len k]; rfl
theorem fx_zero : ∀ k, fx k 0 = List.replicate k 48
  | 0 => rfl
  | k + 1 => by
    rw [fx, Nat.zero_div, fx_zero k, List.replicate_succ']
    rfl
theorem pad_fx : ∀ (k m : Nat), 1 ≤ k → m < 10 ^ k → List.replicate (k - (dd m).length) 48 ++ dd m = fx k m
  | 0, _, h, _ => by omega
  | k + 1, m, _, h => by
    by_cases h1 : m < 10
    · rw [dd_small h1, fx, Nat.div_eq_of_lt h1, fx_zero, Nat.mod_eq_of_lt h1]
      rfl
    · have hk : 1 ≤ k := by
        rcases Nat.eq_zero_or_pos k with e | e
        · subst e; simp at h; omega
        · exact e
      have ih := pad_fx k (m / 10) hk (by rw [Nat.pow_succ] at h; omega)
      rw [dd_big h1, fx, ← ih, List.length_append, List.append_assoc]
      congr 2
      show k + 1 - ((dd (m / 10)).length + 1) = _
      omega
end Go.Proofs.Lx

end

section
/- What is shown is said; what is said is shown as it: on bytes. -/
namespace Go.Proofs.Lx
open Go Ev Sx Pl
set_option maxRecDepth 100000
/-- a decimal that is right: its sign, its digits as a number, how many are behind the point -/
structure RtD (d : Int × Int) (sg : Bool) (n D : Nat) : Prop where
  e1 : d.1 = if sg then -(n : Int) else (n : Int)
  e2 : d.2 = (D : Int)
  nz : sg = true → n ≠ 0
  le : n ≤ 1000000000000
  d6 : D ≤ 6
  tz : D ≠ 0 → n % 10 ≠ 0
/-- how it is shown -/
def shw (sg : Bool) (n D : Nat) : List UInt8 := (if sg then [45] else []) ++ dd (n / 10 ^ D) ++ (if D = 0 then [] else 46 :: fx D (n % 10 ^ D))
end Go.Proofs.Lx

end

section
/- What the program's functions for decimals give. -/
namespace Go.Proofs.Lx
open Go Ev Sx Pl
set_option maxRecDepth 100000
theorem qnat {i d : Nat} (hi : i < 4611686018427387904) : quo .i64 (i : Int) (d : Int) = ((i / d : Nat) : Int) := by
  unfold quo
  have e : ((i : Int)).tdiv (d : Int) = ((i / d : Nat) : Int) := rfl
  have h := Nat.div_le_self i d
  rw [e]
  generalize i / d = q at h ⊢
  exact w64 (by omega) (by omega)
theorem rnat {i d : Nat} : rem (i : Int) (d : Int) = ((i % d : Nat) : Int) := rfl
theorem power_eq : ∀ {D : Nat}, D ≤ 6 → units_power ((D : Int), ()) = some (((10 ^ D : Nat) : Int), ())
  | 0, _ => by kernel_rfl
  | 1, _ => by kernel_rfl
  | 2, _ => by kernel_rfl
  | 3, _ => by kernel_rfl
  | 4, _ => by kernel_rfl
  | 5, _ => by kernel_rfl
  | 6, _ => by kernel_rfl
  | _ + 7, h => by omega
theorem repeat_eq : ∀ {k : Nat}, k ≤ 7 → strings_Repeat ([48], (k : Int), ()) = some (List.replicate k 48, ())
  | 0, _ => by kernel_rfl
  | 1, _ => by kernel_rfl
  | 2, _ => by kernel_rfl
  | 3, _ => by kernel_rfl
  | 4, _ => by kernel_rfl
  | 5, _ => by kernel_rfl
  | 6, _ => by kernel_rfl
  | 7, _ => by kernel_rfl
  | _ + 8, h => by omega
theorem fint_eq {n : Nat} (h : n ≤ 1000000000000) : strconv_FormatInt ((n : Int), 10, ()) = some (dd n, ()) := by
  show (if (-9223372036854775808 ≤ (n : Int) ∧ (n : Int) ≤ 9223372036854775807) ∧ (10 : Int) = 10 then some (itF (n : Int), ()) else none) = _
  rw [if_pos ⟨⟨by omega, by omega⟩, rfl⟩, itF, if_neg (by omega), Int.toNat_natCast, dF_eq 19 n (by omega)]
theorem RtD.right {d : Int × Int} {sg : Bool} {n D : Nat} (h : RtD d sg n D) : units_Right (d, ()) = some (true, ()) := by
  obtain ⟨x, y⟩ := d
  have e1 : x = if sg then -(n : Int) else (n : Int) := h.e1
  have e2 : y = (D : Int) := h.e2
  have hle := h.le
  have h6 := h.d6
  show units_Right_m0 (x, y) = _
  unfold units_Right_m0
  dsimp only
  have b1 : -1000000000000 ≤ x ∧ x ≤ 1000000000000 := by
    rw [e1]
    split <;> omega
  rw [if_pos (ge_iff.2 b1.1), if_pos (le_iff.2 b1.2), if_pos (by rw [le_iff]; omega)]
  by_cases h0 : D = 0
  · rw [if_pos (by rw [eqi_iff]; omega)]
  · rw [if_neg (by rw [eqi_iff]; omega)]
    have hz := h.tz h0
    have : nei (rem x 10) 0 = true := by
      rw [nei_iff]
      unfold rem
      rw [e1]
      cases sg with
      | true =>
        rw [if_pos rfl, Int.neg_tmod]
        show -((n % 10 : Nat) : Int) ≠ 0
        omega
      | false =>
        show ((n % 10 : Nat) : Int) ≠ 0
        omega
    rw [this]
theorem show_K1 {sign : List UInt8} {n D : Nat} {d : Int × Int} (he : d.2 = (D : Int)) (hle : n ≤ 1000000000000) (h6 : D ≤ 6) (hs : sign.length ≤ 1) :
    units_Show_K1 (n : Int) sign d = some (sign ++ dd (n / 10 ^ D) ++ (if D = 0 then [] else 46 :: fx D (n % 10 ^ D)), ()) := by
  obtain ⟨x, y⟩ := d
  have he : y = (D : Int) := he
  subst he
  unfold units_Show_K1 units_Show_m1
  dsimp only
  have ec : cvt .i64 (D : Int) = (D : Int) := cvt64 (by omega) (by omega)
  have hp : 0 < 10 ^ D := Nat.pow_pos (by omega)
  have hq : n / 10 ^ D ≤ 1000000000000 := Nat.le_trans (Nat.div_le_self _ _) hle
  have hm : n % 10 ^ D ≤ 1000000000000 := Nat.le_trans (Nat.mod_le _ _) hle
  have hlq : (dd (n / 10 ^ D)).length ≤ 13 := dd_len (by omega) (by omega)
  have hml : n % 10 ^ D < 10 ^ D := Nat.mod_lt _ hp
  rw [ec, power_eq h6, Option.bind_some]
  dsimp only
  rw [need_t (by rw [nei_iff]; omega), qnat (by omega), fint_eq hq, Option.bind_some]
  dsimp only
  rw [need_small (by omega)]
  by_cases h0 : D = 0
  · rw [if_pos (by rw [eqi_iff]; omega), if_pos h0, List.append_nil]
  · have hl : (dd (n % 10 ^ D)).length ≤ D := dd_len (by omega) hml
    rw [if_neg (by rw [eqi_iff]; omega), if_neg h0, need_t (by rw [nei_iff]; omega), rnat, fint_eq hm, Option.bind_some]
    dsimp only
    have es : sub .i64 (D : Int) (Int.ofNat (dd (n % 10 ^ D)).length) = ((D - (dd (n % 10 ^ D)).length : Nat) : Int) := by
      rw [ofNat_eq, sub64 (by omega) (by omega)]
      omega
    rw [need_small (by simp; omega), es, repeat_eq (by omega), Option.bind_some]
    dsimp only
    rw [need_small (by simp; omega), need_small (by simp; omega), ← pad_fx D _ (by omega) hml]
    simp
theorem show_eq {d : Int × Int} {sg : Bool} {n D : Nat} (h : RtD d sg n D) : units_Show (d, ()) = some (shw sg n D, ()) := by
  show units_Show_m0 units_Show_K1 d = _
  unfold units_Show_m0 shw
  have hle := h.le
  rw [h.right, Option.bind_some, if_neg (by decide)]
  cases sg with
  | true =>
    have e1 : d.1 = -(n : Int) := h.e1
    have hn := h.nz rfl
    have en : neg .i64 d.1 = (n : Int) := by rw [e1, neg64 (by omega) (by omega)]; omega
    rw [if_pos (by rw [lt_iff]; omega), en, show_K1 h.e2 h.le h.d6 (by decide)]
    rfl
  | false =>
    have e1 : d.1 = (n : Int) := h.e1
    rw [if_neg (by rw [lt_iff]; omega), e1, show_K1 h.e2 h.le h.d6 (by decide)]
    rfl
theorem rtd_of {x : Int} {D : Nat} (hx : -1000000000000 ≤ x ∧ x ≤ 1000000000000) (h6 : D ≤ 6) (hz : D ≠ 0 → x.tmod 10 ≠ 0) : ∃ sg n, RtD (x, (D : Int)) sg n D := by
  rcases Int.lt_or_le x 0 with h | h
  · obtain ⟨n, rfl⟩ : ∃ n : Nat, x = -(n : Int) := ⟨x.natAbs, by omega⟩
    refine ⟨true, n, rfl, rfl, fun _ => by omega, by omega, h6, fun h0 e => hz h0 ?_⟩
    rw [Int.neg_tmod]
    show -((n % 10 : Nat) : Int) = 0
    omega
  · obtain ⟨n, rfl⟩ := Int.eq_ofNat_of_zero_le h
    refine ⟨false, n, rfl, rfl, fun e => (by cases e), by omega, h6, fun h0 e => hz h0 ?_⟩
    show ((n % 10 : Nat) : Int) = 0
    omega
end Go.Proofs.Lx

end

section
/- UnitsBack, as a plain law. -/
namespace Go.Proofs.Lx
open Go Ev Sx Pl
set_option maxRecDepth 100000
theorem awake12 : law12_awake () = some (true, ()) := by kernel_rfl
/-- are two decimals the same, as the program compares them -/
theorem same_dec (d : Int × Int) : (eqi d.1 d.1 && (eqi d.2 d.2 && true)) = true := by
  rw [eqi_iff.2 rfl, eqi_iff.2 rfl]
  rfl
theorem RtD.eq {d : Int × Int} {sg : Bool} {n D : Nat} (h : RtD d sg n D) : (if sg then -(n : Int) else (n : Int), (D : Int)) = d := by
  obtain ⟨x, y⟩ := d
  have e1 : x = if sg then -(n : Int) else (n : Int) := h.e1
  have e2 : y = (D : Int) := h.e2
  rw [e1, e2]
theorem ok8u {x : Int} (h : (Lit.int .u8 x).wf = true) : 0 ≤ x ∧ x ≤ 255 := by
  simp [Lit.wf] at h
  have e1 : IntKind.u8.min = 0 := rfl
  have e2 : IntKind.u8.max = 255 := rfl
  omega
end Go.Proofs.Lx

end

section
/- What the rows' lists of variables give: what the library's contracts ask. -/
namespace Go.Proofs.Lx
open Go Go.RowKit Go.ChangeShapes Go.Proofs Go.Proofs.YtchfbdfmphoebaaDoor
theorem gP : Tryd.prog.globalNamed p10 = some 2 := by kernel_rfl
theorem heap_var {W W' : World} {n : String} {g : Nat} {cs : Array Value} (hg : Tryd.prog.globalNamed n = some g) (h : W.var? Tryd.prog n = some cs) (hB : Below W.heap.size W W') : W'.var? Tryd.prog n = some cs := by
  unfold World.var? at h ⊢
  rw [hg] at h ⊢
  simp only [Option.bind_some] at h ⊢
  have hlt : g < W.heap.size := by
    rcases Nat.lt_or_ge g W.heap.size with h' | h'
    · exact h'
    · simp [Array.getElem?_eq_none h'] at h
  rw [hB.block g hlt]
  exact h
theorem I0_laid {W : World} (hL : laidMet Tryd.prog Rows.unitsBackRow.laid W) : ∀ W', Below W.heap.size W W' → I0 W' := by
  intro W' hB
  have t2 : laidMet Tryd.prog ((p10, Lib.tabData .u64 Lib.pow10Tab) :: (Rows.unitsBackRow.laid.drop 3)) W := hL.tail.tail
  exact heap_var gP (Lib.tabIs_of_head gP (t := 142) (by kernel_rfl) Tryd.underlying142 Tryd.underlying23 (by kernel_rfl) (by kernel_rfl) t2) hB
end Go.Proofs.Lx

end

section
/- Fractions of decimals: both ways to reckon them give the same. Numbers alone. -/
namespace Go.Proofs.Lx
/-- without noughts at the end, k of them at most -/
def stN : Nat → Nat → Nat × Nat
  | 0, v => (0, v)
  | k + 1, v => if v % 10 = 0 then stN k (v / 10) else (k + 1, v)
theorem stN_pow (k : Nat) : ∀ (i W : Nat), stN (k + i) (W * 10 ^ i) = stN k W
  | 0, W => by rw [Nat.pow_zero, Nat.mul_one]; rfl
  | i + 1, W => by
    show stN ((k + i) + 1) (W * 10 ^ (i + 1)) = _
    have e : W * 10 ^ (i + 1) = (W * 10 ^ i) * 10 := by rw [Nat.pow_succ, Nat.mul_assoc]
    rw [stN, e, if_pos (by omega), Nat.mul_div_cancel _ (by omega), stN_pow k i W]
theorem stN_spec : ∀ (k v : Nat), (stN k v).1 ≤ k ∧ v = (stN k v).2 * 10 ^ (k - (stN k v).1)
  | 0, v => ⟨Nat.le_refl _, by show v = v * 10 ^ (0 - 0); simp⟩
  | k + 1, v => by
    rw [stN]
    by_cases h : v % 10 = 0
    · rw [if_pos h]
      obtain ⟨h1, h2⟩ := stN_spec k (v / 10)
      refine ⟨by omega, ?_⟩
      have e : k + 1 - (stN k (v / 10)).1 = (k - (stN k (v / 10)).1) + 1 := by omega
      rw [e, Nat.pow_succ, ← Nat.mul_assoc, ← h2]
      omega
    · rw [if_neg h]
      refine ⟨Nat.le_refl _, ?_⟩
      show v = v * 10 ^ (k + 1 - (k + 1))
      simp
def okN (p : Nat × Nat) : Option (Nat × Nat) := if p.2 ≤ 1000000000000 then some (p.2, p.1) else none
/-- a * 10^6 / b, as a decimal -/
def timesN (a b : Nat) : Option (Nat × Nat) := if a * 1000000 % b = 0 then okN (stN 6 (a * 1000000 / b)) else none
/-- the document's search for the number of digits -/
def refL (num : Nat) : Nat → Nat → Nat → Nat → Option (Nat × Nat)
  | 0, _, _, _ => none
  | f + 1, k, nn, below => if below = 1 then (if 4000000000000000000 / num < nn then none else okN (stN k (nn * num)))
    else if 4000000000000000000 / (10 / Nat.gcd below 10) < nn then none else refL num f (k + 1) (nn * (10 / Nat.gcd below 10)) (below / Nat.gcd below 10)
theorem big_mul {c n x : Nat} (hn : 0 < n) (h : c / n < x) : c < x * n := by
  have := Nat.lt_mul_of_div_lt h hn
  first | exact this | (rw [Nat.mul_comm]; exact this)
theorem cop_one {x y : Nat} (h : y ∣ x) (hc : Nat.Coprime x y) : y = 1 := by
  have h2 : y ∣ Nat.gcd x y := Nat.dvd_gcd h (Nat.dvd_refl _)
  rw [hc] at h2
  exact Nat.dvd_one.1 h2
theorem refL_eq {num a b : Nat} (hnum : 0 < num) (hb : 0 < b) : ∀ (f k nn below : Nat), k + f = 7 → 0 < below → 0 < nn → Nat.Coprime (nn * num) below → nn * num * b = a * 10 ^ k * below → 0 < f → refL num f k nn below = timesN a b
  | 0, _, _, _, _, _, _, _, _, hf => by omega
  | f + 1, k, nn, below, hk, hbel, hnn, hco, he, _ => by
    rw [refL]
    by_cases h1 : below = 1
    · subst h1
      rw [if_pos rfl, Nat.mul_one] at *
      have hk6 : k ≤ 6 := by omega
      have e6 : a * 1000000 = nn * num * 10 ^ (6 - k) * b := by
        have : (1000000 : Nat) = 10 ^ k * 10 ^ (6 - k) := by rw [← Nat.pow_add, show k + (6 - k) = 6 by omega]
        rw [this, ← Nat.mul_assoc, ← he]
        ac_rfl
      have hst : stN 6 (a * 1000000 / b) = stN k (nn * num) := by
        rw [e6, Nat.mul_div_cancel _ hb]
        have := stN_pow k (6 - k) (nn * num)
        rw [show k + (6 - k) = 6 by omega] at this
        exact this
      have ht : timesN a b = okN (stN k (nn * num)) := by
        unfold timesN
        rw [if_pos (by rw [e6]; exact Nat.mul_mod_left _ _), hst]
      rw [ht]
      by_cases h2 : 4000000000000000000 / num < nn
      · rw [if_pos h2]
        have hbig := big_mul hnum h2
        obtain ⟨g1, g2⟩ := stN_spec k (nn * num)
        unfold okN
        rw [if_neg]
        intro hle
        have hp : 10 ^ (k - (stN k (nn * num)).1) ≤ 10 ^ 6 := Nat.pow_le_pow_right (by omega) (by omega)
        have := Nat.mul_le_mul hle hp
        rw [← g2] at this
        omega
      · rw [if_neg h2]
    · rw [if_neg h1]
      have hg : 0 < Nat.gcd below 10 := Nat.gcd_pos_of_pos_left _ hbel
      obtain ⟨c, hc⟩ := Nat.gcd_dvd_left below 10
      obtain ⟨d, hd⟩ := Nat.gcd_dvd_right below 10
      have hcd : below / Nat.gcd below 10 = c := Nat.div_eq_of_eq_mul_right hg hc
      have hdd : 10 / Nat.gcd below 10 = d := Nat.div_eq_of_eq_mul_right hg hd
      rw [hcd, hdd]
      -- if it is a decimal, it has more digits than k
      have key : ∀ j w : Nat, j ≤ 6 → a * 1000000 = w * 10 ^ (6 - j) * b → nn ≤ w := by
        intro j w hj hw
        have e1 : a * 10 ^ j = w * b := by
          have h6 : (1000000 : Nat) = 10 ^ j * 10 ^ (6 - j) := by rw [← Nat.pow_add, show j + (6 - j) = 6 by omega]
          have hp : 0 < 10 ^ (6 - j) := Nat.pow_pos (by omega)
          rw [h6] at hw
          have : a * 10 ^ j * 10 ^ (6 - j) = w * b * 10 ^ (6 - j) := by
            rw [Nat.mul_assoc, hw]
            ac_rfl
          exact Nat.eq_of_mul_eq_mul_right hp this
        by_cases hjk : j ≤ k
        · exfalso
          -- then it is whole at k
          have e2 : a * 10 ^ k = w * 10 ^ (k - j) * b := by
            have hp : 10 ^ k = 10 ^ j * 10 ^ (k - j) := by rw [← Nat.pow_add, show j + (k - j) = k by omega]
            rw [hp, ← Nat.mul_assoc, e1]
            ac_rfl
          rw [e2] at he
          have e3 : nn * num = w * 10 ^ (k - j) * below := by
            have : nn * num * b = w * 10 ^ (k - j) * below * b := by rw [he]; ac_rfl
            exact Nat.eq_of_mul_eq_mul_right hb this
          have hdv : below ∣ nn * num := ⟨_, by rw [e3, Nat.mul_comm]⟩
          exact h1 (cop_one hdv hco)
        · have e3 : nn * num * 10 ^ (j - k) = w * below := by
            have : nn * num * 10 ^ (j - k) * b = w * below * b := by
              have hp : 10 ^ j = 10 ^ k * 10 ^ (j - k) := by rw [← Nat.pow_add, show k + (j - k) = j by omega]
              rw [hp] at e1
              have e4 : nn * num * 10 ^ (j - k) * b = nn * num * b * 10 ^ (j - k) := by ac_rfl
              have e5 : a * 10 ^ k * below * 10 ^ (j - k) = a * (10 ^ k * 10 ^ (j - k)) * below := by ac_rfl
              rw [e4, he, e5, e1]
              ac_rfl
            exact Nat.eq_of_mul_eq_mul_right hb this
          have hdv : below ∣ 10 ^ (j - k) := by
            have : below ∣ nn * num * 10 ^ (j - k) := ⟨w, by rw [e3, Nat.mul_comm]⟩
            exact (Nat.Coprime.symm hco).dvd_of_dvd_mul_left this
          obtain ⟨t, ht⟩ := hdv
          have hw2 : w = nn * num * t := by
            rw [ht] at e3
            have : w * below = nn * num * t * below := by rw [← e3]; ac_rfl
            exact Nat.eq_of_mul_eq_mul_right hbel this
          have htp : 0 < t := by
            rcases Nat.eq_zero_or_pos t with e | e
            · subst e
              have : 0 < 10 ^ (j - k) := Nat.pow_pos (by omega)
              omega
            · exact e
          rw [hw2, Nat.mul_assoc]
          exact Nat.le_mul_of_pos_right _ (Nat.mul_pos hnum htp)
      by_cases h2 : 4000000000000000000 / d < nn
      · rw [if_pos h2]
        have hd10 : d ≤ 10 := Nat.le_of_dvd (by omega) ⟨_, by rw [Nat.mul_comm]; exact hd⟩
        have hdp : 0 < d := by
          rcases Nat.eq_zero_or_pos d with e | e
          · subst e; omega
          · exact e
        have hbig := big_mul hdp h2
        have hnn17 : 1000000000000 < nn := by
          have : nn * d ≤ nn * 10 := Nat.mul_le_mul_left _ hd10
          omega
        unfold timesN
        by_cases hdiv : a * 1000000 % b = 0
        · rw [if_pos hdiv]
          obtain ⟨g1, g2⟩ := stN_spec 6 (a * 1000000 / b)
          have hq : a * 1000000 = a * 1000000 / b * b := (Nat.div_mul_cancel (Nat.dvd_of_mod_eq_zero hdiv)).symm
          have := key (stN 6 (a * 1000000 / b)).1 (stN 6 (a * 1000000 / b)).2 g1 (by rw [← g2]; exact hq)
          unfold okN
          rw [if_neg (by omega)]
        · rw [if_neg hdiv]
      · rw [if_neg h2]
        have hcp : 0 < c := by
          rcases Nat.eq_zero_or_pos c with e | e
          · subst e; omega
          · exact e
        have hdp : 0 < d := by
          rcases Nat.eq_zero_or_pos d with e | e
          · subst e; omega
          · exact e
        rcases Nat.eq_zero_or_pos f with hf0 | hf0
        · subst hf0
          -- k = 6: it is none
          have hk6 : k = 6 := by omega
          subst hk6
          show none = timesN a b
          unfold timesN
          rw [if_neg]
          intro hdiv
          have hq : a * 1000000 = a * 1000000 / b * b := (Nat.div_mul_cancel (Nat.dvd_of_mod_eq_zero hdiv)).symm
          have he' : nn * num * b = a * 1000000 * below := he
          rw [hq] at he'
          have e3 : nn * num = a * 1000000 / b * below := by
            have : nn * num * b = a * 1000000 / b * below * b := by rw [he']; ac_rfl
            exact Nat.eq_of_mul_eq_mul_right hb this
          have hdv : below ∣ nn * num := ⟨_, by rw [e3, Nat.mul_comm]⟩
          exact h1 (cop_one hdv hco)
        · refine refL_eq hnum hb f (k + 1) (nn * d) c (by omega) hcp (Nat.mul_pos hnn hdp) ?_ ?_ hf0
          · have hcd1 : Nat.Coprime d c := by
              have := Nat.gcd_div_gcd_div_gcd_of_pos_left (n := below) (m := 10) hbel
              rw [hcd, hdd] at this
              exact (Nat.Coprime.symm this)
            have hnc : Nat.Coprime (nn * num) c := Nat.Coprime.coprime_dvd_right ⟨_, by rw [Nat.mul_comm]; exact hc⟩ hco
            rw [show nn * d * num = nn * num * d by ac_rfl]
            exact Nat.Coprime.mul_left hnc hcd1
          · rw [show nn * d * num * b = nn * num * b * d by ac_rfl, he, Nat.pow_succ]
            have e7 : a * 10 ^ k * below * d = a * 10 ^ k * (Nat.gcd below 10 * c) * d := by rw [← hc]
            have e8 : a * 10 ^ k * (Nat.gcd below 10 * c) * d = a * 10 ^ k * (Nat.gcd below 10 * d) * c := by ac_rfl
            rw [e7, e8, ← hd]
            ac_rfl
theorem gcd_parts {x y : Nat} (hx : 0 < x) : ∃ g x' y', 0 < g ∧ Nat.gcd x y = g ∧ x = x' * g ∧ y = y' * g ∧ x / Nat.gcd x y = x' ∧ y / Nat.gcd x y = y' ∧ Nat.Coprime x' y' := by
  have hg : 0 < Nat.gcd x y := Nat.gcd_pos_of_pos_left _ hx
  have h := Nat.gcd_div_gcd_div_gcd_of_pos_left (n := x) (m := y) hx
  exact ⟨Nat.gcd x y, x / Nat.gcd x y, y / Nat.gcd x y, hg, rfl, (Nat.div_mul_cancel (Nat.gcd_dvd_left _ _)).symm, (Nat.div_mul_cancel (Nat.gcd_dvd_right _ _)).symm, rfl, rfl, h⟩
/-- a fraction that can't be made smaller -/
theorem red_eq {n num den ten : Nat} (hn : 0 < n) (hnum : 0 < num) (hden : 0 < den) (hten : 0 < ten) :
    refL (num / Nat.gcd num (den / Nat.gcd n den) / Nat.gcd (num / Nat.gcd num (den / Nat.gcd n den)) ten) 7 0
      (n / Nat.gcd n den / Nat.gcd (n / Nat.gcd n den) (ten / Nat.gcd (num / Nat.gcd num (den / Nat.gcd n den)) ten))
      (den / Nat.gcd n den / Nat.gcd num (den / Nat.gcd n den) * (ten / Nat.gcd (num / Nat.gcd num (den / Nat.gcd n den)) ten / Nat.gcd (n / Nat.gcd n den) (ten / Nat.gcd (num / Nat.gcd num (den / Nat.gcd n den)) ten))) = timesN (n * num) (den * ten) := by
  obtain ⟨g1, n1, d1, p1, _, a1, b1, c1, e1, f1⟩ := gcd_parts (y := den) hn
  rw [c1, e1]
  obtain ⟨g2, m2, d2, p2, _, a2, b2, c2, e2, f2⟩ := gcd_parts (y := d1) hnum
  rw [c2, e2]
  have hm2 : 0 < m2 := by
    rcases Nat.eq_zero_or_pos m2 with e | e
    · subst e; omega
    · exact e
  obtain ⟨g3, m3, t3, p3, _, a3, b3, c3, e3, f3⟩ := gcd_parts (y := ten) hm2
  rw [c3, e3]
  have hn1 : 0 < n1 := by
    rcases Nat.eq_zero_or_pos n1 with e | e
    · subst e; omega
    · exact e
  obtain ⟨g4, n4, t4, p4, _, a4, b4, c4, e4, f4⟩ := gcd_parts (y := t3) hn1
  rw [c4, e4]
  have pos : ∀ {x y z : Nat}, 0 < x → x = y * z → 0 < y := by
    intro x y z hx h
    rcases Nat.eq_zero_or_pos y with e | e
    · subst e; omega
    · exact e
  have hn4 : 0 < n4 := pos hn1 a4
  have hm3 : 0 < m3 := pos hm2 a3
  have hd1 : 0 < d1 := pos hden b1
  have hd2 : 0 < d2 := pos hd1 b2
  have ht3 : 0 < t3 := pos hten b3
  have ht4 : 0 < t4 := pos ht3 b4
  refine refL_eq hm3 (Nat.mul_pos hden hten) 7 0 n4 (d2 * t4) rfl (Nat.mul_pos hd2 ht4) hn4 ?_ ?_ (by decide)
  · have q1 : Nat.Coprime n4 d2 := Nat.Coprime.coprime_dvd_left ⟨g4, a4⟩ (Nat.Coprime.coprime_dvd_right ⟨g2, b2⟩ f1)
    have q2 : Nat.Coprime m3 d2 := Nat.Coprime.coprime_dvd_left ⟨g3, a3⟩ f2
    have q3 : Nat.Coprime m3 t4 := Nat.Coprime.coprime_dvd_right ⟨g4, b4⟩ f3
    exact Nat.Coprime.mul_right (Nat.Coprime.mul_left q1 q2) (Nat.Coprime.mul_left f4 q3)
  · rw [a1, a2, b1, b2, b3, b4, a3, a4, Nat.pow_zero, Nat.mul_one]
    ac_rfl
end Go.Proofs.Lx

end

section
/- Plain laws: products of two words, quotients of two words by a small number. -/
namespace Go.Proofs.Lx
open Go Ev Sx Pl
set_option maxRecDepth 100000
theorem uwM (x : Int) : IntKind.u64.wrap x = x % 18446744073709551616 := by
  simp only [IntKind.wrap, IntKind.signed, IntKind.bits]
  simp
theorem uwB {x : Int} (h1 : 0 ≤ x) (h2 : x < 18446744073709551616) : IntKind.u64.wrap x = x := by rw [uwM]; omega
theorem band_lo {x : Int} (h1 : 0 ≤ x) (h2 : x < 18446744073709551616) : band .u64 x 4294967295 = x % 4294967296 := by
  obtain ⟨n, rfl⟩ := Int.eq_ofNat_of_zero_le h1
  have e : (BitVec.ofInt 64 (n : Int) &&& BitVec.ofInt 64 4294967295).toNat = n % 4294967296 := by
    rw [BitVec.toNat_and]
    have a1 : (BitVec.ofInt 64 (n : Int)).toNat = n := by simp [BitVec.toNat_ofInt]; omega
    have a2 : (BitVec.ofInt 64 4294967295).toNat = 2 ^ 32 - 1 := by decide
    rw [a1, a2, Nat.and_two_pow_sub_one_eq_mod]
  show IntKind.u64.wrap ((BitVec.ofInt 64 (n : Int) &&& BitVec.ofInt 64 4294967295).toNat : Int) = _
  rw [e, uwB (by omega) (by omega)]
  omega
theorem shr_k {x : Int} (k : Nat) (hk : k ≤ 64) : shr .u64 x (k : Int) = x / 2 ^ k := by
  unfold shr
  simp only [IntKind.bits, Int.toNat_natCast, Nat.min_eq_left hk]
  rw [Int.fdiv_eq_ediv_of_nonneg _ (Int.le_of_lt (Int.pow_pos (by decide)))]
theorem shr_32 {x : Int} (_ : 0 ≤ x) : shr .u64 x 32 = x / 4294967296 := shr_k 32 (by decide)
theorem mul_b {a b : Int} (A B C : Int) (hC : A * B = C) (ha : 0 ≤ a ∧ a ≤ A) (hb : 0 ≤ b ∧ b ≤ B) : 0 ≤ a * b ∧ a * b ≤ C := by
  subst hC
  exact ⟨Int.mul_nonneg ha.1 hb.1, Int.mul_le_mul ha.2 hb.2 hb.1 (by omega)⟩
theorem mul64_eq {x y : Int} (hx : 0 ≤ x) (hx' : x < 18446744073709551616) (hy : 0 ≤ y) (hy' : y < 18446744073709551616) :
    bits_Mul64 (x, y, ()) = some (x * y / 18446744073709551616, x * y % 18446744073709551616, ()) := by
  show bits_Mul64_m0 x y = _
  unfold bits_Mul64_m0
  simp only [band_lo hx hx', band_lo hy hy', shr_32 hx, shr_32 hy]
  have bA := mul_b (a := x % 4294967296) (b := y % 4294967296) 4294967295 4294967295 18446744065119617025 (by decide) (by omega) (by omega)
  have bB := mul_b (a := x / 4294967296) (b := y % 4294967296) 4294967295 4294967295 18446744065119617025 (by decide) (by omega) (by omega)
  have bC := mul_b (a := x % 4294967296) (b := y / 4294967296) 4294967295 4294967295 18446744065119617025 (by decide) (by omega) (by omega)
  have bD := mul_b (a := x / 4294967296) (b := y / 4294967296) 4294967295 4294967295 18446744065119617025 (by decide) (by omega) (by omega)
  have hxy : x * y = (x / 4294967296 * (y / 4294967296)) * 18446744073709551616 + (x / 4294967296 * (y % 4294967296) + x % 4294967296 * (y / 4294967296)) * 4294967296 + x % 4294967296 * (y % 4294967296) := by
    have e1 : x = 4294967296 * (x / 4294967296) + x % 4294967296 := by omega
    have e2 : y = 4294967296 * (y / 4294967296) + y % 4294967296 := by omega
    generalize x / 4294967296 = x1 at *
    generalize x % 4294967296 = x0 at *
    generalize y / 4294967296 = y1 at *
    generalize y % 4294967296 = y0 at *
    subst e1 e2
    grind
  unfold add mul
  rw [hxy]
  generalize x % 4294967296 * (y % 4294967296) = A at *
  generalize x / 4294967296 * (y % 4294967296) = B at *
  generalize x % 4294967296 * (y / 4294967296) = C at *
  generalize x / 4294967296 * (y / 4294967296) = D at *
  rw [uwB (x := A) (by omega) (by omega), uwB (x := B) (by omega) (by omega), uwB (x := C) (by omega) (by omega), uwB (x := D) (by omega) (by omega)]
  rw [shr_32 (x := A) (by omega)]
  rw [uwB (x := B + A / 4294967296) (by omega) (by omega), band_lo (by omega) (by omega), shr_32 (by omega)]
  rw [uwB (x := (B + A / 4294967296) % 4294967296 + C) (by omega) (by omega), shr_32 (by omega)]
  rw [uwB (x := D + (B + A / 4294967296) / 4294967296) (by omega) (by omega)]
  rw [uwB (x := D + (B + A / 4294967296) / 4294967296 + _) (by omega) (by omega), uwM]
  refine congrArg some (Prod.ext ?_ rfl)
  show @Eq Int _ _
  dsimp only
  omega
def len8 : List UInt8 := [0, 1, 2, 2, 3, 3, 3, 3, 4, 4, 4, 4, 4, 4, 4, 4, 5, 5, 5, 5, 5, 5, 5, 5, 5, 5, 5, 5, 5, 5, 5, 5, 6, 6, 6, 6, 6, 6, 6, 6, 6, 6, 6, 6, 6, 6, 6, 6, 6, 6, 6, 6, 6, 6, 6, 6, 6, 6, 6, 6, 6, 6, 6, 6, 7, 7, 7, 7, 7, 7, 7, 7, 7, 7, 7, 7, 7, 7, 7, 7, 7, 7, 7, 7, 7, 7, 7, 7, 7, 7, 7, 7, 7, 7, 7, 7, 7, 7, 7, 7, 7, 7, 7, 7, 7, 7, 7, 7, 7, 7, 7, 7, 7, 7, 7, 7, 7, 7, 7, 7, 7, 7, 7, 7, 7, 7, 7, 7, 8, 8, 8, 8, 8, 8, 8, 8, 8, 8, 8, 8, 8, 8, 8, 8, 8, 8, 8, 8, 8, 8, 8, 8, 8, 8, 8, 8, 8, 8, 8, 8, 8, 8, 8, 8, 8, 8, 8, 8, 8, 8, 8, 8, 8, 8, 8, 8, 8, 8, 8, 8, 8, 8, 8, 8, 8, 8, 8, 8, 8, 8, 8, 8, 8, 8, 8, 8, 8, 8, 8, 8, 8, 8, 8, 8, 8, 8, 8, 8, 8, 8, 8, 8, 8, 8, 8, 8, 8, 8, 8, 8, 8, 8, 8, 8, 8, 8, 8, 8, 8, 8, 8, 8, 8, 8, 8, 8, 8, 8, 8, 8, 8, 8, 8, 8, 8, 8, 8, 8, 8, 8, 8, 8, 8, 8, 8, 8]
set_option maxRecDepth 10000 in
theorem len8_spec : ∀ x : Fin 256, ∃ c, len8[x.val]? = some c ∧ c.toNat ≤ 8 ∧ x.val < 2 ^ c.toNat ∧ (x.val = 0 ∨ 2 ^ c.toNat ≤ 2 * x.val) := by
  have h : (List.finRange 256).all (fun x => match len8[x.val]? with | some c => decide (c.toNat ≤ 8 ∧ x.val < 2 ^ c.toNat ∧ (x.val = 0 ∨ 2 ^ c.toNat ≤ 2 * x.val)) | none => false) = true := by decide +kernel
  intro x
  have hx := List.all_eq_true.1 h x (List.mem_finRange x)
  split at hx
  · rename_i c hc
    exact ⟨c, hc, of_decide_eq_true hx⟩
  · cases hx
/-- the table's part of it -/
theorem tab_eq {x n : Int} (h1 : 0 ≤ x) (h2 : x < 256) (hn : 0 ≤ n) (hn' : n ≤ 56) : ∃ c : Nat, (Option.bind (at? len8 (cvt .u8 x)) fun (c : UInt8) => (some (Sx.sub .i64 64 (add .i64 n (cvt .i64 (Int.ofNat (UInt8.toNat c)))), ()) : Option (As [.int .i64]))) = some (64 - (n + c), ()) ∧ c ≤ 8 ∧ x < 2 ^ c ∧ (x = 0 ∨ (2 : Int) ^ c ≤ 2 * x) := by
  obtain ⟨m, rfl⟩ := Int.eq_ofNat_of_zero_le h1
  obtain ⟨c, h3, h4, h5, h6⟩ := len8_spec ⟨m, by omega⟩
  refine ⟨c.toNat, ?_, h4, ?_, ?_⟩
  · have e1 : cvt .u8 (m : Int) = m := wu8 (by omega) (by omega)
    have e2 : at? len8 (m : Int) = some c := at_get h3
    rw [e1, e2, Option.bind_some, ofNat_eq, cvt64 (by omega) (by omega), add64 (by omega) (by omega), sub64 (by omega) (by omega)]
  · have : ((m : Nat) : Int) < ((2 ^ c.toNat : Nat) : Int) := by exact_mod_cast h5
    simpa using this
  · rcases h6 with h6 | h6
    · left; simp at h6; omega
    · right
      have : ((2 ^ c.toNat : Nat) : Int) ≤ ((2 * m : Nat) : Int) := by exact_mod_cast h6
      simpa using this
theorem m61_eq {y : Int} (h1 : 1 ≤ y) (h2 : y < 4294967296) : ∃ n : Nat, bits_LeadingZeros64 (y, ()) = some (((64 - n : Nat) : Int), ()) ∧ n ≤ 32 ∧ y < 2 ^ n ∧ (2 : Int) ^ n ≤ 2 * y := by
  have e0 : ge y 4294967296 = false := decide_eq_false (by omega)
  show ∃ n : Nat, bits_LeadingZeros64_m0 y = _ ∧ _
  unfold bits_LeadingZeros64_m0
  simp only [e0, Bool.false_eq_true, if_false]
  have p8 : (2 : Int) ^ 8 = 256 := by decide
  have p16 : (2 : Int) ^ 16 = 65536 := by decide
  by_cases q1 : 65536 ≤ y
  · have e1 : ge y 65536 = true := decide_eq_true (by omega)
    have e2 : shr .u64 y 16 = y / 65536 := by have := shr_k (x := y) 16 (by decide); rw [p16] at this; exact this
    simp only [e1, if_true, e2]
    by_cases q2 : 256 ≤ y / 65536
    · have e4 : ge (y / 65536) 256 = true := decide_eq_true (by omega)
      have e5 : shr .u64 (y / 65536) 8 = y / 65536 / 256 := by have := shr_k (x := y / 65536) 8 (by decide); rw [p8] at this; exact this
      simp only [e4, if_true, e5]
      obtain ⟨c, h3, h4, h5, h6⟩ := tab_eq (x := y / 65536 / 256) (n := 24) (by omega) (by omega) (by omega) (by omega)
      refine ⟨24 + c, h3.trans (by congr 2; omega), by omega, ?_, ?_⟩
      · rw [Int.pow_add, show (2 : Int) ^ 24 = 16777216 by decide]; omega
      · rw [Int.pow_add, show (2 : Int) ^ 24 = 16777216 by decide]; omega
    · have e4 : ge (y / 65536) 256 = false := decide_eq_false (by omega)
      simp only [e4, Bool.false_eq_true, if_false]
      obtain ⟨c, h3, h4, h5, h6⟩ := tab_eq (x := y / 65536) (n := 16) (by omega) (by omega) (by omega) (by omega)
      refine ⟨16 + c, h3.trans (by congr 2; omega), by omega, ?_, ?_⟩
      · rw [Int.pow_add, p16]; omega
      · rw [Int.pow_add, p16]; omega
  · have e1 : ge y 65536 = false := decide_eq_false (by omega)
    simp only [e1, Bool.false_eq_true, if_false]
    by_cases q2 : 256 ≤ y
    · have e4 : ge y 256 = true := decide_eq_true (by omega)
      have e5 : shr .u64 y 8 = y / 256 := by have := shr_k (x := y) 8 (by decide); rw [p8] at this; exact this
      simp only [e4, if_true, e5]
      obtain ⟨c, h3, h4, h5, h6⟩ := tab_eq (x := y / 256) (n := 8) (by omega) (by omega) (by omega) (by omega)
      refine ⟨8 + c, h3.trans (by congr 2; omega), by omega, ?_, ?_⟩
      · rw [Int.pow_add, p8]; omega
      · rw [Int.pow_add, p8]; omega
    · have e4 : ge y 256 = false := decide_eq_false (by omega)
      simp only [e4, Bool.false_eq_true, if_false]
      obtain ⟨c, h3, h4, h5, h6⟩ := tab_eq (x := y) (n := 0) (by omega) (by omega) (by omega) (by omega)
      refine ⟨c, h3.trans (by congr 2; omega), by omega, h5, ?_⟩
      omega
theorem shl_k {x : Int} (k : Nat) (hk : k ≤ 64) : shl .u64 x (k : Int) = (x * 2 ^ k) % 18446744073709551616 := by
  unfold shl
  simp only [IntKind.bits, Int.toNat_natCast, Nat.min_eq_left hk]
  exact uwM _
theorem cvtu (x : Int) : cvt .u64 x = x % 18446744073709551616 := uwM x
theorem ofInt_nat {N : Nat} (h : (N : Int) < 18446744073709551616) : (BitVec.ofInt 64 (N : Int)).toNat = N := by simp; omega
theorem bor_add {a b : Int} (k : Nat) (ha : 0 ≤ a) (hb : 0 ≤ b) (hb' : b < 2 ^ k) (hs : a * 2 ^ k + b < 18446744073709551616) : bor .u64 (a * 2 ^ k) b = a * 2 ^ k + b := by
  obtain ⟨m, rfl⟩ := Int.eq_ofNat_of_zero_le ha
  obtain ⟨n, rfl⟩ := Int.eq_ofNat_of_zero_le hb
  have hc : ((m : Int) * 2 ^ k) = ((m * 2 ^ k : Nat) : Int) := by simp
  have hn : n < 2 ^ k := by exact_mod_cast hb'
  have hs' : ((m * 2 ^ k : Nat) : Int) + (n : Int) < 18446744073709551616 := by rw [← hc]; exact hs
  have e : (BitVec.ofInt 64 ((m * 2 ^ k : Nat) : Int) ||| BitVec.ofInt 64 (n : Int)).toNat = m * 2 ^ k + n := by
    rw [BitVec.toNat_or]
    have a1 := ofInt_nat (N := m * 2 ^ k) (by omega)
    have a2 := ofInt_nat (N := n) (by omega)
    rw [a1, a2, ← Nat.shiftLeft_eq, Nat.shiftLeft_add_eq_or_of_lt hn]
  rw [hc]
  show IntKind.u64.wrap ((BitVec.ofInt 64 ((m * 2 ^ k : Nat) : Int) ||| BitVec.ofInt 64 (n : Int)).toNat : Int) = _
  rw [e, uwB (by omega) (by omega)]
  simp
theorem quou {a b : Int} (ha : 0 ≤ a) (ha' : a < 18446744073709551616) (hb : 0 < b) : quo .u64 a b = a / b := by
  unfold quo
  rw [Int.tdiv_eq_ediv_of_nonneg ha, uwB (Int.ediv_nonneg ha (by omega))]
  exact Int.lt_of_le_of_lt (Int.ediv_le_self b ha) ha'
theorem remu {a b : Int} (ha : 0 ≤ a) : rem a b = a % b := by
  unfold rem
  rw [Int.tmod_eq_emod_of_nonneg ha]
theorem loopF64 {σ R : Type} (F : (σ → Option R) → σ → Option R) (s : σ) : loopF F 18446744073709551616 s = F (loopF F 18446744073709551615) s := rfl
set_option maxHeartbeats 4000000 in
theorem div64_eq {hi lo y : Int} (h1 : 1 ≤ y) (h2 : y < 4294967296) (hh : 0 ≤ hi) (hhy : hi < y) (hl : 0 ≤ lo) (hl' : lo < 18446744073709551616) :
    bits_Div64 (hi, lo, y, ()) = some ((hi * 18446744073709551616 + lo) / y, (hi * 18446744073709551616 + lo) % y, ()) := by
  have e0 : eqi y 0 = false := by simp [eqi]; omega
  have e1 : le y hi = false := decide_eq_false (by omega)
  have e2 : nei y 0 = true := by simp [nei]; omega
  show bits_Div64_m0 bits_Div64_K1 hi lo y = _
  simp only [bits_Div64_m0, e0, Bool.false_eq_true, if_false, bits_Div64_K1, bits_Div64_m1, e1, bits_Div64_K2, bits_Div64_m2]
  by_cases hz : hi = 0
  · subst hz
    have e3 : eqi 0 0 = true := rfl
    simp only [e3, if_true, need, e2, quou hl hl' (by omega : 0 < y), remu hl]
    simp
  · have e3 : eqi hi 0 = false := by simp [eqi]; omega
    obtain ⟨n, hs, hn, hy1, hy2⟩ := m61_eq h1 h2
    simp only [e3, Bool.false_eq_true, if_false, hs, Option.bind_some]
    -- the shift
    have es : cvt .u64 (((64 - n : Nat)) : Int) = ((64 - n : Nat) : Int) := by rw [cvtu]; omega
    have et : sub .u64 64 ((64 - n : Nat) : Int) = ((n : Nat) : Int) := by
      unfold sub
      rw [uwB (by omega) (by omega)]
      omega
    have g1 : ge ((64 - n : Nat) : Int) 0 = true := decide_eq_true (by omega)
    have g2 : ge ((n : Nat) : Int) 0 = true := decide_eq_true (by omega)
    simp only [es, et, g1, g2, need, if_true]
    -- T = 2^n, K = 2^(32-n), P = 2^(64-n)
    obtain ⟨T, hT⟩ : ∃ T : Int, T = 2 ^ n := ⟨_, rfl⟩
    obtain ⟨K, hK⟩ : ∃ K : Int, K = 2 ^ (32 - n) := ⟨_, rfl⟩
    have hT0 : 0 < T := by rw [hT]; exact Int.pow_pos (by decide)
    have hK0 : 0 < K := by rw [hK]; exact Int.pow_pos (by decide)
    have hTK : T * K = 4294967296 := by
      rw [hT, hK, ← Int.pow_add, show n + (32 - n) = 32 by omega]; decide
    have hP : (2 : Int) ^ (64 - n) = K * 4294967296 := by
      rw [hK, show (4294967296 : Int) = 2 ^ 32 by decide, ← Int.pow_add, show 32 - n + 32 = 64 - n by omega]
    rw [← hT] at hy1 hy2
    have hTP : T * (K * 4294967296) = 18446744073709551616 := by grind
    have hYK1 : y * K < 4294967296 := by rw [← hTK]; exact Int.mul_lt_mul_of_pos_right hy1 hK0
    have hYK2 : 2147483648 ≤ y * K := by
      have : T * K ≤ 2 * y * K := Int.mul_le_mul_of_nonneg_right hy2 (by omega)
      rw [hTK] at this
      grind
    have eY : shl .u64 y ((64 - n : Nat) : Int) = (y * K) * 4294967296 := by
      rw [shl_k _ (by omega), hP, ← Int.mul_assoc]
      omega
    obtain ⟨Z, hZ⟩ : ∃ Z : Int, Z = y * K := ⟨_, rfl⟩
    rw [← hZ] at hYK1 hYK2 eY
    have eYn1 : shr .u64 (Z * 4294967296) 32 = Z := by rw [shr_32 (by omega)]; omega
    have eYn0 : band .u64 (Z * 4294967296) 4294967295 = 0 := by rw [band_lo (by omega) (by omega)]; omega
    -- lo in its two pieces
    have eLo1 : shr .u64 lo ((n : Nat) : Int) = lo / T := by rw [shr_k n (by omega), ← hT]
    have eLo2 : shl .u64 lo ((64 - n : Nat) : Int) = (lo % T) * (K * 4294967296) := by
      rw [shl_k _ (by omega), hP, ← hTP, Int.mul_comm lo, Int.mul_comm T, Int.mul_emod_mul_of_pos _ _ (by omega : 0 < K * 4294967296), Int.mul_comm]
    have bLo1 : 0 ≤ lo / T := Int.ediv_nonneg hl (by omega)
    have bLo1' : lo / T < K * 4294967296 := Int.ediv_lt_of_lt_mul hT0 (by rw [Int.mul_comm, hTP]; exact hl')
    have bHi : hi * (K * 4294967296) + lo / T < Z * 4294967296 := by
      have : (hi + 1) * (K * 4294967296) ≤ y * (K * 4294967296) := Int.mul_le_mul_of_nonneg_right (by omega) (by omega)
      rw [hZ]
      grind
    have eHi : shl .u64 hi ((64 - n : Nat) : Int) = hi * (K * 4294967296) := by
      rw [shl_k _ (by omega), hP]
      have : 0 ≤ hi * (K * 4294967296) := Int.mul_nonneg hh (by omega)
      omega
    have eU : bor .u64 (shl .u64 hi ((64 - n : Nat) : Int)) (shr .u64 lo ((n : Nat) : Int)) = hi * (K * 4294967296) + lo / T := by
      rw [eHi, eLo1, ← hP]
      rw [← hP] at bLo1' bHi
      exact bor_add _ hh bLo1 bLo1' (by omega)
    have bU0 : 0 ≤ hi * (K * 4294967296) + lo / T := Int.add_nonneg (Int.mul_nonneg hh (by omega)) bLo1
    have bV0 : 0 ≤ (lo % T) * (K * 4294967296) := Int.mul_nonneg (Int.emod_nonneg _ (by omega)) (by omega)
    have bV1 : (lo % T) * (K * 4294967296) < 18446744073709551616 := by
      rw [← hTP]
      exact Int.mul_lt_mul_of_pos_right (Int.emod_lt_of_pos _ hT0) (by omega)
    obtain ⟨V, hV⟩ : ∃ V : Int, V = (lo % T) * (K * 4294967296) := ⟨_, rfl⟩
    obtain ⟨U, hU⟩ : ∃ U : Int, U = hi * (K * 4294967296) + lo / T := ⟨_, rfl⟩
    rw [← hV] at eLo2 bV0 bV1
    rw [← hU] at eU bHi bU0
    have hsum : (hi * 18446744073709551616 + lo) * (K * 4294967296) = U * 18446744073709551616 + V := by
      have : lo = T * (lo / T) + lo % T := by have := Int.mul_ediv_add_emod lo T; omega
      rw [hU, hV]
      generalize lo / T = a at *
      generalize lo % T = b at *
      subst this
      rw [← hTP]
      grind
    -- the first digit
    have hq1 : U = Z * (U / Z) + U % Z := by have := Int.mul_ediv_add_emod U Z; omega
    have hr1 : 0 ≤ U % Z ∧ U % Z < Z := ⟨Int.emod_nonneg _ (by omega), Int.emod_lt_of_pos _ (by omega)⟩
    have hq1' : 0 ≤ U / Z ∧ U / Z < 4294967296 := ⟨Int.ediv_nonneg bU0 (by omega), Int.ediv_lt_of_lt_mul (by omega) (by rw [Int.mul_comm]; exact bHi)⟩
    have en : nei Z 0 = true := by simp [nei]; omega
    have eq1 : quo .u64 U Z = U / Z := quou bU0 (by omega) (by omega)
    simp only [eU, eY, eYn1, eYn0, eLo2, en, eq1, if_true, Option.bind_some]
    obtain ⟨q1, hq1d⟩ : ∃ q, q = U / Z := ⟨_, rfl⟩
    obtain ⟨r1, hr1d⟩ : ∃ r, r = U % Z := ⟨_, rfl⟩
    rw [← hq1d, ← hr1d] at hq1
    rw [← hr1d] at hr1
    rw [← hq1d] at hq1'
    simp only [← hq1d]
    have bZq1 : 0 ≤ Z * q1 := Int.mul_nonneg (by omega) hq1'.1
    have c1 : q1 * Z = Z * q1 := Int.mul_comm _ _
    have m1 : mul .u64 q1 Z = Z * q1 := by unfold mul; rw [c1, uwB (by omega) (by omega)]
    have s1 : sub .u64 U (Z * q1) = r1 := by unfold sub; rw [uwB (by omega) (by omega)]; omega
    have lg1 : ge q1 4294967296 = false := decide_eq_false (by omega)
    have m0 : mul .u64 q1 0 = 0 := by unfold mul; rw [Int.mul_zero]; rfl
    have eV1 : shr .u64 V 32 = V / 4294967296 := shr_32 bV0
    have eV0 : band .u64 V 4294967295 = V % 4294967296 := band_lo bV0 bV1
    have lz : ∀ x : Int, gt 0 (add .u64 (mul .u64 4294967296 x) (V / 4294967296)) = false := fun x => by
      apply decide_eq_false
      unfold add
      rw [uwM]
      omega
    rw [m1, s1]
    simp only [bits_Div64_K3, loopF64, es, bits_Div64_m3, lg1, Bool.false_eq_true, if_false, eYn0, m0, eV1, Option.bind_some, lz, bits_Div64_K4, bits_Div64_m4, bits_Div64_K5, bits_Div64_m5, en, need, if_true, eYn1, eLo2, eY]
    -- the second digit
    have mY1 : mul .u64 q1 (Z * 4294967296) = (Z * q1 * 4294967296) % 18446744073709551616 := by
      unfold mul; rw [uwM, ← Int.mul_assoc, c1]
    have mU : mul .u64 U 4294967296 = (U * 4294967296) % 18446744073709551616 := by unfold mul; rw [uwM]
    have hW : sub .u64 (add .u64 (mul .u64 U 4294967296) (V / 4294967296)) (mul .u64 q1 (Z * 4294967296)) = r1 * 4294967296 + V / 4294967296 := by
      rw [mY1, mU]
      unfold sub add
      rw [uwM, uwM]
      generalize Z * q1 = A at *
      omega
    obtain ⟨W, hWd⟩ : ∃ W : Int, W = r1 * 4294967296 + V / 4294967296 := ⟨_, rfl⟩
    rw [← hWd] at hW
    have bW : 0 ≤ W ∧ W < Z * 4294967296 := by omega
    rw [hW]
    have eq0 : quo .u64 W Z = W / Z := quou (by omega) (by omega) (by omega)
    simp only [eq0]
    have hq0 : W = Z * (W / Z) + W % Z := by have := Int.mul_ediv_add_emod W Z; omega
    have hr0 : 0 ≤ W % Z ∧ W % Z < Z := ⟨Int.emod_nonneg _ (by omega), Int.emod_lt_of_pos _ (by omega)⟩
    have hq0' : 0 ≤ W / Z ∧ W / Z < 4294967296 := ⟨Int.ediv_nonneg bW.1 (by omega), Int.ediv_lt_of_lt_mul (by omega) (by rw [Int.mul_comm]; exact bW.2)⟩
    obtain ⟨q0, hq0d⟩ : ∃ q, q = W / Z := ⟨_, rfl⟩
    obtain ⟨r0, hr0d⟩ : ∃ r, r = W % Z := ⟨_, rfl⟩
    rw [← hq0d, ← hr0d] at hq0
    rw [← hr0d] at hr0
    rw [← hq0d] at hq0'
    simp only [← hq0d]
    have bZq0 : 0 ≤ Z * q0 := Int.mul_nonneg (by omega) hq0'.1
    have c0 : q0 * Z = Z * q0 := Int.mul_comm _ _
    have lg0 : ge q0 4294967296 = false := decide_eq_false (by omega)
    have m00 : mul .u64 q0 0 = 0 := by unfold mul; rw [Int.mul_zero]; rfl
    have lz0 : ∀ x : Int, gt 0 (add .u64 (mul .u64 4294967296 x) (V % 4294967296)) = false := fun x => by
      apply decide_eq_false
      unfold add
      rw [uwM]
      omega
    simp only [bits_Div64_K6, loopF64, es, bits_Div64_m6, lg0, Bool.false_eq_true, if_false, eYn0, m00, eV0, eLo2, eY, Option.bind_some, lz0, bits_Div64_K7, bits_Div64_m7, bits_Div64_K8, bits_Div64_m8, es, g1, need, if_true]
    have mY0 : mul .u64 q0 (Z * 4294967296) = (Z * q0 * 4294967296) % 18446744073709551616 := by
      unfold mul; rw [uwM, ← Int.mul_assoc, c0]
    have mW : mul .u64 W 4294967296 = (W * 4294967296) % 18446744073709551616 := by unfold mul; rw [uwM]
    have hR : sub .u64 (add .u64 (mul .u64 W 4294967296) (V % 4294967296)) (mul .u64 q0 (Z * 4294967296)) = r0 * 4294967296 + V % 4294967296 := by
      rw [mY0, mW]
      unfold sub add
      rw [uwM, uwM]
      generalize Z * q0 = A at *
      omega
    have hQ : add .u64 (mul .u64 q1 4294967296) q0 = q1 * 4294967296 + q0 := by
      unfold add mul
      rw [uwB (x := q1 * 4294967296) (by omega) (by omega), uwB (by omega) (by omega)]
    rw [hR, hQ, shr_k (64 - n) (by omega), hP]
    -- all of it
    have hall : (hi * 18446744073709551616 + lo) * (K * 4294967296) = y * (q1 * 4294967296 + q0) * (K * 4294967296) + (r0 * 4294967296 + V % 4294967296) := by
      rw [hsum]
      have eV : V = 4294967296 * (V / 4294967296) + V % 4294967296 := by omega
      generalize V / 4294967296 = V1 at *
      generalize V % 4294967296 = V0 at *
      rw [eV, hq1]
      have : U = Z * q1 + r1 := hq1
      have h3 : r1 * 4294967296 + V1 = Z * q0 + r0 := by omega
      have h4 : Z * q1 + r1 = Z * q1 + r1 := rfl
      subst hZ
      have h5 : r1 * 18446744073709551616 + 4294967296 * V1 = (y * K * q0 + r0) * 4294967296 := by omega
      grind
    have hdiv : r0 * 4294967296 + V % 4294967296 = (hi * 18446744073709551616 + lo - y * (q1 * 4294967296 + q0)) * (K * 4294967296) := by
      rw [Int.sub_mul, hall]; omega
    have hquot : (r0 * 4294967296 + V % 4294967296) / (K * 4294967296) = hi * 18446744073709551616 + lo - y * (q1 * 4294967296 + q0) := by
      rw [hdiv, Int.mul_ediv_cancel _ (by omega : K * 4294967296 ≠ 0)]
    have hb : 0 ≤ r0 * 4294967296 + V % 4294967296 ∧ r0 * 4294967296 + V % 4294967296 < y * (K * 4294967296) := by
      rw [← Int.mul_assoc, ← hZ]; omega
    rw [hquot]
    have hlt : hi * 18446744073709551616 + lo - y * (q1 * 4294967296 + q0) < y := by
      rw [hdiv] at hb
      exact Int.lt_of_mul_lt_mul_right hb.2 (by omega)
    have hge : 0 ≤ hi * 18446744073709551616 + lo - y * (q1 * 4294967296 + q0) := by
      rw [← hquot]
      exact Int.ediv_nonneg hb.1 (by omega)
    generalize hi * 18446744073709551616 + lo = X at *
    generalize q1 * 4294967296 + q0 = q at *
    have hX : X = (X - y * q) + y * q := by omega
    refine congrArg some (Prod.ext ?_ (Prod.ext ?_ rfl))
    · show @Eq Int _ _
      dsimp only
      have : X / y = (X - y * q) / y + q := by
        conv => lhs; rw [hX]
        rw [Int.add_mul_ediv_left _ _ (by omega : y ≠ 0)]
      rw [this, Int.ediv_eq_zero_of_lt hge hlt]
      omega
    · show @Eq Int _ _
      dsimp only
      have : X % y = (X - y * q) % y := by
        conv => lhs; rw [hX]
        rw [Int.add_mul_emod_self_left]
      rw [this, Int.emod_eq_of_lt hge hlt]
end Go.Proofs.Lx

end

section
/- What the document's writer of numbers gives: its text, walked with what it calls as a variable, then by fuel. -/
open Go Go.Proofs Ev Sx Pl
set_option maxRecDepth 100000
namespace Go.Proofs.Lx
abbrev RDM := As [Ty.int .i64] → Option (As [Ty.str])
@[reducible] def ref12_Digits_s : Sh := ⟨[.d (.int .i64)], [], [.int .i64], [.d .str], [], 0, [.str]⟩
def rdS_e (M : RDM) : Env := (cts [(52, (⟨ref12_Digits_s, M⟩ : Ct))])
def rdS_h : List (Nat × Hint) := []
def rdS_m0 (M : RDM) (n : Int) : Option (As [Ty.str]) :=
  if Sx.lt n 10 = Bool.true then Option.some ([UInt8.ofNat (Int.toNat (Sx.add Go.IntKind.u8 48 (Sx.cvt Go.IntKind.u8 n)))], PUnit.unit) else Ev.amb (Ev.eqAs ref12_Digits_s.rs) [Option.bind (M (Sx.quo Go.IntKind.i64 n 10, PUnit.unit)) fun (y : List UInt8 × Unit) => Sx.need (Sx.small (List.length y.fst + Nat.succ 0)) (Option.some (y.fst ++ [UInt8.ofNat (Int.toNat (Sx.add Go.IntKind.u8 48 (Sx.cvt Go.IntKind.u8 (Sx.rem n 10))))], PUnit.unit)), Option.bind (M (Sx.quo Go.IntKind.i64 n 10, PUnit.unit)) fun (y : List UInt8 × Unit) => Sx.need (Sx.small (List.length y.fst + Nat.succ 0)) (Option.some (y.fst ++ [UInt8.ofNat (Int.toNat (Sx.add Go.IntKind.u8 48 (Sx.cvt Go.IntKind.u8 (Sx.rem n 10))))], PUnit.unit))]
def rdS (M : RDM) (x : As [Ty.int .i64]) : Option (As [Ty.str]) := rdS_m0 M x.1
theorem rdS_c0 (M : RDM) (J : Orc (As [Ty.str])) (x : As [Ty.int .i64]) : rfn Tryd.prog (rdS_e M) 6 18446744073709551616 (Ev.get rdS_h) 52 ref12_Digits_s J x = rdS_m0 M x.1 := by kernel_rfl
theorem rdS_t (M : RDM) (x : As [Ty.int .i64]) : evT Tryd.prog (rdS_e M) 6 18446744073709551616 (Ev.get rdS_h) 52 ref12_Digits_s x = rdS M x := by
  rw [rfn_eq, rdS_c0]
  rfl
def rdF : Nat → RDM
  | 0 => fun _ => none
  | k + 1 => rdS (rdF k)
theorem rdF_ok : ∀ k, CtOk Tryd.prog I0 52 ⟨ref12_Digits_s, rdF k⟩
  | 0 => fun _ _ _ _ _ _ _ _ h => by cases h
  | k + 1 => ct_of_ev (env_cons (rdF_ok k) env_nil) (rdS_t (rdF k))
theorem digN {n : Int} (h0 : 0 ≤ n) (h : n < 10) : UInt8.ofNat (Int.toNat (Sx.add .u8 48 (Sx.cvt .u8 n))) = UInt8.ofNat (48 + n.toNat) := by
  unfold Sx.add Sx.cvt
  rw [wu8 h0 (by omega), wu8 (by omega) (by omega)]
  congr 1
  omega
theorem remN (n : Nat) : Sx.rem (n : Int) 10 = ((n % 10 : Nat) : Int) := by
  unfold Sx.rem
  rw [Int.tmod_eq_emod_of_nonneg (by omega)]
  omega
theorem quoN {n : Nat} (h : n ≤ 9223372036854775807) : Sx.quo .i64 (n : Int) 10 = ((n / 10 : Nat) : Int) := by
  unfold Sx.quo
  rw [Int.tdiv_eq_ediv_of_nonneg (by omega), w64 (by omega) (by omega)]
  omega
theorem dF_len : ∀ (k n : Nat), (dF k n).length ≤ k + 1
  | 0, _ => by simp [dF]
  | k + 1, n => by
    unfold dF
    split
    · simp
    · have := dF_len k (n / 10)
      simp only [List.length_append, List.length_cons, List.length_nil]
      omega
theorem rdF_val : ∀ (k n : Nat), k ≤ 19 → n ≤ 9223372036854775807 → n < 10 ^ (k + 1) → rdF (k + 1) ((n : Int), ()) = some (dF k n, ())
  | 0, n, _, _, h => by
    have h10 : n < 10 := by simpa using h
    show rdS_m0 (rdF 0) (n : Int) = _
    unfold rdS_m0
    rw [if_pos (by unfold Sx.lt; exact decide_eq_true (by omega)), digN (by omega) (by omega)]
    unfold dF
    rw [Nat.mod_eq_of_lt h10]
    rfl
  | k + 1, n, hk, hm, h => by
    show rdS_m0 (rdF (k + 1)) (n : Int) = _
    unfold rdS_m0 dF
    by_cases h10 : n < 10
    · rw [if_pos (by unfold Sx.lt; exact decide_eq_true (by omega)), digN (by omega) (by omega), if_pos h10]
      rfl
    · have hl := dF_len k (n / 10)
      rw [if_neg (by unfold Sx.lt; simp only [decide_eq_true_eq]; omega), if_neg h10, quoN hm, rdF_val k (n / 10) (by omega) (by omega) (by rw [Nat.pow_succ] at h; omega), remN, digN (by omega) (by omega)]
      rw [amb2 (eqAs_refl _)]
      simp only [Option.bind]
      unfold Sx.need
      rw [if_pos (by unfold Sx.small; exact decide_eq_true (by omega))]
      rfl
theorem rdF_at {x : Int} (h0 : 0 ≤ x) (h1 : x ≤ 9223372036854775807) : rdF 20 (x, ()) = some (dF 19 x.toNat, ()) := by
  have := rdF_val 19 x.toNat (by omega) (by omega) (by have : (9223372036854775807 : Nat) < 10 ^ (19 + 1) := by decide
                                                       omega)
  rw [Int.toNat_of_nonneg h0] at this
  exact this
def ref12_Digits (x : As [Ty.int .i64]) : Option (As [Ty.str]) := if 0 ≤ x.1 ∧ x.1 ≤ 9223372036854775807 then some (dF 19 x.1.toNat, ()) else none
theorem ref12_Digits_ok : CtOk Tryd.prog I0 52 ⟨ref12_Digits_s, ref12_Digits⟩ := by
  intro F w0 pl x y ss own vs hx
  refine rdF_ok 20 F w0 pl x y ss own vs ?_
  have hx : ref12_Digits x = some y := hx
  obtain ⟨x, u⟩ := x
  unfold ref12_Digits at hx
  split at hx
  · next hb =>
    obtain ⟨hb0, hb1⟩ : 0 ≤ x ∧ x ≤ 9223372036854775807 := hb
    cases hx
    exact rdF_at hb0 hb1
  · cases hx
end Go.Proofs.Lx

end
