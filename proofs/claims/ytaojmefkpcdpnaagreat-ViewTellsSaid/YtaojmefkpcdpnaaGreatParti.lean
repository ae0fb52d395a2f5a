/- Proved in the last of these 12 parts (this is part 9): what registers show, what is replied, and which lines a memory shows, is exactly as the document defines. Conditions: those of the given statement, and no others. -/
import Derived.Test.YtaojmefkpcdpnaaGreatParte
import Derived.Test.YtaojmefkpcdpnaaGreatParth
import Derived.Test.YtaojmefkpcdpnaaGreatProg
set_option linter.unusedVariables false
set_option linter.unusedSimpArgs false
set_option linter.unusedSectionVars false
section
open Go Go.Proofs Ev Sx
set_option maxRecDepth 100000
namespace Go.Proofs.Lx
abbrev VzA4q0 : Type := Int × Int × List Bool × List Int × Int × Int
abbrev VzA4q1 : Type := Int × Int × Int × Int × List Int × List Bool
@[reducible] def q0_ : Sh := ⟨[.d (.sl (.int .u8))], [], [.sl (.int .u8)], [.d (.pr (.int .u8) LAT2), .d (.int .i64)], [], 0, [.pr (.int .u8) LAT2, .int .i64]⟩
def q1_ : Env := (cts [(68, (⟨qm2_, ref02_At⟩ : Ct)), (69, (⟨q1n_, ref02_Unpack⟩ : Ct)), (70, (⟨q10_, ref02_Bytes⟩ : Ct))])
def q2_ : List (Nat × Hint) := [(7, ⟨[], [0, 2, 4, 57, 58, 59, 60, 61, 62, 63, 92, 93, 94, 121, 122, 123, 124, 125]⟩), (31, ⟨[.rwb 4 4 43, .rwb 4 5 4], [0, 2, 4, 5]⟩), (63, ⟨[], [0, 2, 4, 5, 57, 58, 59, 60, 61, 62, 63, 92, 93, 94, 121, 122, 123, 124, 125]⟩), (127, ⟨[], [0, 2, 4, 5, 92, 93, 94, 121, 122, 123, 124, 125]⟩), (255, ⟨[], [0, 2, 4, 121, 122, 123, 124, 125]⟩), (2046, ⟨[], [2, 4, 126]⟩), (510, ⟨[], [0, 2, 4, 5, 95, 121, 122, 123, 124, 125]⟩), (8170, ⟨[], [0, 2, 4, 7, 121, 122, 123, 124, 125]⟩), (4074, ⟨[], [0, 2, 4, 5, 6, 57, 58, 59, 60, 61, 62, 63, 92, 93, 94, 121, 122, 123, 124, 125]⟩), (16296, ⟨[.agd 57 (.int .i64), .agd 58 (.int .i64), .agd 59 (.int .i64), .agd 60 (.int .i64), .agd 61 (.sl (.int .u8)), .agd 62 (.int .i64), .agd 63 .bool], [0, 2, 4, 5, 6, 64]⟩)]
def qer_ (b : List Int) (t2 t2_2 t2_3 t2_4 a a_2 a_3 a_4 : Int) : St := { fr := [(0, .d (.sl (.int .u8)) b), (2, .pb 0 0), (4, .pb 1 0)], nt := 129, up := [], own := [(0, .box 65 [.d (.int .u8) t2, .d (.int .u16) t2_2, .d (.int .u16) t2_3, .d (.int .u16) t2_4, .k (Go.Value.slice Option.none 0 0), .k (Go.Value.slice Option.none 0 0)]), (1, .box 65 [.d (.int .u8) a, .d (.int .u16) a_2, .d (.int .u16) a_3, .d (.int .u16) a_4, .k (Go.Value.slice Option.none 0 0), .k (Go.Value.slice Option.none 0 0)])], nx := 2, log := [], ln := 0 }
def qe6_ (b : List Int) (first t2 t2_2 t2_3 t2_4 a a_2 a_3 a_4 : Int) (o : List Int) (o_2 : List Bool) : St := { fr := [(0, .d (.sl (.int .u8)) b), (2, .pb 0 0), (4, .pb 1 0), (5, .d (.int .i64) first)], nt := 129, up := [], own := [(0, .box 65 [.d (.int .u8) t2, .d (.int .u16) t2_2, .d (.int .u16) t2_3, .d (.int .u16) t2_4, .k (Go.Value.slice Option.none 0 0), .k (Go.Value.slice Option.none 0 0)]), (1, .box 65 [.d (.int .u8) a, .d (.int .u16) a_2, .d (.int .u16) a_3, .d (.int .u16) a_4, .row 2, .row 3]), (2, .row (.int .u16) 43 o), (3, .row .bool 4 o_2)], nx := 4, log := [], ln := 0 }
def qds_ (b : List Int) (first t2 t2_2 t2_3 t2_4 a a_2 a_3 a_4 : Int) (o : List Int) (o_2 : List Bool) : St := { fr := [(0, .d (.sl (.int .u8)) b), (2, .pb 0 0), (4, .pb 1 0), (5, .d (.int .i64) first)], nt := 129, up := [], own := [(0, .box 65 [.d (.int .u8) t2, .d (.int .u16) t2_2, .d (.int .u16) t2_3, .d (.int .u16) t2_4, .k (Go.Value.slice Option.none 0 0), .k (Go.Value.slice Option.none 0 0)]), (1, .box 65 [.d (.int .u8) a, .d (.int .u16) a_2, .d (.int .u16) a_3, .d (.int .u16) a_4, .row 2, .row 3]), (2, .row (.int .u16) 43 o), (3, .row .bool 4 o_2)], nx := 4, log := [], ln := 0 }
def q3p_ (b : List Int) (first i t2 t2_2 t2_3 t2_4 a a_2 a_3 a_4 : Int) (o : List Int) (o_2 : List Bool) : St := { fr := [(0, .d (.sl (.int .u8)) b), (2, .pb 0 0), (4, .pb 1 0), (5, .d (.int .i64) first), (6, .d (.int .i64) i)], nt := 129, up := [], own := [(0, .box 65 [.d (.int .u8) t2, .d (.int .u16) t2_2, .d (.int .u16) t2_3, .d (.int .u16) t2_4, .k (Go.Value.slice Option.none 0 0), .k (Go.Value.slice Option.none 0 0)]), (1, .box 65 [.d (.int .u8) a, .d (.int .u16) a_2, .d (.int .u16) a_3, .d (.int .u16) a_4, .row 2, .row 3]), (2, .row (.int .u16) 43 o), (3, .row .bool 4 o_2)], nx := 4, log := [], ln := 0 }
def q7a_ (b : List Int) (first t2 t2_2 t2_3 t2_4 a a_2 a_3 a_4 : Int) (o : List Int) (o_2 : List Bool) : St := { fr := [(0, .d (.sl (.int .u8)) b), (2, .pb 0 0), (4, .pb 1 0), (5, .d (.int .i64) first)], nt := 129, up := [], own := [(0, .box 65 [.d (.int .u8) t2, .d (.int .u16) t2_2, .d (.int .u16) t2_3, .d (.int .u16) t2_4, .k (Go.Value.slice Option.none 0 0), .k (Go.Value.slice Option.none 0 0)]), (1, .box 65 [.d (.int .u8) a, .d (.int .u16) a_2, .d (.int .u16) a_3, .d (.int .u16) a_4, .row 2, .row 3]), (2, .row (.int .u16) 43 o), (3, .row .bool 4 o_2)], nx := 4, log := [], ln := 0 }
def qdi_ (b : List Int) (first i : Int) (t64 : Bool) (t2 t2_2 t2_3 t2_4 a a_2 a_3 a_4 : Int) (o : List Int) (o_2 : List Bool) : St := { fr := [(0, .d (.sl (.int .u8)) b), (2, .pb 0 0), (4, .pb 1 0), (5, .d (.int .i64) first), (6, .d (.int .i64) i), (64, .d .bool t64)], nt := 129, up := [], own := [(0, .box 65 [.d (.int .u8) t2, .d (.int .u16) t2_2, .d (.int .u16) t2_3, .d (.int .u16) t2_4, .k (Go.Value.slice Option.none 0 0), .k (Go.Value.slice Option.none 0 0)]), (1, .box 65 [.d (.int .u8) a, .d (.int .u16) a_2, .d (.int .u16) a_3, .d (.int .u16) a_4, .row 2, .row 3]), (2, .row (.int .u16) 43 o), (3, .row .bool 4 o_2)], nx := 4, log := [], ln := 0 }
def qdy_ (b : List Int) (first : Int) (t95 : Bool) (t2 t2_2 t2_3 t2_4 a a_2 a_3 a_4 : Int) (o : List Int) (o_2 : List Bool) : St := { fr := [(0, .d (.sl (.int .u8)) b), (2, .pb 0 0), (4, .pb 1 0), (5, .d (.int .i64) first), (95, .d .bool t95)], nt := 129, up := [], own := [(0, .box 65 [.d (.int .u8) t2, .d (.int .u16) t2_2, .d (.int .u16) t2_3, .d (.int .u16) t2_4, .k (Go.Value.slice Option.none 0 0), .k (Go.Value.slice Option.none 0 0)]), (1, .box 65 [.d (.int .u8) a, .d (.int .u16) a_2, .d (.int .u16) a_3, .d (.int .u16) a_4, .row 2, .row 3]), (2, .row (.int .u16) 43 o), (3, .row .bool 4 o_2)], nx := 4, log := [], ln := 0 }
def q7b_ (b : List Int) (i t2 t2_2 t2_3 t2_4 a a_2 a_3 a_4 : Int) (o : List Int) (o_2 : List Bool) : St := { fr := [(0, .d (.sl (.int .u8)) b), (2, .pb 0 0), (4, .pb 1 0), (7, .d (.int .i64) i)], nt := 129, up := [], own := [(0, .box 65 [.d (.int .u8) t2, .d (.int .u16) t2_2, .d (.int .u16) t2_3, .d (.int .u16) t2_4, .k (Go.Value.slice Option.none 0 0), .k (Go.Value.slice Option.none 0 0)]), (1, .box 65 [.d (.int .u8) a, .d (.int .u16) a_2, .d (.int .u16) a_3, .d (.int .u16) a_4, .row 2, .row 3]), (2, .row (.int .u16) 43 o), (3, .row .bool 4 o_2)], nx := 4, log := [], ln := 0 }
def q77_ (b : List Int) (t2 t2_2 t2_3 t2_4 a a_2 a_3 a_4 : Int) (o : List Int) (o_2 : List Bool) : St := { fr := [(0, .d (.sl (.int .u8)) b), (2, .pb 0 0), (4, .pb 1 0)], nt := 129, up := [], own := [(0, .box 65 [.d (.int .u8) t2, .d (.int .u16) t2_2, .d (.int .u16) t2_3, .d (.int .u16) t2_4, .k (Go.Value.slice Option.none 0 0), .k (Go.Value.slice Option.none 0 0)]), (1, .box 65 [.d (.int .u8) a, .d (.int .u16) a_2, .d (.int .u16) a_3, .d (.int .u16) a_4, .row 2, .row 3]), (2, .row (.int .u16) 43 o), (3, .row .bool 4 o_2)], nx := 4, log := [], ln := 0 }
def qci_ (t126 : Bool) (t2 t2_2 t2_3 t2_4 : Int) (a : VzA4q1) : St := { fr := [(2, .pb 0 0), (4, .pb 1 0), (126, .d .bool t126)], nt := 129, up := [], own := [(0, .box 65 [.d (.int .u8) t2, .d (.int .u16) t2_2, .d (.int .u16) t2_3, .d (.int .u16) t2_4, .k (Go.Value.slice Option.none 0 0), .k (Go.Value.slice Option.none 0 0)]), (1, .box 65 [.d (.int .u8) a.1, .d (.int .u16) a.2.1, .d (.int .u16) a.2.2.1, .d (.int .u16) a.2.2.2.1, .d (.sl (.int .u16)) a.2.2.2.2.1, .d (.sl .bool) a.2.2.2.2.2])], nx := 2, log := [], ln := 0 }
def qjq_ (j2 : List Int -> Int -> Int -> Int -> Int -> Int -> Int -> Int -> Int -> Int -> List Int -> List Bool -> Option (As [.pr (.int .u8) LAT2, .int .i64])) (b : List Int) (t2 t2_2 t2_3 t2_4 a a_2 a_3 a_4 : Int) : Option (As [.pr (.int .u8) LAT2, .int .i64]) :=
  if eqi a 5 = true then Option.bind (ref02_At (b, 3, ())) fun (y : Int × Unit) => j2 b 6 t2 t2_2 t2_3 t2_4 a a_2 a_3 a_4 [] [eqi y.1 65280] else if eqi a 6 = true then Option.bind (ref02_At (b, 3, ())) fun (y : Int × Unit) => j2 b 6 t2 t2_2 t2_3 t2_4 a a_2 a_3 a_4 [cvt .u16 y.1] [] else Option.bind (ref02_At (b, 3, ())) fun (y : Int × Unit) => j2 b 6 t2 t2_2 t2_3 t2_4 a a_2 (cvt .u16 y.1) a_4 [] []
def qj6_ (j3 : List Int -> Int -> Int -> Int -> Int -> Int -> Int -> Int -> Int -> Int -> List Int -> List Bool -> Option (As [.pr (.int .u8) LAT2, .int .i64])) (b : List Int) (first t2 t2_2 t2_3 t2_4 a a_2 a_3 a_4 : Int) (o : List Int) (o_2 : List Bool) : Option (As [.pr (.int .u8) LAT2, .int .i64]) :=
  if eqi a 23 = true then Option.bind (ref02_At (b, 5, ())) fun (y : Int × Unit) => j3 b 10 t2 t2_2 t2_3 t2_4 a a_2 a_3 (cvt .u16 y.1) o o_2 else j3 b first t2 t2_2 t2_3 t2_4 a a_2 a_3 a_4 o o_2
def qji_ (j4 : List Int -> Int -> Int -> Int -> Int -> Int -> Int -> Int -> Int -> Int -> Int -> List Int -> List Bool -> Option (As [.pr (.int .u8) LAT2, .int .i64])) (j5 : List Int -> Int -> Int -> Int -> Int -> Int -> Int -> Int -> Int -> Int -> List Int -> List Bool -> Option (As [.pr (.int .u8) LAT2, .int .i64])) (b : List Int) (first t2 t2_2 t2_3 t2_4 a a_2 a_3 a_4 : Int) (o : List Int) (o_2 : List Bool) : Option (As [.pr (.int .u8) LAT2, .int .i64]) :=
  if eqi a 15 = true then j4 b first 0 t2 t2_2 t2_3 t2_4 a a_2 a_3 a_4 o o_2 else j5 b first t2 t2_2 t2_3 t2_4 a a_2 a_3 a_4 o o_2
def q7f_ (j6 : List Int -> Int -> Int -> Bool -> Int -> Int -> Int -> Int -> Int -> Int -> Int -> Int -> List Int -> List Bool -> Option (As [.pr (.int .u8) LAT2, .int .i64])) (self4 : List Int -> Int -> Int -> Int -> Int -> Int -> Int -> Int -> Int -> Int -> Int -> List Int -> List Bool -> Option (As [.pr (.int .u8) LAT2, .int .i64])) (b : List Int) (first i t2 t2_2 t2_3 t2_4 a a_2 a_3 a_4 : Int) (o : List Int) (o_2 : List Bool) : Option (As [.pr (.int .u8) LAT2, .int .i64]) :=
  if lt i (cvt .i64 a_3) = true then j6 b first i (lt (add .i64 first (quo .i64 i 8)) (Int.ofNat (List.length b))) t2 t2_2 t2_3 t2_4 a a_2 a_3 a_4 o o_2 else j6 b first i false t2 t2_2 t2_3 t2_4 a a_2 a_3 a_4 o o_2
def qje_ (j7 : List Int -> Int -> Bool -> Int -> Int -> Int -> Int -> Int -> Int -> Int -> Int -> List Int -> List Bool -> Option (As [.pr (.int .u8) LAT2, .int .i64])) (b : List Int) (first t2 t2_2 t2_3 t2_4 a a_2 a_3 a_4 : Int) (o : List Int) (o_2 : List Bool) : Option (As [.pr (.int .u8) LAT2, .int .i64]) :=
  if eqi a 16 = true then j7 b first true t2 t2_2 t2_3 t2_4 a a_2 a_3 a_4 o o_2 else j7 b first (eqi a 23) t2 t2_2 t2_3 t2_4 a a_2 a_3 a_4 o o_2
def q9w_ (j5 : List Int -> Int -> Int -> Int -> Int -> Int -> Int -> Int -> Int -> Int -> List Int -> List Bool -> Option (As [.pr (.int .u8) LAT2, .int .i64])) (self4 : List Int -> Int -> Int -> Int -> Int -> Int -> Int -> Int -> Int -> Int -> Int -> List Int -> List Bool -> Option (As [.pr (.int .u8) LAT2, .int .i64])) (b : List Int) (first i : Int) (t64 : Bool) (t2 t2_2 t2_3 t2_4 a a_2 a_3 a_4 : Int) (o : List Int) (o_2 : List Bool) : Option (As [.pr (.int .u8) LAT2, .int .i64]) :=
  if t64 = true then Option.bind (cut b (add .i64 first (quo .i64 i 8)) (add .i64 (add .i64 first (quo .i64 i 8)) 1)) fun (y : List Int) => Option.bind (ref02_Unpack (y, ())) fun (y : List Bool × Unit) => Option.bind (at? y.1 (rem i 8)) fun (y : Bool) => need (small (List.length o_2 + Nat.succ 0)) (self4 b first (add .i64 i 1) t2 t2_2 t2_3 t2_4 a a_2 a_3 a_4 o (o_2 ++ [y])) else j5 b first t2 t2_2 t2_3 t2_4 a a_2 a_3 a_4 o o_2
def qj7_ (j8 : List Int -> Int -> Int -> Int -> Int -> Int -> Int -> Int -> Int -> Int -> List Int -> List Bool -> Option (As [.pr (.int .u8) LAT2, .int .i64])) (j9 : List Int -> Int -> Int -> Int -> Int -> Int -> Int -> Int -> Int -> List Int -> List Bool -> Option (As [.pr (.int .u8) LAT2, .int .i64])) (b : List Int) (first : Int) (t95 : Bool) (t2 t2_2 t2_3 t2_4 a a_2 a_3 a_4 : Int) (o : List Int) (o_2 : List Bool) : Option (As [.pr (.int .u8) LAT2, .int .i64]) :=
  if t95 = true then j8 b first t2 t2_2 t2_3 t2_4 a a_2 a_3 a_4 o o_2 else j9 b t2 t2_2 t2_3 t2_4 a a_2 a_3 a_4 o o_2
def q7d_ (j9 : List Int -> Int -> Int -> Int -> Int -> Int -> Int -> Int -> Int -> List Int -> List Bool -> Option (As [.pr (.int .u8) LAT2, .int .i64])) (self8 : List Int -> Int -> Int -> Int -> Int -> Int -> Int -> Int -> Int -> Int -> List Int -> List Bool -> Option (As [.pr (.int .u8) LAT2, .int .i64])) (b : List Int) (i t2 t2_2 t2_3 t2_4 a a_2 a_3 a_4 : Int) (o : List Int) (o_2 : List Bool) : Option (As [.pr (.int .u8) LAT2, .int .i64]) :=
  if lt (add .i64 i 1) (Int.ofNat (List.length b)) = true then Option.bind (ref02_At (b, i, ())) fun (y : Int × Unit) => need (small (List.length o + Nat.succ 0)) (self8 b (add .i64 i 2) t2 t2_2 t2_3 t2_4 a a_2 a_3 a_4 (o ++ [cvt .u16 y.1]) o_2) else j9 b t2 t2_2 t2_3 t2_4 a a_2 a_3 a_4 o o_2
def qj0_ (j10 : Bool -> Int -> Int -> Int -> Int -> VzA4q1 -> Option (As [.pr (.int .u8) LAT2, .int .i64])) (b : List Int) (t2 t2_2 t2_3 t2_4 a a_2 a_3 a_4 : Int) (o : List Int) (o_2 : List Bool) : Option (As [.pr (.int .u8) LAT2, .int .i64]) :=
  Option.bind (ref02_Bytes ((a, a_2, a_3, a_4, o, o_2), ())) fun (y : List Int × Int × Unit) => if nei y.2.1 0 = true then j10 true t2 t2_2 t2_3 t2_4 (a, a_2, a_3, a_4, o, o_2) else j10 (nes (Sx.toS y.1) (Sx.toS b)) t2 t2_2 t2_3 t2_4 (a, a_2, a_3, a_4, o, o_2)
def qnh_ (t126 : Bool) (t2 t2_2 t2_3 t2_4 : Int) (a : VzA4q1) : Option (As [.pr (.int .u8) LAT2, .int .i64]) :=
  if t126 = true then some ((0, 0, 0, 0, [], []), 12, ()) else some (a, 0, ())
def q78_ (j1 : List Int -> Int -> Int -> Int -> Int -> Int -> Int -> Int -> Int -> Option (As [.pr (.int .u8) LAT2, .int .i64])) (b : List Int) : Option (As [.pr (.int .u8) LAT2, .int .i64]) :=
  if lt (Int.ofNat (List.length b)) 5 = true then some ((0, 0, 0, 0, [], []), 12, ()) else Option.bind (at? b 0) fun (y : Int) => amb (eqAs q0_.rs) [Option.bind (ref02_At (b, 1, ())) fun (y_1 : Int × Unit) => j1 b 0 0 0 0 y (cvt .u16 y_1.1) 0 0, Option.bind (ref02_At (b, 1, ())) fun (y_1 : Int × Unit) => j1 b 0 0 0 0 y (cvt .u16 y_1.1) 0 0]
def qih_ (t126 : Bool) (t2 t2_2 t2_3 t2_4 : Int) (a : VzA4q1) : Option (As [.pr (.int .u8) LAT2, .int .i64]) := qnh_ t126 t2 t2_2 t2_3 t2_4 a
def q1m_ (b : List Int) (t2 t2_2 t2_3 t2_4 a a_2 a_3 a_4 : Int) (o : List Int) (o_2 : List Bool) : Option (As [.pr (.int .u8) LAT2, .int .i64]) := qj0_ (qih_) b t2 t2_2 t2_3 t2_4 a a_2 a_3 a_4 o o_2
def q7l_ (b : List Int) (i t2 t2_2 t2_3 t2_4 a a_2 a_3 a_4 : Int) (o : List Int) (o_2 : List Bool) : Option (As [.pr (.int .u8) LAT2, .int .i64]) :=
  loopF (fun (self : (List Int) × (Int) × (Int) × (Int) × (Int) × (Int) × (Int) × (Int) × (Int) × (Int) × (List Int) × (List Bool) -> Option (As [.pr (.int .u8) LAT2, .int .i64])) (s : (List Int) × (Int) × (Int) × (Int) × (Int) × (Int) × (Int) × (Int) × (Int) × (Int) × (List Int) × (List Bool)) => q7d_ (q1m_) (fun b i t2 t2_2 t2_3 t2_4 a a_2 a_3 a_4 o o_2 => self (b, i, t2, t2_2, t2_3, t2_4, a, a_2, a_3, a_4, o, o_2)) s.1 s.2.1 s.2.2.1 s.2.2.2.1 s.2.2.2.2.1 s.2.2.2.2.2.1 s.2.2.2.2.2.2.1 s.2.2.2.2.2.2.2.1 s.2.2.2.2.2.2.2.2.1 s.2.2.2.2.2.2.2.2.2.1 s.2.2.2.2.2.2.2.2.2.2.1 s.2.2.2.2.2.2.2.2.2.2.2) 18446744073709551616 (b, i, t2, t2_2, t2_3, t2_4, a, a_2, a_3, a_4, o, o_2)
def qe9_ (b : List Int) (first : Int) (t95 : Bool) (t2 t2_2 t2_3 t2_4 a a_2 a_3 a_4 : Int) (o : List Int) (o_2 : List Bool) : Option (As [.pr (.int .u8) LAT2, .int .i64]) := qj7_ (q7l_) (q1m_) b first t95 t2 t2_2 t2_3 t2_4 a a_2 a_3 a_4 o o_2
def q62_ (b : List Int) (first t2 t2_2 t2_3 t2_4 a a_2 a_3 a_4 : Int) (o : List Int) (o_2 : List Bool) : Option (As [.pr (.int .u8) LAT2, .int .i64]) := qje_ (qe9_) b first t2 t2_2 t2_3 t2_4 a a_2 a_3 a_4 o o_2
def q4k_ (u4 : List Int -> Int -> Int -> Int -> Int -> Int -> Int -> Int -> Int -> Int -> Int -> List Int -> List Bool -> Option (As [.pr (.int .u8) LAT2, .int .i64])) (b : List Int) (first i : Int) (t64 : Bool) (t2 t2_2 t2_3 t2_4 a a_2 a_3 a_4 : Int) (o : List Int) (o_2 : List Bool) : Option (As [.pr (.int .u8) LAT2, .int .i64]) := q9w_ (q62_) u4 b first i t64 t2 t2_2 t2_3 t2_4 a a_2 a_3 a_4 o o_2
def q7k_ (b : List Int) (first i t2 t2_2 t2_3 t2_4 a a_2 a_3 a_4 : Int) (o : List Int) (o_2 : List Bool) : Option (As [.pr (.int .u8) LAT2, .int .i64]) :=
  loopF (fun (self : (List Int) × (Int) × (Int) × (Int) × (Int) × (Int) × (Int) × (Int) × (Int) × (Int) × (Int) × (List Int) × (List Bool) -> Option (As [.pr (.int .u8) LAT2, .int .i64])) (s : (List Int) × (Int) × (Int) × (Int) × (Int) × (Int) × (Int) × (Int) × (Int) × (Int) × (Int) × (List Int) × (List Bool)) => q7f_ (q4k_ (fun b first i t2 t2_2 t2_3 t2_4 a a_2 a_3 a_4 o o_2 => self (b, first, i, t2, t2_2, t2_3, t2_4, a, a_2, a_3, a_4, o, o_2))) (fun b first i t2 t2_2 t2_3 t2_4 a a_2 a_3 a_4 o o_2 => self (b, first, i, t2, t2_2, t2_3, t2_4, a, a_2, a_3, a_4, o, o_2)) s.1 s.2.1 s.2.2.1 s.2.2.2.1 s.2.2.2.2.1 s.2.2.2.2.2.1 s.2.2.2.2.2.2.1 s.2.2.2.2.2.2.2.1 s.2.2.2.2.2.2.2.2.1 s.2.2.2.2.2.2.2.2.2.1 s.2.2.2.2.2.2.2.2.2.2.1 s.2.2.2.2.2.2.2.2.2.2.2.1 s.2.2.2.2.2.2.2.2.2.2.2.2) 18446744073709551616 (b, first, i, t2, t2_2, t2_3, t2_4, a, a_2, a_3, a_4, o, o_2)
def q60_ (b : List Int) (first t2 t2_2 t2_3 t2_4 a a_2 a_3 a_4 : Int) (o : List Int) (o_2 : List Bool) : Option (As [.pr (.int .u8) LAT2, .int .i64]) := qji_ (q7k_) (q62_) b first t2 t2_2 t2_3 t2_4 a a_2 a_3 a_4 o o_2
def q9q_ (b : List Int) (first t2 t2_2 t2_3 t2_4 a a_2 a_3 a_4 : Int) (o : List Int) (o_2 : List Bool) : Option (As [.pr (.int .u8) LAT2, .int .i64]) := qj6_ (q60_) b first t2 t2_2 t2_3 t2_4 a a_2 a_3 a_4 o o_2
def q7h_ (b : List Int) (t2 t2_2 t2_3 t2_4 a a_2 a_3 a_4 : Int) : Option (As [.pr (.int .u8) LAT2, .int .i64]) := qjq_ (q9q_) b t2 t2_2 t2_3 t2_4 a a_2 a_3 a_4
def ref02_Parse (x : As [.sl (.int .u8)]) : Option (As [.pr (.int .u8) LAT2, .int .i64]) := q78_ q7h_ x.1
theorem qur_ (J : Orc (As [.pr (.int .u8) LAT2, .int .i64])) (t126 : Bool) (t2 t2_2 t2_3 t2_4 : Int) (a : VzA4q1) : pfn Tryz.prog q1_ 6 18446744073709551616 (Ev.get q2_) 50 q0_ J 2046 [] (qci_ t126 t2 t2_2 t2_3 t2_4 a) = qnh_ t126 t2 t2_2 t2_3 t2_4 a := by kernel_rfl
theorem qy4_ (J : Orc (As [.pr (.int .u8) LAT2, .int .i64])) (b : List Int) (t2 t2_2 t2_3 t2_4 a a_2 a_3 a_4 : Int) (o : List Int) (o_2 : List Bool) : pfn Tryz.prog q1_ 6 18446744073709551616 (Ev.get q2_) 50 q0_ J 255 [] (q77_ b t2 t2_2 t2_3 t2_4 a a_2 a_3 a_4 o o_2) = qj0_ (fun t126 t2 t2_2 t2_3 t2_4 a => J 2046 [] (qci_ t126 t2 t2_2 t2_3 t2_4 a)) b t2 t2_2 t2_3 t2_4 a a_2 a_3 a_4 o o_2 := by kernel_rfl
theorem qws_ (J : Orc (As [.pr (.int .u8) LAT2, .int .i64])) (w8 : St -> Option (As [.pr (.int .u8) LAT2, .int .i64])) (b : List Int) (i t2 t2_2 t2_3 t2_4 a a_2 a_3 a_4 : Int) (o : List Int) (o_2 : List Bool) : pfn Tryz.prog q1_ 6 18446744073709551616 (Ev.get q2_) 50 q0_ J 8170 [w8] (q7b_ b i t2 t2_2 t2_3 t2_4 a a_2 a_3 a_4 o o_2) = q7d_ (fun b t2 t2_2 t2_3 t2_4 a a_2 a_3 a_4 o o_2 => J 255 [] (q77_ b t2 t2_2 t2_3 t2_4 a a_2 a_3 a_4 o o_2)) (fun b i t2 t2_2 t2_3 t2_4 a a_2 a_3 a_4 o o_2 => w8 (q7b_ b i t2 t2_2 t2_3 t2_4 a a_2 a_3 a_4 o o_2)) b i t2 t2_2 t2_3 t2_4 a a_2 a_3 a_4 o o_2 := by kernel_rfl
theorem qyp_ (J : Orc (As [.pr (.int .u8) LAT2, .int .i64])) (b : List Int) (first : Int) (t95 : Bool) (t2 t2_2 t2_3 t2_4 a a_2 a_3 a_4 : Int) (o : List Int) (o_2 : List Bool) : pfn Tryz.prog q1_ 6 18446744073709551616 (Ev.get q2_) 50 q0_ J 510 [] (qdy_ b first t95 t2 t2_2 t2_3 t2_4 a a_2 a_3 a_4 o o_2) = qj7_ (fun b i t2 t2_2 t2_3 t2_4 a a_2 a_3 a_4 o o_2 => J 8170 [] (q7b_ b i t2 t2_2 t2_3 t2_4 a a_2 a_3 a_4 o o_2)) (fun b t2 t2_2 t2_3 t2_4 a a_2 a_3 a_4 o o_2 => J 255 [] (q77_ b t2 t2_2 t2_3 t2_4 a a_2 a_3 a_4 o o_2)) b first t95 t2 t2_2 t2_3 t2_4 a a_2 a_3 a_4 o o_2 := by kernel_rfl
theorem qvk_ (J : Orc (As [.pr (.int .u8) LAT2, .int .i64])) (b : List Int) (first t2 t2_2 t2_3 t2_4 a a_2 a_3 a_4 : Int) (o : List Int) (o_2 : List Bool) : pfn Tryz.prog q1_ 6 18446744073709551616 (Ev.get q2_) 50 q0_ J 127 [] (q7a_ b first t2 t2_2 t2_3 t2_4 a a_2 a_3 a_4 o o_2) = qje_ (fun b first t95 t2 t2_2 t2_3 t2_4 a a_2 a_3 a_4 o o_2 => J 510 [] (qdy_ b first t95 t2 t2_2 t2_3 t2_4 a a_2 a_3 a_4 o o_2)) b first t2 t2_2 t2_3 t2_4 a a_2 a_3 a_4 o o_2 := by kernel_rfl
theorem qy7_ (J : Orc (As [.pr (.int .u8) LAT2, .int .i64])) (w4 : St -> Option (As [.pr (.int .u8) LAT2, .int .i64])) (b : List Int) (first i : Int) (t64 : Bool) (t2 t2_2 t2_3 t2_4 a a_2 a_3 a_4 : Int) (o : List Int) (o_2 : List Bool) : pfn Tryz.prog q1_ 6 18446744073709551616 (Ev.get q2_) 50 q0_ J 16296 [w4] (qdi_ b first i t64 t2 t2_2 t2_3 t2_4 a a_2 a_3 a_4 o o_2) = q9w_ (fun b first t2 t2_2 t2_3 t2_4 a a_2 a_3 a_4 o o_2 => J 127 [] (q7a_ b first t2 t2_2 t2_3 t2_4 a a_2 a_3 a_4 o o_2)) (fun b first i t2 t2_2 t2_3 t2_4 a a_2 a_3 a_4 o o_2 => w4 (q3p_ b first i t2 t2_2 t2_3 t2_4 a a_2 a_3 a_4 o o_2)) b first i t64 t2 t2_2 t2_3 t2_4 a a_2 a_3 a_4 o o_2 := by kernel_rfl
theorem qym_ (J : Orc (As [.pr (.int .u8) LAT2, .int .i64])) (w4 : St -> Option (As [.pr (.int .u8) LAT2, .int .i64])) (b : List Int) (first i t2 t2_2 t2_3 t2_4 a a_2 a_3 a_4 : Int) (o : List Int) (o_2 : List Bool) : pfn Tryz.prog q1_ 6 18446744073709551616 (Ev.get q2_) 50 q0_ J 4074 [w4] (q3p_ b first i t2 t2_2 t2_3 t2_4 a a_2 a_3 a_4 o o_2) = q7f_ (fun b first i t64 t2 t2_2 t2_3 t2_4 a a_2 a_3 a_4 o o_2 => J 16296 [w4] (qdi_ b first i t64 t2 t2_2 t2_3 t2_4 a a_2 a_3 a_4 o o_2)) (fun b first i t2 t2_2 t2_3 t2_4 a a_2 a_3 a_4 o o_2 => w4 (q3p_ b first i t2 t2_2 t2_3 t2_4 a a_2 a_3 a_4 o o_2)) b first i t2 t2_2 t2_3 t2_4 a a_2 a_3 a_4 o o_2 := by kernel_rfl
theorem qye_ (J : Orc (As [.pr (.int .u8) LAT2, .int .i64])) (b : List Int) (first t2 t2_2 t2_3 t2_4 a a_2 a_3 a_4 : Int) (o : List Int) (o_2 : List Bool) : pfn Tryz.prog q1_ 6 18446744073709551616 (Ev.get q2_) 50 q0_ J 63 [] (qds_ b first t2 t2_2 t2_3 t2_4 a a_2 a_3 a_4 o o_2) = qji_ (fun b first i t2 t2_2 t2_3 t2_4 a a_2 a_3 a_4 o o_2 => J 4074 [] (q3p_ b first i t2 t2_2 t2_3 t2_4 a a_2 a_3 a_4 o o_2)) (fun b first t2 t2_2 t2_3 t2_4 a a_2 a_3 a_4 o o_2 => J 127 [] (q7a_ b first t2 t2_2 t2_3 t2_4 a a_2 a_3 a_4 o o_2)) b first t2 t2_2 t2_3 t2_4 a a_2 a_3 a_4 o o_2 := by kernel_rfl
theorem qy9_ (J : Orc (As [.pr (.int .u8) LAT2, .int .i64])) (b : List Int) (first t2 t2_2 t2_3 t2_4 a a_2 a_3 a_4 : Int) (o : List Int) (o_2 : List Bool) : pfn Tryz.prog q1_ 6 18446744073709551616 (Ev.get q2_) 50 q0_ J 31 [] (qe6_ b first t2 t2_2 t2_3 t2_4 a a_2 a_3 a_4 o o_2) = qj6_ (fun b first t2 t2_2 t2_3 t2_4 a a_2 a_3 a_4 o o_2 => J 63 [] (qds_ b first t2 t2_2 t2_3 t2_4 a a_2 a_3 a_4 o o_2)) b first t2 t2_2 t2_3 t2_4 a a_2 a_3 a_4 o o_2 := by kernel_rfl
theorem qw4_ (J : Orc (As [.pr (.int .u8) LAT2, .int .i64])) (b : List Int) (t2 t2_2 t2_3 t2_4 a a_2 a_3 a_4 : Int) : pfn Tryz.prog q1_ 6 18446744073709551616 (Ev.get q2_) 50 q0_ J 7 [] (qer_ b t2 t2_2 t2_3 t2_4 a a_2 a_3 a_4) = qjq_ (fun b first t2 t2_2 t2_3 t2_4 a a_2 a_3 a_4 o o_2 => J 31 [] (qe6_ b first t2 t2_2 t2_3 t2_4 a a_2 a_3 a_4 o o_2)) b t2 t2_2 t2_3 t2_4 a a_2 a_3 a_4 := by kernel_rfl
theorem qy3_ (J : Orc (As [.pr (.int .u8) LAT2, .int .i64])) (x : As [.sl (.int .u8)]) : rfn Tryz.prog q1_ 6 18446744073709551616 (Ev.get q2_) 50 q0_ J x = q78_ (fun b t2 t2_2 t2_3 t2_4 a a_2 a_3 a_4 => J 7 [] (qer_ b t2 t2_2 t2_3 t2_4 a a_2 a_3 a_4)) x.1 := by kernel_rfl
theorem quo_ (t126 : Bool) (t2 t2_2 t2_3 t2_4 : Int) (a : VzA4q1) : jfn Tryz.prog q1_ 6 18446744073709551616 (Ev.get q2_) 50 q0_ 2046 [] (qci_ t126 t2 t2_2 t2_3 t2_4 a) = qih_ t126 t2 t2_2 t2_3 t2_4 a := by
  rw [pfn_eq (by decide)]
  rw [qur_]
  rfl
theorem qp6_ (b : List Int) (t2 t2_2 t2_3 t2_4 a a_2 a_3 a_4 : Int) (o : List Int) (o_2 : List Bool) : jfn Tryz.prog q1_ 6 18446744073709551616 (Ev.get q2_) 50 q0_ 255 [] (q77_ b t2 t2_2 t2_3 t2_4 a a_2 a_3 a_4 o o_2) = q1m_ b t2 t2_2 t2_3 t2_4 a a_2 a_3 a_4 o o_2 := by
  rw [pfn_eq (by decide)]
  have e10 : (fun t126 t2 t2_2 t2_3 t2_4 a => (jfn Tryz.prog q1_ 6 18446744073709551616 (Ev.get q2_) 50 q0_) 2046 [] (qci_ t126 t2 t2_2 t2_3 t2_4 a)) = qih_ := by funext t126 t2 t2_2 t2_3 t2_4 a; exact quo_ t126 t2 t2_2 t2_3 t2_4 a
  rw [qy4_, e10]
  rfl
theorem qv7_ (b : List Int) (i t2 t2_2 t2_3 t2_4 a a_2 a_3 a_4 : Int) (o : List Int) (o_2 : List Bool) : jfn Tryz.prog q1_ 6 18446744073709551616 (Ev.get q2_) 50 q0_ 8170 [] (q7b_ b i t2 t2_2 t2_3 t2_4 a a_2 a_3 a_4 o o_2) = q7l_ b i t2 t2_2 t2_3 t2_4 a a_2 a_3 a_4 o o_2 := by
  rw [pfn_eq (by decide)]
  rw [pfn_loop (by kernel_rfl)]
  refine loopF_sim (σ := (List Int) × (Int) × (Int) × (Int) × (Int) × (Int) × (Int) × (Int) × (Int) × (Int) × (List Int) × (List Bool)) (mk := fun s => q7b_ s.1 s.2.1 s.2.2.1 s.2.2.2.1 s.2.2.2.2.1 s.2.2.2.2.2.1 s.2.2.2.2.2.2.1 s.2.2.2.2.2.2.2.1 s.2.2.2.2.2.2.2.2.1 s.2.2.2.2.2.2.2.2.2.1 s.2.2.2.2.2.2.2.2.2.2.1 s.2.2.2.2.2.2.2.2.2.2.2) (fun w8 s => ?_) 18446744073709551616 (b, i, t2, t2_2, t2_3, t2_4, a, a_2, a_3, a_4, o, o_2)
  have e9 : (fun b t2 t2_2 t2_3 t2_4 a a_2 a_3 a_4 o o_2 => (jfn Tryz.prog q1_ 6 18446744073709551616 (Ev.get q2_) 50 q0_) 255 [] (q77_ b t2 t2_2 t2_3 t2_4 a a_2 a_3 a_4 o o_2)) = q1m_ := by funext b t2 t2_2 t2_3 t2_4 a a_2 a_3 a_4 o o_2; exact qp6_ b t2 t2_2 t2_3 t2_4 a a_2 a_3 a_4 o o_2
  refine (qws_ _ w8 s.1 s.2.1 s.2.2.1 s.2.2.2.1 s.2.2.2.2.1 s.2.2.2.2.2.1 s.2.2.2.2.2.2.1 s.2.2.2.2.2.2.2.1 s.2.2.2.2.2.2.2.2.1 s.2.2.2.2.2.2.2.2.2.1 s.2.2.2.2.2.2.2.2.2.2.1 s.2.2.2.2.2.2.2.2.2.2.2).trans ?_
  rw [e9]
theorem qvq_ (b : List Int) (first : Int) (t95 : Bool) (t2 t2_2 t2_3 t2_4 a a_2 a_3 a_4 : Int) (o : List Int) (o_2 : List Bool) : jfn Tryz.prog q1_ 6 18446744073709551616 (Ev.get q2_) 50 q0_ 510 [] (qdy_ b first t95 t2 t2_2 t2_3 t2_4 a a_2 a_3 a_4 o o_2) = qe9_ b first t95 t2 t2_2 t2_3 t2_4 a a_2 a_3 a_4 o o_2 := by
  rw [pfn_eq (by decide)]
  have e8 : (fun b i t2 t2_2 t2_3 t2_4 a a_2 a_3 a_4 o o_2 => (jfn Tryz.prog q1_ 6 18446744073709551616 (Ev.get q2_) 50 q0_) 8170 [] (q7b_ b i t2 t2_2 t2_3 t2_4 a a_2 a_3 a_4 o o_2)) = q7l_ := by funext b i t2 t2_2 t2_3 t2_4 a a_2 a_3 a_4 o o_2; exact qv7_ b i t2 t2_2 t2_3 t2_4 a a_2 a_3 a_4 o o_2
  have e9 : (fun b t2 t2_2 t2_3 t2_4 a a_2 a_3 a_4 o o_2 => (jfn Tryz.prog q1_ 6 18446744073709551616 (Ev.get q2_) 50 q0_) 255 [] (q77_ b t2 t2_2 t2_3 t2_4 a a_2 a_3 a_4 o o_2)) = q1m_ := by funext b t2 t2_2 t2_3 t2_4 a a_2 a_3 a_4 o o_2; exact qp6_ b t2 t2_2 t2_3 t2_4 a a_2 a_3 a_4 o o_2
  rw [qyp_, e8, e9]
  rfl
theorem qph_ (b : List Int) (first t2 t2_2 t2_3 t2_4 a a_2 a_3 a_4 : Int) (o : List Int) (o_2 : List Bool) : jfn Tryz.prog q1_ 6 18446744073709551616 (Ev.get q2_) 50 q0_ 127 [] (q7a_ b first t2 t2_2 t2_3 t2_4 a a_2 a_3 a_4 o o_2) = q62_ b first t2 t2_2 t2_3 t2_4 a a_2 a_3 a_4 o o_2 := by
  rw [pfn_eq (by decide)]
  have e7 : (fun b first t95 t2 t2_2 t2_3 t2_4 a a_2 a_3 a_4 o o_2 => (jfn Tryz.prog q1_ 6 18446744073709551616 (Ev.get q2_) 50 q0_) 510 [] (qdy_ b first t95 t2 t2_2 t2_3 t2_4 a a_2 a_3 a_4 o o_2)) = qe9_ := by funext b first t95 t2 t2_2 t2_3 t2_4 a a_2 a_3 a_4 o o_2; exact qvq_ b first t95 t2 t2_2 t2_3 t2_4 a a_2 a_3 a_4 o o_2
  rw [qvk_, e7]
  rfl
theorem qwl_ (w4 : St -> Option (As [.pr (.int .u8) LAT2, .int .i64])) (b : List Int) (first i : Int) (t64 : Bool) (t2 t2_2 t2_3 t2_4 a a_2 a_3 a_4 : Int) (o : List Int) (o_2 : List Bool) : jfn Tryz.prog q1_ 6 18446744073709551616 (Ev.get q2_) 50 q0_ 16296 [w4] (qdi_ b first i t64 t2 t2_2 t2_3 t2_4 a a_2 a_3 a_4 o o_2) = q4k_ (fun b first i t2 t2_2 t2_3 t2_4 a a_2 a_3 a_4 o o_2 => w4 (q3p_ b first i t2 t2_2 t2_3 t2_4 a a_2 a_3 a_4 o o_2)) b first i t64 t2 t2_2 t2_3 t2_4 a a_2 a_3 a_4 o o_2 := by
  rw [pfn_eq (by decide)]
  have e5 : (fun b first t2 t2_2 t2_3 t2_4 a a_2 a_3 a_4 o o_2 => (jfn Tryz.prog q1_ 6 18446744073709551616 (Ev.get q2_) 50 q0_) 127 [] (q7a_ b first t2 t2_2 t2_3 t2_4 a a_2 a_3 a_4 o o_2)) = q62_ := by funext b first t2 t2_2 t2_3 t2_4 a a_2 a_3 a_4 o o_2; exact qph_ b first t2 t2_2 t2_3 t2_4 a a_2 a_3 a_4 o o_2
  rw [qy7_, e5]
  rfl
theorem qx1_ (b : List Int) (first i t2 t2_2 t2_3 t2_4 a a_2 a_3 a_4 : Int) (o : List Int) (o_2 : List Bool) : jfn Tryz.prog q1_ 6 18446744073709551616 (Ev.get q2_) 50 q0_ 4074 [] (q3p_ b first i t2 t2_2 t2_3 t2_4 a a_2 a_3 a_4 o o_2) = q7k_ b first i t2 t2_2 t2_3 t2_4 a a_2 a_3 a_4 o o_2 := by
  rw [pfn_eq (by decide)]
  rw [pfn_loop (by kernel_rfl)]
  refine loopF_sim (σ := (List Int) × (Int) × (Int) × (Int) × (Int) × (Int) × (Int) × (Int) × (Int) × (Int) × (Int) × (List Int) × (List Bool)) (mk := fun s => q3p_ s.1 s.2.1 s.2.2.1 s.2.2.2.1 s.2.2.2.2.1 s.2.2.2.2.2.1 s.2.2.2.2.2.2.1 s.2.2.2.2.2.2.2.1 s.2.2.2.2.2.2.2.2.1 s.2.2.2.2.2.2.2.2.2.1 s.2.2.2.2.2.2.2.2.2.2.1 s.2.2.2.2.2.2.2.2.2.2.2.1 s.2.2.2.2.2.2.2.2.2.2.2.2) (fun w4 s => ?_) 18446744073709551616 (b, first, i, t2, t2_2, t2_3, t2_4, a, a_2, a_3, a_4, o, o_2)
  have e6 : (fun b first i t64 t2 t2_2 t2_3 t2_4 a a_2 a_3 a_4 o o_2 => (jfn Tryz.prog q1_ 6 18446744073709551616 (Ev.get q2_) 50 q0_) 16296 [w4] (qdi_ b first i t64 t2 t2_2 t2_3 t2_4 a a_2 a_3 a_4 o o_2)) = q4k_ (fun b first i t2 t2_2 t2_3 t2_4 a a_2 a_3 a_4 o o_2 => w4 (q3p_ b first i t2 t2_2 t2_3 t2_4 a a_2 a_3 a_4 o o_2)) := by funext b first i t64 t2 t2_2 t2_3 t2_4 a a_2 a_3 a_4 o o_2; exact qwl_ w4 b first i t64 t2 t2_2 t2_3 t2_4 a a_2 a_3 a_4 o o_2
  refine (qym_ _ w4 s.1 s.2.1 s.2.2.1 s.2.2.2.1 s.2.2.2.2.1 s.2.2.2.2.2.1 s.2.2.2.2.2.2.1 s.2.2.2.2.2.2.2.1 s.2.2.2.2.2.2.2.2.1 s.2.2.2.2.2.2.2.2.2.1 s.2.2.2.2.2.2.2.2.2.2.1 s.2.2.2.2.2.2.2.2.2.2.2.1 s.2.2.2.2.2.2.2.2.2.2.2.2).trans ?_
  rw [e6]
theorem qxh_ (b : List Int) (first t2 t2_2 t2_3 t2_4 a a_2 a_3 a_4 : Int) (o : List Int) (o_2 : List Bool) : jfn Tryz.prog q1_ 6 18446744073709551616 (Ev.get q2_) 50 q0_ 63 [] (qds_ b first t2 t2_2 t2_3 t2_4 a a_2 a_3 a_4 o o_2) = q60_ b first t2 t2_2 t2_3 t2_4 a a_2 a_3 a_4 o o_2 := by
  rw [pfn_eq (by decide)]
  have e4 : (fun b first i t2 t2_2 t2_3 t2_4 a a_2 a_3 a_4 o o_2 => (jfn Tryz.prog q1_ 6 18446744073709551616 (Ev.get q2_) 50 q0_) 4074 [] (q3p_ b first i t2 t2_2 t2_3 t2_4 a a_2 a_3 a_4 o o_2)) = q7k_ := by funext b first i t2 t2_2 t2_3 t2_4 a a_2 a_3 a_4 o o_2; exact qx1_ b first i t2 t2_2 t2_3 t2_4 a a_2 a_3 a_4 o o_2
  have e5 : (fun b first t2 t2_2 t2_3 t2_4 a a_2 a_3 a_4 o o_2 => (jfn Tryz.prog q1_ 6 18446744073709551616 (Ev.get q2_) 50 q0_) 127 [] (q7a_ b first t2 t2_2 t2_3 t2_4 a a_2 a_3 a_4 o o_2)) = q62_ := by funext b first t2 t2_2 t2_3 t2_4 a a_2 a_3 a_4 o o_2; exact qph_ b first t2 t2_2 t2_3 t2_4 a a_2 a_3 a_4 o o_2
  rw [qye_, e4, e5]
  rfl
theorem qvf_ (b : List Int) (first t2 t2_2 t2_3 t2_4 a a_2 a_3 a_4 : Int) (o : List Int) (o_2 : List Bool) : jfn Tryz.prog q1_ 6 18446744073709551616 (Ev.get q2_) 50 q0_ 31 [] (qe6_ b first t2 t2_2 t2_3 t2_4 a a_2 a_3 a_4 o o_2) = q9q_ b first t2 t2_2 t2_3 t2_4 a a_2 a_3 a_4 o o_2 := by
  rw [pfn_eq (by decide)]
  have e3 : (fun b first t2 t2_2 t2_3 t2_4 a a_2 a_3 a_4 o o_2 => (jfn Tryz.prog q1_ 6 18446744073709551616 (Ev.get q2_) 50 q0_) 63 [] (qds_ b first t2 t2_2 t2_3 t2_4 a a_2 a_3 a_4 o o_2)) = q60_ := by funext b first t2 t2_2 t2_3 t2_4 a a_2 a_3 a_4 o o_2; exact qxh_ b first t2 t2_2 t2_3 t2_4 a a_2 a_3 a_4 o o_2
  rw [qy9_, e3]
  rfl
theorem qxd_ (b : List Int) (t2 t2_2 t2_3 t2_4 a a_2 a_3 a_4 : Int) : jfn Tryz.prog q1_ 6 18446744073709551616 (Ev.get q2_) 50 q0_ 7 [] (qer_ b t2 t2_2 t2_3 t2_4 a a_2 a_3 a_4) = q7h_ b t2 t2_2 t2_3 t2_4 a a_2 a_3 a_4 := by
  rw [pfn_eq (by decide)]
  have e2 : (fun b first t2 t2_2 t2_3 t2_4 a a_2 a_3 a_4 o o_2 => (jfn Tryz.prog q1_ 6 18446744073709551616 (Ev.get q2_) 50 q0_) 31 [] (qe6_ b first t2 t2_2 t2_3 t2_4 a a_2 a_3 a_4 o o_2)) = q9q_ := by funext b first t2 t2_2 t2_3 t2_4 a a_2 a_3 a_4 o o_2; exact qvf_ b first t2 t2_2 t2_3 t2_4 a a_2 a_3 a_4 o o_2
  rw [qw4_, e2]
  rfl
theorem q104_ (x : As [.sl (.int .u8)]) : evT Tryz.prog q1_ 6 18446744073709551616 (Ev.get q2_) 50 q0_ x = ref02_Parse x := by
  have e1 : (fun b t2 t2_2 t2_3 t2_4 a a_2 a_3 a_4 => (jfn Tryz.prog q1_ 6 18446744073709551616 (Ev.get q2_) 50 q0_) 7 [] (qer_ b t2 t2_2 t2_3 t2_4 a a_2 a_3 a_4)) = q7h_ := by funext b t2 t2_2 t2_3 t2_4 a a_2 a_3 a_4; exact qxd_ b t2 t2_2 t2_3 t2_4 a a_2 a_3 a_4
  rw [rfn_eq, qy3_, e1]
  rfl
theorem qyl_ : CtOk Tryz.prog (fun _ => True) 50 ⟨q0_, ref02_Parse⟩ := ct_of_ev (env_cons q152_ (env_cons quv_ (env_cons qwa_ env_nil))) q104_
@[reducible] def q7p_ : Sh := ⟨[.d (.sl (.int .u8))], [], [.sl (.int .u8)], [.d (.pr (.int .u8) LAT2), .d (.int .u8)], [], 0, [.pr (.int .u8) LAT2, .int .u8]⟩
def qdd_ : Env := (cts [(50, (⟨q0_, ref02_Parse⟩ : Ct))])
def qd3_ : List (Nat × Hint) := [(126, ⟨[], [2, 6, 39]⟩)]
def qgg_ (f : Int) (t39 : Bool) (t2 t2_2 t2_3 t2_4 : Int) : St := { fr := [(2, .pb 0 0), (6, .d (.int .u8) f), (39, .d .bool t39)], nt := 44, up := [], own := [(0, .box 65 [.d (.int .u8) t2, .d (.int .u16) t2_2, .d (.int .u16) t2_3, .d (.int .u16) t2_4, .k (Go.Value.slice Option.none 0 0), .k (Go.Value.slice Option.none 0 0)])], nx := 1, log := [], ln := 0 }
def qqg_ (f : Int) (t39 : Bool) (t2 t2_2 t2_3 t2_4 : Int) : Option (As [.pr (.int .u8) LAT2, .int .u8]) :=
  if t39 = true then some ((f, 0, 0, 0, [], []), 3, ()) else some ((f, 0, 0, 0, [], []), 1, ())
def qgt_ (j1 : Int -> Bool -> Int -> Int -> Int -> Int -> Option (As [.pr (.int .u8) LAT2, .int .u8])) (b : List Int) : Option (As [.pr (.int .u8) LAT2, .int .u8]) :=
  Option.bind (ref02_Parse (b, ())) fun (y : LAT10 × Int × Unit) => if eqi y.2.1 0 = true then some (y.1, 0, ()) else if eqi (Int.ofNat (List.length b)) 0 = true then some ((0, 0, 0, 0, [], []), 1, ()) else Option.bind (at? b 0) fun (y : Int) => if ge y 1 = true then if le y 6 = true then j1 y true 0 0 0 0 else if eqi y 15 = true then j1 y true 0 0 0 0 else if eqi y 16 = true then j1 y true 0 0 0 0 else j1 y (eqi y 23) 0 0 0 0 else if eqi y 15 = true then j1 y true 0 0 0 0 else if eqi y 16 = true then j1 y true 0 0 0 0 else j1 y (eqi y 23) 0 0 0 0
def qbi_ (f : Int) (t39 : Bool) (t2 t2_2 t2_3 t2_4 : Int) : Option (As [.pr (.int .u8) LAT2, .int .u8]) := qqg_ f t39 t2 t2_2 t2_3 t2_4
def ref02_Look (x : As [.sl (.int .u8)]) : Option (As [.pr (.int .u8) LAT2, .int .u8]) := qgt_ qbi_ x.1
theorem q100_ (J : Orc (As [.pr (.int .u8) LAT2, .int .u8])) (f : Int) (t39 : Bool) (t2 t2_2 t2_3 t2_4 : Int) : pfn Tryz.prog qdd_ 6 18446744073709551616 (Ev.get qd3_) 32 q7p_ J 126 [] (qgg_ f t39 t2 t2_2 t2_3 t2_4) = qqg_ f t39 t2 t2_2 t2_3 t2_4 := by kernel_rfl
theorem qza_ (J : Orc (As [.pr (.int .u8) LAT2, .int .u8])) (x : As [.sl (.int .u8)]) : rfn Tryz.prog qdd_ 6 18446744073709551616 (Ev.get qd3_) 32 q7p_ J x = qgt_ (fun f t39 t2 t2_2 t2_3 t2_4 => J 126 [] (qgg_ f t39 t2 t2_2 t2_3 t2_4)) x.1 := by kernel_rfl
theorem qzr_ (f : Int) (t39 : Bool) (t2 t2_2 t2_3 t2_4 : Int) : jfn Tryz.prog qdd_ 6 18446744073709551616 (Ev.get qd3_) 32 q7p_ 126 [] (qgg_ f t39 t2 t2_2 t2_3 t2_4) = qbi_ f t39 t2 t2_2 t2_3 t2_4 := by
  rw [pfn_eq (by decide)]
  rw [q100_]
  rfl
theorem q13f_ (x : As [.sl (.int .u8)]) : evT Tryz.prog qdd_ 6 18446744073709551616 (Ev.get qd3_) 32 q7p_ x = ref02_Look x := by
  have e1 : (fun f t39 t2 t2_2 t2_3 t2_4 => (jfn Tryz.prog qdd_ 6 18446744073709551616 (Ev.get qd3_) 32 q7p_) 126 [] (qgg_ f t39 t2 t2_2 t2_3 t2_4)) = qbi_ := by funext f t39 t2 t2_2 t2_3 t2_4; exact qzr_ f t39 t2 t2_2 t2_3 t2_4
  rw [rfn_eq, qza_, e1]
  rfl
theorem q10c_ : CtOk Tryz.prog (fun _ => True) 32 ⟨q7p_, ref02_Look⟩ := ct_of_ev (env_cons qyl_ env_nil) q13f_
@[reducible] def q3k_ : Sh := ⟨[.d (.pr (.int .u8) LAT1)], [], [.pr (.int .u8) LAT1], [.d (.bool)], [], 0, [.bool]⟩
def q5d_ : Env := (cts [])
def q5m_ : List (Nat × Hint) := [(122, ⟨[], [1, 3, 4, 41, 42, 48, 49, 52, 53, 54, 57, 58, 61, 62, 63, 66, 67, 68, 77, 78, 81, 82, 85, 86, 87, 90, 91, 92, 99, 100, 103, 104, 105, 112, 113, 116, 117, 118, 125, 126, 129, 130, 131, 134, 135, 136, 143, 144, 147, 148, 149, 152, 153, 154]⟩), (491, ⟨[], [1, 3, 4, 41, 70, 77, 78, 81, 82, 85, 86, 87, 90, 91, 92, 99, 100, 103, 104, 105, 112, 113, 116, 117, 118, 125, 126, 129, 130, 131, 134, 135, 136, 143, 144, 147, 148, 149, 152, 153, 154]⟩)]
def qdl_ (bits words t41 : Int) (t42 : Bool) (r : VzA4q0) : St := { fr := [(1, .pb 0 0), (3, .d (.int .i64) bits), (4, .d (.int .i64) words), (41, .d (.int .u8) t41), (42, .d .bool t42)], nt := 156, up := [], own := [(0, .box 72 [.d (.int .u8) r.1, .d (.int .u8) r.2.1, .d (.sl .bool) r.2.2.1, .d (.sl (.int .u16)) r.2.2.2.1, .d (.int .u16) r.2.2.2.2.1, .d (.int .u16) r.2.2.2.2.2])], nx := 1, log := [], ln := 0 }
def qep_ (bits words t41 : Int) (t70 : Bool) (r : VzA4q0) : St := { fr := [(1, .pb 0 0), (3, .d (.int .i64) bits), (4, .d (.int .i64) words), (41, .d (.int .u8) t41), (70, .d .bool t70)], nt := 156, up := [], own := [(0, .box 72 [.d (.int .u8) r.1, .d (.int .u8) r.2.1, .d (.sl .bool) r.2.2.1, .d (.sl (.int .u16)) r.2.2.2.1, .d (.int .u16) r.2.2.2.2.1, .d (.int .u16) r.2.2.2.2.2])], nx := 1, log := [], ln := 0 }
def qix_ (j2 : Int -> Int -> Int -> Bool -> VzA4q0 -> Option (As [.bool])) (bits words t41 : Int) (t42 : Bool) (r : VzA4q0) : Option (As [.bool]) :=
  if t42 = true then if ge bits 8 = true then if le bits 2000 = true then if eqi (rem bits 8) 0 = true then if eqi words 0 = true then if eqi r.2.2.2.2.1 0 = true then some (eqi r.2.2.2.2.2 0, ()) else some (false, ()) else some (false, ()) else some (false, ()) else some (false, ()) else some (false, ()) else if eqi t41 3 = true then j2 bits words t41 true r else if eqi t41 4 = true then j2 bits words t41 true r else j2 bits words t41 (eqi t41 23) r
def qja_ (bits words t41 : Int) (t70 : Bool) (r : VzA4q0) : Option (As [.bool]) :=
  if t70 = true then if eqi bits 0 = true then if ge words 1 = true then if le words 125 = true then if eqi r.2.2.2.2.1 0 = true then some (eqi r.2.2.2.2.2 0, ()) else some (false, ()) else some (false, ()) else some (false, ()) else some (false, ()) else if eqi t41 5 = true then if eqi bits 1 = true then if eqi words 0 = true then some (eqi r.2.2.2.2.2 0, ()) else some (false, ()) else some (false, ()) else if eqi t41 6 = true then if eqi bits 0 = true then if eqi words 1 = true then some (eqi r.2.2.2.2.2 0, ()) else some (false, ()) else some (false, ()) else if eqi t41 15 = true then if eqi bits 0 = true then if eqi words 0 = true then if ge r.2.2.2.2.2 1 = true then some (le r.2.2.2.2.2 1968, ()) else some (false, ()) else some (false, ()) else some (false, ()) else if eqi t41 16 = true then if eqi bits 0 = true then if eqi words 0 = true then if ge r.2.2.2.2.2 1 = true then some (le r.2.2.2.2.2 123, ()) else some (false, ()) else some (false, ()) else some (false, ()) else some (false, ())
def qea_ (j1 : Int -> Int -> Int -> Bool -> VzA4q0 -> Option (As [.bool])) (r : VzA4q0) : Option (As [.bool]) :=
  if nei r.2.1 0 = true then if le r.1 127 = true then if le r.2.1 4 = true then if eqi (Int.ofNat (List.length r.2.2.1)) 0 = true then if eqi (Int.ofNat (List.length r.2.2.2.1)) 0 = true then if eqi r.2.2.2.2.1 0 = true then some (eqi r.2.2.2.2.2 0, ()) else some (false, ()) else some (false, ()) else some (false, ()) else some (false, ()) else some (false, ()) else if eqi r.1 1 = true then j1 (Int.ofNat (List.length r.2.2.1)) (Int.ofNat (List.length r.2.2.2.1)) r.1 true r else j1 (Int.ofNat (List.length r.2.2.1)) (Int.ofNat (List.length r.2.2.2.1)) r.1 (eqi r.1 2) r
def q9r_ (bits words t41 : Int) (t70 : Bool) (r : VzA4q0) : Option (As [.bool]) := qja_ bits words t41 t70 r
def q75_ (bits words t41 : Int) (t42 : Bool) (r : VzA4q0) : Option (As [.bool]) := qix_ (q9r_) bits words t41 t42 r
def ref03_Right (x : As [.pr (.int .u8) LAT1]) : Option (As [.bool]) := qea_ q75_ x.1
theorem qvc_ (J : Orc (As [.bool])) (bits words t41 : Int) (t70 : Bool) (r : VzA4q0) : pfn Tryz.prog q5d_ 6 18446744073709551616 (Ev.get q5m_) 51 q3k_ J 491 [] (qep_ bits words t41 t70 r) = qja_ bits words t41 t70 r := by kernel_rfl
theorem qw1_ (J : Orc (As [.bool])) (bits words t41 : Int) (t42 : Bool) (r : VzA4q0) : pfn Tryz.prog q5d_ 6 18446744073709551616 (Ev.get q5m_) 51 q3k_ J 122 [] (qdl_ bits words t41 t42 r) = qix_ (fun bits words t41 t70 r => J 491 [] (qep_ bits words t41 t70 r)) bits words t41 t42 r := by kernel_rfl
theorem qxr_ (J : Orc (As [.bool])) (x : As [.pr (.int .u8) LAT1]) : rfn Tryz.prog q5d_ 6 18446744073709551616 (Ev.get q5m_) 51 q3k_ J x = qea_ (fun bits words t41 t42 r => J 122 [] (qdl_ bits words t41 t42 r)) x.1 := by kernel_rfl
theorem qw5_ (bits words t41 : Int) (t70 : Bool) (r : VzA4q0) : jfn Tryz.prog q5d_ 6 18446744073709551616 (Ev.get q5m_) 51 q3k_ 491 [] (qep_ bits words t41 t70 r) = q9r_ bits words t41 t70 r := by
  rw [pfn_eq (by decide)]
  rw [qvc_]
  rfl
theorem qwk_ (bits words t41 : Int) (t42 : Bool) (r : VzA4q0) : jfn Tryz.prog q5d_ 6 18446744073709551616 (Ev.get q5m_) 51 q3k_ 122 [] (qdl_ bits words t41 t42 r) = q75_ bits words t41 t42 r := by
  rw [pfn_eq (by decide)]
  have e2 : (fun bits words t41 t70 r => (jfn Tryz.prog q5d_ 6 18446744073709551616 (Ev.get q5m_) 51 q3k_) 491 [] (qep_ bits words t41 t70 r)) = q9r_ := by funext bits words t41 t70 r; exact qw5_ bits words t41 t70 r
  rw [qw1_, e2]
  rfl
theorem qzi_ (x : As [.pr (.int .u8) LAT1]) : evT Tryz.prog q5d_ 6 18446744073709551616 (Ev.get q5m_) 51 q3k_ x = ref03_Right x := by
  have e1 : (fun bits words t41 t42 r => (jfn Tryz.prog q5d_ 6 18446744073709551616 (Ev.get q5m_) 51 q3k_) 122 [] (qdl_ bits words t41 t42 r)) = q75_ := by funext bits words t41 t42 r; exact qwk_ bits words t41 t42 r
  rw [rfn_eq, qxr_, e1]
  rfl
theorem qvv_ : CtOk Tryz.prog (fun _ => True) 51 ⟨q3k_, ref03_Right⟩ := ct_of_ev env_nil qzi_
@[reducible] def qu_ : Sh := ⟨[.d (.pr (.int .u8) LAT1)], [], [.pr (.int .u8) LAT1], [.d (.sl (.int .u8)), .d (.int .i64)], [], 0, [.sl (.int .u8), .int .i64]⟩
def q12_ : Env := (cts [(51, (⟨q3k_, ref03_Right⟩ : Ct)), (52, (⟨qj_, ref02_Pack⟩ : Ct)), (53, (⟨q5k_, ref02_Words⟩ : Ct)), (54, (⟨qc3_, ref02_Two⟩ : Ct))])
def q11_ : List (Nat × Hint) := [(127, ⟨[], [1, 5, 6]⟩), (255, ⟨[], [5, 6]⟩), (254, ⟨[], [1, 5, 6, 68]⟩), (122, ⟨[], [1, 20, 21, 64, 65, 66, 67]⟩), (491, ⟨[], [1, 35, 64, 65, 66, 67]⟩)]
def qe3_ (t20 : Int) (t21 : Bool) (r : VzA4q0) : St := { fr := [(1, .pb 0 0), (20, .d (.int .u8) t20), (21, .d .bool t21)], nt := 80, up := [], own := [(0, .box 72 [.d (.int .u8) r.1, .d (.int .u8) r.2.1, .d (.sl .bool) r.2.2.1, .d (.sl (.int .u16)) r.2.2.2.1, .d (.int .u16) r.2.2.2.2.1, .d (.int .u16) r.2.2.2.2.2])], nx := 1, log := [], ln := 0 }
def qdq_ (t35 : Bool) (r : VzA4q0) : St := { fr := [(1, .pb 0 0), (35, .d .bool t35)], nt := 80, up := [], own := [(0, .box 72 [.d (.int .u8) r.1, .d (.int .u8) r.2.1, .d (.sl .bool) r.2.2.1, .d (.sl (.int .u16)) r.2.2.2.1, .d (.int .u16) r.2.2.2.2.1, .d (.int .u16) r.2.2.2.2.2])], nx := 1, log := [], ln := 0 }
def qdr_ (x : Int) (t68 : Bool) (r : VzA4q0) (out : List Int) : St := { fr := [(1, .pb 0 0), (5, .row 1), (6, .d (.int .i64) x), (68, .d .bool t68)], nt := 80, up := [], own := [(0, .box 72 [.d (.int .u8) r.1, .d (.int .u8) r.2.1, .d (.sl .bool) r.2.2.1, .d (.sl (.int .u16)) r.2.2.2.1, .d (.int .u16) r.2.2.2.2.1, .d (.int .u16) r.2.2.2.2.2]), (1, .row (.int .u8) 5 out)], nx := 2, log := [], ln := 0 }
def qek_ (x : Int) (r : VzA4q0) (out : List Int) : St := { fr := [(1, .pb 0 0), (5, .row 1), (6, .d (.int .i64) x)], nt := 80, up := [], own := [(0, .box 72 [.d (.int .u8) r.1, .d (.int .u8) r.2.1, .d (.sl .bool) r.2.2.1, .d (.sl (.int .u16)) r.2.2.2.1, .d (.int .u16) r.2.2.2.2.1, .d (.int .u16) r.2.2.2.2.2]), (1, .row (.int .u8) 5 out)], nx := 2, log := [], ln := 0 }
def qel_ (x : Int) (out : List Int) : St := { fr := [(5, .row 0), (6, .d (.int .i64) x)], nt := 80, up := [], own := [(0, .row (.int .u8) 5 out)], nx := 1, log := [], ln := 0 }
def qpk_ (j2 : Bool -> VzA4q0 -> Option (As [.sl (.int .u8), .int .i64])) (t20 : Int) (t21 : Bool) (r : VzA4q0) : Option (As [.sl (.int .u8), .int .i64]) :=
  if t21 = true then Option.bind (ref02_Pack (r.2.2.1, ())) fun (y : List Int × Unit) => need (small (Nat.succ (Nat.succ 0) + List.length y.1)) (some (r.1 :: cvt .u8 (Int.ofNat (List.length y.1)) :: y.1, 0, ())) else if eqi t20 3 = true then j2 true r else if eqi t20 4 = true then j2 true r else j2 (eqi t20 23) r
def qp8_ (j3 : Int -> Bool -> VzA4q0 -> List Int -> Option (As [.sl (.int .u8), .int .i64])) (t35 : Bool) (r : VzA4q0) : Option (As [.sl (.int .u8), .int .i64]) :=
  if t35 = true then Option.bind (ref02_Words (r.2.2.2.1, [r.1, cvt .u8 (mul .i64 2 (Int.ofNat (List.length r.2.2.2.1)))], ())) fun (y : List Int × Unit) => some (y.1, 0, ()) else Option.bind (ref02_Two (cvt .i64 r.2.2.2.2.1, [r.1], ())) fun (y : List Int × Unit) => if eqi r.1 5 = true then Option.bind (at? r.2.2.1 0) fun (y_1 : Bool) => j3 (cvt .i64 r.2.2.2.2.2) y_1 r y.1 else j3 (cvt .i64 r.2.2.2.2.2) false r y.1
def qpt_ (j4 : Int -> VzA4q0 -> List Int -> Option (As [.sl (.int .u8), .int .i64])) (x : Int) (t68 : Bool) (r : VzA4q0) (out : List Int) : Option (As [.sl (.int .u8), .int .i64]) :=
  if t68 = true then j4 65280 r out else j4 x r out
def qoy_ (j5 : Int -> List Int -> Option (As [.sl (.int .u8), .int .i64])) (x : Int) (r : VzA4q0) (out : List Int) : Option (As [.sl (.int .u8), .int .i64]) :=
  if eqi r.1 6 = true then Option.bind (at? r.2.2.2.1 0) fun (y : Int) => j5 (cvt .i64 y) out else j5 x out
def qjn_ (x : Int) (out : List Int) : Option (As [.sl (.int .u8), .int .i64]) :=
  Option.bind (ref02_Two (x, out, ())) fun (y : List Int × Unit) => some (y.1, 0, ())
def qef_ (j1 : Int -> Bool -> VzA4q0 -> Option (As [.sl (.int .u8), .int .i64])) (r : VzA4q0) : Option (As [.sl (.int .u8), .int .i64]) :=
  Option.bind (ref03_Right (r, ())) fun (y : Bool × Unit) => if (!y.1) = true then some ([], 13, ()) else if nei r.2.1 0 = true then some ([add .u8 r.1 128, r.2.1], 0, ()) else if eqi r.1 1 = true then j1 r.1 true r else j1 r.1 (eqi r.1 2) r
def q4l_ (x : Int) (out : List Int) : Option (As [.sl (.int .u8), .int .i64]) := qjn_ x out
def qj1_ (x : Int) (r : VzA4q0) (out : List Int) : Option (As [.sl (.int .u8), .int .i64]) := qoy_ (q4l_) x r out
def qdu_ (x : Int) (t68 : Bool) (r : VzA4q0) (out : List Int) : Option (As [.sl (.int .u8), .int .i64]) := qpt_ (qj1_) x t68 r out
def qdj_ (t35 : Bool) (r : VzA4q0) : Option (As [.sl (.int .u8), .int .i64]) := qp8_ (qdu_) t35 r
def qa0_ (t20 : Int) (t21 : Bool) (r : VzA4q0) : Option (As [.sl (.int .u8), .int .i64]) := qpk_ (qdj_) t20 t21 r
def ref03_Bytes (x : As [.pr (.int .u8) LAT1]) : Option (As [.sl (.int .u8), .int .i64]) := qef_ qa0_ x.1
theorem qxn_ (J : Orc (As [.sl (.int .u8), .int .i64])) (x : Int) (out : List Int) : pfn Tryz.prog q12_ 6 18446744073709551616 (Ev.get q11_) 33 qu_ J 255 [] (qel_ x out) = qjn_ x out := by kernel_rfl
theorem qwj_ (J : Orc (As [.sl (.int .u8), .int .i64])) (x : Int) (r : VzA4q0) (out : List Int) : pfn Tryz.prog q12_ 6 18446744073709551616 (Ev.get q11_) 33 qu_ J 127 [] (qek_ x r out) = qoy_ (fun x out => J 255 [] (qel_ x out)) x r out := by kernel_rfl
theorem qyb_ (J : Orc (As [.sl (.int .u8), .int .i64])) (x : Int) (t68 : Bool) (r : VzA4q0) (out : List Int) : pfn Tryz.prog q12_ 6 18446744073709551616 (Ev.get q11_) 33 qu_ J 254 [] (qdr_ x t68 r out) = qpt_ (fun x r out => J 127 [] (qek_ x r out)) x t68 r out := by kernel_rfl
theorem qxx_ (J : Orc (As [.sl (.int .u8), .int .i64])) (t35 : Bool) (r : VzA4q0) : pfn Tryz.prog q12_ 6 18446744073709551616 (Ev.get q11_) 33 qu_ J 491 [] (qdq_ t35 r) = qp8_ (fun x t68 r out => J 254 [] (qdr_ x t68 r out)) t35 r := by kernel_rfl
theorem qwm_ (J : Orc (As [.sl (.int .u8), .int .i64])) (t20 : Int) (t21 : Bool) (r : VzA4q0) : pfn Tryz.prog q12_ 6 18446744073709551616 (Ev.get q11_) 33 qu_ J 122 [] (qe3_ t20 t21 r) = qpk_ (fun t35 r => J 491 [] (qdq_ t35 r)) t20 t21 r := by kernel_rfl
theorem qyd_ (J : Orc (As [.sl (.int .u8), .int .i64])) (x : As [.pr (.int .u8) LAT1]) : rfn Tryz.prog q12_ 6 18446744073709551616 (Ev.get q11_) 33 qu_ J x = qef_ (fun t20 t21 r => J 122 [] (qe3_ t20 t21 r)) x.1 := by kernel_rfl
theorem qwg_ (x : Int) (out : List Int) : jfn Tryz.prog q12_ 6 18446744073709551616 (Ev.get q11_) 33 qu_ 255 [] (qel_ x out) = q4l_ x out := by
  rw [pfn_eq (by decide)]
  rw [qxn_]
  rfl
theorem qxk_ (x : Int) (r : VzA4q0) (out : List Int) : jfn Tryz.prog q12_ 6 18446744073709551616 (Ev.get q11_) 33 qu_ 127 [] (qek_ x r out) = qj1_ x r out := by
  rw [pfn_eq (by decide)]
  have e5 : (fun x out => (jfn Tryz.prog q12_ 6 18446744073709551616 (Ev.get q11_) 33 qu_) 255 [] (qel_ x out)) = q4l_ := by funext x out; exact qwg_ x out
  rw [qwj_, e5]
  rfl
theorem qvs_ (x : Int) (t68 : Bool) (r : VzA4q0) (out : List Int) : jfn Tryz.prog q12_ 6 18446744073709551616 (Ev.get q11_) 33 qu_ 254 [] (qdr_ x t68 r out) = qdu_ x t68 r out := by
  rw [pfn_eq (by decide)]
  have e4 : (fun x r out => (jfn Tryz.prog q12_ 6 18446744073709551616 (Ev.get q11_) 33 qu_) 127 [] (qek_ x r out)) = qj1_ := by funext x r out; exact qxk_ x r out
  rw [qyb_, e4]
  rfl
theorem qy8_ (t35 : Bool) (r : VzA4q0) : jfn Tryz.prog q12_ 6 18446744073709551616 (Ev.get q11_) 33 qu_ 491 [] (qdq_ t35 r) = qdj_ t35 r := by
  rw [pfn_eq (by decide)]
  have e3 : (fun x t68 r out => (jfn Tryz.prog q12_ 6 18446744073709551616 (Ev.get q11_) 33 qu_) 254 [] (qdr_ x t68 r out)) = qdu_ := by funext x t68 r out; exact qvs_ x t68 r out
  rw [qxx_, e3]
  rfl
theorem qvo_ (t20 : Int) (t21 : Bool) (r : VzA4q0) : jfn Tryz.prog q12_ 6 18446744073709551616 (Ev.get q11_) 33 qu_ 122 [] (qe3_ t20 t21 r) = qa0_ t20 t21 r := by
  rw [pfn_eq (by decide)]
  have e2 : (fun t35 r => (jfn Tryz.prog q12_ 6 18446744073709551616 (Ev.get q11_) 33 qu_) 491 [] (qdq_ t35 r)) = qdj_ := by funext t35 r; exact qy8_ t35 r
  rw [qwm_, e2]
  rfl
theorem qz6_ (x : As [.pr (.int .u8) LAT1]) : evT Tryz.prog q12_ 6 18446744073709551616 (Ev.get q11_) 33 qu_ x = ref03_Bytes x := by
  have e1 : (fun t20 t21 r => (jfn Tryz.prog q12_ 6 18446744073709551616 (Ev.get q11_) 33 qu_) 122 [] (qe3_ t20 t21 r)) = qa0_ := by funext t20 t21 r; exact qvo_ t20 t21 r
  rw [rfn_eq, qyd_, e1]
  rfl
theorem qxi_ : CtOk Tryz.prog (fun _ => True) 33 ⟨qu_, ref03_Bytes⟩ := ct_of_ev (env_cons qvv_ (env_cons qqr_ (env_cons qog_ (env_cons qma_ env_nil)))) qz6_
@[reducible] def qcm_ : Sh := ⟨[.d (.pr (.sl .bool) LAT4)], [], [.pr (.sl .bool) LAT4], [.d (.pr (.sl .bool) LAT4)], [], 0, [.pr (.sl .bool) LAT4]⟩
def qrw_ : Env := (cts [])
def qs0_ : List (Nat × Hint) := []
def qgl_ (m : List Bool × List Bool × List Int × List Int) : Option (As [.pr (.sl .bool) LAT4]) :=
  need (small (0 + List.length m.1)) (need (small (0 + List.length m.2.1)) (need (small (0 + List.length m.2.2.1)) (need (small (0 + List.length m.2.2.2)) (some (m, ())))))
def ref07_Copy (x : As [.pr (.sl .bool) LAT4]) : Option (As [.pr (.sl .bool) LAT4]) := qgl_ x.1
theorem qz5_ (J : Orc (As [.pr (.sl .bool) LAT4])) (x : As [.pr (.sl .bool) LAT4]) : rfn Tryz.prog qrw_ 6 18446744073709551616 (Ev.get qs0_) 34 qcm_ J x = qgl_ x.1 := by kernel_rfl
theorem q121_ (x : As [.pr (.sl .bool) LAT4]) : evT Tryz.prog qrw_ 6 18446744073709551616 (Ev.get qs0_) 34 qcm_ x = ref07_Copy x := by
  rw [rfn_eq, qz5_]
  rfl
theorem qqe_ : CtOk Tryz.prog (fun _ => True) 34 ⟨qcm_, ref07_Copy⟩ := ct_of_ev env_nil q121_
@[reducible] def q52_ : Sh := ⟨[.d LAT0, .d (.int .i64)], [], [.sl (.pr (.int .i64) LAT7), .int .i64], [.d (.int .i64)], [], 0, [.int .i64]⟩
def q94_ : Env := (cts [])
def q8y_ : List (Nat × Hint) := [(26, ⟨[], [0, 1, 5, 20, 21, 22, 23, 24, 25, 28, 29, 30, 31, 32, 33, 34, 35, 36, 37, 38, 39, 40, 41, 42, 43]⟩), (420, ⟨[.agd 28 (.int .i64), .agd 29 (.int .u64), .agd 30 LAT0, .agd 31 (.int .i64), .agd 34 (.int .i64), .agd 35 (.int .u64), .agd 36 (.int .u64), .agd 37 LAT0, .agd 38 (.int .i64), .agd 41 (.int .i64), .agd 42 (.int .u64), .agd 43 .bool, .agd 20 LAT0, .agd 21 (.int .i64), .agd 24 (.int .i64), .agd 25 .bool], [0, 1, 5, 44]⟩)]
def q64_ (l : List LAT3) (at' i : Int) : St := { fr := [(0, .d LAT0 l), (1, .d (.int .i64) at'), (5, .d (.int .i64) i)], nt := 46, up := [], own := [], nx := 0, log := [], ln := 0 }
def qke_ (l : List LAT3) (at' i : Int) (t44 : Bool) : St := { fr := [(0, .d LAT0 l), (1, .d (.int .i64) at'), (5, .d (.int .i64) i), (44, .d .bool t44)], nt := 46, up := [], own := [], nx := 0, log := [], ln := 0 }
def qfa_ (j2 : List LAT3 -> Int -> Int -> Bool -> Option (As [.int .i64])) (self1 : List LAT3 -> Int -> Int -> Option (As [.int .i64])) (l : List LAT3) (at' i : Int) : Option (As [.int .i64]) :=
  if lt i (Int.ofNat (List.length l)) = true then Option.bind (at? l i) fun (y : Int × Int × Bool × Bool × Bool) => if ge at' y.1 = true then Option.bind (at? l i) fun (y : Int × Int × Bool × Bool × Bool) => if gt y.2.1 0 = true then Option.bind (at? l i) fun (y : Int × Int × Bool × Bool × Bool) => Option.bind (at? l i) fun (y_1 : Int × Int × Bool × Bool × Bool) => j2 l at' i (lt (Sx.sub .u64 (cvt .u64 at') (cvt .u64 y.1)) (cvt .u64 y_1.2.1)) else j2 l at' i false else j2 l at' i false else some (-1, ())
def qno_ (self1 : List LAT3 -> Int -> Int -> Option (As [.int .i64])) (l : List LAT3) (at' i : Int) (t44 : Bool) : Option (As [.int .i64]) :=
  if t44 = true then some (i, ()) else self1 l at' (add .i64 i 1)
def qt2_ (j1 : List LAT3 -> Int -> Int -> Option (As [.int .i64])) (l : List LAT3) (at' : Int) : Option (As [.int .i64]) :=
  j1 l at' 0
def qc6_ (u1 : List LAT3 -> Int -> Int -> Option (As [.int .i64])) (l : List LAT3) (at' i : Int) (t44 : Bool) : Option (As [.int .i64]) := qno_ u1 l at' i t44
def qbt_ (l : List LAT3) (at' i : Int) : Option (As [.int .i64]) :=
  loopF (fun (self : (List LAT3) × (Int) × (Int) -> Option (As [.int .i64])) (s : (List LAT3) × (Int) × (Int)) => qfa_ (qc6_ (fun l at' i => self (l, at', i))) (fun l at' i => self (l, at', i)) s.1 s.2.1 s.2.2) 18446744073709551616 (l, at', i)
def ref07_in (x : As [.sl (.pr (.int .i64) LAT7), .int .i64]) : Option (As [.int .i64]) := qt2_ qbt_ x.1 x.2.1
theorem q14p_ (J : Orc (As [.int .i64])) (w1 : St -> Option (As [.int .i64])) (l : List LAT3) (at' i : Int) (t44 : Bool) : pfn Tryz.prog q94_ 6 18446744073709551616 (Ev.get q8y_) 80 q52_ J 420 [w1] (qke_ l at' i t44) = qno_ (fun l at' i => w1 (q64_ l at' i)) l at' i t44 := by kernel_rfl
theorem q159_ (J : Orc (As [.int .i64])) (w1 : St -> Option (As [.int .i64])) (l : List LAT3) (at' i : Int) : pfn Tryz.prog q94_ 6 18446744073709551616 (Ev.get q8y_) 80 q52_ J 26 [w1] (q64_ l at' i) = qfa_ (fun l at' i t44 => J 420 [w1] (qke_ l at' i t44)) (fun l at' i => w1 (q64_ l at' i)) l at' i := by kernel_rfl
theorem q142_ (J : Orc (As [.int .i64])) (x : As [.sl (.pr (.int .i64) LAT7), .int .i64]) : rfn Tryz.prog q94_ 6 18446744073709551616 (Ev.get q8y_) 80 q52_ J x = qt2_ (fun l at' i => J 26 [] (q64_ l at' i)) x.1 x.2.1 := by kernel_rfl
theorem q14c_ (w1 : St -> Option (As [.int .i64])) (l : List LAT3) (at' i : Int) (t44 : Bool) : jfn Tryz.prog q94_ 6 18446744073709551616 (Ev.get q8y_) 80 q52_ 420 [w1] (qke_ l at' i t44) = qc6_ (fun l at' i => w1 (q64_ l at' i)) l at' i t44 := by
  rw [pfn_eq (by decide)]
  rw [q14p_]
  rfl
theorem q13r_ (l : List LAT3) (at' i : Int) : jfn Tryz.prog q94_ 6 18446744073709551616 (Ev.get q8y_) 80 q52_ 26 [] (q64_ l at' i) = qbt_ l at' i := by
  rw [pfn_eq (by decide)]
  rw [pfn_loop (by kernel_rfl)]
  refine loopF_sim (σ := (List LAT3) × (Int) × (Int)) (mk := fun s => q64_ s.1 s.2.1 s.2.2) (fun w1 s => ?_) 18446744073709551616 (l, at', i)
  have e2 : (fun l at' i t44 => (jfn Tryz.prog q94_ 6 18446744073709551616 (Ev.get q8y_) 80 q52_) 420 [w1] (qke_ l at' i t44)) = qc6_ (fun l at' i => w1 (q64_ l at' i)) := by funext l at' i t44; exact q14c_ w1 l at' i t44
  refine (q159_ _ w1 s.1 s.2.1 s.2.2).trans ?_
  rw [e2]
theorem q15i_ (x : As [.sl (.pr (.int .i64) LAT7), .int .i64]) : evT Tryz.prog q94_ 6 18446744073709551616 (Ev.get q8y_) 80 q52_ x = ref07_in x := by
  have e1 : (fun l at' i => (jfn Tryz.prog q94_ 6 18446744073709551616 (Ev.get q8y_) 80 q52_) 26 [] (q64_ l at' i)) = qbt_ := by funext l at' i; exact q13r_ l at' i
  rw [rfn_eq, q142_, e1]
  rfl
theorem qsw_ : CtOk Tryz.prog (fun _ => True) 80 ⟨q52_, ref07_in⟩ := ct_of_ev env_nil q15i_
@[reducible] def q3h_ : Sh := ⟨[.d LAT0, .d (.int .i64), .d (.int .i64)], [], [.sl (.pr (.int .i64) LAT7), .int .i64, .int .i64], [.d (.bool)], [], 0, [.bool]⟩
def q5l_ : Env := (cts [(80, (⟨q52_, ref07_in⟩ : Ct))])
def q5e_ : List (Nat × Hint) := [(26, ⟨[], [0, 1, 2, 7, 23, 24, 25, 26, 27, 28]⟩), (841, ⟨[.agd 23 LAT0, .agd 24 (.int .i64), .agd 27 .bool, .agd 28 .bool], [0, 1, 2, 7, 29]⟩)]
def q3n_ (l : List LAT3) (at' many k : Int) : St := { fr := [(0, .d LAT0 l), (1, .d (.int .i64) at'), (2, .d (.int .i64) many), (7, .d (.int .i64) k)], nt := 30, up := [], own := [], nx := 0, log := [], ln := 0 }
def qeo_ (l : List LAT3) (at' many k : Int) (t29 : Bool) : St := { fr := [(0, .d LAT0 l), (1, .d (.int .i64) at'), (2, .d (.int .i64) many), (7, .d (.int .i64) k), (29, .d .bool t29)], nt := 30, up := [], own := [], nx := 0, log := [], ln := 0 }
def q7c_ (j2 : List LAT3 -> Int -> Int -> Int -> Bool -> Option (As [.bool])) (self1 : List LAT3 -> Int -> Int -> Int -> Option (As [.bool])) (l : List LAT3) (at' many k : Int) : Option (As [.bool]) :=
  if lt k (add .i64 at' many) = true then Option.bind (ref07_in (l, k, ())) fun (y : Int × Unit) => if lt y.1 0 = true then j2 l at' many k true else Option.bind (at? l y.1) fun (y : Int × Int × Bool × Bool × Bool) => j2 l at' many k !y.2.2.1 else some (true, ())
def qp2_ (self1 : List LAT3 -> Int -> Int -> Int -> Option (As [.bool])) (l : List LAT3) (at' many k : Int) (t29 : Bool) : Option (As [.bool]) :=
  if t29 = true then some (false, ()) else self1 l at' many (add .i64 k 1)
def qox_ (j1 : List LAT3 -> Int -> Int -> Int -> Option (As [.bool])) (l : List LAT3) (at' many : Int) : Option (As [.bool]) :=
  j1 l at' many at'
def q9t_ (u1 : List LAT3 -> Int -> Int -> Int -> Option (As [.bool])) (l : List LAT3) (at' many k : Int) (t29 : Bool) : Option (As [.bool]) := qp2_ u1 l at' many k t29
def q76_ (l : List LAT3) (at' many k : Int) : Option (As [.bool]) :=
  loopF (fun (self : (List LAT3) × (Int) × (Int) × (Int) -> Option (As [.bool])) (s : (List LAT3) × (Int) × (Int) × (Int)) => q7c_ (q9t_ (fun l at' many k => self (l, at', many, k))) (fun l at' many k => self (l, at', many, k)) s.1 s.2.1 s.2.2.1 s.2.2.2) 18446744073709551616 (l, at', many, k)
def ref07_reads (x : As [.sl (.pr (.int .i64) LAT7), .int .i64, .int .i64]) : Option (As [.bool]) := qox_ q76_ x.1 x.2.1 x.2.2.1
theorem qxf_ (J : Orc (As [.bool])) (w1 : St -> Option (As [.bool])) (l : List LAT3) (at' many k : Int) (t29 : Bool) : pfn Tryz.prog q5l_ 6 18446744073709551616 (Ev.get q5e_) 72 q3h_ J 841 [w1] (qeo_ l at' many k t29) = qp2_ (fun l at' many k => w1 (q3n_ l at' many k)) l at' many k t29 := by kernel_rfl
theorem qvj_ (J : Orc (As [.bool])) (w1 : St -> Option (As [.bool])) (l : List LAT3) (at' many k : Int) : pfn Tryz.prog q5l_ 6 18446744073709551616 (Ev.get q5e_) 72 q3h_ J 26 [w1] (q3n_ l at' many k) = q7c_ (fun l at' many k t29 => J 841 [w1] (qeo_ l at' many k t29)) (fun l at' many k => w1 (q3n_ l at' many k)) l at' many k := by kernel_rfl
theorem qvm_ (J : Orc (As [.bool])) (x : As [.sl (.pr (.int .i64) LAT7), .int .i64, .int .i64]) : rfn Tryz.prog q5l_ 6 18446744073709551616 (Ev.get q5e_) 72 q3h_ J x = qox_ (fun l at' many k => J 26 [] (q3n_ l at' many k)) x.1 x.2.1 x.2.2.1 := by kernel_rfl
theorem qvd_ (w1 : St -> Option (As [.bool])) (l : List LAT3) (at' many k : Int) (t29 : Bool) : jfn Tryz.prog q5l_ 6 18446744073709551616 (Ev.get q5e_) 72 q3h_ 841 [w1] (qeo_ l at' many k t29) = q9t_ (fun l at' many k => w1 (q3n_ l at' many k)) l at' many k t29 := by
  rw [pfn_eq (by decide)]
  rw [qxf_]
  rfl
theorem qx2_ (l : List LAT3) (at' many k : Int) : jfn Tryz.prog q5l_ 6 18446744073709551616 (Ev.get q5e_) 72 q3h_ 26 [] (q3n_ l at' many k) = q76_ l at' many k := by
  rw [pfn_eq (by decide)]
  rw [pfn_loop (by kernel_rfl)]
  refine loopF_sim (σ := (List LAT3) × (Int) × (Int) × (Int)) (mk := fun s => q3n_ s.1 s.2.1 s.2.2.1 s.2.2.2) (fun w1 s => ?_) 18446744073709551616 (l, at', many, k)
  have e2 : (fun l at' many k t29 => (jfn Tryz.prog q5l_ 6 18446744073709551616 (Ev.get q5e_) 72 q3h_) 841 [w1] (qeo_ l at' many k t29)) = q9t_ (fun l at' many k => w1 (q3n_ l at' many k)) := by funext l at' many k t29; exact qvd_ w1 l at' many k t29
  refine (qvj_ _ w1 s.1 s.2.1 s.2.2.1 s.2.2.2).trans ?_
  rw [e2]
theorem qyu_ (x : As [.sl (.pr (.int .i64) LAT7), .int .i64, .int .i64]) : evT Tryz.prog q5l_ 6 18446744073709551616 (Ev.get q5e_) 72 q3h_ x = ref07_reads x := by
  have e1 : (fun l at' many k => (jfn Tryz.prog q5l_ 6 18446744073709551616 (Ev.get q5e_) 72 q3h_) 26 [] (q3n_ l at' many k)) = q76_ := by funext l at' many k; exact qx2_ l at' many k
  rw [rfn_eq, qvm_, e1]
  rfl
theorem qy5_ : CtOk Tryz.prog (fun _ => True) 72 ⟨q3h_, ref07_reads⟩ := ct_of_ev (env_cons qsw_ env_nil) qyu_
@[reducible] def q2z_ : Sh := ⟨[.d LAT0, .d (.int .i64), .d (.int .i64)], [], [.sl (.pr (.int .i64) LAT7), .int .i64, .int .i64], [.d (.bool)], [], 0, [.bool]⟩
def q4m_ : Env := (cts [(80, (⟨q52_, ref07_in⟩ : Ct))])
def q4n_ : List (Nat × Hint) := [(26, ⟨[], [0, 1, 2, 7, 23, 24, 25, 26, 27, 28, 31, 32, 33, 34, 35, 36, 37, 38, 39, 40, 41, 42, 43, 44, 45, 46, 47, 48, 49, 50, 51, 52, 53]⟩), (841, ⟨[.agd 23 LAT0, .agd 24 (.int .i64), .agd 27 .bool, .agd 28 .bool, .agd 31 LAT0, .agd 32 (.int .i64), .agd 35 .bool, .agd 36 .bool, .agd 37 LAT0, .agd 38 (.int .i64), .agd 41 (.int .i64), .agd 42 (.int .i64), .agd 43 .bool, .agd 44 .bool, .agd 52 .bool, .agd 53 .bool, .agd 45 LAT0, .agd 46 (.int .i64), .agd 49 (.int .i64), .agd 50 (.int .i64), .agd 51 .bool], [0, 1, 2, 7, 54]⟩)]
def q33_ (l : List LAT3) (at' many k : Int) : St := { fr := [(0, .d LAT0 l), (1, .d (.int .i64) at'), (2, .d (.int .i64) many), (7, .d (.int .i64) k)], nt := 55, up := [], own := [], nx := 0, log := [], ln := 0 }
def qcb_ (l : List LAT3) (at' many k : Int) (t54 : Bool) : St := { fr := [(0, .d LAT0 l), (1, .d (.int .i64) at'), (2, .d (.int .i64) many), (7, .d (.int .i64) k), (54, .d .bool t54)], nt := 55, up := [], own := [], nx := 0, log := [], ln := 0 }
def q6o_ (j2 : List LAT3 -> Int -> Int -> Int -> Bool -> Option (As [.bool])) (self1 : List LAT3 -> Int -> Int -> Int -> Option (As [.bool])) (l : List LAT3) (at' many k : Int) : Option (As [.bool]) :=
  if lt k (add .i64 at' many) = true then Option.bind (ref07_in (l, k, ())) fun (y : Int × Unit) => if lt y.1 0 = true then j2 l at' many k true else Option.bind (at? l y.1) fun (y_1 : Int × Int × Bool × Bool × Bool) => if (!y_1.2.2.2.1) = true then j2 l at' many k true else Option.bind (at? l y.1) fun (y_2 : Int × Int × Bool × Bool × Bool) => if y_2.2.2.2.2 = true then Option.bind (at? l y.1) fun (y_3 : Int × Int × Bool × Bool × Bool) => if nei y_3.1 at' = true then j2 l at' many k true else Option.bind (at? l y.1) fun (y : Int × Int × Bool × Bool × Bool) => j2 l at' many k (nei y.2.1 many) else j2 l at' many k false else some (true, ())
def qnl_ (self1 : List LAT3 -> Int -> Int -> Int -> Option (As [.bool])) (l : List LAT3) (at' many k : Int) (t54 : Bool) : Option (As [.bool]) :=
  if t54 = true then some (false, ()) else self1 l at' many (add .i64 k 1)
def qnm_ (j1 : List LAT3 -> Int -> Int -> Int -> Option (As [.bool])) (l : List LAT3) (at' many : Int) : Option (As [.bool]) :=
  j1 l at' many at'
def q9e_ (u1 : List LAT3 -> Int -> Int -> Int -> Option (As [.bool])) (l : List LAT3) (at' many k : Int) (t54 : Bool) : Option (As [.bool]) := qnl_ u1 l at' many k t54
def q6i_ (l : List LAT3) (at' many k : Int) : Option (As [.bool]) :=
  loopF (fun (self : (List LAT3) × (Int) × (Int) × (Int) -> Option (As [.bool])) (s : (List LAT3) × (Int) × (Int) × (Int)) => q6o_ (q9e_ (fun l at' many k => self (l, at', many, k))) (fun l at' many k => self (l, at', many, k)) s.1 s.2.1 s.2.2.1 s.2.2.2) 18446744073709551616 (l, at', many, k)
def ref07_writes (x : As [.sl (.pr (.int .i64) LAT7), .int .i64, .int .i64]) : Option (As [.bool]) := qnm_ q6i_ x.1 x.2.1 x.2.2.1
theorem que_ (J : Orc (As [.bool])) (w1 : St -> Option (As [.bool])) (l : List LAT3) (at' many k : Int) (t54 : Bool) : pfn Tryz.prog q4m_ 6 18446744073709551616 (Ev.get q4n_) 73 q2z_ J 841 [w1] (qcb_ l at' many k t54) = qnl_ (fun l at' many k => w1 (q33_ l at' many k)) l at' many k t54 := by kernel_rfl
theorem quz_ (J : Orc (As [.bool])) (w1 : St -> Option (As [.bool])) (l : List LAT3) (at' many k : Int) : pfn Tryz.prog q4m_ 6 18446744073709551616 (Ev.get q4n_) 73 q2z_ J 26 [w1] (q33_ l at' many k) = q6o_ (fun l at' many k t54 => J 841 [w1] (qcb_ l at' many k t54)) (fun l at' many k => w1 (q33_ l at' many k)) l at' many k := by kernel_rfl
theorem quw_ (J : Orc (As [.bool])) (x : As [.sl (.pr (.int .i64) LAT7), .int .i64, .int .i64]) : rfn Tryz.prog q4m_ 6 18446744073709551616 (Ev.get q4n_) 73 q2z_ J x = qnm_ (fun l at' many k => J 26 [] (q33_ l at' many k)) x.1 x.2.1 x.2.2.1 := by kernel_rfl
theorem qv5_ (w1 : St -> Option (As [.bool])) (l : List LAT3) (at' many k : Int) (t54 : Bool) : jfn Tryz.prog q4m_ 6 18446744073709551616 (Ev.get q4n_) 73 q2z_ 841 [w1] (qcb_ l at' many k t54) = q9e_ (fun l at' many k => w1 (q33_ l at' many k)) l at' many k t54 := by
  rw [pfn_eq (by decide)]
  rw [que_]
  rfl
theorem qui_ (l : List LAT3) (at' many k : Int) : jfn Tryz.prog q4m_ 6 18446744073709551616 (Ev.get q4n_) 73 q2z_ 26 [] (q33_ l at' many k) = q6i_ l at' many k := by
  rw [pfn_eq (by decide)]
  rw [pfn_loop (by kernel_rfl)]
  refine loopF_sim (σ := (List LAT3) × (Int) × (Int) × (Int)) (mk := fun s => q33_ s.1 s.2.1 s.2.2.1 s.2.2.2) (fun w1 s => ?_) 18446744073709551616 (l, at', many, k)
  have e2 : (fun l at' many k t54 => (jfn Tryz.prog q4m_ 6 18446744073709551616 (Ev.get q4n_) 73 q2z_) 841 [w1] (qcb_ l at' many k t54)) = q9e_ (fun l at' many k => w1 (q33_ l at' many k)) := by funext l at' many k t54; exact qv5_ w1 l at' many k t54
  refine (quz_ _ w1 s.1 s.2.1 s.2.2.1 s.2.2.2).trans ?_
  rw [e2]
theorem qvt_ (x : As [.sl (.pr (.int .i64) LAT7), .int .i64, .int .i64]) : evT Tryz.prog q4m_ 6 18446744073709551616 (Ev.get q4n_) 73 q2z_ x = ref07_writes x := by
  have e1 : (fun l at' many k => (jfn Tryz.prog q4m_ 6 18446744073709551616 (Ev.get q4n_) 73 q2z_) 26 [] (q33_ l at' many k)) = q6i_ := by funext l at' many k; exact qui_ l at' many k
  rw [rfn_eq, quw_, e1]
  rfl
theorem quq_ : CtOk Tryz.prog (fun _ => True) 73 ⟨q2z_, ref07_writes⟩ := ct_of_ev (env_cons qsw_ env_nil) qvt_
@[reducible] def q1g_ : Sh := ⟨[.d (.pr LAT0 (.pr LAT0 (.pr LAT0 LAT0))), .d (.pr (.int .u8) LAT2)], [], [.pr LAT0 (.pr LAT0 (.pr LAT0 LAT0)), .pr (.int .u8) LAT2], [.d (.int .u8)], [], 0, [.int .u8]⟩
def q1v_ : Env := (cts [(71, (⟨q1f_, ref02_Right⟩ : Ct)), (72, (⟨q3h_, ref07_reads⟩ : Ct)), (73, (⟨q2z_, ref07_writes⟩ : Ct))])
def q1z_ : List (Nat × Hint) := [(31, ⟨[], [7]⟩), (64255, ⟨[], [2, 3, 5, 6, 18, 25, 26, 27, 28, 29, 30, 31, 32, 33, 63]⟩), (257023, ⟨[], [2, 3, 5, 6, 25, 26, 27, 28, 29, 30, 31, 32, 33, 73]⟩)]
def q4g_ (ok : Bool) : St := { fr := [(7, .d .bool ok)], nt := 85, up := [], own := [], nx := 0, log := [], ln := 0 }
def qej_ (at' many t18 : Int) (t63 : Bool) (s : List LAT3 × List LAT3 × List LAT3 × List LAT3) (a : VzA4q1) : St := { fr := [(2, .pb 0 0), (3, .pb 1 0), (5, .d (.int .i64) at'), (6, .d (.int .i64) many), (18, .d (.int .u8) t18), (63, .d .bool t63)], nt := 85, up := [], own := [(0, .box 46 [.d LAT0 s.1, .d LAT0 s.2.1, .d LAT0 s.2.2.1, .d LAT0 s.2.2.2]), (1, .box 65 [.d (.int .u8) a.1, .d (.int .u16) a.2.1, .d (.int .u16) a.2.2.1, .d (.int .u16) a.2.2.2.1, .d (.sl (.int .u16)) a.2.2.2.2.1, .d (.sl .bool) a.2.2.2.2.2])], nx := 2, log := [], ln := 0 }
def qeb_ (at' many : Int) (t73 : Bool) (s : List LAT3 × List LAT3 × List LAT3 × List LAT3) (a : VzA4q1) : St := { fr := [(2, .pb 0 0), (3, .pb 1 0), (5, .d (.int .i64) at'), (6, .d (.int .i64) many), (73, .d .bool t73)], nt := 85, up := [], own := [(0, .box 46 [.d LAT0 s.1, .d LAT0 s.2.1, .d LAT0 s.2.2.1, .d LAT0 s.2.2.2]), (1, .box 65 [.d (.int .u8) a.1, .d (.int .u16) a.2.1, .d (.int .u16) a.2.2.1, .d (.int .u16) a.2.2.2.1, .d (.sl (.int .u16)) a.2.2.2.2.1, .d (.sl .bool) a.2.2.2.2.2])], nx := 2, log := [], ln := 0 }
def qoz_ (ok : Bool) : Option (As [.int .u8]) :=
  if (!ok) = true then some (2, ()) else some (0, ())
def qof_ (j1 : Bool -> Option (As [.int .u8])) (j3 : Int -> Int -> Bool -> List LAT3 × List LAT3 × List LAT3 × List LAT3 -> VzA4q1 -> Option (As [.int .u8])) (at' many t18 : Int) (t63 : Bool) (s : List LAT3 × List LAT3 × List LAT3 × List LAT3) (a : VzA4q1) : Option (As [.int .u8]) :=
  if t63 = true then Option.bind (ref07_writes (s.1, at', Int.ofNat (List.length a.2.2.2.2.2), ())) fun (y : Bool × Unit) => j1 y.1 else if eqi t18 6 = true then j3 at' many true s a else j3 at' many (eqi t18 16) s a
def qpg_ (j1 : Bool -> Option (As [.int .u8])) (at' many : Int) (t73 : Bool) (s : List LAT3 × List LAT3 × List LAT3 × List LAT3) (a : VzA4q1) : Option (As [.int .u8]) :=
  if t73 = true then Option.bind (ref07_writes (s.2.2.1, at', Int.ofNat (List.length a.2.2.2.2.1), ())) fun (y : Bool × Unit) => j1 y.1 else Option.bind (ref07_reads (s.2.2.1, at', many, ())) fun (y : Bool × Unit) => if y.1 = true then Option.bind (ref07_writes (s.2.2.1, cvt .i64 a.2.2.2.1, Int.ofNat (List.length a.2.2.2.2.1), ())) fun (y : Bool × Unit) => j1 y.1 else j1 false
def qe0_ (j1 : Bool -> Option (As [.int .u8])) (j2 : Int -> Int -> Int -> Bool -> List LAT3 × List LAT3 × List LAT3 × List LAT3 -> VzA4q1 -> Option (As [.int .u8])) (s : List LAT3 × List LAT3 × List LAT3 × List LAT3) (a : VzA4q1) : Option (As [.int .u8]) :=
  Option.bind (ref02_Right (a, ())) fun (y : Bool × Unit) => if (!y.1) = true then some (3, ()) else if eqi a.1 1 = true then Option.bind (ref07_reads (s.1, cvt .i64 a.2.1, cvt .i64 a.2.2.1, ())) fun (y : Bool × Unit) => j1 y.1 else if eqi a.1 2 = true then Option.bind (ref07_reads (s.2.1, cvt .i64 a.2.1, cvt .i64 a.2.2.1, ())) fun (y : Bool × Unit) => j1 y.1 else if eqi a.1 3 = true then Option.bind (ref07_reads (s.2.2.1, cvt .i64 a.2.1, cvt .i64 a.2.2.1, ())) fun (y : Bool × Unit) => j1 y.1 else if eqi a.1 4 = true then Option.bind (ref07_reads (s.2.2.2, cvt .i64 a.2.1, cvt .i64 a.2.2.1, ())) fun (y : Bool × Unit) => j1 y.1 else if eqi a.1 5 = true then j2 (cvt .i64 a.2.1) (cvt .i64 a.2.2.1) a.1 true s a else j2 (cvt .i64 a.2.1) (cvt .i64 a.2.2.1) a.1 (eqi a.1 15) s a
def q1x_ (ok : Bool) : Option (As [.int .u8]) := qoz_ ok
def qj3_ (at' many : Int) (t73 : Bool) (s : List LAT3 × List LAT3 × List LAT3 × List LAT3) (a : VzA4q1) : Option (As [.int .u8]) := qpg_ (q1x_) at' many t73 s a
def qde_ (at' many t18 : Int) (t63 : Bool) (s : List LAT3 × List LAT3 × List LAT3 × List LAT3) (a : VzA4q1) : Option (As [.int .u8]) := qof_ (q1x_) (qj3_) at' many t18 t63 s a
def ref07_Check (x : As [.pr LAT0 (.pr LAT0 (.pr LAT0 LAT0)), .pr (.int .u8) LAT2]) : Option (As [.int .u8]) := qe0_ q1x_ qde_ x.1 x.2.1
theorem qw0_ (J : Orc (As [.int .u8])) (ok : Bool) : pfn Tryz.prog q1v_ 6 18446744073709551616 (Ev.get q1z_) 55 q1g_ J 31 [] (q4g_ ok) = qoz_ ok := by kernel_rfl
theorem qyn_ (J : Orc (As [.int .u8])) (at' many : Int) (t73 : Bool) (s : List LAT3 × List LAT3 × List LAT3 × List LAT3) (a : VzA4q1) : pfn Tryz.prog q1v_ 6 18446744073709551616 (Ev.get q1z_) 55 q1g_ J 257023 [] (qeb_ at' many t73 s a) = qpg_ (fun ok => J 31 [] (q4g_ ok)) at' many t73 s a := by kernel_rfl
theorem qyr_ (J : Orc (As [.int .u8])) (at' many t18 : Int) (t63 : Bool) (s : List LAT3 × List LAT3 × List LAT3 × List LAT3) (a : VzA4q1) : pfn Tryz.prog q1v_ 6 18446744073709551616 (Ev.get q1z_) 55 q1g_ J 64255 [] (qej_ at' many t18 t63 s a) = qof_ (fun ok => J 31 [] (q4g_ ok)) (fun at' many t73 s a => J 257023 [] (qeb_ at' many t73 s a)) at' many t18 t63 s a := by kernel_rfl
theorem qxv_ (J : Orc (As [.int .u8])) (x : As [.pr LAT0 (.pr LAT0 (.pr LAT0 LAT0)), .pr (.int .u8) LAT2]) : rfn Tryz.prog q1v_ 6 18446744073709551616 (Ev.get q1z_) 55 q1g_ J x = qe0_ (fun ok => J 31 [] (q4g_ ok)) (fun at' many t18 t63 s a => J 64255 [] (qej_ at' many t18 t63 s a)) x.1 x.2.1 := by kernel_rfl
theorem qjc_ (ok : Bool) : jfn Tryz.prog q1v_ 6 18446744073709551616 (Ev.get q1z_) 55 q1g_ 31 [] (q4g_ ok) = q1x_ ok := by
  rw [pfn_eq (by decide)]
  rw [qw0_]
  rfl
theorem qvw_ (at' many : Int) (t73 : Bool) (s : List LAT3 × List LAT3 × List LAT3 × List LAT3) (a : VzA4q1) : jfn Tryz.prog q1v_ 6 18446744073709551616 (Ev.get q1z_) 55 q1g_ 257023 [] (qeb_ at' many t73 s a) = qj3_ at' many t73 s a := by
  rw [pfn_eq (by decide)]
  have e1 : (fun ok => (jfn Tryz.prog q1v_ 6 18446744073709551616 (Ev.get q1z_) 55 q1g_) 31 [] (q4g_ ok)) = q1x_ := funext fun ok => qjc_ ok
  rw [qyn_, e1]
  rfl
theorem qwx_ (at' many t18 : Int) (t63 : Bool) (s : List LAT3 × List LAT3 × List LAT3 × List LAT3) (a : VzA4q1) : jfn Tryz.prog q1v_ 6 18446744073709551616 (Ev.get q1z_) 55 q1g_ 64255 [] (qej_ at' many t18 t63 s a) = qde_ at' many t18 t63 s a := by
  rw [pfn_eq (by decide)]
  have e1 : (fun ok => (jfn Tryz.prog q1v_ 6 18446744073709551616 (Ev.get q1z_) 55 q1g_) 31 [] (q4g_ ok)) = q1x_ := funext fun ok => qjc_ ok
  have e3 : (fun at' many t73 s a => (jfn Tryz.prog q1v_ 6 18446744073709551616 (Ev.get q1z_) 55 q1g_) 257023 [] (qeb_ at' many t73 s a)) = qj3_ := by funext at' many t73 s a; exact qvw_ at' many t73 s a
  rw [qyr_, e1, e3]
  rfl
theorem q10b_ (x : As [.pr LAT0 (.pr LAT0 (.pr LAT0 LAT0)), .pr (.int .u8) LAT2]) : evT Tryz.prog q1v_ 6 18446744073709551616 (Ev.get q1z_) 55 q1g_ x = ref07_Check x := by
  have e1 : (fun ok => (jfn Tryz.prog q1v_ 6 18446744073709551616 (Ev.get q1z_) 55 q1g_) 31 [] (q4g_ ok)) = q1x_ := funext fun ok => qjc_ ok
  have e2 : (fun at' many t18 t63 s a => (jfn Tryz.prog q1v_ 6 18446744073709551616 (Ev.get q1z_) 55 q1g_) 64255 [] (qej_ at' many t18 t63 s a)) = qde_ := by funext at' many t18 t63 s a; exact qwx_ at' many t18 t63 s a
  rw [rfn_eq, qxv_, e1, e2]
  rfl
theorem qy0_ : CtOk Tryz.prog (fun _ => True) 55 ⟨q1g_, ref07_Check⟩ := ct_of_ev (env_cons qj5_ (env_cons qy5_ (env_cons quq_ env_nil))) q10b_
@[reducible] def q21_ : Sh := ⟨[.d LAT0, .d (.int .i64), .d (.bool)], [], [.sl (.pr (.int .i64) LAT7), .int .i64, .bool], [.d (.bool)], [], 0, [.bool]⟩
def q2s_ : Env := (cts [])
def q2w_ : List (Nat × Hint) := [(7, ⟨[], [1]⟩), (58, ⟨[], [0, 1, 2, 7, 8, 24, 25, 26, 29, 30, 31, 34, 35, 36, 39, 40, 41, 42, 45, 46, 47, 48, 49, 50, 51, 54, 55, 56, 57, 58]⟩), (3730, ⟨[.agd 25 (.int .i64), .agd 26 .bool, .agd 30 (.int .i64), .agd 31 .bool, .agd 35 (.int .i64), .agd 36 .bool, .agd 40 (.int .i64), .agd 41 (.int .i64), .agd 42 .bool, .agd 46 (.int .i64), .agd 48 (.int .i64), .agd 49 (.int .i64), .agd 50 (.int .i64), .agd 51 .bool, .agd 54 .bool, .agd 55 .bool, .agd 57 .bool, .agd 58 .bool], [0, 1, 2, 8, 9, 59]⟩)]
def q3m_ (l : List LAT3) (long : Int) (fixed : Bool) (endV i : Int) : St := { fr := [(0, .d LAT0 l), (1, .d (.int .i64) long), (2, .d .bool fixed), (7, .d (.int .i64) endV), (8, .d (.int .i64) i)], nt := 67, up := [], own := [], nx := 0, log := [], ln := 0 }
def qeh_ (l : List LAT3) (long : Int) (fixed : Bool) (i : Int) (t59 : Bool) (a : Int × Int × Bool × Bool × Bool) : St := { fr := [(0, .d LAT0 l), (1, .d (.int .i64) long), (2, .d .bool fixed), (8, .d (.int .i64) i), (9, .pb 0 0), (59, .d .bool t59)], nt := 67, up := [], own := [(0, .box 49 [.d (.int .i64) a.1, .d (.int .i64) a.2.1, .d .bool a.2.2.1, .d .bool a.2.2.2.1, .d .bool a.2.2.2.2])], nx := 1, log := [], ln := 0 }
def qdn_ (long : Int) : St := { fr := [(1, .d (.int .i64) long)], nt := 67, up := [], own := [], nx := 0, log := [], ln := 0 }
def qe2_ (j2 : List LAT3 -> Int -> Bool -> Int -> Bool -> Int × Int × Bool × Bool × Bool -> Option (As [.bool])) (j3 : Int -> Option (As [.bool])) (self1 : List LAT3 -> Int -> Bool -> Int -> Int -> Option (As [.bool])) (l : List LAT3) (long : Int) (fixed : Bool) (endV i : Int) : Option (As [.bool]) :=
  if lt i (Int.ofNat (List.length l)) = true then Option.bind (at? l i) fun (y : Int × Int × Bool × Bool × Bool) => if lt y.1 0 = true then j2 l long fixed i true y else if lt y.2.1 1 = true then j2 l long fixed i true y else if gt y.1 65536 = true then j2 l long fixed i true y else if gt y.2.1 65536 = true then j2 l long fixed i true y else if lt y.1 endV = true then j2 l long fixed i true y else if gt (add .i64 y.1 y.2.1) long = true then j2 l long fixed i true y else if fixed = true then j2 l long fixed i y.2.2.2.1 y else j2 l long fixed i false y else j3 long
def qpe_ (self1 : List LAT3 -> Int -> Bool -> Int -> Int -> Option (As [.bool])) (l : List LAT3) (long : Int) (fixed : Bool) (i : Int) (t59 : Bool) (a : Int × Int × Bool × Bool × Bool) : Option (As [.bool]) :=
  if t59 = true then some (false, ()) else self1 l long fixed (add .i64 a.1 a.2.1) (add .i64 i 1)
def qos_ (long : Int) : Option (As [.bool]) :=
  some (le long 65536, ())
def qpf_ (j1 : List LAT3 -> Int -> Bool -> Int -> Int -> Option (As [.bool])) (l : List LAT3) (long : Int) (fixed : Bool) : Option (As [.bool]) :=
  j1 l long fixed 0 0
def q9u_ (u1 : List LAT3 -> Int -> Bool -> Int -> Int -> Option (As [.bool])) (l : List LAT3) (long : Int) (fixed : Bool) (i : Int) (t59 : Bool) (a : Int × Int × Bool × Bool × Bool) : Option (As [.bool]) := qpe_ u1 l long fixed i t59 a
def q9z_ (long : Int) : Option (As [.bool]) := qos_ long
def q7m_ (l : List LAT3) (long : Int) (fixed : Bool) (endV i : Int) : Option (As [.bool]) :=
  loopF (fun (self : (List LAT3) × (Int) × (Bool) × (Int) × (Int) -> Option (As [.bool])) (s : (List LAT3) × (Int) × (Bool) × (Int) × (Int)) => qe2_ (q9u_ (fun l long fixed endV i => self (l, long, fixed, endV, i))) (q9z_) (fun l long fixed endV i => self (l, long, fixed, endV, i)) s.1 s.2.1 s.2.2.1 s.2.2.2.1 s.2.2.2.2) 18446744073709551616 (l, long, fixed, endV, i)
def ref07_areas (x : As [.sl (.pr (.int .i64) LAT7), .int .i64, .bool]) : Option (As [.bool]) := qpf_ q7m_ x.1 x.2.1 x.2.2.1
theorem qx3_ (J : Orc (As [.bool])) (w1 : St -> Option (As [.bool])) (l : List LAT3) (long : Int) (fixed : Bool) (i : Int) (t59 : Bool) (a : Int × Int × Bool × Bool × Bool) : pfn Tryz.prog q2s_ 6 18446744073709551616 (Ev.get q2w_) 74 q21_ J 3730 [w1] (qeh_ l long fixed i t59 a) = qpe_ (fun l long fixed endV i => w1 (q3m_ l long fixed endV i)) l long fixed i t59 a := by kernel_rfl
theorem qx7_ (J : Orc (As [.bool])) (long : Int) : pfn Tryz.prog q2s_ 6 18446744073709551616 (Ev.get q2w_) 74 q21_ J 7 [] (qdn_ long) = qos_ long := by kernel_rfl
theorem qvb_ (J : Orc (As [.bool])) (w1 : St -> Option (As [.bool])) (l : List LAT3) (long : Int) (fixed : Bool) (endV i : Int) : pfn Tryz.prog q2s_ 6 18446744073709551616 (Ev.get q2w_) 74 q21_ J 58 [w1] (q3m_ l long fixed endV i) = qe2_ (fun l long fixed i t59 a => J 3730 [w1] (qeh_ l long fixed i t59 a)) (fun long => J 7 [] (qdn_ long)) (fun l long fixed endV i => w1 (q3m_ l long fixed endV i)) l long fixed endV i := by kernel_rfl
theorem qyg_ (J : Orc (As [.bool])) (x : As [.sl (.pr (.int .i64) LAT7), .int .i64, .bool]) : rfn Tryz.prog q2s_ 6 18446744073709551616 (Ev.get q2w_) 74 q21_ J x = qpf_ (fun l long fixed endV i => J 58 [] (q3m_ l long fixed endV i)) x.1 x.2.1 x.2.2.1 := by kernel_rfl
theorem qxq_ (w1 : St -> Option (As [.bool])) (l : List LAT3) (long : Int) (fixed : Bool) (i : Int) (t59 : Bool) (a : Int × Int × Bool × Bool × Bool) : jfn Tryz.prog q2s_ 6 18446744073709551616 (Ev.get q2w_) 74 q21_ 3730 [w1] (qeh_ l long fixed i t59 a) = q9u_ (fun l long fixed endV i => w1 (q3m_ l long fixed endV i)) l long fixed i t59 a := by
  rw [pfn_eq (by decide)]
  rw [qx3_]
  rfl
theorem qvn_ (long : Int) : jfn Tryz.prog q2s_ 6 18446744073709551616 (Ev.get q2w_) 74 q21_ 7 [] (qdn_ long) = q9z_ long := by
  rw [pfn_eq (by decide)]
  rw [qx7_]
  rfl
theorem qxu_ (l : List LAT3) (long : Int) (fixed : Bool) (endV i : Int) : jfn Tryz.prog q2s_ 6 18446744073709551616 (Ev.get q2w_) 74 q21_ 58 [] (q3m_ l long fixed endV i) = q7m_ l long fixed endV i := by
  rw [pfn_eq (by decide)]
  rw [pfn_loop (by kernel_rfl)]
  refine loopF_sim (σ := (List LAT3) × (Int) × (Bool) × (Int) × (Int)) (mk := fun s => q3m_ s.1 s.2.1 s.2.2.1 s.2.2.2.1 s.2.2.2.2) (fun w1 s => ?_) 18446744073709551616 (l, long, fixed, endV, i)
  have e2 : (fun l long fixed i t59 a => (jfn Tryz.prog q2s_ 6 18446744073709551616 (Ev.get q2w_) 74 q21_) 3730 [w1] (qeh_ l long fixed i t59 a)) = q9u_ (fun l long fixed endV i => w1 (q3m_ l long fixed endV i)) := by funext l long fixed i t59 a; exact qxq_ w1 l long fixed i t59 a
  have e3 : (fun long => (jfn Tryz.prog q2s_ 6 18446744073709551616 (Ev.get q2w_) 74 q21_) 7 [] (qdn_ long)) = q9z_ := funext fun long => qvn_ long
  refine (qvb_ _ w1 s.1 s.2.1 s.2.2.1 s.2.2.2.1 s.2.2.2.2).trans ?_
  rw [e2, e3]
theorem qzz_ (x : As [.sl (.pr (.int .i64) LAT7), .int .i64, .bool]) : evT Tryz.prog q2s_ 6 18446744073709551616 (Ev.get q2w_) 74 q21_ x = ref07_areas x := by
  have e1 : (fun l long fixed endV i => (jfn Tryz.prog q2s_ 6 18446744073709551616 (Ev.get q2w_) 74 q21_) 58 [] (q3m_ l long fixed endV i)) = q7m_ := by funext l long fixed endV i; exact qxu_ l long fixed endV i
  rw [rfn_eq, qyg_, e1]
  rfl
theorem qxg_ : CtOk Tryz.prog (fun _ => True) 74 ⟨q21_, ref07_areas⟩ := ct_of_ev env_nil qzz_
@[reducible] def qfy_ : Sh := ⟨[.d (.pr LAT0 (.pr LAT0 (.pr LAT0 LAT0))), .d (.pr (.sl .bool) LAT4)], [], [.pr LAT0 (.pr LAT0 (.pr LAT0 LAT0)), .pr (.sl .bool) LAT4], [.d (.bool)], [], 0, [.bool]⟩
def qq5_ : Env := (cts [(74, (⟨q21_, ref07_areas⟩ : Ct))])
def qqy_ : List (Nat × Hint) := []
def qe4_ (s : List LAT3 × List LAT3 × List LAT3 × List LAT3) (m : List Bool × List Bool × List Int × List Int) : Option (As [.bool]) :=
  Option.bind (ref07_areas (s.1, Int.ofNat (List.length m.1), false, ())) fun (y : Bool × Unit) => if y.1 = true then Option.bind (ref07_areas (s.2.1, Int.ofNat (List.length m.2.1), true, ())) fun (y : Bool × Unit) => if y.1 = true then Option.bind (ref07_areas (s.2.2.1, Int.ofNat (List.length m.2.2.1), false, ())) fun (y : Bool × Unit) => if y.1 = true then Option.bind (ref07_areas (s.2.2.2, Int.ofNat (List.length m.2.2.2), true, ())) fun (y : Bool × Unit) => some (y.1, ()) else some (false, ()) else some (false, ()) else some (false, ())
def ref07_Right (x : As [.pr LAT0 (.pr LAT0 (.pr LAT0 LAT0)), .pr (.sl .bool) LAT4]) : Option (As [.bool]) := qe4_ x.1 x.2.1
theorem qww_ (J : Orc (As [.bool])) (x : As [.pr LAT0 (.pr LAT0 (.pr LAT0 LAT0)), .pr (.sl .bool) LAT4]) : rfn Tryz.prog qq5_ 6 18446744073709551616 (Ev.get qqy_) 56 qfy_ J x = qe4_ x.1 x.2.1 := by kernel_rfl
theorem q10i_ (x : As [.pr LAT0 (.pr LAT0 (.pr LAT0 LAT0)), .pr (.sl .bool) LAT4]) : evT Tryz.prog qq5_ 6 18446744073709551616 (Ev.get qqy_) 56 qfy_ x = ref07_Right x := by
  rw [rfn_eq, qww_]
  rfl
theorem qxb_ : CtOk Tryz.prog (fun _ => True) 56 ⟨qfy_, ref07_Right⟩ := ct_of_ev (env_cons qxg_ env_nil) q10i_
@[reducible] def q84_ : Sh := ⟨[.d (.pr (.int .u8) LAT2)], [], [.pr (.int .u8) LAT2], [.d (.pr (.int .u8) LAT1), .d (.bool)], [], 0, [.pr (.int .u8) LAT1, .bool]⟩
def qcw_ : Env := (cts [(71, (⟨q1f_, ref02_Right⟩ : Ct))])
def qda_ : List (Nat × Hint) := [(62, ⟨[], [1, 2, 37]⟩)]
def qgr_ (t37 : Bool) (a : VzA4q1) (t2 t2_2 t2_3 t2_4 : Int) : St := { fr := [(1, .pb 0 0), (2, .pb 1 0), (37, .d .bool t37)], nt := 46, up := [], own := [(0, .box 65 [.d (.int .u8) a.1, .d (.int .u16) a.2.1, .d (.int .u16) a.2.2.1, .d (.int .u16) a.2.2.2.1, .d (.sl (.int .u16)) a.2.2.2.2.1, .d (.sl .bool) a.2.2.2.2.2]), (1, .box 72 [.d (.int .u8) t2, .d (.int .u8) t2_2, .k (Go.Value.slice Option.none 0 0), .k (Go.Value.slice Option.none 0 0), .d (.int .u16) t2_3, .d (.int .u16) t2_4])], nx := 2, log := [], ln := 0 }
def qr7_ (t37 : Bool) (a : VzA4q1) (t2 t2_2 t2_3 t2_4 : Int) : Option (As [.pr (.int .u8) LAT1, .bool]) :=
  if t37 = true then some ((a.1, 0, [], [], a.2.1, a.2.2.1), true, ()) else some ((0, 0, [], [], 0, 0), false, ())
def qg0_ (j1 : Bool -> VzA4q1 -> Int -> Int -> Int -> Int -> Option (As [.pr (.int .u8) LAT1, .bool])) (a : VzA4q1) : Option (As [.pr (.int .u8) LAT1, .bool]) :=
  Option.bind (ref02_Right (a, ())) fun (y : Bool × Unit) => if (!y.1) = true then some ((0, 0, [], [], 0, 0), false, ()) else if eqi a.1 5 = true then Option.bind (at? a.2.2.2.2.2 0) fun (y : Bool) => some ((5, 0, [y], [], a.2.1, 0), true, ()) else if eqi a.1 6 = true then Option.bind (at? a.2.2.2.2.1 0) fun (y : Int) => some ((6, 0, [], [y], a.2.1, 0), true, ()) else if eqi a.1 15 = true then j1 true a 0 0 0 0 else j1 (eqi a.1 16) a 0 0 0 0
def qgc_ (t37 : Bool) (a : VzA4q1) (t2 t2_2 t2_3 t2_4 : Int) : Option (As [.pr (.int .u8) LAT1, .bool]) := qr7_ t37 a t2 t2_2 t2_3 t2_4
def ref03_Echo (x : As [.pr (.int .u8) LAT2]) : Option (As [.pr (.int .u8) LAT1, .bool]) := qg0_ qgc_ x.1
theorem q106_ (J : Orc (As [.pr (.int .u8) LAT1, .bool])) (t37 : Bool) (a : VzA4q1) (t2 t2_2 t2_3 t2_4 : Int) : pfn Tryz.prog qcw_ 6 18446744073709551616 (Ev.get qda_) 57 q84_ J 62 [] (qgr_ t37 a t2 t2_2 t2_3 t2_4) = qr7_ t37 a t2 t2_2 t2_3 t2_4 := by kernel_rfl
theorem q113_ (J : Orc (As [.pr (.int .u8) LAT1, .bool])) (x : As [.pr (.int .u8) LAT2]) : rfn Tryz.prog qcw_ 6 18446744073709551616 (Ev.get qda_) 57 q84_ J x = qg0_ (fun t37 a t2 t2_2 t2_3 t2_4 => J 62 [] (qgr_ t37 a t2 t2_2 t2_3 t2_4)) x.1 := by kernel_rfl
theorem q10a_ (t37 : Bool) (a : VzA4q1) (t2 t2_2 t2_3 t2_4 : Int) : jfn Tryz.prog qcw_ 6 18446744073709551616 (Ev.get qda_) 57 q84_ 62 [] (qgr_ t37 a t2 t2_2 t2_3 t2_4) = qgc_ t37 a t2 t2_2 t2_3 t2_4 := by
  rw [pfn_eq (by decide)]
  rw [q106_]
  rfl
theorem q12k_ (x : As [.pr (.int .u8) LAT2]) : evT Tryz.prog qcw_ 6 18446744073709551616 (Ev.get qda_) 57 q84_ x = ref03_Echo x := by
  have e1 : (fun t37 a t2 t2_2 t2_3 t2_4 => (jfn Tryz.prog qcw_ 6 18446744073709551616 (Ev.get qda_) 57 q84_) 62 [] (qgr_ t37 a t2 t2_2 t2_3 t2_4)) = qgc_ := by funext t37 a t2 t2_2 t2_3 t2_4; exact q10a_ t37 a t2 t2_2 t2_3 t2_4
  rw [rfn_eq, q113_, e1]
  rfl
theorem q11g_ : CtOk Tryz.prog (fun _ => True) 57 ⟨q84_, ref03_Echo⟩ := ct_of_ev (env_cons qj5_ env_nil) q12k_
end Go.Proofs.Lx
end
section
open Go Go.Proofs Ev Sx
set_option maxRecDepth 100000
namespace Go.Proofs.Lx
abbrev VzAq0 : Type := List Bool × List Bool × List Int × List Int
abbrev VzAq1 : Type := Int × Int × Int × Int × List Int × List Bool
@[reducible] def q3_ : Sh := ⟨[.d (.pr LAT0 (.pr LAT0 (.pr LAT0 LAT0))), .d (.pr (.sl .bool) LAT4), .d (.pr (.int .u8) LAT2)], [], [.pr LAT0 (.pr LAT0 (.pr LAT0 LAT0)), .pr (.sl .bool) LAT4, .pr (.int .u8) LAT2], [.d (.pr (.sl .bool) LAT4), .d (.pr (.int .u8) LAT1)], [], 0, [.pr (.sl .bool) LAT4, .pr (.int .u8) LAT1]⟩
def q5_ : Env := (cts [(34, (⟨qcm_, ref07_Copy⟩ : Ct)), (55, (⟨q1g_, ref07_Check⟩ : Ct)), (56, (⟨qfy_, ref07_Right⟩ : Ct)), (57, (⟨q84_, ref03_Echo⟩ : Ct))])
def q4_ : List (Nat × Hint) := [(15, ⟨[], [5, 6, 7, 8, 9]⟩), (127, ⟨[], [5, 6, 7, 8, 10]⟩), (255, ⟨[], [5, 6, 7, 8, 10]⟩), (511, ⟨[], [5, 6, 7, 8]⟩), (8191, ⟨[], [6, 7, 8, 15]⟩), (16383, ⟨[], [6, 7, 8, 15]⟩), (65532, ⟨[], [6, 7, 8, 15]⟩), (65530, ⟨[.rwb 15 2 4, .rwb 15 3 43], [5, 6, 7, 8, 15, 16]⟩), (262121, ⟨[.rwb 15 2 4, .rwb 15 3 43], [5, 6, 7, 8, 15, 16]⟩), (4090, ⟨[], [5, 6, 7, 8, 10, 12]⟩), (2042, ⟨[], [5, 6, 7, 8, 10, 11]⟩), (30, ⟨[], [5, 6, 7, 8, 9, 29]⟩)]
def qk0_ (x : Int) (t29 : Bool) (a : VzAq1) (t7 t7_2 t7_3 t7_4 : Int) (out : VzAq0) : St := { fr := [(5, .pb 0 0), (6, .pb 1 0), (7, .pb 2 0), (8, .pb 3 0), (9, .d (.int .u8) x), (29, .d .bool t29)], nt := 168, up := [], own := [(0, .box 65 [.d (.int .u8) a.1, .d (.int .u16) a.2.1, .d (.int .u16) a.2.2.1, .d (.int .u16) a.2.2.2.1, .d (.sl (.int .u16)) a.2.2.2.2.1, .d (.sl .bool) a.2.2.2.2.2]), (1, .box 28 [.k (Go.Value.slice Option.none 0 0), .k (Go.Value.slice Option.none 0 0), .k (Go.Value.slice Option.none 0 0), .k (Go.Value.slice Option.none 0 0)]), (2, .box 72 [.d (.int .u8) t7, .d (.int .u8) t7_2, .k (Go.Value.slice Option.none 0 0), .k (Go.Value.slice Option.none 0 0), .d (.int .u16) t7_3, .d (.int .u16) t7_4]), (3, .box 28 [.d (.sl .bool) out.1, .d (.sl .bool) out.2.1, .d (.sl (.int .u16)) out.2.2.1, .d (.sl (.int .u16)) out.2.2.2])], nx := 4, log := [], ln := 0 }
def qk2_ (x : Int) (a : VzAq1) (t7 t7_2 t7_3 t7_4 : Int) (out : VzAq0) : St := { fr := [(5, .pb 0 0), (6, .pb 1 0), (7, .pb 2 0), (8, .pb 3 0), (9, .d (.int .u8) x)], nt := 168, up := [], own := [(0, .box 65 [.d (.int .u8) a.1, .d (.int .u16) a.2.1, .d (.int .u16) a.2.2.1, .d (.int .u16) a.2.2.2.1, .d (.sl (.int .u16)) a.2.2.2.2.1, .d (.sl .bool) a.2.2.2.2.2]), (1, .box 28 [.k (Go.Value.slice Option.none 0 0), .k (Go.Value.slice Option.none 0 0), .k (Go.Value.slice Option.none 0 0), .k (Go.Value.slice Option.none 0 0)]), (2, .box 72 [.d (.int .u8) t7, .d (.int .u8) t7_2, .k (Go.Value.slice Option.none 0 0), .k (Go.Value.slice Option.none 0 0), .d (.int .u16) t7_3, .d (.int .u16) t7_4]), (3, .box 28 [.d (.sl .bool) out.1, .d (.sl .bool) out.2.1, .d (.sl (.int .u16)) out.2.2.1, .d (.sl (.int .u16)) out.2.2.2])], nx := 4, log := [], ln := 0 }
def qju_ (at' : Int) (a : VzAq1) (t7 t7_2 t7_3 t7_4 : Int) (out : VzAq0) : St := { fr := [(5, .pb 0 0), (6, .pb 1 0), (7, .pb 2 0), (8, .pb 3 0), (10, .d (.int .i64) at')], nt := 168, up := [], own := [(0, .box 65 [.d (.int .u8) a.1, .d (.int .u16) a.2.1, .d (.int .u16) a.2.2.1, .d (.int .u16) a.2.2.2.1, .d (.sl (.int .u16)) a.2.2.2.2.1, .d (.sl .bool) a.2.2.2.2.2]), (1, .box 28 [.k (Go.Value.slice Option.none 0 0), .k (Go.Value.slice Option.none 0 0), .k (Go.Value.slice Option.none 0 0), .k (Go.Value.slice Option.none 0 0)]), (2, .box 72 [.d (.int .u8) t7, .d (.int .u8) t7_2, .k (Go.Value.slice Option.none 0 0), .k (Go.Value.slice Option.none 0 0), .d (.int .u16) t7_3, .d (.int .u16) t7_4]), (3, .box 28 [.d (.sl .bool) out.1, .d (.sl .bool) out.2.1, .d (.sl (.int .u16)) out.2.2.1, .d (.sl (.int .u16)) out.2.2.2])], nx := 4, log := [], ln := 0 }
def qbv_ (at' i : Int) (a : VzAq1) (t7 t7_2 t7_3 t7_4 : Int) (out : VzAq0) : St := { fr := [(5, .pb 0 0), (6, .pb 1 0), (7, .pb 2 0), (8, .pb 3 0), (10, .d (.int .i64) at'), (11, .d (.int .i64) i)], nt := 168, up := [], own := [(0, .box 65 [.d (.int .u8) a.1, .d (.int .u16) a.2.1, .d (.int .u16) a.2.2.1, .d (.int .u16) a.2.2.2.1, .d (.sl (.int .u16)) a.2.2.2.2.1, .d (.sl .bool) a.2.2.2.2.2]), (1, .box 28 [.k (Go.Value.slice Option.none 0 0), .k (Go.Value.slice Option.none 0 0), .k (Go.Value.slice Option.none 0 0), .k (Go.Value.slice Option.none 0 0)]), (2, .box 72 [.d (.int .u8) t7, .d (.int .u8) t7_2, .k (Go.Value.slice Option.none 0 0), .k (Go.Value.slice Option.none 0 0), .d (.int .u16) t7_3, .d (.int .u16) t7_4]), (3, .box 28 [.d (.sl .bool) out.1, .d (.sl .bool) out.2.1, .d (.sl (.int .u16)) out.2.2.1, .d (.sl (.int .u16)) out.2.2.2])], nx := 4, log := [], ln := 0 }
def qkd_ (at' : Int) (a : VzAq1) (t7 t7_2 t7_3 t7_4 : Int) (out : VzAq0) : St := { fr := [(5, .pb 0 0), (6, .pb 1 0), (7, .pb 2 0), (8, .pb 3 0), (10, .d (.int .i64) at')], nt := 168, up := [], own := [(0, .box 65 [.d (.int .u8) a.1, .d (.int .u16) a.2.1, .d (.int .u16) a.2.2.1, .d (.int .u16) a.2.2.2.1, .d (.sl (.int .u16)) a.2.2.2.2.1, .d (.sl .bool) a.2.2.2.2.2]), (1, .box 28 [.k (Go.Value.slice Option.none 0 0), .k (Go.Value.slice Option.none 0 0), .k (Go.Value.slice Option.none 0 0), .k (Go.Value.slice Option.none 0 0)]), (2, .box 72 [.d (.int .u8) t7, .d (.int .u8) t7_2, .k (Go.Value.slice Option.none 0 0), .k (Go.Value.slice Option.none 0 0), .d (.int .u16) t7_3, .d (.int .u16) t7_4]), (3, .box 28 [.d (.sl .bool) out.1, .d (.sl .bool) out.2.1, .d (.sl (.int .u16)) out.2.2.1, .d (.sl (.int .u16)) out.2.2.2])], nx := 4, log := [], ln := 0 }
def qc0_ (at' i : Int) (a : VzAq1) (t7 t7_2 t7_3 t7_4 : Int) (out : VzAq0) : St := { fr := [(5, .pb 0 0), (6, .pb 1 0), (7, .pb 2 0), (8, .pb 3 0), (10, .d (.int .i64) at'), (12, .d (.int .i64) i)], nt := 168, up := [], own := [(0, .box 65 [.d (.int .u8) a.1, .d (.int .u16) a.2.1, .d (.int .u16) a.2.2.1, .d (.int .u16) a.2.2.2.1, .d (.sl (.int .u16)) a.2.2.2.2.1, .d (.sl .bool) a.2.2.2.2.2]), (1, .box 28 [.k (Go.Value.slice Option.none 0 0), .k (Go.Value.slice Option.none 0 0), .k (Go.Value.slice Option.none 0 0), .k (Go.Value.slice Option.none 0 0)]), (2, .box 72 [.d (.int .u8) t7, .d (.int .u8) t7_2, .k (Go.Value.slice Option.none 0 0), .k (Go.Value.slice Option.none 0 0), .d (.int .u16) t7_3, .d (.int .u16) t7_4]), (3, .box 28 [.d (.sl .bool) out.1, .d (.sl .bool) out.2.1, .d (.sl (.int .u16)) out.2.2.1, .d (.sl (.int .u16)) out.2.2.2])], nx := 4, log := [], ln := 0 }
def qk1_ (a : VzAq1) (t7 t7_2 t7_3 t7_4 : Int) (out : VzAq0) : St := { fr := [(5, .pb 0 0), (6, .pb 1 0), (7, .pb 2 0), (8, .pb 3 0)], nt := 168, up := [], own := [(0, .box 65 [.d (.int .u8) a.1, .d (.int .u16) a.2.1, .d (.int .u16) a.2.2.1, .d (.int .u16) a.2.2.2.1, .d (.sl (.int .u16)) a.2.2.2.2.1, .d (.sl .bool) a.2.2.2.2.2]), (1, .box 28 [.k (Go.Value.slice Option.none 0 0), .k (Go.Value.slice Option.none 0 0), .k (Go.Value.slice Option.none 0 0), .k (Go.Value.slice Option.none 0 0)]), (2, .box 72 [.d (.int .u8) t7, .d (.int .u8) t7_2, .k (Go.Value.slice Option.none 0 0), .k (Go.Value.slice Option.none 0 0), .d (.int .u16) t7_3, .d (.int .u16) t7_4]), (3, .box 28 [.d (.sl .bool) out.1, .d (.sl .bool) out.2.1, .d (.sl (.int .u16)) out.2.2.1, .d (.sl (.int .u16)) out.2.2.2])], nx := 4, log := [], ln := 0 }
def q68_ (i : Int) (a : VzAq1) (t7 t7_2 t7_3 t7_4 : Int) (out : VzAq0) (r r_2 r_3 r_4 : Int) (o : List Bool) (o_2 : List Int) : St := { fr := [(5, .pb 0 0), (6, .pb 1 0), (7, .pb 2 0), (8, .pb 3 0), (15, .pb 4 0), (16, .d (.int .i64) i)], nt := 168, up := [], own := [(0, .box 65 [.d (.int .u8) a.1, .d (.int .u16) a.2.1, .d (.int .u16) a.2.2.1, .d (.int .u16) a.2.2.2.1, .d (.sl (.int .u16)) a.2.2.2.2.1, .d (.sl .bool) a.2.2.2.2.2]), (1, .box 28 [.k (Go.Value.slice Option.none 0 0), .k (Go.Value.slice Option.none 0 0), .k (Go.Value.slice Option.none 0 0), .k (Go.Value.slice Option.none 0 0)]), (2, .box 72 [.d (.int .u8) t7, .d (.int .u8) t7_2, .k (Go.Value.slice Option.none 0 0), .k (Go.Value.slice Option.none 0 0), .d (.int .u16) t7_3, .d (.int .u16) t7_4]), (3, .box 28 [.d (.sl .bool) out.1, .d (.sl .bool) out.2.1, .d (.sl (.int .u16)) out.2.2.1, .d (.sl (.int .u16)) out.2.2.2]), (4, .box 72 [.d (.int .u8) r, .d (.int .u8) r_2, .row 5, .row 6, .d (.int .u16) r_3, .d (.int .u16) r_4]), (5, .row .bool 4 o), (6, .row (.int .u16) 43 o_2)], nx := 7, log := [], ln := 0 }
def qkb_ (i : Int) (a : VzAq1) (t7 t7_2 t7_3 t7_4 : Int) (out : VzAq0) (r r_2 r_3 r_4 : Int) (o : List Bool) (o_2 : List Int) : St := { fr := [(5, .pb 0 0), (6, .pb 1 0), (7, .pb 2 0), (8, .pb 3 0), (15, .pb 4 0), (16, .d (.int .i64) i)], nt := 168, up := [], own := [(0, .box 65 [.d (.int .u8) a.1, .d (.int .u16) a.2.1, .d (.int .u16) a.2.2.1, .d (.int .u16) a.2.2.2.1, .d (.sl (.int .u16)) a.2.2.2.2.1, .d (.sl .bool) a.2.2.2.2.2]), (1, .box 28 [.k (Go.Value.slice Option.none 0 0), .k (Go.Value.slice Option.none 0 0), .k (Go.Value.slice Option.none 0 0), .k (Go.Value.slice Option.none 0 0)]), (2, .box 72 [.d (.int .u8) t7, .d (.int .u8) t7_2, .k (Go.Value.slice Option.none 0 0), .k (Go.Value.slice Option.none 0 0), .d (.int .u16) t7_3, .d (.int .u16) t7_4]), (3, .box 28 [.d (.sl .bool) out.1, .d (.sl .bool) out.2.1, .d (.sl (.int .u16)) out.2.2.1, .d (.sl (.int .u16)) out.2.2.2]), (4, .box 72 [.d (.int .u8) r, .d (.int .u8) r_2, .row 5, .row 6, .d (.int .u16) r_3, .d (.int .u16) r_4]), (5, .row .bool 4 o), (6, .row (.int .u16) 43 o_2)], nx := 7, log := [], ln := 0 }
def qii_ (t7 t7_2 t7_3 t7_4 : Int) (out : VzAq0) (r r_2 r_3 r_4 : Int) (o : List Bool) (o_2 : List Int) : St := { fr := [(6, .pb 0 0), (7, .pb 1 0), (8, .pb 2 0), (15, .pb 3 0)], nt := 168, up := [], own := [(0, .box 28 [.k (Go.Value.slice Option.none 0 0), .k (Go.Value.slice Option.none 0 0), .k (Go.Value.slice Option.none 0 0), .k (Go.Value.slice Option.none 0 0)]), (1, .box 72 [.d (.int .u8) t7, .d (.int .u8) t7_2, .k (Go.Value.slice Option.none 0 0), .k (Go.Value.slice Option.none 0 0), .d (.int .u16) t7_3, .d (.int .u16) t7_4]), (2, .box 28 [.d (.sl .bool) out.1, .d (.sl .bool) out.2.1, .d (.sl (.int .u16)) out.2.2.1, .d (.sl (.int .u16)) out.2.2.2]), (3, .box 72 [.d (.int .u8) r, .d (.int .u8) r_2, .row 4, .row 5, .d (.int .u16) r_3, .d (.int .u16) r_4]), (4, .row .bool 4 o), (5, .row (.int .u16) 43 o_2)], nx := 6, log := [], ln := 0 }
def qag_ (t7 t7_2 t7_3 t7_4 : Int) (out : VzAq0) (r r_2 r_3 r_4 : Int) (o : List Bool) (o_2 : List Int) : St := { fr := [(6, .pb 0 0), (7, .pb 1 0), (8, .pb 2 0), (15, .pb 3 0)], nt := 168, up := [], own := [(0, .box 28 [.k (Go.Value.slice Option.none 0 0), .k (Go.Value.slice Option.none 0 0), .k (Go.Value.slice Option.none 0 0), .k (Go.Value.slice Option.none 0 0)]), (1, .box 72 [.d (.int .u8) t7, .d (.int .u8) t7_2, .k (Go.Value.slice Option.none 0 0), .k (Go.Value.slice Option.none 0 0), .d (.int .u16) t7_3, .d (.int .u16) t7_4]), (2, .box 28 [.d (.sl .bool) out.1, .d (.sl .bool) out.2.1, .d (.sl (.int .u16)) out.2.2.1, .d (.sl (.int .u16)) out.2.2.2]), (3, .box 72 [.d (.int .u8) r, .d (.int .u8) r_2, .row 4, .row 5, .d (.int .u16) r_3, .d (.int .u16) r_4]), (4, .row .bool 4 o), (5, .row (.int .u16) 43 o_2)], nx := 6, log := [], ln := 0 }
def qi9_ (t7 t7_2 t7_3 t7_4 : Int) (out : VzAq0) (r r_2 r_3 r_4 : Int) (o : List Bool) (o_2 : List Int) : St := { fr := [(6, .pb 0 0), (7, .pb 1 0), (8, .pb 2 0), (15, .pb 3 0)], nt := 168, up := [], own := [(0, .box 28 [.k (Go.Value.slice Option.none 0 0), .k (Go.Value.slice Option.none 0 0), .k (Go.Value.slice Option.none 0 0), .k (Go.Value.slice Option.none 0 0)]), (1, .box 72 [.d (.int .u8) t7, .d (.int .u8) t7_2, .k (Go.Value.slice Option.none 0 0), .k (Go.Value.slice Option.none 0 0), .d (.int .u16) t7_3, .d (.int .u16) t7_4]), (2, .box 28 [.d (.sl .bool) out.1, .d (.sl .bool) out.2.1, .d (.sl (.int .u16)) out.2.2.1, .d (.sl (.int .u16)) out.2.2.2]), (3, .box 72 [.d (.int .u8) r, .d (.int .u8) r_2, .row 4, .row 5, .d (.int .u16) r_3, .d (.int .u16) r_4]), (4, .row .bool 4 o), (5, .row (.int .u16) 43 o_2)], nx := 6, log := [], ln := 0 }
def qt7_ (j2 : Int -> VzAq1 -> Int -> Int -> Int -> Int -> VzAq0 -> Option (As [.pr (.sl .bool) LAT4, .pr (.int .u8) LAT1])) (x : Int) (t29 : Bool) (a : VzAq1) (t7 t7_2 t7_3 t7_4 : Int) (out : VzAq0) : Option (As [.pr (.sl .bool) LAT4, .pr (.int .u8) LAT1]) :=
  if t29 = true then j2 4 a t7 t7_2 t7_3 t7_4 out else j2 x a t7 t7_2 t7_3 t7_4 out
def qsv_ (j3 : Int -> VzAq1 -> Int -> Int -> Int -> Int -> VzAq0 -> Option (As [.pr (.sl .bool) LAT4, .pr (.int .u8) LAT1])) (x : Int) (a : VzAq1) (t7 t7_2 t7_3 t7_4 : Int) (out : VzAq0) : Option (As [.pr (.sl .bool) LAT4, .pr (.int .u8) LAT1]) :=
  if nei x 0 = true then some (out, (rem a.1 128, x, [], [], 0, 0), ()) else if eqi a.1 23 = true then j3 (cvt .i64 a.2.2.2.1) a t7 t7_2 t7_3 t7_4 out else j3 (cvt .i64 a.2.1) a t7 t7_2 t7_3 t7_4 out
def qsx_ (j4 : Int -> Int -> VzAq1 -> Int -> Int -> Int -> Int -> VzAq0 -> Option (As [.pr (.sl .bool) LAT4, .pr (.int .u8) LAT1])) (at' : Int) (a : VzAq1) (t7 t7_2 t7_3 t7_4 : Int) (out : VzAq0) : Option (As [.pr (.sl .bool) LAT4, .pr (.int .u8) LAT1]) :=
  j4 at' 0 a t7 t7_2 t7_3 t7_4 out
def qkh_ (j5 : Int -> VzAq1 -> Int -> Int -> Int -> Int -> VzAq0 -> Option (As [.pr (.sl .bool) LAT4, .pr (.int .u8) LAT1])) (self4 : Int -> Int -> VzAq1 -> Int -> Int -> Int -> Int -> VzAq0 -> Option (As [.pr (.sl .bool) LAT4, .pr (.int .u8) LAT1])) (at' i : Int) (a : VzAq1) (t7 t7_2 t7_3 t7_4 : Int) (out : VzAq0) : Option (As [.pr (.sl .bool) LAT4, .pr (.int .u8) LAT1]) :=
  if lt i (Int.ofNat (List.length a.2.2.2.2.2)) = true then Option.bind (at? a.2.2.2.2.2 i) fun (y : Bool) => Option.bind (at? out.1 (add .i64 at' i)) fun (y : Bool) => Option.none else j5 at' a t7 t7_2 t7_3 t7_4 out
def qsy_ (j6 : Int -> Int -> VzAq1 -> Int -> Int -> Int -> Int -> VzAq0 -> Option (As [.pr (.sl .bool) LAT4, .pr (.int .u8) LAT1])) (at' : Int) (a : VzAq1) (t7 t7_2 t7_3 t7_4 : Int) (out : VzAq0) : Option (As [.pr (.sl .bool) LAT4, .pr (.int .u8) LAT1]) :=
  j6 at' 0 a t7 t7_2 t7_3 t7_4 out
def qk7_ (j7 : VzAq1 -> Int -> Int -> Int -> Int -> VzAq0 -> Option (As [.pr (.sl .bool) LAT4, .pr (.int .u8) LAT1])) (self6 : Int -> Int -> VzAq1 -> Int -> Int -> Int -> Int -> VzAq0 -> Option (As [.pr (.sl .bool) LAT4, .pr (.int .u8) LAT1])) (at' i : Int) (a : VzAq1) (t7 t7_2 t7_3 t7_4 : Int) (out : VzAq0) : Option (As [.pr (.sl .bool) LAT4, .pr (.int .u8) LAT1]) :=
  if lt i (Int.ofNat (List.length a.2.2.2.2.1)) = true then Option.bind (at? a.2.2.2.2.1 i) fun (y : Int) => Option.bind (at? out.2.2.1 (add .i64 at' i)) fun (y : Int) => Option.none else j7 a t7 t7_2 t7_3 t7_4 out
def qny_ (j8 : Int -> VzAq1 -> Int -> Int -> Int -> Int -> VzAq0 -> Int -> Int -> Int -> Int -> List Bool -> List Int -> Option (As [.pr (.sl .bool) LAT4, .pr (.int .u8) LAT1])) (a : VzAq1) (t7 t7_2 t7_3 t7_4 : Int) (out : VzAq0) : Option (As [.pr (.sl .bool) LAT4, .pr (.int .u8) LAT1]) :=
  Option.bind (ref03_Echo (a, ())) fun (y : LAT12 × Bool × Unit) => if y.2.1 = true then some (out, y.1, ()) else j8 (cvt .i64 a.2.1) a t7 t7_2 t7_3 t7_4 out a.1 0 0 0 [] []
def qbz_ (j9 : Int -> VzAq1 -> Int -> Int -> Int -> Int -> VzAq0 -> Int -> Int -> Int -> Int -> List Bool -> List Int -> Option (As [.pr (.sl .bool) LAT4, .pr (.int .u8) LAT1])) (j10 : Int -> Int -> Int -> Int -> VzAq0 -> Int -> Int -> Int -> Int -> List Bool -> List Int -> Option (As [.pr (.sl .bool) LAT4, .pr (.int .u8) LAT1])) (self8 : Int -> VzAq1 -> Int -> Int -> Int -> Int -> VzAq0 -> Int -> Int -> Int -> Int -> List Bool -> List Int -> Option (As [.pr (.sl .bool) LAT4, .pr (.int .u8) LAT1])) (i : Int) (a : VzAq1) (t7 t7_2 t7_3 t7_4 : Int) (out : VzAq0) (r r_2 r_3 r_4 : Int) (o : List Bool) (o_2 : List Int) : Option (As [.pr (.sl .bool) LAT4, .pr (.int .u8) LAT1]) :=
  if lt i (add .i64 (cvt .i64 a.2.1) (cvt .i64 a.2.2.1)) = true then if eqi a.1 1 = true then Option.bind (at? out.1 i) fun (y : Bool) => need (small (List.length o + Nat.succ 0)) (j9 i a t7 t7_2 t7_3 t7_4 out r r_2 r_3 r_4 (o ++ [y]) o_2) else if eqi a.1 2 = true then Option.bind (at? out.2.1 i) fun (y : Bool) => need (small (List.length o + Nat.succ 0)) (j9 i a t7 t7_2 t7_3 t7_4 out r r_2 r_3 r_4 (o ++ [y]) o_2) else if eqi a.1 4 = true then Option.bind (at? out.2.2.2 i) fun (y : Int) => need (small (List.length o_2 + Nat.succ 0)) (j9 i a t7 t7_2 t7_3 t7_4 out r r_2 r_3 r_4 o (o_2 ++ [y])) else Option.bind (at? out.2.2.1 i) fun (y : Int) => need (small (List.length o_2 + Nat.succ 0)) (j9 i a t7 t7_2 t7_3 t7_4 out r r_2 r_3 r_4 o (o_2 ++ [y])) else j10 t7 t7_2 t7_3 t7_4 out r r_2 r_3 r_4 o o_2
def qo2_ (self8 : Int -> VzAq1 -> Int -> Int -> Int -> Int -> VzAq0 -> Int -> Int -> Int -> Int -> List Bool -> List Int -> Option (As [.pr (.sl .bool) LAT4, .pr (.int .u8) LAT1])) (i : Int) (a : VzAq1) (t7 t7_2 t7_3 t7_4 : Int) (out : VzAq0) (r r_2 r_3 r_4 : Int) (o : List Bool) (o_2 : List Int) : Option (As [.pr (.sl .bool) LAT4, .pr (.int .u8) LAT1]) :=
  self8 (add .i64 i 1) a t7 t7_2 t7_3 t7_4 out r r_2 r_3 r_4 o o_2
def qm8_ (j11 : Int -> Int -> Int -> Int -> VzAq0 -> Int -> Int -> Int -> Int -> List Bool -> List Int -> Option (As [.pr (.sl .bool) LAT4, .pr (.int .u8) LAT1])) (t7 t7_2 t7_3 t7_4 : Int) (out : VzAq0) (r r_2 r_3 r_4 : Int) (o : List Bool) (o_2 : List Int) : Option (As [.pr (.sl .bool) LAT4, .pr (.int .u8) LAT1]) :=
  j11 t7 t7_2 t7_3 t7_4 out r r_2 r_3 r_4 o o_2
def qhr_ (j12 self11 : Int -> Int -> Int -> Int -> VzAq0 -> Int -> Int -> Int -> Int -> List Bool -> List Int -> Option (As [.pr (.sl .bool) LAT4, .pr (.int .u8) LAT1])) (t7 t7_2 t7_3 t7_4 : Int) (out : VzAq0) (r r_2 r_3 r_4 : Int) (o : List Bool) (o_2 : List Int) : Option (As [.pr (.sl .bool) LAT4, .pr (.int .u8) LAT1]) :=
  if nei (rem (Int.ofNat (List.length o)) 8) 0 = true then need (small (List.length o + 1)) (self11 t7 t7_2 t7_3 t7_4 out r r_2 r_3 r_4 (o ++ [false]) o_2) else j12 t7 t7_2 t7_3 t7_4 out r r_2 r_3 r_4 o o_2
def qsg_ (t7 t7_2 t7_3 t7_4 : Int) (out : VzAq0) (r r_2 r_3 r_4 : Int) (o : List Bool) (o_2 : List Int) : Option (As [.pr (.sl .bool) LAT4, .pr (.int .u8) LAT1]) :=
  some (out, (r, r_2, o, o_2, r_3, r_4), ())
def qka_ (j1 : Int -> Bool -> VzAq1 -> Int -> Int -> Int -> Int -> VzAq0 -> Option (As [.pr (.sl .bool) LAT4, .pr (.int .u8) LAT1])) (s : List LAT3 × List LAT3 × List LAT3 × List LAT3) (m : VzAq0) (a : VzAq1) : Option (As [.pr (.sl .bool) LAT4, .pr (.int .u8) LAT1]) :=
  Option.bind (ref07_Copy (m, ())) fun (y : LAT9 × Unit) => Option.bind (ref07_Check (s, a, ())) fun (y_1 : Int × Unit) => if eqi y_1.1 0 = true then Option.bind (ref07_Right (s, m, ())) fun (y_2 : Bool × Unit) => j1 y_1.1 (!y_2.1) a 0 0 0 0 y.1 else j1 y_1.1 false a 0 0 0 0 y.1
def qbx_ (u8 : Int -> VzAq1 -> Int -> Int -> Int -> Int -> VzAq0 -> Int -> Int -> Int -> Int -> List Bool -> List Int -> Option (As [.pr (.sl .bool) LAT4, .pr (.int .u8) LAT1])) (i : Int) (a : VzAq1) (t7 t7_2 t7_3 t7_4 : Int) (out : VzAq0) (r r_2 r_3 r_4 : Int) (o : List Bool) (o_2 : List Int) : Option (As [.pr (.sl .bool) LAT4, .pr (.int .u8) LAT1]) := qo2_ u8 i a t7 t7_2 t7_3 t7_4 out r r_2 r_3 r_4 o o_2
def qcu_ (t7 t7_2 t7_3 t7_4 : Int) (out : VzAq0) (r r_2 r_3 r_4 : Int) (o : List Bool) (o_2 : List Int) : Option (As [.pr (.sl .bool) LAT4, .pr (.int .u8) LAT1]) := qsg_ t7 t7_2 t7_3 t7_4 out r r_2 r_3 r_4 o o_2
def qhi_ (t7 t7_2 t7_3 t7_4 : Int) (out : VzAq0) (r r_2 r_3 r_4 : Int) (o : List Bool) (o_2 : List Int) : Option (As [.pr (.sl .bool) LAT4, .pr (.int .u8) LAT1]) :=
  loopF (fun (self : (Int) × (Int) × (Int) × (Int) × LAT9 × (Int) × (Int) × (Int) × (Int) × (List Bool) × (List Int) -> Option (As [.pr (.sl .bool) LAT4, .pr (.int .u8) LAT1])) (s : (Int) × (Int) × (Int) × (Int) × LAT9 × (Int) × (Int) × (Int) × (Int) × (List Bool) × (List Int)) => qhr_ (qcu_) (fun t7 t7_2 t7_3 t7_4 out r r_2 r_3 r_4 o o_2 => self (t7, t7_2, t7_3, t7_4, out, r, r_2, r_3, r_4, o, o_2)) s.1 s.2.1 s.2.2.1 s.2.2.2.1 s.2.2.2.2.1 s.2.2.2.2.2.1 s.2.2.2.2.2.2.1 s.2.2.2.2.2.2.2.1 s.2.2.2.2.2.2.2.2.1 s.2.2.2.2.2.2.2.2.2.1 s.2.2.2.2.2.2.2.2.2.2) 18446744073709551616 (t7, t7_2, t7_3, t7_4, out, r, r_2, r_3, r_4, o, o_2)
def qa5_ (t7 t7_2 t7_3 t7_4 : Int) (out : VzAq0) (r r_2 r_3 r_4 : Int) (o : List Bool) (o_2 : List Int) : Option (As [.pr (.sl .bool) LAT4, .pr (.int .u8) LAT1]) := qm8_ (qhi_) t7 t7_2 t7_3 t7_4 out r r_2 r_3 r_4 o o_2
def qjv_ (i : Int) (a : VzAq1) (t7 t7_2 t7_3 t7_4 : Int) (out : VzAq0) (r r_2 r_3 r_4 : Int) (o : List Bool) (o_2 : List Int) : Option (As [.pr (.sl .bool) LAT4, .pr (.int .u8) LAT1]) :=
  loopF (fun (self : (Int) × LAT10 × (Int) × (Int) × (Int) × (Int) × LAT9 × (Int) × (Int) × (Int) × (Int) × (List Bool) × (List Int) -> Option (As [.pr (.sl .bool) LAT4, .pr (.int .u8) LAT1])) (s : (Int) × LAT10 × (Int) × (Int) × (Int) × (Int) × LAT9 × (Int) × (Int) × (Int) × (Int) × (List Bool) × (List Int)) => qbz_ (qbx_ (fun i a t7 t7_2 t7_3 t7_4 out r r_2 r_3 r_4 o o_2 => self (i, a, t7, t7_2, t7_3, t7_4, out, r, r_2, r_3, r_4, o, o_2))) (qa5_) (fun i a t7 t7_2 t7_3 t7_4 out r r_2 r_3 r_4 o o_2 => self (i, a, t7, t7_2, t7_3, t7_4, out, r, r_2, r_3, r_4, o, o_2)) s.1 s.2.1 s.2.2.1 s.2.2.2.1 s.2.2.2.2.1 s.2.2.2.2.2.1 s.2.2.2.2.2.2.1 s.2.2.2.2.2.2.2.1 s.2.2.2.2.2.2.2.2.1 s.2.2.2.2.2.2.2.2.2.1 s.2.2.2.2.2.2.2.2.2.2.1 s.2.2.2.2.2.2.2.2.2.2.2.1 s.2.2.2.2.2.2.2.2.2.2.2.2) 18446744073709551616 (i, a, t7, t7_2, t7_3, t7_4, out, r, r_2, r_3, r_4, o, o_2)
def q9k_ (a : VzAq1) (t7 t7_2 t7_3 t7_4 : Int) (out : VzAq0) : Option (As [.pr (.sl .bool) LAT4, .pr (.int .u8) LAT1]) := qny_ (qjv_) a t7 t7_2 t7_3 t7_4 out
def qf2_ (at' i : Int) (a : VzAq1) (t7 t7_2 t7_3 t7_4 : Int) (out : VzAq0) : Option (As [.pr (.sl .bool) LAT4, .pr (.int .u8) LAT1]) :=
  loopF (fun (self : (Int) × (Int) × LAT10 × (Int) × (Int) × (Int) × (Int) × LAT9 -> Option (As [.pr (.sl .bool) LAT4, .pr (.int .u8) LAT1])) (s : (Int) × (Int) × LAT10 × (Int) × (Int) × (Int) × (Int) × LAT9) => qk7_ (q9k_) (fun at' i a t7 t7_2 t7_3 t7_4 out => self (at', i, a, t7, t7_2, t7_3, t7_4, out)) s.1 s.2.1 s.2.2.1 s.2.2.2.1 s.2.2.2.2.1 s.2.2.2.2.2.1 s.2.2.2.2.2.2.1 s.2.2.2.2.2.2.2) 18446744073709551616 (at', i, a, t7, t7_2, t7_3, t7_4, out)
def qf4_ (at' : Int) (a : VzAq1) (t7 t7_2 t7_3 t7_4 : Int) (out : VzAq0) : Option (As [.pr (.sl .bool) LAT4, .pr (.int .u8) LAT1]) := qsy_ (qf2_) at' a t7 t7_2 t7_3 t7_4 out
def qf1_ (at' i : Int) (a : VzAq1) (t7 t7_2 t7_3 t7_4 : Int) (out : VzAq0) : Option (As [.pr (.sl .bool) LAT4, .pr (.int .u8) LAT1]) :=
  loopF (fun (self : (Int) × (Int) × LAT10 × (Int) × (Int) × (Int) × (Int) × LAT9 -> Option (As [.pr (.sl .bool) LAT4, .pr (.int .u8) LAT1])) (s : (Int) × (Int) × LAT10 × (Int) × (Int) × (Int) × (Int) × LAT9) => qkh_ (qf4_) (fun at' i a t7 t7_2 t7_3 t7_4 out => self (at', i, a, t7, t7_2, t7_3, t7_4, out)) s.1 s.2.1 s.2.2.1 s.2.2.2.1 s.2.2.2.2.1 s.2.2.2.2.2.1 s.2.2.2.2.2.2.1 s.2.2.2.2.2.2.2) 18446744073709551616 (at', i, a, t7, t7_2, t7_3, t7_4, out)
def qnu_ (at' : Int) (a : VzAq1) (t7 t7_2 t7_3 t7_4 : Int) (out : VzAq0) : Option (As [.pr (.sl .bool) LAT4, .pr (.int .u8) LAT1]) := qsx_ (qf1_) at' a t7 t7_2 t7_3 t7_4 out
def qob_ (x : Int) (a : VzAq1) (t7 t7_2 t7_3 t7_4 : Int) (out : VzAq0) : Option (As [.pr (.sl .bool) LAT4, .pr (.int .u8) LAT1]) := qsv_ (qnu_) x a t7 t7_2 t7_3 t7_4 out
def qjr_ (x : Int) (t29 : Bool) (a : VzAq1) (t7 t7_2 t7_3 t7_4 : Int) (out : VzAq0) : Option (As [.pr (.sl .bool) LAT4, .pr (.int .u8) LAT1]) := qt7_ (qob_) x t29 a t7 t7_2 t7_3 t7_4 out
def ref07_Do (x : As [.pr LAT0 (.pr LAT0 (.pr LAT0 LAT0)), .pr (.sl .bool) LAT4, .pr (.int .u8) LAT2]) : Option (As [.pr (.sl .bool) LAT4, .pr (.int .u8) LAT1]) := qka_ qjr_ x.1 x.2.1 x.2.2.1
theorem q13m_ (J : Orc (As [.pr (.sl .bool) LAT4, .pr (.int .u8) LAT1])) (w8 : St -> Option (As [.pr (.sl .bool) LAT4, .pr (.int .u8) LAT1])) (i : Int) (a : VzAq1) (t7 t7_2 t7_3 t7_4 : Int) (out : VzAq0) (r r_2 r_3 r_4 : Int) (o : List Bool) (o_2 : List Int) : pfn Tryz.prog q5_ 6 18446744073709551616 (Ev.get q4_) 35 q3_ J 262121 [w8] (qkb_ i a t7 t7_2 t7_3 t7_4 out r r_2 r_3 r_4 o o_2) = qo2_ (fun i a t7 t7_2 t7_3 t7_4 out r r_2 r_3 r_4 o o_2 => w8 (q68_ i a t7 t7_2 t7_3 t7_4 out r r_2 r_3 r_4 o o_2)) i a t7 t7_2 t7_3 t7_4 out r r_2 r_3 r_4 o o_2 := by kernel_rfl
theorem q12o_ (J : Orc (As [.pr (.sl .bool) LAT4, .pr (.int .u8) LAT1])) (t7 t7_2 t7_3 t7_4 : Int) (out : VzAq0) (r r_2 r_3 r_4 : Int) (o : List Bool) (o_2 : List Int) : pfn Tryz.prog q5_ 6 18446744073709551616 (Ev.get q4_) 35 q3_ J 16383 [] (qi9_ t7 t7_2 t7_3 t7_4 out r r_2 r_3 r_4 o o_2) = qsg_ t7 t7_2 t7_3 t7_4 out r r_2 r_3 r_4 o o_2 := by kernel_rfl
theorem q11i_ (J : Orc (As [.pr (.sl .bool) LAT4, .pr (.int .u8) LAT1])) (w11 : St -> Option (As [.pr (.sl .bool) LAT4, .pr (.int .u8) LAT1])) (t7 t7_2 t7_3 t7_4 : Int) (out : VzAq0) (r r_2 r_3 r_4 : Int) (o : List Bool) (o_2 : List Int) : pfn Tryz.prog q5_ 6 18446744073709551616 (Ev.get q4_) 35 q3_ J 65532 [w11] (qag_ t7 t7_2 t7_3 t7_4 out r r_2 r_3 r_4 o o_2) = qhr_ (fun t7 t7_2 t7_3 t7_4 out r r_2 r_3 r_4 o o_2 => J 16383 [] (qi9_ t7 t7_2 t7_3 t7_4 out r r_2 r_3 r_4 o o_2)) (fun t7 t7_2 t7_3 t7_4 out r r_2 r_3 r_4 o o_2 => w11 (qag_ t7 t7_2 t7_3 t7_4 out r r_2 r_3 r_4 o o_2)) t7 t7_2 t7_3 t7_4 out r r_2 r_3 r_4 o o_2 := by kernel_rfl
theorem q12c_ (J : Orc (As [.pr (.sl .bool) LAT4, .pr (.int .u8) LAT1])) (t7 t7_2 t7_3 t7_4 : Int) (out : VzAq0) (r r_2 r_3 r_4 : Int) (o : List Bool) (o_2 : List Int) : pfn Tryz.prog q5_ 6 18446744073709551616 (Ev.get q4_) 35 q3_ J 8191 [] (qii_ t7 t7_2 t7_3 t7_4 out r r_2 r_3 r_4 o o_2) = qm8_ (fun t7 t7_2 t7_3 t7_4 out r r_2 r_3 r_4 o o_2 => J 65532 [] (qag_ t7 t7_2 t7_3 t7_4 out r r_2 r_3 r_4 o o_2)) t7 t7_2 t7_3 t7_4 out r r_2 r_3 r_4 o o_2 := by kernel_rfl
theorem q13n_ (J : Orc (As [.pr (.sl .bool) LAT4, .pr (.int .u8) LAT1])) (w8 : St -> Option (As [.pr (.sl .bool) LAT4, .pr (.int .u8) LAT1])) (i : Int) (a : VzAq1) (t7 t7_2 t7_3 t7_4 : Int) (out : VzAq0) (r r_2 r_3 r_4 : Int) (o : List Bool) (o_2 : List Int) : pfn Tryz.prog q5_ 6 18446744073709551616 (Ev.get q4_) 35 q3_ J 65530 [w8] (q68_ i a t7 t7_2 t7_3 t7_4 out r r_2 r_3 r_4 o o_2) = qbz_ (fun i a t7 t7_2 t7_3 t7_4 out r r_2 r_3 r_4 o o_2 => J 262121 [w8] (qkb_ i a t7 t7_2 t7_3 t7_4 out r r_2 r_3 r_4 o o_2)) (fun t7 t7_2 t7_3 t7_4 out r r_2 r_3 r_4 o o_2 => J 8191 [] (qii_ t7 t7_2 t7_3 t7_4 out r r_2 r_3 r_4 o o_2)) (fun i a t7 t7_2 t7_3 t7_4 out r r_2 r_3 r_4 o o_2 => w8 (q68_ i a t7 t7_2 t7_3 t7_4 out r r_2 r_3 r_4 o o_2)) i a t7 t7_2 t7_3 t7_4 out r r_2 r_3 r_4 o o_2 := by kernel_rfl
theorem q13k_ (J : Orc (As [.pr (.sl .bool) LAT4, .pr (.int .u8) LAT1])) (a : VzAq1) (t7 t7_2 t7_3 t7_4 : Int) (out : VzAq0) : pfn Tryz.prog q5_ 6 18446744073709551616 (Ev.get q4_) 35 q3_ J 511 [] (qk1_ a t7 t7_2 t7_3 t7_4 out) = qny_ (fun i a t7 t7_2 t7_3 t7_4 out r r_2 r_3 r_4 o o_2 => J 65530 [] (q68_ i a t7 t7_2 t7_3 t7_4 out r r_2 r_3 r_4 o o_2)) a t7 t7_2 t7_3 t7_4 out := by kernel_rfl
theorem q157_ (J : Orc (As [.pr (.sl .bool) LAT4, .pr (.int .u8) LAT1])) (w6 : St -> Option (As [.pr (.sl .bool) LAT4, .pr (.int .u8) LAT1])) (at' i : Int) (a : VzAq1) (t7 t7_2 t7_3 t7_4 : Int) (out : VzAq0) : pfn Tryz.prog q5_ 6 18446744073709551616 (Ev.get q4_) 35 q3_ J 4090 [w6] (qc0_ at' i a t7 t7_2 t7_3 t7_4 out) = qk7_ (fun a t7 t7_2 t7_3 t7_4 out => J 511 [] (qk1_ a t7 t7_2 t7_3 t7_4 out)) (fun at' i a t7 t7_2 t7_3 t7_4 out => w6 (qc0_ at' i a t7 t7_2 t7_3 t7_4 out)) at' i a t7 t7_2 t7_3 t7_4 out := by kernel_rfl
theorem q13z_ (J : Orc (As [.pr (.sl .bool) LAT4, .pr (.int .u8) LAT1])) (at' : Int) (a : VzAq1) (t7 t7_2 t7_3 t7_4 : Int) (out : VzAq0) : pfn Tryz.prog q5_ 6 18446744073709551616 (Ev.get q4_) 35 q3_ J 255 [] (qkd_ at' a t7 t7_2 t7_3 t7_4 out) = qsy_ (fun at' i a t7 t7_2 t7_3 t7_4 out => J 4090 [] (qc0_ at' i a t7 t7_2 t7_3 t7_4 out)) at' a t7 t7_2 t7_3 t7_4 out := by kernel_rfl
theorem q13j_ (J : Orc (As [.pr (.sl .bool) LAT4, .pr (.int .u8) LAT1])) (w4 : St -> Option (As [.pr (.sl .bool) LAT4, .pr (.int .u8) LAT1])) (at' i : Int) (a : VzAq1) (t7 t7_2 t7_3 t7_4 : Int) (out : VzAq0) : pfn Tryz.prog q5_ 6 18446744073709551616 (Ev.get q4_) 35 q3_ J 2042 [w4] (qbv_ at' i a t7 t7_2 t7_3 t7_4 out) = qkh_ (fun at' a t7 t7_2 t7_3 t7_4 out => J 255 [] (qkd_ at' a t7 t7_2 t7_3 t7_4 out)) (fun at' i a t7 t7_2 t7_3 t7_4 out => w4 (qbv_ at' i a t7 t7_2 t7_3 t7_4 out)) at' i a t7 t7_2 t7_3 t7_4 out := by kernel_rfl
theorem q155_ (J : Orc (As [.pr (.sl .bool) LAT4, .pr (.int .u8) LAT1])) (at' : Int) (a : VzAq1) (t7 t7_2 t7_3 t7_4 : Int) (out : VzAq0) : pfn Tryz.prog q5_ 6 18446744073709551616 (Ev.get q4_) 35 q3_ J 127 [] (qju_ at' a t7 t7_2 t7_3 t7_4 out) = qsx_ (fun at' i a t7 t7_2 t7_3 t7_4 out => J 2042 [] (qbv_ at' i a t7 t7_2 t7_3 t7_4 out)) at' a t7 t7_2 t7_3 t7_4 out := by kernel_rfl
theorem q143_ (J : Orc (As [.pr (.sl .bool) LAT4, .pr (.int .u8) LAT1])) (x : Int) (a : VzAq1) (t7 t7_2 t7_3 t7_4 : Int) (out : VzAq0) : pfn Tryz.prog q5_ 6 18446744073709551616 (Ev.get q4_) 35 q3_ J 15 [] (qk2_ x a t7 t7_2 t7_3 t7_4 out) = qsv_ (fun at' a t7 t7_2 t7_3 t7_4 out => J 127 [] (qju_ at' a t7 t7_2 t7_3 t7_4 out)) x a t7 t7_2 t7_3 t7_4 out := by kernel_rfl
theorem q13q_ (J : Orc (As [.pr (.sl .bool) LAT4, .pr (.int .u8) LAT1])) (x : Int) (t29 : Bool) (a : VzAq1) (t7 t7_2 t7_3 t7_4 : Int) (out : VzAq0) : pfn Tryz.prog q5_ 6 18446744073709551616 (Ev.get q4_) 35 q3_ J 30 [] (qk0_ x t29 a t7 t7_2 t7_3 t7_4 out) = qt7_ (fun x a t7 t7_2 t7_3 t7_4 out => J 15 [] (qk2_ x a t7 t7_2 t7_3 t7_4 out)) x t29 a t7 t7_2 t7_3 t7_4 out := by kernel_rfl
theorem q14j_ (J : Orc (As [.pr (.sl .bool) LAT4, .pr (.int .u8) LAT1])) (x : As [.pr LAT0 (.pr LAT0 (.pr LAT0 LAT0)), .pr (.sl .bool) LAT4, .pr (.int .u8) LAT2]) : rfn Tryz.prog q5_ 6 18446744073709551616 (Ev.get q4_) 35 q3_ J x = qka_ (fun x t29 a t7 t7_2 t7_3 t7_4 out => J 30 [] (qk0_ x t29 a t7 t7_2 t7_3 t7_4 out)) x.1 x.2.1 x.2.2.1 := by kernel_rfl
theorem q14v_ (w8 : St -> Option (As [.pr (.sl .bool) LAT4, .pr (.int .u8) LAT1])) (i : Int) (a : VzAq1) (t7 t7_2 t7_3 t7_4 : Int) (out : VzAq0) (r r_2 r_3 r_4 : Int) (o : List Bool) (o_2 : List Int) : jfn Tryz.prog q5_ 6 18446744073709551616 (Ev.get q4_) 35 q3_ 262121 [w8] (qkb_ i a t7 t7_2 t7_3 t7_4 out r r_2 r_3 r_4 o o_2) = qbx_ (fun i a t7 t7_2 t7_3 t7_4 out r r_2 r_3 r_4 o o_2 => w8 (q68_ i a t7 t7_2 t7_3 t7_4 out r r_2 r_3 r_4 o o_2)) i a t7 t7_2 t7_3 t7_4 out r r_2 r_3 r_4 o o_2 := by
  rw [pfn_eq (by decide)]
  rw [q13m_]
  rfl
theorem q129_ (t7 t7_2 t7_3 t7_4 : Int) (out : VzAq0) (r r_2 r_3 r_4 : Int) (o : List Bool) (o_2 : List Int) : jfn Tryz.prog q5_ 6 18446744073709551616 (Ev.get q4_) 35 q3_ 16383 [] (qi9_ t7 t7_2 t7_3 t7_4 out r r_2 r_3 r_4 o o_2) = qcu_ t7 t7_2 t7_3 t7_4 out r r_2 r_3 r_4 o o_2 := by
  rw [pfn_eq (by decide)]
  rw [q12o_]
  rfl
theorem q12b_ (t7 t7_2 t7_3 t7_4 : Int) (out : VzAq0) (r r_2 r_3 r_4 : Int) (o : List Bool) (o_2 : List Int) : jfn Tryz.prog q5_ 6 18446744073709551616 (Ev.get q4_) 35 q3_ 65532 [] (qag_ t7 t7_2 t7_3 t7_4 out r r_2 r_3 r_4 o o_2) = qhi_ t7 t7_2 t7_3 t7_4 out r r_2 r_3 r_4 o o_2 := by
  rw [pfn_eq (by decide)]
  rw [pfn_loop (by kernel_rfl)]
  refine loopF_sim (σ := (Int) × (Int) × (Int) × (Int) × LAT9 × (Int) × (Int) × (Int) × (Int) × (List Bool) × (List Int)) (mk := fun s => qag_ s.1 s.2.1 s.2.2.1 s.2.2.2.1 s.2.2.2.2.1 s.2.2.2.2.2.1 s.2.2.2.2.2.2.1 s.2.2.2.2.2.2.2.1 s.2.2.2.2.2.2.2.2.1 s.2.2.2.2.2.2.2.2.2.1 s.2.2.2.2.2.2.2.2.2.2) (fun w11 s => ?_) 18446744073709551616 (t7, t7_2, t7_3, t7_4, out, r, r_2, r_3, r_4, o, o_2)
  have e12 : (fun t7 t7_2 t7_3 t7_4 out r r_2 r_3 r_4 o o_2 => (jfn Tryz.prog q5_ 6 18446744073709551616 (Ev.get q4_) 35 q3_) 16383 [] (qi9_ t7 t7_2 t7_3 t7_4 out r r_2 r_3 r_4 o o_2)) = qcu_ := by funext t7 t7_2 t7_3 t7_4 out r r_2 r_3 r_4 o o_2; exact q129_ t7 t7_2 t7_3 t7_4 out r r_2 r_3 r_4 o o_2
  refine (q11i_ _ w11 s.1 s.2.1 s.2.2.1 s.2.2.2.1 s.2.2.2.2.1 s.2.2.2.2.2.1 s.2.2.2.2.2.2.1 s.2.2.2.2.2.2.2.1 s.2.2.2.2.2.2.2.2.1 s.2.2.2.2.2.2.2.2.2.1 s.2.2.2.2.2.2.2.2.2.2).trans ?_
  rw [e12]
theorem q11h_ (t7 t7_2 t7_3 t7_4 : Int) (out : VzAq0) (r r_2 r_3 r_4 : Int) (o : List Bool) (o_2 : List Int) : jfn Tryz.prog q5_ 6 18446744073709551616 (Ev.get q4_) 35 q3_ 8191 [] (qii_ t7 t7_2 t7_3 t7_4 out r r_2 r_3 r_4 o o_2) = qa5_ t7 t7_2 t7_3 t7_4 out r r_2 r_3 r_4 o o_2 := by
  rw [pfn_eq (by decide)]
  have e11 : (fun t7 t7_2 t7_3 t7_4 out r r_2 r_3 r_4 o o_2 => (jfn Tryz.prog q5_ 6 18446744073709551616 (Ev.get q4_) 35 q3_) 65532 [] (qag_ t7 t7_2 t7_3 t7_4 out r r_2 r_3 r_4 o o_2)) = qhi_ := by funext t7 t7_2 t7_3 t7_4 out r r_2 r_3 r_4 o o_2; exact q12b_ t7 t7_2 t7_3 t7_4 out r r_2 r_3 r_4 o o_2
  rw [q12c_, e11]
  rfl
theorem q13v_ (i : Int) (a : VzAq1) (t7 t7_2 t7_3 t7_4 : Int) (out : VzAq0) (r r_2 r_3 r_4 : Int) (o : List Bool) (o_2 : List Int) : jfn Tryz.prog q5_ 6 18446744073709551616 (Ev.get q4_) 35 q3_ 65530 [] (q68_ i a t7 t7_2 t7_3 t7_4 out r r_2 r_3 r_4 o o_2) = qjv_ i a t7 t7_2 t7_3 t7_4 out r r_2 r_3 r_4 o o_2 := by
  rw [pfn_eq (by decide)]
  rw [pfn_loop (by kernel_rfl)]
  refine loopF_sim (σ := (Int) × LAT10 × (Int) × (Int) × (Int) × (Int) × LAT9 × (Int) × (Int) × (Int) × (Int) × (List Bool) × (List Int)) (mk := fun s => q68_ s.1 s.2.1 s.2.2.1 s.2.2.2.1 s.2.2.2.2.1 s.2.2.2.2.2.1 s.2.2.2.2.2.2.1 s.2.2.2.2.2.2.2.1 s.2.2.2.2.2.2.2.2.1 s.2.2.2.2.2.2.2.2.2.1 s.2.2.2.2.2.2.2.2.2.2.1 s.2.2.2.2.2.2.2.2.2.2.2.1 s.2.2.2.2.2.2.2.2.2.2.2.2) (fun w8 s => ?_) 18446744073709551616 (i, a, t7, t7_2, t7_3, t7_4, out, r, r_2, r_3, r_4, o, o_2)
  have e9 : (fun i a t7 t7_2 t7_3 t7_4 out r r_2 r_3 r_4 o o_2 => (jfn Tryz.prog q5_ 6 18446744073709551616 (Ev.get q4_) 35 q3_) 262121 [w8] (qkb_ i a t7 t7_2 t7_3 t7_4 out r r_2 r_3 r_4 o o_2)) = qbx_ (fun i a t7 t7_2 t7_3 t7_4 out r r_2 r_3 r_4 o o_2 => w8 (q68_ i a t7 t7_2 t7_3 t7_4 out r r_2 r_3 r_4 o o_2)) := by funext i a t7 t7_2 t7_3 t7_4 out r r_2 r_3 r_4 o o_2; exact q14v_ w8 i a t7 t7_2 t7_3 t7_4 out r r_2 r_3 r_4 o o_2
  have e10 : (fun t7 t7_2 t7_3 t7_4 out r r_2 r_3 r_4 o o_2 => (jfn Tryz.prog q5_ 6 18446744073709551616 (Ev.get q4_) 35 q3_) 8191 [] (qii_ t7 t7_2 t7_3 t7_4 out r r_2 r_3 r_4 o o_2)) = qa5_ := by funext t7 t7_2 t7_3 t7_4 out r r_2 r_3 r_4 o o_2; exact q11h_ t7 t7_2 t7_3 t7_4 out r r_2 r_3 r_4 o o_2
  refine (q13n_ _ w8 s.1 s.2.1 s.2.2.1 s.2.2.2.1 s.2.2.2.2.1 s.2.2.2.2.2.1 s.2.2.2.2.2.2.1 s.2.2.2.2.2.2.2.1 s.2.2.2.2.2.2.2.2.1 s.2.2.2.2.2.2.2.2.2.1 s.2.2.2.2.2.2.2.2.2.2.1 s.2.2.2.2.2.2.2.2.2.2.2.1 s.2.2.2.2.2.2.2.2.2.2.2.2).trans ?_
  rw [e9, e10]
theorem q13u_ (a : VzAq1) (t7 t7_2 t7_3 t7_4 : Int) (out : VzAq0) : jfn Tryz.prog q5_ 6 18446744073709551616 (Ev.get q4_) 35 q3_ 511 [] (qk1_ a t7 t7_2 t7_3 t7_4 out) = q9k_ a t7 t7_2 t7_3 t7_4 out := by
  rw [pfn_eq (by decide)]
  have e8 : (fun i a t7 t7_2 t7_3 t7_4 out r r_2 r_3 r_4 o o_2 => (jfn Tryz.prog q5_ 6 18446744073709551616 (Ev.get q4_) 35 q3_) 65530 [] (q68_ i a t7 t7_2 t7_3 t7_4 out r r_2 r_3 r_4 o o_2)) = qjv_ := by funext i a t7 t7_2 t7_3 t7_4 out r r_2 r_3 r_4 o o_2; exact q13v_ i a t7 t7_2 t7_3 t7_4 out r r_2 r_3 r_4 o o_2
  rw [q13k_, e8]
  rfl
theorem q13l_ (at' i : Int) (a : VzAq1) (t7 t7_2 t7_3 t7_4 : Int) (out : VzAq0) : jfn Tryz.prog q5_ 6 18446744073709551616 (Ev.get q4_) 35 q3_ 4090 [] (qc0_ at' i a t7 t7_2 t7_3 t7_4 out) = qf2_ at' i a t7 t7_2 t7_3 t7_4 out := by
  rw [pfn_eq (by decide)]
  rw [pfn_loop (by kernel_rfl)]
  refine loopF_sim (σ := (Int) × (Int) × LAT10 × (Int) × (Int) × (Int) × (Int) × LAT9) (mk := fun s => qc0_ s.1 s.2.1 s.2.2.1 s.2.2.2.1 s.2.2.2.2.1 s.2.2.2.2.2.1 s.2.2.2.2.2.2.1 s.2.2.2.2.2.2.2) (fun w6 s => ?_) 18446744073709551616 (at', i, a, t7, t7_2, t7_3, t7_4, out)
  have e7 : (fun a t7 t7_2 t7_3 t7_4 out => (jfn Tryz.prog q5_ 6 18446744073709551616 (Ev.get q4_) 35 q3_) 511 [] (qk1_ a t7 t7_2 t7_3 t7_4 out)) = q9k_ := by funext a t7 t7_2 t7_3 t7_4 out; exact q13u_ a t7 t7_2 t7_3 t7_4 out
  refine (q157_ _ w6 s.1 s.2.1 s.2.2.1 s.2.2.2.1 s.2.2.2.2.1 s.2.2.2.2.2.1 s.2.2.2.2.2.2.1 s.2.2.2.2.2.2.2).trans ?_
  rw [e7]
theorem q13h_ (at' : Int) (a : VzAq1) (t7 t7_2 t7_3 t7_4 : Int) (out : VzAq0) : jfn Tryz.prog q5_ 6 18446744073709551616 (Ev.get q4_) 35 q3_ 255 [] (qkd_ at' a t7 t7_2 t7_3 t7_4 out) = qf4_ at' a t7 t7_2 t7_3 t7_4 out := by
  rw [pfn_eq (by decide)]
  have e6 : (fun at' i a t7 t7_2 t7_3 t7_4 out => (jfn Tryz.prog q5_ 6 18446744073709551616 (Ev.get q4_) 35 q3_) 4090 [] (qc0_ at' i a t7 t7_2 t7_3 t7_4 out)) = qf2_ := by funext at' i a t7 t7_2 t7_3 t7_4 out; exact q13l_ at' i a t7 t7_2 t7_3 t7_4 out
  rw [q13z_, e6]
  rfl
theorem q154_ (at' i : Int) (a : VzAq1) (t7 t7_2 t7_3 t7_4 : Int) (out : VzAq0) : jfn Tryz.prog q5_ 6 18446744073709551616 (Ev.get q4_) 35 q3_ 2042 [] (qbv_ at' i a t7 t7_2 t7_3 t7_4 out) = qf1_ at' i a t7 t7_2 t7_3 t7_4 out := by
  rw [pfn_eq (by decide)]
  rw [pfn_loop (by kernel_rfl)]
  refine loopF_sim (σ := (Int) × (Int) × LAT10 × (Int) × (Int) × (Int) × (Int) × LAT9) (mk := fun s => qbv_ s.1 s.2.1 s.2.2.1 s.2.2.2.1 s.2.2.2.2.1 s.2.2.2.2.2.1 s.2.2.2.2.2.2.1 s.2.2.2.2.2.2.2) (fun w4 s => ?_) 18446744073709551616 (at', i, a, t7, t7_2, t7_3, t7_4, out)
  have e5 : (fun at' a t7 t7_2 t7_3 t7_4 out => (jfn Tryz.prog q5_ 6 18446744073709551616 (Ev.get q4_) 35 q3_) 255 [] (qkd_ at' a t7 t7_2 t7_3 t7_4 out)) = qf4_ := by funext at' a t7 t7_2 t7_3 t7_4 out; exact q13h_ at' a t7 t7_2 t7_3 t7_4 out
  refine (q13j_ _ w4 s.1 s.2.1 s.2.2.1 s.2.2.2.1 s.2.2.2.2.1 s.2.2.2.2.2.1 s.2.2.2.2.2.2.1 s.2.2.2.2.2.2.2).trans ?_
  rw [e5]
theorem q14q_ (at' : Int) (a : VzAq1) (t7 t7_2 t7_3 t7_4 : Int) (out : VzAq0) : jfn Tryz.prog q5_ 6 18446744073709551616 (Ev.get q4_) 35 q3_ 127 [] (qju_ at' a t7 t7_2 t7_3 t7_4 out) = qnu_ at' a t7 t7_2 t7_3 t7_4 out := by
  rw [pfn_eq (by decide)]
  have e4 : (fun at' i a t7 t7_2 t7_3 t7_4 out => (jfn Tryz.prog q5_ 6 18446744073709551616 (Ev.get q4_) 35 q3_) 2042 [] (qbv_ at' i a t7 t7_2 t7_3 t7_4 out)) = qf1_ := by funext at' i a t7 t7_2 t7_3 t7_4 out; exact q154_ at' i a t7 t7_2 t7_3 t7_4 out
  rw [q155_, e4]
  rfl
theorem q13t_ (x : Int) (a : VzAq1) (t7 t7_2 t7_3 t7_4 : Int) (out : VzAq0) : jfn Tryz.prog q5_ 6 18446744073709551616 (Ev.get q4_) 35 q3_ 15 [] (qk2_ x a t7 t7_2 t7_3 t7_4 out) = qob_ x a t7 t7_2 t7_3 t7_4 out := by
  rw [pfn_eq (by decide)]
  have e3 : (fun at' a t7 t7_2 t7_3 t7_4 out => (jfn Tryz.prog q5_ 6 18446744073709551616 (Ev.get q4_) 35 q3_) 127 [] (qju_ at' a t7 t7_2 t7_3 t7_4 out)) = qnu_ := by funext at' a t7 t7_2 t7_3 t7_4 out; exact q14q_ at' a t7 t7_2 t7_3 t7_4 out
  rw [q143_, e3]
  rfl
theorem q13x_ (x : Int) (t29 : Bool) (a : VzAq1) (t7 t7_2 t7_3 t7_4 : Int) (out : VzAq0) : jfn Tryz.prog q5_ 6 18446744073709551616 (Ev.get q4_) 35 q3_ 30 [] (qk0_ x t29 a t7 t7_2 t7_3 t7_4 out) = qjr_ x t29 a t7 t7_2 t7_3 t7_4 out := by
  rw [pfn_eq (by decide)]
  have e2 : (fun x a t7 t7_2 t7_3 t7_4 out => (jfn Tryz.prog q5_ 6 18446744073709551616 (Ev.get q4_) 35 q3_) 15 [] (qk2_ x a t7 t7_2 t7_3 t7_4 out)) = qob_ := by funext x a t7 t7_2 t7_3 t7_4 out; exact q13t_ x a t7 t7_2 t7_3 t7_4 out
  rw [q13q_, e2]
  rfl
theorem q15f_ (x : As [.pr LAT0 (.pr LAT0 (.pr LAT0 LAT0)), .pr (.sl .bool) LAT4, .pr (.int .u8) LAT2]) : evT Tryz.prog q5_ 6 18446744073709551616 (Ev.get q4_) 35 q3_ x = ref07_Do x := by
  have e1 : (fun x t29 a t7 t7_2 t7_3 t7_4 out => (jfn Tryz.prog q5_ 6 18446744073709551616 (Ev.get q4_) 35 q3_) 30 [] (qk0_ x t29 a t7 t7_2 t7_3 t7_4 out)) = qjr_ := by funext x t29 a t7 t7_2 t7_3 t7_4 out; exact q13x_ x t29 a t7 t7_2 t7_3 t7_4 out
  rw [rfn_eq, q14j_, e1]
  rfl
theorem q14n_ : CtOk Tryz.prog (fun _ => True) 35 ⟨q3_, ref07_Do⟩ := ct_of_ev (env_cons qqe_ (env_cons qy0_ (env_cons qxb_ (env_cons q11g_ env_nil)))) q15f_
@[reducible] def qg6_ : Sh := ⟨[.d (.pr LAT0 (.pr LAT0 (.pr LAT0 LAT0))), .d (.pr (.sl .bool) LAT4), .d (.sl (.int .u8))], [], [.pr LAT0 (.pr LAT0 (.pr LAT0 LAT0)), .pr (.sl .bool) LAT4, .sl (.int .u8)], [.d (.pr (.sl .bool) LAT4), .d (.sl (.int .u8))], [], 0, [.pr (.sl .bool) LAT4, .sl (.int .u8)]⟩
def qqv_ : Env := (cts [(32, (⟨q7p_, ref02_Look⟩ : Ct)), (33, (⟨qu_, ref03_Bytes⟩ : Ct)), (34, (⟨qcm_, ref07_Copy⟩ : Ct)), (35, (⟨q3_, ref07_Do⟩ : Ct))])
def qr5_ : List (Nat × Hint) := []
def q4o_ (s : List LAT3 × List LAT3 × List LAT3 × List LAT3) (m : VzAq0) (pdu : List Int) : Option (As [.pr (.sl .bool) LAT4, .sl (.int .u8)]) :=
  Option.bind (ref02_Look (pdu, ())) fun (y : LAT10 × Int × Unit) => if nei y.2.1 0 = true then Option.bind (ref03_Bytes ((rem y.1.1 128, y.2.1, [], [], 0, 0), ())) fun (y : List Int × Int × Unit) => Option.bind (ref07_Copy (m, ())) fun (y_1 : LAT9 × Unit) => some (y_1.1, y.1, ()) else Option.bind (ref07_Do (s, m, y.1, ())) fun (y : LAT9 × LAT12 × Unit) => Option.bind (ref03_Bytes (y.2.1, ())) fun (y_1 : List Int × Int × Unit) => some (y.1, y_1.1, ())
def ref07_Serve (x : As [.pr LAT0 (.pr LAT0 (.pr LAT0 LAT0)), .pr (.sl .bool) LAT4, .sl (.int .u8)]) : Option (As [.pr (.sl .bool) LAT4, .sl (.int .u8)]) := q4o_ x.1 x.2.1 x.2.2.1
theorem qy6_ (J : Orc (As [.pr (.sl .bool) LAT4, .sl (.int .u8)])) (x : As [.pr LAT0 (.pr LAT0 (.pr LAT0 LAT0)), .pr (.sl .bool) LAT4, .sl (.int .u8)]) : rfn Tryz.prog qqv_ 6 18446744073709551616 (Ev.get qr5_) 24 qg6_ J x = q4o_ x.1 x.2.1 x.2.2.1 := by kernel_rfl
theorem qzu_ (x : As [.pr LAT0 (.pr LAT0 (.pr LAT0 LAT0)), .pr (.sl .bool) LAT4, .sl (.int .u8)]) : evT Tryz.prog qqv_ 6 18446744073709551616 (Ev.get qr5_) 24 qg6_ x = ref07_Serve x := by
  rw [rfn_eq, qy6_]
  rfl
theorem qwv_ : CtOk Tryz.prog (fun _ => True) 24 ⟨qg6_, ref07_Serve⟩ := ct_of_ev (env_cons q10c_ (env_cons qxi_ (env_cons qqe_ (env_cons q14n_ env_nil)))) qzu_
@[reducible] def qg2_ : Sh := ⟨[], [], [], [.d (.pr LAT0 (.pr LAT0 (.pr LAT0 LAT0)))], [], 0, [.pr LAT0 (.pr LAT0 (.pr LAT0 LAT0))]⟩
def qr3_ : Env := (cts [])
def qqb_ : List (Nat × Hint) := []
def qow_ : Option (As [.pr LAT0 (.pr LAT0 (.pr LAT0 LAT0))]) :=
  some (([], [], [(0, 50, true, false, false)], []), ())
def ref29_Space (x : As []) : Option (As [.pr LAT0 (.pr LAT0 (.pr LAT0 LAT0))]) := qow_
theorem qvg_ (J : Orc (As [.pr LAT0 (.pr LAT0 (.pr LAT0 LAT0))])) (x : As []) : rfn Tryz.prog qr3_ 6 18446744073709551616 (Ev.get qqb_) 25 qg2_ J x = qow_ := by kernel_rfl
theorem q117_ (x : As []) : evT Tryz.prog qr3_ 6 18446744073709551616 (Ev.get qqb_) 25 qg2_ x = ref29_Space x := by
  rw [rfn_eq, qvg_]
  rfl
theorem qvl_ : CtOk Tryz.prog (fun _ => True) 25 ⟨qg2_, ref29_Space⟩ := ct_of_ev env_nil q117_
@[reducible] def qfu_ : Sh := ⟨[.d (.sl LAT6), .d (.sl (.int .u32)), .d (.sl (.int .u8))], [], [.sl LAT6, .sl (.int .u32), .sl (.int .u8)], [.d (.sl (.int .u8))], [], 0, [.sl (.int .u8)]⟩
def qqd_ : Env := (cts [(11, (⟨q1l_, ref29_Mem⟩ : Ct)), (24, (⟨qg6_, ref07_Serve⟩ : Ct)), (25, (⟨qg2_, ref29_Space⟩ : Ct))])
def qr2_ : List (Nat × Hint) := []
def qes_ (l : List LAT8) (waits pdu : List Int) : Option (As [.sl (.int .u8)]) :=
  Option.bind (ref29_Space ()) fun (y : (List LAT3 × List LAT3 × List LAT3 × List LAT3) × Unit) => Option.bind (ref29_Mem (l, waits, ())) fun (y_1 : LAT9 × Unit) => Option.bind (ref07_Serve (y.1, y_1.1, pdu, ())) fun (y : LAT9 × List Int × Unit) => some (y.2.1, ())
def ref29_Serve (x : As [.sl LAT6, .sl (.int .u32), .sl (.int .u8)]) : Option (As [.sl (.int .u8)]) := qes_ x.1 x.2.1 x.2.2.1
theorem qw3_ (J : Orc (As [.sl (.int .u8)])) (x : As [.sl LAT6, .sl (.int .u32), .sl (.int .u8)]) : rfn Tryz.prog qqd_ 6 18446744073709551616 (Ev.get qr2_) 14 qfu_ J x = qes_ x.1 x.2.1 x.2.2.1 := by kernel_rfl
theorem qz3_ (x : As [.sl LAT6, .sl (.int .u32), .sl (.int .u8)]) : evT Tryz.prog qqd_ 6 18446744073709551616 (Ev.get qr2_) 14 qfu_ x = ref29_Serve x := by
  rw [rfn_eq, qw3_]
  rfl
theorem qvy_ : CtOk Tryz.prog (fun _ => True) 14 ⟨qfu_, ref29_Serve⟩ := ct_of_ev (env_cons qrv_ (env_cons qwv_ (env_cons qvl_ env_nil))) qz3_
@[reducible] def q24_ : Sh := ⟨[.d (.sl LAT6), .d (.sl (.int .u32)), .d (.sl (.int .u8)), .d (.pr (.sl .bool) LAT4)], [], [.sl LAT6, .sl (.int .u32), .sl (.int .u8), .pr (.sl .bool) LAT4], [.d (.bool)], [], 0, [.bool]⟩
def q31_ : Env := (cts [(4, (⟨qg1_, law29_awake⟩ : Ct)), (5, (⟨qg_, view_Read⟩ : Ct)), (6, (⟨qm_, ref29_Read⟩ : Ct)), (7, (⟨q7v_, law29_same⟩ : Ct)), (8, (⟨q3i_, ref23_Right⟩ : Ct)), (9, (⟨qbb_, law29_alone⟩ : Ct)), (10, (⟨q1p_, view_Mem⟩ : Ct)), (11, (⟨q1l_, ref29_Mem⟩ : Ct)), (12, (⟨qcx_, law06_Same⟩ : Ct)), (13, (⟨qd4_, view_Serve⟩ : Ct)), (14, (⟨qfu_, ref29_Serve⟩ : Ct))])
def q30_ : List (Nat × Hint) := [(62, ⟨[], [0, 1, 2, 68, 82, 83, 84, 85, 86, 87, 88, 89, 90, 93]⟩), (6, ⟨[], [0, 1, 2, 7, 45, 61, 62, 63, 64, 65, 66, 67, 82, 83, 84, 85, 86, 87, 88, 89, 90, 93]⟩)]
def q8z_ (l : List LAT8) (waits pdu : List Int) (t45 : Bool) (m : VzAq0) : St := { fr := [(0, .d (.sl LAT6) l), (1, .d (.sl (.int .u32)) waits), (2, .d (.sl (.int .u8)) pdu), (7, .pb 0 0), (45, .d .bool t45)], nt := 95, up := [], own := [(0, .box 28 [.d (.sl .bool) m.1, .d (.sl .bool) m.2.1, .d (.sl (.int .u16)) m.2.2.1, .d (.sl (.int .u16)) m.2.2.2])], nx := 1, log := [], ln := 0 }
def q9g_ (l : List LAT8) (waits pdu : List Int) (t68 : Bool) : St := { fr := [(0, .d (.sl LAT6) l), (1, .d (.sl (.int .u32)) waits), (2, .d (.sl (.int .u8)) pdu), (68, .d .bool t68)], nt := 95, up := [], own := [], nx := 0, log := [], ln := 0 }
def q9a_ (j2 : List LAT8 -> List Int -> List Int -> Bool -> Option (As [.bool])) (l : List LAT8) (waits pdu : List Int) (t45 : Bool) (m : VzAq0) : Option (As [.bool]) :=
  if t45 = true then Option.bind (law29_awake ()) fun (y : Bool × Unit) => some (y.1, ()) else Option.bind (view_Read (m, ())) fun (y : List (Int × Int × Int) × Bool × Unit) => Option.bind (ref29_Read (m, ())) fun (y_1 : List (Int × Int × Int) × Bool × Unit) => if Sx.neb y.2.1 y_1.2.1 = true then j2 l waits pdu true else if y.2.1 = true then Option.bind (law29_same (y.1, y_1.1, ())) fun (y : Bool × Unit) => j2 l waits pdu !y.1 else j2 l waits pdu false
def qcz_ (l : List LAT8) (waits pdu : List Int) (t68 : Bool) : Option (As [.bool]) :=
  if t68 = true then some (false, ()) else Option.bind (ref23_Right (l, ())) fun (y : Bool × Unit) => if (!y.1) = true then Option.bind (law29_awake ()) fun (y : Bool × Unit) => some (y.1, ()) else Option.bind (view_Mem (l, waits, ())) fun (y : LAT9 × Unit) => Option.bind (ref29_Mem (l, waits, ())) fun (y_1 : LAT9 × Unit) => Option.bind (law29_alone (y.1, y_1.1.2.2.1, ())) fun (y : Bool × Unit) => if y.1 = true then Option.bind (view_Serve (l, waits, pdu, ())) fun (y : List Int × Unit) => Option.bind (ref29_Serve (l, waits, pdu, ())) fun (y_2 : List Int × Unit) => Option.bind (law06_Same (y.1, y_2.1, ())) fun (y : Bool × Unit) => if y.1 = true then Option.bind (law29_awake ()) fun (y : Bool × Unit) => some (y.1, ()) else some (false, ()) else some (false, ())
def q90_ (j1 : List LAT8 -> List Int -> List Int -> Bool -> VzAq0 -> Option (As [.bool])) (l : List LAT8) (waits pdu : List Int) (m : VzAq0) : Option (As [.bool]) :=
  if gt (Int.ofNat (List.length l)) 60 = true then j1 l waits pdu true m else if gt (Int.ofNat (List.length waits)) 60 = true then j1 l waits pdu true m else if gt (Int.ofNat (List.length pdu)) 300 = true then j1 l waits pdu true m else if gt (Int.ofNat (List.length m.2.2.1)) 60 = true then j1 l waits pdu true m else j1 l waits pdu (gt (add .i64 (add .i64 (Int.ofNat (List.length m.1)) (Int.ofNat (List.length m.2.1))) (Int.ofNat (List.length m.2.2.2))) 60) m
def q6b_ (l : List LAT8) (waits pdu : List Int) (t68 : Bool) : Option (As [.bool]) := qcz_ l waits pdu t68
def q3d_ (l : List LAT8) (waits pdu : List Int) (t45 : Bool) (m : VzAq0) : Option (As [.bool]) := q9a_ (q6b_) l waits pdu t45 m
def law29_ViewTells (x : As [.sl LAT6, .sl (.int .u32), .sl (.int .u8), .pr (.sl .bool) LAT4]) : Option (As [.bool]) := q90_ q3d_ x.1 x.2.1 x.2.2.1 x.2.2.2.1
theorem qrz_ (J : Orc (As [.bool])) (l : List LAT8) (waits pdu : List Int) (t68 : Bool) : pfn Tryz.prog q31_ 6 18446744073709551616 (Ev.get q30_) 3 q24_ J 62 [] (q9g_ l waits pdu t68) = qcz_ l waits pdu t68 := by kernel_rfl
theorem qry_ (J : Orc (As [.bool])) (l : List LAT8) (waits pdu : List Int) (t45 : Bool) (m : VzAq0) : pfn Tryz.prog q31_ 6 18446744073709551616 (Ev.get q30_) 3 q24_ J 6 [] (q8z_ l waits pdu t45 m) = q9a_ (fun l waits pdu t68 => J 62 [] (q9g_ l waits pdu t68)) l waits pdu t45 m := by kernel_rfl
theorem qsj_ (J : Orc (As [.bool])) (x : As [.sl LAT6, .sl (.int .u32), .sl (.int .u8), .pr (.sl .bool) LAT4]) : rfn Tryz.prog q31_ 6 18446744073709551616 (Ev.get q30_) 3 q24_ J x = q90_ (fun l waits pdu t45 m => J 6 [] (q8z_ l waits pdu t45 m)) x.1 x.2.1 x.2.2.1 x.2.2.2.1 := by kernel_rfl
theorem qsa_ (l : List LAT8) (waits pdu : List Int) (t68 : Bool) : jfn Tryz.prog q31_ 6 18446744073709551616 (Ev.get q30_) 3 q24_ 62 [] (q9g_ l waits pdu t68) = q6b_ l waits pdu t68 := by
  rw [pfn_eq (by decide)]
  rw [qrz_]
  rfl
theorem qsp_ (l : List LAT8) (waits pdu : List Int) (t45 : Bool) (m : VzAq0) : jfn Tryz.prog q31_ 6 18446744073709551616 (Ev.get q30_) 3 q24_ 6 [] (q8z_ l waits pdu t45 m) = q3d_ l waits pdu t45 m := by
  rw [pfn_eq (by decide)]
  have e2 : (fun l waits pdu t68 => (jfn Tryz.prog q31_ 6 18446744073709551616 (Ev.get q30_) 3 q24_) 62 [] (q9g_ l waits pdu t68)) = q6b_ := by funext l waits pdu t68; exact qsa_ l waits pdu t68
  rw [qry_, e2]
  rfl
theorem qsq_ (x : As [.sl LAT6, .sl (.int .u32), .sl (.int .u8), .pr (.sl .bool) LAT4]) : evT Tryz.prog q31_ 6 18446744073709551616 (Ev.get q30_) 3 q24_ x = law29_ViewTells x := by
  have e1 : (fun l waits pdu t45 m => (jfn Tryz.prog q31_ 6 18446744073709551616 (Ev.get q30_) 3 q24_) 6 [] (q8z_ l waits pdu t45 m)) = q3d_ := by funext l waits pdu t45 m; exact qsp_ l waits pdu t45 m
  rw [rfn_eq, qsj_, e1]
  rfl
theorem qs3_ : CtOk Tryz.prog (fun _ => True) 3 ⟨q24_, law29_ViewTells⟩ := ct_of_ev (env_cons qx6_ (env_cons q12x_ (env_cons q10z_ (env_cons q108_ (env_cons qvp_ (env_cons qoo_ (env_cons qnv_ (env_cons qrv_ (env_cons qq7_ (env_cons qr4_ (env_cons qvy_ env_nil))))))))))) qsq_
end Go.Proofs.Lx
end
section
namespace Pl
open Go Ev Sx
set_option maxRecDepth 10000
theorem loopF_succ {σ R : Type} (F : (σ -> Option R) -> σ -> Option R) (n : Nat) (s : σ) : loopF F (n + 1) s = F (loopF F n) s := rfl
theorem loopF_eq {σ R : Type} {F : (σ -> Option R) -> σ -> Option R} {Inv : σ -> Prop} {μ : σ -> Nat} {G : σ -> Option R}
    (step : ∀ self s, Inv s -> (∀ s', Inv s' -> μ s' < μ s -> self s' = G s') -> F self s = G s) : ∀ (n : Nat) (s : σ), Inv s -> μ s < n -> loopF F n s = G s
  | 0, s, _, h => by omega
  | n + 1, s, hs, h => by
    rw [loopF_succ]
    exact step _ s hs fun s' hs' hlt => loopF_eq step n s' hs' (by omega)
theorem w64 {x : Int} (h1 : -9223372036854775808 ≤ x) (h2 : x ≤ 9223372036854775807) : IntKind.i64.wrap x = x := by
  simp only [IntKind.wrap, IntKind.signed, IntKind.bits]
  simp
  omega
theorem wu64 {x : Int} (h1 : 0 ≤ x) (h2 : x ≤ 18446744073709551615) : IntKind.u64.wrap x = x := by
  simp only [IntKind.wrap, IntKind.signed, IntKind.bits]
  simp
  omega
theorem add64 {a b : Int} (h1 : -9223372036854775808 ≤ a + b) (h2 : a + b ≤ 9223372036854775807) : add .i64 a b = a + b := w64 h1 h2
theorem sub64 {a b : Int} (h1 : -9223372036854775808 ≤ a - b) (h2 : a - b ≤ 9223372036854775807) : sub .i64 a b = a - b := w64 h1 h2
theorem mul64 {a b : Int} (h1 : -9223372036854775808 ≤ a * b) (h2 : a * b ≤ 9223372036854775807) : mul .i64 a b = a * b := w64 h1 h2
theorem cvt64 {a : Int} (h1 : -9223372036854775808 ≤ a) (h2 : a ≤ 9223372036854775807) : cvt .i64 a = a := w64 h1 h2
theorem succ64 {n : Nat} (h : n < 4611686018427387904) : add .i64 (n : Int) 1 = ((n + 1 : Nat) : Int) := by rw [add64 (by omega) (by omega)]; rfl
theorem addn64 {n m : Nat} (h : n + m < 4611686018427387904) : add .i64 (n : Int) (m : Int) = ((n + m : Nat) : Int) := by rw [add64 (by omega) (by omega)]; rfl
theorem ofNat_eq (n : Nat) : Int.ofNat n = (n : Int) := rfl
theorem lt_iff {a b : Int} : lt a b = true ↔ a < b := by simp [lt]
theorem le_iff {a b : Int} : le a b = true ↔ a ≤ b := by simp [le]
theorem gt_iff {a b : Int} : gt a b = true ↔ b < a := by simp [gt]
theorem ge_iff {a b : Int} : ge a b = true ↔ b ≤ a := by simp [ge]
theorem eqi_iff {a b : Int} : eqi a b = true ↔ a = b := by simp [eqi]
theorem nei_iff {a b : Int} : nei a b = true ↔ a ≠ b := by simp [nei]
theorem eqs_iff {a b : List UInt8} : eqs a b = true ↔ a = b := by simp [eqs]
theorem nes_iff {a b : List UInt8} : nes a b = true ↔ a ≠ b := by simp [nes]
theorem small_iff {n : Nat} : small n = true ↔ n ≤ 1073741824 := by simp [small]
theorem lt_dec (a b : Int) : lt a b = decide (a < b) := rfl
theorem le_dec (a b : Int) : le a b = decide (a ≤ b) := rfl
theorem gt_dec (a b : Int) : gt a b = decide (b < a) := rfl
theorem ge_dec (a b : Int) : ge a b = decide (b ≤ a) := rfl
theorem need_t {b : Bool} {β : Type} {k : Option β} (h : b = true) : need b k = k := by unfold need; rw [if_pos h]
theorem need_small {n : Nat} {β : Type} {k : Option β} (h : n ≤ 1073741824) : need (small n) k = k := need_t (small_iff.2 h)
theorem at_get {α : Type} {s : List α} {i : Nat} {c : α} (h : s[i]? = some c) : at? s (i : Int) = some c := by
  unfold at?
  simp [h]
theorem at_zero {α : Type} (c : α) (q : List α) : at? (c :: q) 0 = some c := rfl
theorem drop_nil {α : Type} {s : List α} {i : Nat} (h : s.drop i = []) : s.length ≤ i := by
  have := congrArg List.length h
  simp at this
  omega
theorem cut_nat {α : Type} {xs : List α} {i j : Nat} (h1 : i ≤ j) (h2 : j ≤ xs.length) : cut xs (i : Int) (j : Int) = some ((xs.take j).drop i) := by
  unfold cut
  rw [if_pos ⟨by omega, by omega, by omega⟩]
  simp
theorem cut_from {α : Type} {xs : List α} {i : Nat} (h : i ≤ xs.length) : cut xs (i : Int) (Int.ofNat xs.length) = some (xs.drop i) := by
  rw [ofNat_eq, cut_nat h (Nat.le_refl _)]
  simp
theorem cut_to {α : Type} {xs : List α} {j : Nat} (h : j ≤ xs.length) : cut xs 0 (j : Int) = some (xs.take j) := by
  have := cut_nat (xs := xs) (Nat.zero_le j) h
  simpa using this
theorem cut_one {α : Type} (c : α) (q : List α) : cut (c :: q) 1 (Int.ofNat (c :: q).length) = some q := by
  have := cut_from (xs := c :: q) (i := 1) (by simp)
  simpa using this
theorem eqV_refl : ∀ (t : Ty) (x : Vl t), eqV t x x = true := by
  have hl : ∀ {α : Type} {f : α -> α -> Bool}, (∀ a, f a a = true) -> ∀ x : List α, eqL f x x = true := fun h x => by
    induction x with
    | nil => rfl
    | cons a q ih => simp [eqL, h, ih]
  intro t
  induction t with
  | int k => intro x; simp [eqV, eqi]
  | bool => intro x; simp [eqV, eqb]
  | str => intro x; simp [eqV, eqs]
  | sl t ih => intro x; exact hl ih x
  | pr a b iha ihb => intro x; simp [eqV, iha, ihb]
  | wr a ih => intro x; exact ih x
  | un => intro x; rfl
  | ar n t ih => intro x; exact hl ih x
theorem eqAs_refl : ∀ (rs : List Ty) (x : As rs), eqAs rs x x = true
  | [], _ => rfl
  | t :: r, x => by simp [eqAs, eqV_refl, eqAs_refl r]
theorem amb2 {R : Type} {eq : R -> R -> Bool} (h : ∀ x, eq x x = true) (a : Option R) : amb eq [a, a] = a := by
  cases a <;> simp [amb, ambC, h]
end Pl
end
section
namespace Pl
open Go Ev Sx
theorem loop_idx {σ R α β : Type} {F : (σ -> Option R) -> σ -> Option R} {mk : Nat -> β -> σ} {xs : List α} {stp : β -> α -> β} {fin : β -> Option R} (Inv : Nat -> β -> Prop)
    (hs : ∀ self i acc x, xs[i]? = some x -> Inv i acc -> F self (mk i acc) = self (mk (i + 1) (stp acc x)))
    (hi : ∀ i acc x, xs[i]? = some x -> Inv i acc -> Inv (i + 1) (stp acc x))
    (he : ∀ self acc, Inv xs.length acc -> F self (mk xs.length acc) = fin acc) :
    ∀ (k i : Nat) (acc : β) (n : Nat), i + k = xs.length -> k < n -> Inv i acc -> loopF F n (mk i acc) = fin ((xs.drop i).foldl stp acc)
  | _, _, _, 0, _, hn, _ => by omega
  | 0, i, acc, n + 1, h, _, hI => by
    have : i = xs.length := by omega
    subst this
    rw [loopF_succ, he _ _ hI, List.drop_length]
    rfl
  | k + 1, i, acc, n + 1, h, hn, hI => by
    have hx : xs[i]? = some (xs[i]'(by omega)) := List.getElem?_eq_getElem (by omega)
    rw [loopF_succ, hs _ _ _ _ hx hI, loop_idx Inv hs hi he k (i + 1) _ n (by omega) (by omega) (hi _ _ _ hx hI), List.drop_eq_getElem_cons (show i < xs.length by omega)]
    rfl
def goL {α β R : Type} (body : β -> α -> (β -> Option R) -> Option R) (fin : β -> Option R) : List α -> β -> Option R
  | [], acc => fin acc
  | x :: r, acc => body acc x (goL body fin r)
theorem loop_go {σ R α β : Type} {F : (σ -> Option R) -> σ -> Option R} {mk : Nat -> β -> σ} {xs : List α} {body : β -> α -> (β -> Option R) -> Option R} {fin : β -> Option R}
    (hs : ∀ self i acc x, xs[i]? = some x -> F self (mk i acc) = body acc x fun a => self (mk (i + 1) a))
    (he : ∀ self acc, F self (mk xs.length acc) = fin acc) :
    ∀ (k i : Nat) (acc : β) (n : Nat), i + k = xs.length -> k < n -> loopF F n (mk i acc) = goL body fin (xs.drop i) acc
  | _, _, _, 0, _, hn => by omega
  | 0, i, acc, n + 1, h, _ => by
    have : i = xs.length := by omega
    subst this
    rw [loopF_succ, he, List.drop_length]
    rfl
  | k + 1, i, acc, n + 1, h, hn => by
    have hx : xs[i]? = some (xs[i]'(by omega)) := List.getElem?_eq_getElem (by omega)
    rw [loopF_succ, hs _ _ _ _ hx, List.drop_eq_getElem_cons (show i < xs.length by omega)]
    show _ = body acc _ (goL body fin (xs.drop (i + 1)))
    congr 1
    funext a
    exact loop_go hs he k (i + 1) a n (by omega) (by omega)
theorem foldl_app {α β : Type} (f : α -> List β) : ∀ (xs : List α) (out : List β), xs.foldl (fun o x => o ++ f x) out = out ++ xs.flatMap f
  | [], out => by simp
  | x :: r, out => by simp [foldl_app f r]
theorem wr8 (x : Int) : IntKind.u8.wrap x = x % 256 := by
  simp only [IntKind.wrap, IntKind.signed, IntKind.bits]
  simp
theorem wr16 (x : Int) : IntKind.u16.wrap x = x % 65536 := by
  simp only [IntKind.wrap, IntKind.signed, IntKind.bits]
  simp
theorem cvt8 (x : Int) : cvt .u8 x = x % 256 := wr8 x
theorem cvt16 (x : Int) : cvt .u16 x = x % 65536 := wr16 x
theorem shr8 (k : IntKind) (x : Int) (hk : 8 ≤ k.bits) : shr k x 8 = x / 256 := by
  unfold shr
  have : min (8 : Int).toNat k.bits = 8 := by
    have : (8 : Int).toNat = 8 := rfl
    omega
  rw [this, Int.fdiv_eq_ediv_of_nonneg _ (by decide)]
  rfl
theorem u16_rng (x : Int) : 0 ≤ IntKind.u16.wrap x ∧ IntKind.u16.wrap x < 65536 := by rw [wr16]; omega
end Pl
end
section
namespace Pl
open Go Ev Sx
theorem loop_dt {σ R : Type} {F : (σ -> Option R) -> σ -> Option R} {mk : Nat -> σ} {N : Nat} {r : Option R} (hs : ∀ self i, i < N -> F self (mk i) = self (mk (i + 1))) (he : ∀ self, F self (mk N) = r) :
    ∀ (k i n : Nat), i + k = N -> k < n -> loopF F n (mk i) = r
  | _, _, 0, _, h => by omega
  | 0, i, n + 1, h, _ => by
    have : i = N := by omega
    subst this
    rw [loopF_succ, he]
  | k + 1, i, n + 1, h, hn => by rw [loopF_succ, hs _ _ (by omega), loop_dt hs he k (i + 1) n (by omega) (by omega)]
def goI {α β R : Type} (body : Nat -> β -> α -> (β -> Option R) -> Option R) (fin : β -> Option R) : Nat -> List α -> β -> Option R
  | _, [], acc => fin acc
  | i, x :: r, acc => body i acc x (goI body fin (i + 1) r)
theorem loop_goi {σ R α β : Type} {F : (σ -> Option R) -> σ -> Option R} {mk : Nat -> β -> σ} {xs : List α} {body : Nat -> β -> α -> (β -> Option R) -> Option R} {fin : β -> Option R}
    (hs : ∀ self i acc x, xs[i]? = some x -> F self (mk i acc) = body i acc x fun a => self (mk (i + 1) a))
    (he : ∀ self acc, F self (mk xs.length acc) = fin acc) :
    ∀ (k i : Nat) (acc : β) (n : Nat), i + k = xs.length -> k < n -> loopF F n (mk i acc) = goI body fin i (xs.drop i) acc
  | _, _, _, 0, _, hn => by omega
  | 0, i, acc, n + 1, h, _ => by
    have : i = xs.length := by omega
    subst this
    rw [loopF_succ, he, List.drop_length]
    rfl
  | k + 1, i, acc, n + 1, h, hn => by
    have hx : xs[i]? = some (xs[i]'(by omega)) := List.getElem?_eq_getElem (by omega)
    rw [loopF_succ, hs _ _ _ _ hx, List.drop_eq_getElem_cons (show i < xs.length by omega)]
    show _ = body i acc _ (goI body fin (i + 1) (xs.drop (i + 1)))
    congr 1
    funext a
    exact loop_goi hs he k (i + 1) a n (by omega) (by omega)
theorem set_at {α : Type} (p : List α) (x y : α) (q : List α) : (p ++ x :: q).set p.length y = p ++ y :: q := by
  rw [List.set_append_right _ _ (Nat.le_refl _), Nat.sub_self]
  rfl
end Pl
end
section
namespace Go.Proofs.Lx
open Go Ev Sx Pl
set_option maxRecDepth 100000
theorem capOk_self (n : Int) : capOk n n = true := by
  unfold capOk
  rw [if_pos rfl]
def two (x : Int) : List Int := [x / 256 % 256, x % 256]
end Go.Proofs.Lx
end
section
namespace Go.Proofs.Lx
open Go Ev Sx Pl
set_option maxRecDepth 100000
abbrev TA := Int × Int × Int × Int × List Int × List Bool
structure OkA (a : TA) : Prop where
  f0 : 0 ≤ a.1
  f1 : a.1 ≤ 255
  at0 : 0 ≤ a.2.1
  at1 : a.2.1 ≤ 65535
  m0 : 0 ≤ a.2.2.1
  m1 : a.2.2.1 ≤ 65535
  t0 : 0 ≤ a.2.2.2.1
  t1 : a.2.2.2.1 ≤ 65535
  w : ∀ x ∈ a.2.2.2.2.1, 0 ≤ x ∧ x ≤ 65535
  lw : a.2.2.2.2.1.length ≤ 100000
  lb : a.2.2.2.2.2.length ≤ 100000
def shp (f : Int) : Option (Int × Int × Int × Bool × Bool) :=
  if eqi 1 f = true then some (2000, 0, 0, false, false) else if eqi 2 f = true then some (2000, 0, 0, false, false) else if eqi 3 f = true then some (125, 0, 0, false, false) else
  if eqi 4 f = true then some (125, 0, 0, false, false) else if eqi 5 f = true then some (0, 1, 0, false, false) else if eqi 6 f = true then some (0, 0, 1, false, false) else
  if eqi 15 f = true then some (1968, 1968, 0, false, true) else if eqi 16 f = true then some (123, 0, 123, false, true) else if eqi 23 f = true then some (125, 0, 121, true, false) else none
def shpD (f : Int) : Int × Int × Int × Bool × Bool := (shp f).getD (0, 0, 0, false, false)
theorem shape_eq (f : Int) : ask_shape (f, ()) = some (shpD f, (shp f).isSome, ()) := rfl
theorem shp_cases (f : Int) : ((f = 1 ∨ f = 2) ∧ shp f = some (2000, 0, 0, false, false)) ∨ ((f = 3 ∨ f = 4) ∧ shp f = some (125, 0, 0, false, false)) ∨ (f = 5 ∧ shp f = some (0, 1, 0, false, false)) ∨
    (f = 6 ∧ shp f = some (0, 0, 1, false, false)) ∨ (f = 15 ∧ shp f = some (1968, 1968, 0, false, true)) ∨ (f = 16 ∧ shp f = some (123, 0, 123, false, true)) ∨ (f = 23 ∧ shp f = some (125, 0, 121, true, false)) ∨
    ((f ≠ 1 ∧ f ≠ 2 ∧ f ≠ 3 ∧ f ≠ 4 ∧ f ≠ 5 ∧ f ≠ 6 ∧ f ≠ 15 ∧ f ≠ 16 ∧ f ≠ 23) ∧ shp f = none) := by
  by_cases h1 : f = 1
  · subst h1; exact .inl ⟨.inl rfl, rfl⟩
  by_cases h2 : f = 2
  · subst h2; exact .inl ⟨.inr rfl, rfl⟩
  by_cases h3 : f = 3
  · subst h3; exact .inr (.inl ⟨.inl rfl, rfl⟩)
  by_cases h4 : f = 4
  · subst h4; exact .inr (.inl ⟨.inr rfl, rfl⟩)
  by_cases h5 : f = 5
  · subst h5; exact .inr (.inr (.inl ⟨rfl, rfl⟩))
  by_cases h6 : f = 6
  · subst h6; exact .inr (.inr (.inr (.inl ⟨rfl, rfl⟩)))
  by_cases h7 : f = 15
  · subst h7; exact .inr (.inr (.inr (.inr (.inl ⟨rfl, rfl⟩))))
  by_cases h8 : f = 16
  · subst h8; exact .inr (.inr (.inr (.inr (.inr (.inl ⟨rfl, rfl⟩)))))
  by_cases h9 : f = 23
  · subst h9; exact .inr (.inr (.inr (.inr (.inr (.inr (.inl ⟨rfl, rfl⟩))))))
  refine .inr (.inr (.inr (.inr (.inr (.inr (.inr ⟨⟨h1, h2, h3, h4, h5, h6, h7, h8, h9⟩, ?_⟩))))))
  have e : ∀ n : Int, f ≠ n -> ¬ eqi n f = true := fun n hn h => hn (eqi_iff.1 h).symm
  unfold shp
  rw [if_neg (e _ h1), if_neg (e _ h2), if_neg (e _ h3), if_neg (e _ h4), if_neg (e _ h5), if_neg (e _ h6), if_neg (e _ h7), if_neg (e _ h8), if_neg (e _ h9)]
def withinV (n most : Int) : Bool := if eqi most 0 = true then eqi n 0 else if ge n 1 = true then le n most else false
theorem within_eq (n most : Int) : ask_within (n, most, ()) = some (withinV n most, ()) := by
  show qgj_ n most = _
  unfold qgj_ withinV
  split
  · rfl
  · split <;> rfl
def rightS (a : TA) (s : Int × Int × Int × Bool × Bool) : Bool := (s.2.2.2.1 || eqi a.2.2.2.1 0) && (withinV a.2.2.1 s.1 && (withinV (Int.ofNat a.2.2.2.2.2.length) s.2.1 && (withinV (Int.ofNat a.2.2.2.2.1.length) s.2.2.1 &&
  (!s.2.2.2.2 || eqi (Int.ofNat a.2.2.2.2.2.length + Int.ofNat a.2.2.2.2.1.length) a.2.2.1))))
def rightA (a : TA) : Bool := match shp a.1 with
  | none => false
  | some s => rightS a s
theorem right_K2 (t : Bool) (a1 a2 a3 a4 : Int) (a5 : List Int) (a6 : List Bool) (s1 s2 s3 : Int) (s4 s5 : Bool) :
    qct_ t a1 a2 a3 a4 a5 a6 s1 s2 s3 s4 s5 = some (!t && (!s5 || eqi (add .i64 (Int.ofNat a6.length) (Int.ofNat a5.length)) (cvt .i64 a3)), ()) := by
  unfold qct_ qmq_
  cases t <;> cases s5 <;> rfl
theorem right_K1 (t : Bool) (a1 a2 a3 a4 : Int) (a5 : List Int) (a6 : List Bool) (s1 s2 s3 : Int) (s4 s5 : Bool) :
    qa2_ t a1 a2 a3 a4 a5 a6 s1 s2 s3 s4 s5 = some (!t && (withinV (cvt .i64 a3) s1 && (withinV (Int.ofNat a6.length) s2 && (withinV (Int.ofNat a5.length) s3 && (!s5 || eqi (add .i64 (Int.ofNat a6.length) (Int.ofNat a5.length)) (cvt .i64 a3))))), ()) := by
  unfold qa2_ qmw_
  rw [within_eq, within_eq, within_eq]
  simp only [Option.bind_some, right_K2]
  cases t <;> cases withinV (cvt .i64 a3) s1 <;> cases withinV (Int.ofNat a6.length) s2 <;> cases withinV (Int.ofNat a5.length) s3 <;> rfl
theorem right_eq {a : TA} (h : OkA a) : ask_Right (a, ()) = some (rightA a, ()) := by
  show qib_ qa2_ a = _
  unfold qib_
  have h1 := h.m0
  have h2 := h.m1
  have h3 := h.lw
  have h4 := h.lb
  rw [shape_eq, Option.bind_some]
  simp only [right_K1]
  rw [cvt64 (by omega) (by omega), add64 (by rw [ofNat_eq, ofNat_eq]; omega) (by rw [ofNat_eq, ofNat_eq]; omega)]
  unfold rightA shpD
  cases shp a.1 with
  | none => rfl
  | some s =>
    obtain ⟨s1, s2, s3, s4, s5⟩ := s
    unfold rightS
    have e : nei a.2.2.2.1 0 = !eqi a.2.2.2.1 0 := rfl
    rw [e]
    cases s4 <;> cases eqi a.2.2.2.1 0 <;> rfl
theorem two_eq {y : Int} : ([cvt .u8 (shr .u16 y 8), cvt .u8 y] : List Int) = two y := by
  rw [cvt8, cvt8, shr8 _ _ (by decide)]
  rfl
theorem numbers_eq {l out : List Int} (h : out.length + 2 * l.length ≤ 1000000) : ask_numbers (l, out, ()) = some (out ++ l.flatMap two, ()) := by
  show qdw_ q9p_ l out = _
  unfold qdw_ q9p_
  refine (loop_idx (xs := l) (mk := fun i acc => (l, Int.ofNat l.length, (i : Int), acc)) (stp := fun o y => o ++ two y) (fin := fun acc => some (acc, ())) (fun i acc => acc.length ≤ out.length + 2 * i) ?_ ?_ ?_ l.length 0 out _ (by omega) (by omega) (by omega)).trans ?_
  · intro self i acc x hx hI
    have hi := (List.getElem?_eq_some_iff.1 hx).1
    show q7n_ _ l (Int.ofNat l.length) (i : Int) acc = _
    unfold q7n_
    rw [if_pos (by rw [lt_iff, ofNat_eq]; omega), at_get hx, Option.bind_some, need_small (by omega), two_eq, succ64 (by omega)]
  · intro i acc x hx hI
    simp [two]
    omega
  · intro self acc _
    show q7n_ _ l (Int.ofNat l.length) (l.length : Int) acc = _
    unfold q7n_
    rw [if_neg (by rw [lt_iff, ofNat_eq]; omega)]
  · rw [List.drop_zero, foldl_app]
end Go.Proofs.Lx
end
