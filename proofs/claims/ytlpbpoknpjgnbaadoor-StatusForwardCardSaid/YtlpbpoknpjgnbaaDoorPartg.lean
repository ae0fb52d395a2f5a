/- Proved in the last of these 11 parts (this is part 7): StatusForward: whatever the records and the numbers that wait, the law returns true.. Conditions: those of the given statement, and no others. -/
import Derived.Test.YtlpbpoknpjgnbaaDoorParte
import Derived.Test.YtlpbpoknpjgnbaaDoorPartf
import Derived.Test.YtlpbpoknpjgnbaaDoorProg
import Derived.Sort.Defs
import Derived.Sort.LotD7
import Derived.Sort.LotB
import Derived.Sort.LotC
import Derived.Sort.LotD1
import Derived.Sort.LotD5
import Derived.Sort.LotA
set_option linter.unusedVariables false
set_option linter.unusedSimpArgs false
set_option linter.unusedSectionVars false
section
open Go Go.Proofs Ev Sx
set_option maxRecDepth 100000
namespace Go.Proofs.Lx
@[reducible] def q0_ : Sh := ⟨[.row 0, .d (.int .i64), .d (.int .i64), .d (.int .i64)], [.row (.int .u32) 26], [.int .i64, .int .i64, .int .i64, .sl (.int .u32)], [.d (.int .i64), .d .bool], [(0, .row (.int .u32) 26)], 0, [.int .i64, .bool, .sl (.int .u32)]⟩
def q2_ : Env := (cts [(47, (⟨cmp_Less_Guint32_s, q10_⟩ : Ct))])
def q1_ : List (Nat × Hint) := [(15, ⟨[], [0, 1, 10, 11, 50, 51, 52, 53, 54, 55, 56, 57, 58, 59, 103, 104, 105, 106, 107, 108, 109, 110, 111, 119, 120, 121, 122, 123, 124, 125, 126, 127, 128]⟩), (31, ⟨[], [0, 1, 10, 11, 103, 104, 105, 106, 107, 108, 109, 110, 111, 119, 120, 121, 122, 123, 124, 125, 126, 127, 128]⟩), (1023, ⟨[], [0, 1, 11]⟩), (4092, ⟨[], [0, 1, 10, 11, 103, 104, 105, 106, 107, 108, 109, 110, 111, 119, 120, 121, 122, 123, 124, 125, 126, 127, 128]⟩), (16368, ⟨[], [0, 1, 10, 11, 103, 104, 105, 106, 107, 108, 109, 110, 111, 119, 120, 121, 122, 123, 124, 125, 126, 127, 128]⟩), (32737, ⟨[], [0, 1, 10, 11, 103, 104, 105, 106, 107, 108, 109, 110, 111, 119, 120, 121, 122, 123, 124, 125, 126, 127, 128]⟩), (130948, ⟨[], [0, 1, 10, 11, 103, 104, 105, 106, 107, 108, 109, 110, 111, 119, 120, 121, 122, 123, 124, 125, 126, 127, 128]⟩), (523792, ⟨[.agd 120 (.int .i64), .agd 122 (.int .u32), .agd 124 (.int .i64), .agd 126 (.int .u32), .agd 127 .bool, .agd 128 .bool], [0, 1, 10, 11, 129]⟩), (65472, ⟨[], [0, 1, 10, 11, 103, 104, 105, 106, 107, 108, 109, 110, 111, 119, 120, 121, 122, 123, 124, 125, 126, 127, 128]⟩), (261888, ⟨[.agd 104 (.int .i64), .agd 106 (.int .u32), .agd 108 (.int .i64), .agd 110 (.int .u32), .agd 111 .bool], [0, 1, 10, 11, 112]⟩), (124, ⟨[], [0, 1, 10, 11, 50, 51, 52, 53, 54, 55, 56, 57, 58, 59, 103, 104, 105, 106, 107, 108, 109, 110, 111, 119, 120, 121, 122, 123, 124, 125, 126, 127, 128]⟩), (496, ⟨[.agd 51 (.int .i64), .agd 53 (.int .u32), .agd 55 (.int .i64), .agd 57 (.int .u32), .agd 58 .bool, .agd 59 .bool], [0, 1, 10, 11, 60]⟩), (60, ⟨[], [0, 1, 10, 11, 34, 35, 36, 37, 38, 39, 40, 41, 42, 50, 51, 52, 53, 54, 55, 56, 57, 58, 59, 103, 104, 105, 106, 107, 108, 109, 110, 111, 119, 120, 121, 122, 123, 124, 125, 126, 127, 128]⟩), (240, ⟨[.agd 35 (.int .i64), .agd 37 (.int .u32), .agd 39 (.int .i64), .agd 41 (.int .u32), .agd 42 .bool], [0, 1, 10, 11, 43]⟩)]
def q1n_ (a i j : Int) (data : List Int) : St := { fr := [(0, .row 0), (1, .d (.int .i64) a), (10, .d (.int .i64) i), (11, .d (.int .i64) j)], nt := 168, up := [], own := [(0, .row (.int .u32) 26 data)], nx := 1, log := [], ln := 1 }
def q6m_ (a i j : Int) (t43 : Bool) (data : List Int) : St := { fr := [(0, .row 0), (1, .d (.int .i64) a), (10, .d (.int .i64) i), (11, .d (.int .i64) j), (43, .d .bool t43)], nt := 168, up := [], own := [(0, .row (.int .u32) 26 data)], nx := 1, log := [], ln := 1 }
def q6k_ (a i j : Int) (data : List Int) : St := { fr := [(0, .row 0), (1, .d (.int .i64) a), (10, .d (.int .i64) i), (11, .d (.int .i64) j)], nt := 168, up := [], own := [(0, .row (.int .u32) 26 data)], nx := 1, log := [], ln := 1 }
def q1l_ (a i j : Int) (data : List Int) : St := { fr := [(0, .row 0), (1, .d (.int .i64) a), (10, .d (.int .i64) i), (11, .d (.int .i64) j)], nt := 168, up := [], own := [(0, .row (.int .u32) 26 data)], nx := 1, log := [], ln := 1 }
def q6n_ (a i j : Int) (t60 : Bool) (data : List Int) : St := { fr := [(0, .row 0), (1, .d (.int .i64) a), (10, .d (.int .i64) i), (11, .d (.int .i64) j), (60, .d .bool t60)], nt := 168, up := [], own := [(0, .row (.int .u32) 26 data)], nx := 1, log := [], ln := 1 }
def q6j_ (a i j : Int) (data : List Int) : St := { fr := [(0, .row 0), (1, .d (.int .i64) a), (10, .d (.int .i64) i), (11, .d (.int .i64) j)], nt := 168, up := [], own := [(0, .row (.int .u32) 26 data)], nx := 1, log := [], ln := 1 }
def qe_ (a i j : Int) (data : List Int) : St := { fr := [(0, .row 0), (1, .d (.int .i64) a), (10, .d (.int .i64) i), (11, .d (.int .i64) j)], nt := 168, up := [], own := [(0, .row (.int .u32) 26 data)], nx := 1, log := [], ln := 1 }
def q1m_ (a i j : Int) (data : List Int) : St := { fr := [(0, .row 0), (1, .d (.int .i64) a), (10, .d (.int .i64) i), (11, .d (.int .i64) j)], nt := 168, up := [], own := [(0, .row (.int .u32) 26 data)], nx := 1, log := [], ln := 1 }
def q6o_ (a i j : Int) (t112 : Bool) (data : List Int) : St := { fr := [(0, .row 0), (1, .d (.int .i64) a), (10, .d (.int .i64) i), (11, .d (.int .i64) j), (112, .d .bool t112)], nt := 168, up := [], own := [(0, .row (.int .u32) 26 data)], nx := 1, log := [], ln := 1 }
def q6b_ (a i j : Int) (data : List Int) : St := { fr := [(0, .row 0), (1, .d (.int .i64) a), (10, .d (.int .i64) i), (11, .d (.int .i64) j)], nt := 168, up := [], own := [(0, .row (.int .u32) 26 data)], nx := 1, log := [], ln := 1 }
def q1i_ (a i j : Int) (data : List Int) : St := { fr := [(0, .row 0), (1, .d (.int .i64) a), (10, .d (.int .i64) i), (11, .d (.int .i64) j)], nt := 168, up := [], own := [(0, .row (.int .u32) 26 data)], nx := 1, log := [], ln := 1 }
def q6g_ (a i j : Int) (t129 : Bool) (data : List Int) : St := { fr := [(0, .row 0), (1, .d (.int .i64) a), (10, .d (.int .i64) i), (11, .d (.int .i64) j), (129, .d .bool t129)], nt := 168, up := [], own := [(0, .row (.int .u32) 26 data)], nx := 1, log := [], ln := 1 }
def q6e_ (a i j : Int) (data : List Int) : St := { fr := [(0, .row 0), (1, .d (.int .i64) a), (10, .d (.int .i64) i), (11, .d (.int .i64) j)], nt := 168, up := [], own := [(0, .row (.int .u32) 26 data)], nx := 1, log := [], ln := 1 }
def q6f_ (a j : Int) (data : List Int) : St := { fr := [(0, .row 0), (1, .d (.int .i64) a), (11, .d (.int .i64) j)], nt := 168, up := [], own := [(0, .row (.int .u32) 26 data)], nx := 1, log := [], ln := 1 }
def q3k_ (j2 : Int -> Int -> Int -> Bool -> List Int -> Option (As [.int .i64, .bool, .sl (.int .u32)])) (self1 : Int -> Int -> Int -> List Int -> Option (As [.int .i64, .bool, .sl (.int .u32)])) (a i j : Int) (data : List Int) : Option (As [.int .i64, .bool, .sl (.int .u32)]) :=
  if le i j = true then Option.bind (at? data i) fun (x : Int) => Option.bind (at? data i) fun (y : Int) => Option.bind (at? data a) fun (x : Int) => Option.bind (at? data a) fun (y_1 : Int) => Option.bind (q10_ (y, y_1, ())) fun (y : Bool × Unit) => j2 a i j y.1 data else j2 a i j false data
def q6r_ (j3 self1 : Int -> Int -> Int -> List Int -> Option (As [.int .i64, .bool, .sl (.int .u32)])) (a i j : Int) (t43 : Bool) (data : List Int) : Option (As [.int .i64, .bool, .sl (.int .u32)]) :=
  if t43 = true then self1 a (add .i64 i 1) j data else j3 a i j data
def qay_ (j4 : Int -> Int -> Int -> List Int -> Option (As [.int .i64, .bool, .sl (.int .u32)])) (a i j : Int) (data : List Int) : Option (As [.int .i64, .bool, .sl (.int .u32)]) :=
  j4 a i j data
def q3l_ (j5 : Int -> Int -> Int -> Bool -> List Int -> Option (As [.int .i64, .bool, .sl (.int .u32)])) (self4 : Int -> Int -> Int -> List Int -> Option (As [.int .i64, .bool, .sl (.int .u32)])) (a i j : Int) (data : List Int) : Option (As [.int .i64, .bool, .sl (.int .u32)]) :=
  if le i j = true then Option.bind (at? data j) fun (x : Int) => Option.bind (at? data j) fun (y : Int) => Option.bind (at? data a) fun (x : Int) => Option.bind (at? data a) fun (y_1 : Int) => Option.bind (q10_ (y, y_1, ())) fun (y : Bool × Unit) => j5 a i j (!y.1) data else j5 a i j false data
def q6q_ (j6 self4 : Int -> Int -> Int -> List Int -> Option (As [.int .i64, .bool, .sl (.int .u32)])) (a i j : Int) (t60 : Bool) (data : List Int) : Option (As [.int .i64, .bool, .sl (.int .u32)]) :=
  if t60 = true then self4 a i (Sx.sub .i64 j 1) data else j6 a i j data
def q6p_ (j7 : Int -> Int -> Int -> List Int -> Option (As [.int .i64, .bool, .sl (.int .u32)])) (a i j : Int) (data : List Int) : Option (As [.int .i64, .bool, .sl (.int .u32)]) :=
  if gt i j = true then Option.bind (at? data a) fun (x : Int) => Option.bind (at? data a) fun (y : Int) => Option.bind (at? data j) fun (x : Int) => Option.bind (at? data j) fun (y_1 : Int) => Option.bind (at? data j) fun (x : Int) => Option.bind (at? data j) fun (x : Int) => Option.bind (at? (List.set data (Int.toNat j) y) a) fun (x : Int) => Option.bind (at? (List.set data (Int.toNat j) y) a) fun (x : Int) => some (j, true, List.set (List.set data (Int.toNat j) y) (Int.toNat a) y_1, ()) else Option.bind (at? data j) fun (x : Int) => Option.bind (at? data j) fun (y : Int) => Option.bind (at? data i) fun (x : Int) => Option.bind (at? data i) fun (y_1 : Int) => Option.bind (at? data i) fun (x : Int) => Option.bind (at? data i) fun (x : Int) => Option.bind (at? (List.set data (Int.toNat i) y) j) fun (x : Int) => Option.bind (at? (List.set data (Int.toNat i) y) j) fun (x : Int) => j7 a (add .i64 i 1) (Sx.sub .i64 j 1) (List.set (List.set data (Int.toNat i) y) (Int.toNat j) y_1)
def q4u_ (j8 self7 : Int -> Int -> Int -> List Int -> Option (As [.int .i64, .bool, .sl (.int .u32)])) (a i j : Int) (data : List Int) : Option (As [.int .i64, .bool, .sl (.int .u32)]) :=
  j8 a i j data
def q3h_ (j9 : Int -> Int -> Int -> Bool -> List Int -> Option (As [.int .i64, .bool, .sl (.int .u32)])) (self7 self8 : Int -> Int -> Int -> List Int -> Option (As [.int .i64, .bool, .sl (.int .u32)])) (a i j : Int) (data : List Int) : Option (As [.int .i64, .bool, .sl (.int .u32)]) :=
  if le i j = true then Option.bind (at? data i) fun (x : Int) => Option.bind (at? data i) fun (y : Int) => Option.bind (at? data a) fun (x : Int) => Option.bind (at? data a) fun (y_1 : Int) => Option.bind (q10_ (y, y_1, ())) fun (y : Bool × Unit) => j9 a i j y.1 data else j9 a i j false data
def q6t_ (j10 self7 self8 : Int -> Int -> Int -> List Int -> Option (As [.int .i64, .bool, .sl (.int .u32)])) (a i j : Int) (t112 : Bool) (data : List Int) : Option (As [.int .i64, .bool, .sl (.int .u32)]) :=
  if t112 = true then self8 a (add .i64 i 1) j data else j10 a i j data
def qat_ (j11 self7 : Int -> Int -> Int -> List Int -> Option (As [.int .i64, .bool, .sl (.int .u32)])) (a i j : Int) (data : List Int) : Option (As [.int .i64, .bool, .sl (.int .u32)]) :=
  j11 a i j data
def q3b_ (j12 : Int -> Int -> Int -> Bool -> List Int -> Option (As [.int .i64, .bool, .sl (.int .u32)])) (self7 self11 : Int -> Int -> Int -> List Int -> Option (As [.int .i64, .bool, .sl (.int .u32)])) (a i j : Int) (data : List Int) : Option (As [.int .i64, .bool, .sl (.int .u32)]) :=
  if le i j = true then Option.bind (at? data j) fun (x : Int) => Option.bind (at? data j) fun (y : Int) => Option.bind (at? data a) fun (x : Int) => Option.bind (at? data a) fun (y_1 : Int) => Option.bind (q10_ (y, y_1, ())) fun (y : Bool × Unit) => j12 a i j (!y.1) data else j12 a i j false data
def q6c_ (j13 self7 self11 : Int -> Int -> Int -> List Int -> Option (As [.int .i64, .bool, .sl (.int .u32)])) (a i j : Int) (t129 : Bool) (data : List Int) : Option (As [.int .i64, .bool, .sl (.int .u32)]) :=
  if t129 = true then self11 a i (Sx.sub .i64 j 1) data else j13 a i j data
def q6h_ (j14 : Int -> Int -> List Int -> Option (As [.int .i64, .bool, .sl (.int .u32)])) (self7 : Int -> Int -> Int -> List Int -> Option (As [.int .i64, .bool, .sl (.int .u32)])) (a i j : Int) (data : List Int) : Option (As [.int .i64, .bool, .sl (.int .u32)]) :=
  if gt i j = true then j14 a j data else Option.bind (at? data j) fun (x : Int) => Option.bind (at? data j) fun (y : Int) => Option.bind (at? data i) fun (x : Int) => Option.bind (at? data i) fun (y_1 : Int) => Option.bind (at? data i) fun (x : Int) => Option.bind (at? data i) fun (x : Int) => Option.bind (at? (List.set data (Int.toNat i) y) j) fun (x : Int) => Option.bind (at? (List.set data (Int.toNat i) y) j) fun (x : Int) => self7 a (add .i64 i 1) (Sx.sub .i64 j 1) (List.set (List.set data (Int.toNat i) y) (Int.toNat j) y_1)
def q6a_ (a j : Int) (data : List Int) : Option (As [.int .i64, .bool, .sl (.int .u32)]) :=
  Option.bind (at? data a) fun (x : Int) => Option.bind (at? data a) fun (y : Int) => Option.bind (at? data j) fun (x : Int) => Option.bind (at? data j) fun (y_1 : Int) => Option.bind (at? data j) fun (x : Int) => Option.bind (at? data j) fun (x : Int) => Option.bind (at? (List.set data (Int.toNat j) y) a) fun (x : Int) => Option.bind (at? (List.set data (Int.toNat j) y) a) fun (x : Int) => some (j, false, List.set (List.set data (Int.toNat j) y) (Int.toNat a) y_1, ())
def q6u_ (j1 : Int -> Int -> Int -> List Int -> Option (As [.int .i64, .bool, .sl (.int .u32)])) (data a b : Int) (pivot : List Int) : Option (As [.int .i64, .bool, .sl (.int .u32)]) :=
  Option.bind (at? pivot b) fun (x : Int) => Option.bind (at? pivot b) fun (y : Int) => Option.bind (at? pivot data) fun (x : Int) => Option.bind (at? pivot data) fun (y_1 : Int) => Option.bind (at? pivot data) fun (x : Int) => Option.bind (at? pivot data) fun (x : Int) => Option.bind (at? (List.set pivot (Int.toNat data) y) b) fun (x : Int) => Option.bind (at? (List.set pivot (Int.toNat data) y) b) fun (x : Int) => j1 data (add .i64 data 1) (Sx.sub .i64 a 1) (List.set (List.set pivot (Int.toNat data) y) (Int.toNat b) y_1)
def q8a_ (a j : Int) (data : List Int) : Option (As [.int .i64, .bool, .sl (.int .u32)]) := q6a_ a j data
def q3d_ (u7 : Int -> Int -> Int -> List Int -> Option (As [.int .i64, .bool, .sl (.int .u32)])) (a i j : Int) (data : List Int) : Option (As [.int .i64, .bool, .sl (.int .u32)]) := q6h_ (q8a_) u7 a i j data
def q24_ (u7 u11 : Int -> Int -> Int -> List Int -> Option (As [.int .i64, .bool, .sl (.int .u32)])) (a i j : Int) (t129 : Bool) (data : List Int) : Option (As [.int .i64, .bool, .sl (.int .u32)]) := q6c_ (q3d_ u7) u7 u11 a i j t129 data
def q1y_ (u7 : Int -> Int -> Int -> List Int -> Option (As [.int .i64, .bool, .sl (.int .u32)])) (a i j : Int) (data : List Int) : Option (As [.int .i64, .bool, .sl (.int .u32)]) :=
  loopF (fun (self : (Int) × (Int) × (Int) × (List Int) -> Option (As [.int .i64, .bool, .sl (.int .u32)])) (s : (Int) × (Int) × (Int) × (List Int)) => q3b_ (q24_ u7 (fun a i j data => self (a, i, j, data))) u7 (fun a i j data => self (a, i, j, data)) s.1 s.2.1 s.2.2.1 s.2.2.2) 18446744073709551616 (a, i, j, data)
def q88_ (u7 : Int -> Int -> Int -> List Int -> Option (As [.int .i64, .bool, .sl (.int .u32)])) (a i j : Int) (data : List Int) : Option (As [.int .i64, .bool, .sl (.int .u32)]) := qat_ (q1y_ u7) u7 a i j data
def q2e_ (u7 u8 : Int -> Int -> Int -> List Int -> Option (As [.int .i64, .bool, .sl (.int .u32)])) (a i j : Int) (t112 : Bool) (data : List Int) : Option (As [.int .i64, .bool, .sl (.int .u32)]) := q6t_ (q88_ u7) u7 u8 a i j t112 data
def q2s_ (u7 : Int -> Int -> Int -> List Int -> Option (As [.int .i64, .bool, .sl (.int .u32)])) (a i j : Int) (data : List Int) : Option (As [.int .i64, .bool, .sl (.int .u32)]) :=
  loopF (fun (self : (Int) × (Int) × (Int) × (List Int) -> Option (As [.int .i64, .bool, .sl (.int .u32)])) (s : (Int) × (Int) × (Int) × (List Int)) => q3h_ (q2e_ u7 (fun a i j data => self (a, i, j, data))) u7 (fun a i j data => self (a, i, j, data)) s.1 s.2.1 s.2.2.1 s.2.2.2) 18446744073709551616 (a, i, j, data)
def q4v_ (a i j : Int) (data : List Int) : Option (As [.int .i64, .bool, .sl (.int .u32)]) :=
  loopF (fun (self : (Int) × (Int) × (Int) × (List Int) -> Option (As [.int .i64, .bool, .sl (.int .u32)])) (s : (Int) × (Int) × (Int) × (List Int)) => q4u_ (q2s_ (fun a i j data => self (a, i, j, data))) (fun a i j data => self (a, i, j, data)) s.1 s.2.1 s.2.2.1 s.2.2.2) 18446744073709551616 (a, i, j, data)
def q3j_ (a i j : Int) (data : List Int) : Option (As [.int .i64, .bool, .sl (.int .u32)]) := q6p_ (q4v_) a i j data
def q2d_ (u4 : Int -> Int -> Int -> List Int -> Option (As [.int .i64, .bool, .sl (.int .u32)])) (a i j : Int) (t60 : Bool) (data : List Int) : Option (As [.int .i64, .bool, .sl (.int .u32)]) := q6q_ (q3j_) u4 a i j t60 data
def q2b_ (a i j : Int) (data : List Int) : Option (As [.int .i64, .bool, .sl (.int .u32)]) :=
  loopF (fun (self : (Int) × (Int) × (Int) × (List Int) -> Option (As [.int .i64, .bool, .sl (.int .u32)])) (s : (Int) × (Int) × (Int) × (List Int)) => q3l_ (q2d_ (fun a i j data => self (a, i, j, data))) (fun a i j data => self (a, i, j, data)) s.1 s.2.1 s.2.2.1 s.2.2.2) 18446744073709551616 (a, i, j, data)
def q8f_ (a i j : Int) (data : List Int) : Option (As [.int .i64, .bool, .sl (.int .u32)]) := qay_ (q2b_) a i j data
def q2c_ (u1 : Int -> Int -> Int -> List Int -> Option (As [.int .i64, .bool, .sl (.int .u32)])) (a i j : Int) (t43 : Bool) (data : List Int) : Option (As [.int .i64, .bool, .sl (.int .u32)]) := q6r_ (q8f_) u1 a i j t43 data
def q2t_ (a i j : Int) (data : List Int) : Option (As [.int .i64, .bool, .sl (.int .u32)]) :=
  loopF (fun (self : (Int) × (Int) × (Int) × (List Int) -> Option (As [.int .i64, .bool, .sl (.int .u32)])) (s : (Int) × (Int) × (Int) × (List Int)) => q3k_ (q2c_ (fun a i j data => self (a, i, j, data))) (fun a i j data => self (a, i, j, data)) s.1 s.2.1 s.2.2.1 s.2.2.2) 18446744073709551616 (a, i, j, data)
def q5u_ (x : As [.int .i64, .int .i64, .int .i64, .sl (.int .u32)]) : Option (As [.int .i64, .bool, .sl (.int .u32)]) := q6u_ q2t_ x.1 x.2.1 x.2.2.1 x.2.2.2.1
theorem qgd_  (J a j data) : pfn Tryd.prog q2_ 6 18446744073709551616 (Ev.get q1_) 81 q0_ J 1023 [] (q6f_ a j data) = q6a_ a j data := by kernel_rfl
theorem qgi_  (J w7 a i j data) : pfn Tryd.prog q2_ 6 18446744073709551616 (Ev.get q1_) 81 q0_ J 32737 [w7] (q6e_ a i j data) = q6h_ (fun a j data => J 1023 [] (q6f_ a j data)) (fun a i j data => w7 (qe_ a i j data)) a i j data := by kernel_rfl
theorem qgg_  (J w7 w11 a i j t129 data) : pfn Tryd.prog q2_ 6 18446744073709551616 (Ev.get q1_) 81 q0_ J 523792 [w7, w11] (q6g_ a i j t129 data) = q6c_ (fun a i j data => J 32737 [w7] (q6e_ a i j data)) (fun a i j data => w7 (qe_ a i j data)) (fun a i j data => w11 (q1i_ a i j data)) a i j t129 data := by kernel_rfl
theorem qgh_  (J w7 w11 a i j data) : pfn Tryd.prog q2_ 6 18446744073709551616 (Ev.get q1_) 81 q0_ J 130948 [w7, w11] (q1i_ a i j data) = q3b_ (fun a i j t129 data => J 523792 [w7, w11] (q6g_ a i j t129 data)) (fun a i j data => w7 (qe_ a i j data)) (fun a i j data => w11 (q1i_ a i j data)) a i j data := by kernel_rfl
theorem qgf_  (J w7 a i j data) : pfn Tryd.prog q2_ 6 18446744073709551616 (Ev.get q1_) 81 q0_ J 16368 [w7] (q6b_ a i j data) = qat_ (fun a i j data => J 130948 [w7] (q1i_ a i j data)) (fun a i j data => w7 (qe_ a i j data)) a i j data := by kernel_rfl
theorem qgz_  (J w7 w8 a i j t112 data) : pfn Tryd.prog q2_ 6 18446744073709551616 (Ev.get q1_) 81 q0_ J 261888 [w7, w8] (q6o_ a i j t112 data) = q6t_ (fun a i j data => J 16368 [w7] (q6b_ a i j data)) (fun a i j data => w7 (qe_ a i j data)) (fun a i j data => w8 (q1m_ a i j data)) a i j t112 data := by kernel_rfl
theorem qhk_  (J w7 w8 a i j data) : pfn Tryd.prog q2_ 6 18446744073709551616 (Ev.get q1_) 81 q0_ J 65472 [w7, w8] (q1m_ a i j data) = q3h_ (fun a i j t112 data => J 261888 [w7, w8] (q6o_ a i j t112 data)) (fun a i j data => w7 (qe_ a i j data)) (fun a i j data => w8 (q1m_ a i j data)) a i j data := by kernel_rfl
theorem qh7_  (J w7 a i j data) : pfn Tryd.prog q2_ 6 18446744073709551616 (Ev.get q1_) 81 q0_ J 4092 [w7] (qe_ a i j data) = q4u_ (fun a i j data => J 65472 [w7] (q1m_ a i j data)) (fun a i j data => w7 (qe_ a i j data)) a i j data := by kernel_rfl
theorem qh4_  (J a i j data) : pfn Tryd.prog q2_ 6 18446744073709551616 (Ev.get q1_) 81 q0_ J 31 [] (q6j_ a i j data) = q6p_ (fun a i j data => J 4092 [] (qe_ a i j data)) a i j data := by kernel_rfl
theorem qgv_  (J w4 a i j t60 data) : pfn Tryd.prog q2_ 6 18446744073709551616 (Ev.get q1_) 81 q0_ J 496 [w4] (q6n_ a i j t60 data) = q6q_ (fun a i j data => J 31 [] (q6j_ a i j data)) (fun a i j data => w4 (q1l_ a i j data)) a i j t60 data := by kernel_rfl
theorem qgw_  (J w4 a i j data) : pfn Tryd.prog q2_ 6 18446744073709551616 (Ev.get q1_) 81 q0_ J 124 [w4] (q1l_ a i j data) = q3l_ (fun a i j t60 data => J 496 [w4] (q6n_ a i j t60 data)) (fun a i j data => w4 (q1l_ a i j data)) a i j data := by kernel_rfl
theorem qhd_  (J a i j data) : pfn Tryd.prog q2_ 6 18446744073709551616 (Ev.get q1_) 81 q0_ J 15 [] (q6k_ a i j data) = qay_ (fun a i j data => J 124 [] (q1l_ a i j data)) a i j data := by kernel_rfl
theorem qhf_  (J w1 a i j t43 data) : pfn Tryd.prog q2_ 6 18446744073709551616 (Ev.get q1_) 81 q0_ J 240 [w1] (q6m_ a i j t43 data) = q6r_ (fun a i j data => J 15 [] (q6k_ a i j data)) (fun a i j data => w1 (q1n_ a i j data)) a i j t43 data := by kernel_rfl
theorem qhh_  (J w1 a i j data) : pfn Tryd.prog q2_ 6 18446744073709551616 (Ev.get q1_) 81 q0_ J 60 [w1] (q1n_ a i j data) = q3k_ (fun a i j t43 data => J 240 [w1] (q6m_ a i j t43 data)) (fun a i j data => w1 (q1n_ a i j data)) a i j data := by kernel_rfl
theorem qh8_ (J : Orc (As [.int .i64, .bool, .sl (.int .u32)])) (x : As [.int .i64, .int .i64, .int .i64, .sl (.int .u32)]) : rfn Tryd.prog q2_ 6 18446744073709551616 (Ev.get q1_) 81 q0_ J x = q6u_ (fun a i j data => J 60 [] (q1n_ a i j data)) x.1 x.2.1 x.2.2.1 x.2.2.2.1 := by kernel_rfl
theorem qga_  (a j data) : jfn Tryd.prog q2_ 6 18446744073709551616 (Ev.get q1_) 81 q0_ 1023 [] (q6f_ a j data) = q8a_ a j data := by
  rw [qo_ (by decide)]
  rw [qgd_]
  rfl
theorem qge_  (w7 a i j data) : jfn Tryd.prog q2_ 6 18446744073709551616 (Ev.get q1_) 81 q0_ 32737 [w7] (q6e_ a i j data) = q3d_ (fun a i j data => w7 (qe_ a i j data)) a i j data := by
  rw [qo_ (by decide)]
  have e14 : (fun a j data => (jfn Tryd.prog q2_ 6 18446744073709551616 (Ev.get q1_) 81 q0_) 1023 [] (q6f_ a j data)) = q8a_ := by funext a j data; exact qga_ a j data
  rw [qgi_, e14]
  rfl
theorem qgm_  (w7 w11 a i j t129 data) : jfn Tryd.prog q2_ 6 18446744073709551616 (Ev.get q1_) 81 q0_ 523792 [w7, w11] (q6g_ a i j t129 data) = q24_ (fun a i j data => w7 (qe_ a i j data)) (fun a i j data => w11 (q1i_ a i j data)) a i j t129 data := by
  rw [qo_ (by decide)]
  have e13 : (fun a i j data => (jfn Tryd.prog q2_ 6 18446744073709551616 (Ev.get q1_) 81 q0_) 32737 [w7] (q6e_ a i j data)) = q3d_ (fun a i j data => w7 (qe_ a i j data)) := by funext a i j data; exact qge_ w7 a i j data
  rw [qgg_, e13]
  rfl
theorem qgc_  (w7 a i j data) : jfn Tryd.prog q2_ 6 18446744073709551616 (Ev.get q1_) 81 q0_ 130948 [w7] (q1i_ a i j data) = q1y_ (fun a i j data => w7 (qe_ a i j data)) a i j data := by
  rw [qo_ (by decide)]
  rw [q2u_ (by kernel_rfl)]
  refine q29_ (σ := (Int) × (Int) × (Int) × (List Int)) (mk := fun s => q1i_ s.1 s.2.1 s.2.2.1 s.2.2.2) (fun w11 s => ?_) 18446744073709551616 (a, i, j, data)
  have e12 : (fun a i j t129 data => (jfn Tryd.prog q2_ 6 18446744073709551616 (Ev.get q1_) 81 q0_) 523792 [w7, w11] (q6g_ a i j t129 data)) = q24_ (fun a i j data => w7 (qe_ a i j data)) (fun a i j data => w11 (q1i_ a i j data)) := by funext a i j t129 data; exact qgm_ w7 w11 a i j t129 data
  refine (qgh_ _ w7 w11 s.1 s.2.1 s.2.2.1 s.2.2.2).trans ?_
  rw [e12]
theorem qg9_  (w7 a i j data) : jfn Tryd.prog q2_ 6 18446744073709551616 (Ev.get q1_) 81 q0_ 16368 [w7] (q6b_ a i j data) = q88_ (fun a i j data => w7 (qe_ a i j data)) a i j data := by
  rw [qo_ (by decide)]
  have e11 : (fun a i j data => (jfn Tryd.prog q2_ 6 18446744073709551616 (Ev.get q1_) 81 q0_) 130948 [w7] (q1i_ a i j data)) = q1y_ (fun a i j data => w7 (qe_ a i j data)) := by funext a i j data; exact qgc_ w7 a i j data
  rw [qgf_, e11]
  rfl
theorem qhe_  (w7 w8 a i j t112 data) : jfn Tryd.prog q2_ 6 18446744073709551616 (Ev.get q1_) 81 q0_ 261888 [w7, w8] (q6o_ a i j t112 data) = q2e_ (fun a i j data => w7 (qe_ a i j data)) (fun a i j data => w8 (q1m_ a i j data)) a i j t112 data := by
  rw [qo_ (by decide)]
  have e10 : (fun a i j data => (jfn Tryd.prog q2_ 6 18446744073709551616 (Ev.get q1_) 81 q0_) 16368 [w7] (q6b_ a i j data)) = q88_ (fun a i j data => w7 (qe_ a i j data)) := by funext a i j data; exact qg9_ w7 a i j data
  rw [qgz_, e10]
  rfl
theorem qgt_  (w7 a i j data) : jfn Tryd.prog q2_ 6 18446744073709551616 (Ev.get q1_) 81 q0_ 65472 [w7] (q1m_ a i j data) = q2s_ (fun a i j data => w7 (qe_ a i j data)) a i j data := by
  rw [qo_ (by decide)]
  rw [q2u_ (by kernel_rfl)]
  refine q29_ (σ := (Int) × (Int) × (Int) × (List Int)) (mk := fun s => q1m_ s.1 s.2.1 s.2.2.1 s.2.2.2) (fun w8 s => ?_) 18446744073709551616 (a, i, j, data)
  have e9 : (fun a i j t112 data => (jfn Tryd.prog q2_ 6 18446744073709551616 (Ev.get q1_) 81 q0_) 261888 [w7, w8] (q6o_ a i j t112 data)) = q2e_ (fun a i j data => w7 (qe_ a i j data)) (fun a i j data => w8 (q1m_ a i j data)) := by funext a i j t112 data; exact qhe_ w7 w8 a i j t112 data
  refine (qhk_ _ w7 w8 s.1 s.2.1 s.2.2.1 s.2.2.2).trans ?_
  rw [e9]
theorem qh3_  (a i j data) : jfn Tryd.prog q2_ 6 18446744073709551616 (Ev.get q1_) 81 q0_ 4092 [] (qe_ a i j data) = q4v_ a i j data := by
  rw [qo_ (by decide)]
  rw [q2u_ (by kernel_rfl)]
  refine q29_ (σ := (Int) × (Int) × (Int) × (List Int)) (mk := fun s => qe_ s.1 s.2.1 s.2.2.1 s.2.2.2) (fun w7 s => ?_) 18446744073709551616 (a, i, j, data)
  have e8 : (fun a i j data => (jfn Tryd.prog q2_ 6 18446744073709551616 (Ev.get q1_) 81 q0_) 65472 [w7] (q1m_ a i j data)) = q2s_ (fun a i j data => w7 (qe_ a i j data)) := by funext a i j data; exact qgt_ w7 a i j data
  refine (qh7_ _ w7 s.1 s.2.1 s.2.2.1 s.2.2.2).trans ?_
  rw [e8]
theorem qh0_  (a i j data) : jfn Tryd.prog q2_ 6 18446744073709551616 (Ev.get q1_) 81 q0_ 31 [] (q6j_ a i j data) = q3j_ a i j data := by
  rw [qo_ (by decide)]
  have e7 : (fun a i j data => (jfn Tryd.prog q2_ 6 18446744073709551616 (Ev.get q1_) 81 q0_) 4092 [] (qe_ a i j data)) = q4v_ := by funext a i j data; exact qh3_ a i j data
  rw [qh4_, e7]
  rfl
theorem qgu_  (w4 a i j t60 data) : jfn Tryd.prog q2_ 6 18446744073709551616 (Ev.get q1_) 81 q0_ 496 [w4] (q6n_ a i j t60 data) = q2d_ (fun a i j data => w4 (q1l_ a i j data)) a i j t60 data := by
  rw [qo_ (by decide)]
  have e6 : (fun a i j data => (jfn Tryd.prog q2_ 6 18446744073709551616 (Ev.get q1_) 81 q0_) 31 [] (q6j_ a i j data)) = q3j_ := by funext a i j data; exact qh0_ a i j data
  rw [qgv_, e6]
  rfl
theorem qh6_  (a i j data) : jfn Tryd.prog q2_ 6 18446744073709551616 (Ev.get q1_) 81 q0_ 124 [] (q1l_ a i j data) = q2b_ a i j data := by
  rw [qo_ (by decide)]
  rw [q2u_ (by kernel_rfl)]
  refine q29_ (σ := (Int) × (Int) × (Int) × (List Int)) (mk := fun s => q1l_ s.1 s.2.1 s.2.2.1 s.2.2.2) (fun w4 s => ?_) 18446744073709551616 (a, i, j, data)
  have e5 : (fun a i j t60 data => (jfn Tryd.prog q2_ 6 18446744073709551616 (Ev.get q1_) 81 q0_) 496 [w4] (q6n_ a i j t60 data)) = q2d_ (fun a i j data => w4 (q1l_ a i j data)) := by funext a i j t60 data; exact qgu_ w4 a i j t60 data
  refine (qgw_ _ w4 s.1 s.2.1 s.2.2.1 s.2.2.2).trans ?_
  rw [e5]
theorem qh1_  (a i j data) : jfn Tryd.prog q2_ 6 18446744073709551616 (Ev.get q1_) 81 q0_ 15 [] (q6k_ a i j data) = q8f_ a i j data := by
  rw [qo_ (by decide)]
  have e4 : (fun a i j data => (jfn Tryd.prog q2_ 6 18446744073709551616 (Ev.get q1_) 81 q0_) 124 [] (q1l_ a i j data)) = q2b_ := by funext a i j data; exact qh6_ a i j data
  rw [qhd_, e4]
  rfl
theorem qhb_  (w1 a i j t43 data) : jfn Tryd.prog q2_ 6 18446744073709551616 (Ev.get q1_) 81 q0_ 240 [w1] (q6m_ a i j t43 data) = q2c_ (fun a i j data => w1 (q1n_ a i j data)) a i j t43 data := by
  rw [qo_ (by decide)]
  have e3 : (fun a i j data => (jfn Tryd.prog q2_ 6 18446744073709551616 (Ev.get q1_) 81 q0_) 15 [] (q6k_ a i j data)) = q8f_ := by funext a i j data; exact qh1_ a i j data
  rw [qhf_, e3]
  rfl
theorem qh5_  (a i j data) : jfn Tryd.prog q2_ 6 18446744073709551616 (Ev.get q1_) 81 q0_ 60 [] (q1n_ a i j data) = q2t_ a i j data := by
  rw [qo_ (by decide)]
  rw [q2u_ (by kernel_rfl)]
  refine q29_ (σ := (Int) × (Int) × (Int) × (List Int)) (mk := fun s => q1n_ s.1 s.2.1 s.2.2.1 s.2.2.2) (fun w1 s => ?_) 18446744073709551616 (a, i, j, data)
  have e2 : (fun a i j t43 data => (jfn Tryd.prog q2_ 6 18446744073709551616 (Ev.get q1_) 81 q0_) 240 [w1] (q6m_ a i j t43 data)) = q2c_ (fun a i j data => w1 (q1n_ a i j data)) := by funext a i j t43 data; exact qhb_ w1 a i j t43 data
  refine (qhh_ _ w1 s.1 s.2.1 s.2.2.1 s.2.2.2).trans ?_
  rw [e2]
theorem qi6_ (x : As [.int .i64, .int .i64, .int .i64, .sl (.int .u32)]) : evT Tryd.prog q2_ 6 18446744073709551616 (Ev.get q1_) 81 q0_ x = q5u_ x := by
  have e1 : (fun a i j data => (jfn Tryd.prog q2_ 6 18446744073709551616 (Ev.get q1_) 81 q0_) 60 [] (q1n_ a i j data)) = q2t_ := by funext a i j data; exact qh5_ a i j data
  rw [q56_, qh8_, e1]
  rfl
theorem qh2_ : CtOk Tryd.prog (fun _ => True) 81 ⟨q0_, q5u_⟩ := ct_of_ev (env_cons q6i_ env_nil) qi6_
end Go.Proofs.Lx
end
section
namespace Pl
open Go Ev Sx
set_option maxRecDepth 10000
theorem q2i_ {σ R : Type} (F : (σ -> Option R) -> σ -> Option R) (n : Nat) (s : σ) : loopF F (n + 1) s = F (loopF F n) s := rfl
theorem loopF_eq {σ R : Type} {F : (σ -> Option R) -> σ -> Option R} {Inv : σ -> Prop} {μ : σ -> Nat} {G : σ -> Option R}
    (step : ∀ self s, Inv s -> (∀ s', Inv s' -> μ s' < μ s -> self s' = G s') -> F self s = G s) : ∀ (n : Nat) (s : σ), Inv s -> μ s < n -> loopF F n s = G s
  | 0, s, _, h => by omega
  | n + 1, s, hs, h => by
    rw [q2i_]
    exact step _ s hs fun s' hs' hlt => loopF_eq step n s' hs' (by omega)
theorem w64 {x : Int} (h1 : -9223372036854775808 ≤ x) (h2 : x ≤ 9223372036854775807) : IntKind.i64.wrap x = x := by
  simp only [IntKind.wrap, IntKind.signed, IntKind.bits]
  simp
  omega
theorem wu64 {x : Int} (h1 : 0 ≤ x) (h2 : x ≤ 18446744073709551615) : IntKind.u64.wrap x = x := by
  simp only [IntKind.wrap, IntKind.signed, IntKind.bits]
  simp
  omega
theorem add64 {a b : Int} (h1 : -9223372036854775808 ≤ a + b) (h2 : a + b ≤ 9223372036854775807) : add .i64 a b = a + b := w64 h1 h2
theorem sub64 {a b : Int} (h1 : -9223372036854775808 ≤ a - b) (h2 : a - b ≤ 9223372036854775807) : sub .i64 a b = a - b := w64 h1 h2
theorem mul64 {a b : Int} (h1 : -9223372036854775808 ≤ a * b) (h2 : a * b ≤ 9223372036854775807) : mul .i64 a b = a * b := w64 h1 h2
theorem cvt64 {a : Int} (h1 : -9223372036854775808 ≤ a) (h2 : a ≤ 9223372036854775807) : cvt .i64 a = a := w64 h1 h2
theorem q4d_ {n : Nat} (h : n < 4611686018427387904) : add .i64 (n : Int) 1 = ((n + 1 : Nat) : Int) := by rw [add64 (by omega) (by omega)]; rfl
theorem addn64 {n m : Nat} (h : n + m < 4611686018427387904) : add .i64 (n : Int) (m : Int) = ((n + m : Nat) : Int) := by rw [add64 (by omega) (by omega)]; rfl
theorem q1b_ (n : Nat) : Int.ofNat n = (n : Int) := rfl
theorem q2m_ {a b : Int} : lt a b = true ↔ a < b := by simp [lt]
theorem le_iff {a b : Int} : le a b = true ↔ a ≤ b := by simp [le]
theorem gt_iff {a b : Int} : gt a b = true ↔ b < a := by simp [gt]
theorem q5v_ {a b : Int} : ge a b = true ↔ b ≤ a := by simp [ge]
theorem q4g_ {a b : Int} : eqi a b = true ↔ a = b := by simp [eqi]
theorem nei_iff {a b : Int} : nei a b = true ↔ a ≠ b := by simp [nei]
theorem eqs_iff {a b : List UInt8} : eqs a b = true ↔ a = b := by simp [eqs]
theorem small_iff {n : Nat} : small n = true ↔ n ≤ 1073741824 := by simp [small]
theorem lt_dec (a b : Int) : lt a b = decide (a < b) := rfl
theorem gt_dec (a b : Int) : gt a b = decide (b < a) := rfl
theorem need_t {b : Bool} {β : Type} {k : Option β} (h : b = true) : need b k = k := by unfold need; rw [if_pos h]
theorem q8x_ {n : Nat} {β : Type} {k : Option β} (h : n ≤ 1073741824) : need (small n) k = k := need_t (small_iff.2 h)
theorem at_get {α : Type} {s : List α} {i : Nat} {c : α} (h : s[i]? = some c) : at? s (i : Int) = some c := by
  unfold at?
  simp [h]
theorem at_app {α : Type} (p : List α) (c : α) (q : List α) : at? (p ++ c :: q) (p.length : Int) = some c := at_get (by simp)
theorem eqV_refl : ∀ (t : Ty) (x : Vl t), eqV t x x = true := by
  have hl : ∀ {α : Type} {f : α -> α -> Bool}, (∀ a, f a a = true) -> ∀ x : List α, eqL f x x = true := fun h x => by
    induction x with
    | nil => rfl
    | cons a q ih => simp [eqL, h, ih]
  intro t
  induction t with
  | int k => intro x; simp [eqV, eqi]
  | bool => intro x; simp [eqV, eqb]
  | str => intro x; simp [eqV, eqs]
  | sl t ih => intro x; exact hl ih x
  | pr a b iha ihb => intro x; simp [eqV, iha, ihb]
  | wr a ih => intro x; exact ih x
  | un => intro x; rfl
  | ar n t ih => intro x; exact hl ih x
  | mp k v ihk ihv => intro x; exact hl (fun a => by rw [ihk, ihv]; rfl) x
theorem eqAs_refl : ∀ (rs : List Ty) (x : As rs), eqAs rs x x = true
  | [], _ => rfl
  | t :: r, x => by simp [eqAs, eqV_refl, eqAs_refl r]
theorem amb2 {R : Type} {eq : R -> R -> Bool} (h : ∀ x, eq x x = true) (a : Option R) : amb eq [a, a] = a := by
  cases a <;> simp [amb, ambC, h]
end Pl
end
section
namespace Pl
open Go Ev Sx
theorem loop_idx {σ R α β : Type} {F : (σ -> Option R) -> σ -> Option R} {mk : Nat -> β -> σ} {xs : List α} {stp : β -> α -> β} {fin : β -> Option R} (Inv : Nat -> β -> Prop)
    (hs : ∀ self i acc x, xs[i]? = some x -> Inv i acc -> F self (mk i acc) = self (mk (i + 1) (stp acc x)))
    (hi : ∀ i acc x, xs[i]? = some x -> Inv i acc -> Inv (i + 1) (stp acc x))
    (he : ∀ self acc, Inv xs.length acc -> F self (mk xs.length acc) = fin acc) :
    ∀ (k i : Nat) (acc : β) (n : Nat), i + k = xs.length -> k < n -> Inv i acc -> loopF F n (mk i acc) = fin ((xs.drop i).foldl stp acc)
  | _, _, _, 0, _, hn, _ => by omega
  | 0, i, acc, n + 1, h, _, hI => by
    have : i = xs.length := by omega
    subst this
    rw [q2i_, he _ _ hI, List.drop_length]
    rfl
  | k + 1, i, acc, n + 1, h, hn, hI => by
    have hx : xs[i]? = some (xs[i]'(by omega)) := List.getElem?_eq_getElem (by omega)
    rw [q2i_, hs _ _ _ _ hx hI, loop_idx Inv hs hi he k (i + 1) _ n (by omega) (by omega) (hi _ _ _ hx hI), List.drop_eq_getElem_cons (show i < xs.length by omega)]
    rfl
end Pl
end
section
set_option maxRecDepth 100000
namespace Go.Proofs.Lx
open Go Ev Sx
def q4y_ (u1 : Int -> Int -> Int -> List Int -> Option (As [.sl (.int .u32)])) := (fun (self : (Int) × (Int) × (Int) × (Int) × (List Int) -> Option (As [.sl (.int .u32)])) (s : (Int) × (Int) × (Int) × (Int) × (List Int)) => q3z_ (q31_ u1 (fun a b i j data => self (a, b, i, j, data))) u1 (fun a b i j data => self (a, b, i, j, data)) s.1 s.2.1 s.2.2.1 s.2.2.2.1 s.2.2.2.2)
theorem qdl_ (u1 : Int -> Int -> Int -> List Int -> Option (As [.sl (.int .u32)])) (self : (Int) × (Int) × (Int) × (Int) × (List Int) -> Option (As [.sl (.int .u32)])) (a b i j : Int) (data : List Int) : q4y_ u1 self (a, b, i, j, data) = q3z_ (q31_ u1 (fun a b i j data => self (a, b, i, j, data))) u1 (fun a b i j data => self (a, b, i, j, data)) a b i j data := rfl
theorem qdg_ (u1 : Int -> Int -> Int -> List Int -> Option (As [.sl (.int .u32)])) (a b i j : Int) (data : List Int) : q32_ u1 a b i j data = loopF (q4y_ u1) 18446744073709551616 (a, b, i, j, data) := rfl
def q79_  := (fun (self : (Int) × (Int) × (Int) × (List Int) -> Option (As [.sl (.int .u32)])) (s : (Int) × (Int) × (Int) × (List Int)) => q3y_ (q32_ (fun a b i data => self (a, b, i, data))) (fun a b i data => self (a, b, i, data)) s.1 s.2.1 s.2.2.1 s.2.2.2)
theorem qdi_  (self : (Int) × (Int) × (Int) × (List Int) -> Option (As [.sl (.int .u32)])) (a : Int) (b : Int) (i : Int) (data : List Int) : q79_ self (a, b, i, data) = q3y_ (q32_ (fun a b i data => self (a, b, i, data))) (fun a b i data => self (a, b, i, data)) a b i data := rfl
theorem qdk_  (a : Int) (b : Int) (i : Int) (data : List Int) : q3x_ a b i data = loopF (q79_) 18446744073709551616 (a, b, i, data) := rfl
def q3e_  := (fun (self : (Int) × (Int) × (Int) × (List Int) -> Option (As [.sl (.int .u32)])) (s : (Int) × (Int) × (Int) × (List Int)) => q4z_ (q33_ (fun hi first root data => self (hi, first, root, data))) (fun hi first root data => self (hi, first, root, data)) s.1 s.2.1 s.2.2.1 s.2.2.2)
theorem qg4_  (self : (Int) × (Int) × (Int) × (List Int) -> Option (As [.sl (.int .u32)])) (hi : Int) (first : Int) (root : Int) (data : List Int) : q3e_ self (hi, first, root, data) = q4z_ (q33_ (fun hi first root data => self (hi, first, root, data))) (fun hi first root data => self (hi, first, root, data)) hi first root data := rfl
theorem qfp_  (hi : Int) (first : Int) (root : Int) (data : List Int) : q53_ hi first root data = loopF (q3e_) 18446744073709551616 (hi, first, root, data) := rfl
def q6d_  := (fun (self : (Int) × (Int) × (Int) × (List Int) -> Option (As [.sl (.int .u32)])) (s : (Int) × (Int) × (Int) × (List Int)) => q3u_ (fun first lo i data => self (first, lo, i, data)) s.1 s.2.1 s.2.2.1 s.2.2.2)
theorem qaj_  (self : (Int) × (Int) × (Int) × (List Int) -> Option (As [.sl (.int .u32)])) (first : Int) (lo : Int) (i : Int) (data : List Int) : q6d_ self (first, lo, i, data) = q3u_ (fun first lo i data => self (first, lo, i, data)) first lo i data := rfl
theorem qg8_  (first : Int) (lo : Int) (i : Int) (data : List Int) : q51_ first lo i data = loopF (q6d_) 18446744073709551616 (first, lo, i, data) := rfl
def q89_  := (fun (self : (Int) × (Int) × (Int) × (Int) × (List Int) -> Option (As [.sl (.int .u32)])) (s : (Int) × (Int) × (Int) × (Int) × (List Int)) => q3t_ (q3r_) (fun first lo hi i data => self (first, lo, hi, i, data)) s.1 s.2.1 s.2.2.1 s.2.2.2.1 s.2.2.2.2)
theorem qai_  (self : (Int) × (Int) × (Int) × (Int) × (List Int) -> Option (As [.sl (.int .u32)])) (first : Int) (lo : Int) (hi : Int) (i : Int) (data : List Int) : q89_ self (first, lo, hi, i, data) = q3t_ (q3r_) (fun first lo hi i data => self (first, lo, hi, i, data)) first lo hi i data := rfl
theorem qfx_  (first : Int) (lo : Int) (hi : Int) (i : Int) (data : List Int) : q52_ first lo hi i data = loopF (q89_) 18446744073709551616 (first, lo, hi, i, data) := rfl
def q3f_  := (fun (self : (Int) × (Int) × (Int) × (Int) × (List Int) × (Int) -> Option (As [.sl (.int .u32)])) (s : (Int) × (Int) × (Int) × (Int) × (List Int) × (Int)) => q3w_ (q30_ (fun a length modulus idx data random => self (a, length, modulus, idx, data, random))) (fun a length modulus idx data random => self (a, length, modulus, idx, data, random)) s.1 s.2.1 s.2.2.1 s.2.2.2.1 s.2.2.2.2.1 s.2.2.2.2.2)
theorem qdj_  (self : (Int) × (Int) × (Int) × (Int) × (List Int) × (Int) -> Option (As [.sl (.int .u32)])) (a : Int) (length : Int) (modulus : Int) (idx : Int) (data : List Int) (random : Int) : q3f_ self (a, length, modulus, idx, data, random) = q3w_ (q30_ (fun a length modulus idx data random => self (a, length, modulus, idx, data, random))) (fun a length modulus idx data random => self (a, length, modulus, idx, data, random)) a length modulus idx data random := rfl
theorem qdh_  (a : Int) (length : Int) (modulus : Int) (idx : Int) (data : List Int) (random : Int) : q40_ a length modulus idx data random = loopF (q3f_) 18446744073709551616 (a, length, modulus, idx, data, random) := rfl
def q5b_  := (fun (self : (Int) × (Int) × (List Int) -> Option (As [.sl (.int .u32)])) (s : (Int) × (Int) × (List Int)) => q4b_ (fun i j data => self (i, j, data)) s.1 s.2.1 s.2.2)
theorem qdn_  (self : (Int) × (Int) × (List Int) -> Option (As [.sl (.int .u32)])) (i : Int) (j : Int) (data : List Int) : q5b_ self (i, j, data) = q4b_ (fun i j data => self (i, j, data)) i j data := rfl
theorem qds_  (i : Int) (j : Int) (data : List Int) : q4c_ i j data = loopF (q5b_) 18446744073709551616 (i, j, data) := rfl
def q3m_ (u1 : Int -> Int -> Int -> Int -> List Int -> Option (As [.bool, .sl (.int .u32)])) := (fun (self : (Int) × (Int) × (Int) × (Int) × (Int) × (List Int) -> Option (As [.bool, .sl (.int .u32)])) (s : (Int) × (Int) × (Int) × (Int) × (Int) × (List Int)) => q2y_ (qs_ u1) u1 (fun a b i j j_2 data => self (a, b, i, j, j_2, data)) s.1 s.2.1 s.2.2.1 s.2.2.2.1 s.2.2.2.2.1 s.2.2.2.2.2)
theorem qbl_ (u1 : Int -> Int -> Int -> Int -> List Int -> Option (As [.bool, .sl (.int .u32)])) (self : (Int) × (Int) × (Int) × (Int) × (Int) × (List Int) -> Option (As [.bool, .sl (.int .u32)])) (a b i j j_2 : Int) (data : List Int) : q3m_ u1 self (a, b, i, j, j_2, data) = q2y_ (qs_ u1) u1 (fun a b i j j_2 data => self (a, b, i, j, j_2, data)) a b i j j_2 data := rfl
theorem qbk_ (u1 : Int -> Int -> Int -> Int -> List Int -> Option (As [.bool, .sl (.int .u32)])) (a b i j j_2 : Int) (data : List Int) : q44_ u1 a b i j j_2 data = loopF (q3m_ u1) 18446744073709551616 (a, b, i, j, j_2, data) := rfl
def q3n_ (u1 : Int -> Int -> Int -> Int -> List Int -> Option (As [.bool, .sl (.int .u32)])) := (fun (self : (Int) × (Int) × (Int) × (Int) × (Int) × (List Int) -> Option (As [.bool, .sl (.int .u32)])) (s : (Int) × (Int) × (Int) × (Int) × (Int) × (List Int)) => q23_ (qr_ u1) u1 (fun a b i j j_2 data => self (a, b, i, j, j_2, data)) s.1 s.2.1 s.2.2.1 s.2.2.2.1 s.2.2.2.2.1 s.2.2.2.2.2)
theorem q83_ (u1 : Int -> Int -> Int -> Int -> List Int -> Option (As [.bool, .sl (.int .u32)])) (self : (Int) × (Int) × (Int) × (Int) × (Int) × (List Int) -> Option (As [.bool, .sl (.int .u32)])) (a b i j j_2 : Int) (data : List Int) : q3n_ u1 self (a, b, i, j, j_2, data) = q23_ (qr_ u1) u1 (fun a b i j j_2 data => self (a, b, i, j, j_2, data)) a b i j j_2 data := rfl
theorem qbi_ (u1 : Int -> Int -> Int -> Int -> List Int -> Option (As [.bool, .sl (.int .u32)])) (a b i j j_2 : Int) (data : List Int) : q2v_ u1 a b i j j_2 data = loopF (q3n_ u1) 18446744073709551616 (a, b, i, j, j_2, data) := rfl
def q5s_ (u1 : Int -> Int -> Int -> Int -> List Int -> Option (As [.bool, .sl (.int .u32)])) := (fun (self : (Int) × (Int) × (Int) × (Int) × (List Int) -> Option (As [.bool, .sl (.int .u32)])) (s : (Int) × (Int) × (Int) × (Int) × (List Int)) => q2z_ (q1c_ u1 (fun a b i j data => self (a, b, i, j, data))) u1 (fun a b i j data => self (a, b, i, j, data)) s.1 s.2.1 s.2.2.1 s.2.2.2.1 s.2.2.2.2)
theorem qbm_ (u1 : Int -> Int -> Int -> Int -> List Int -> Option (As [.bool, .sl (.int .u32)])) (self : (Int) × (Int) × (Int) × (Int) × (List Int) -> Option (As [.bool, .sl (.int .u32)])) (a b i j : Int) (data : List Int) : q5s_ u1 self (a, b, i, j, data) = q2z_ (q1c_ u1 (fun a b i j data => self (a, b, i, j, data))) u1 (fun a b i j data => self (a, b, i, j, data)) a b i j data := rfl
theorem qbo_ (u1 : Int -> Int -> Int -> Int -> List Int -> Option (As [.bool, .sl (.int .u32)])) (a b i j : Int) (data : List Int) : q26_ u1 a b i j data = loopF (q5s_ u1) 18446744073709551616 (a, b, i, j, data) := rfl
def q1t_  := (fun (self : (Int) × (Int) × (Int) × (Int) × (List Int) -> Option (As [.bool, .sl (.int .u32)])) (s : (Int) × (Int) × (Int) × (Int) × (List Int)) => q27_ (q26_ (fun a b i j data => self (a, b, i, j, data))) (fun a b i j data => self (a, b, i, j, data)) s.1 s.2.1 s.2.2.1 s.2.2.2.1 s.2.2.2.2)
theorem q84_  (self : (Int) × (Int) × (Int) × (Int) × (List Int) -> Option (As [.bool, .sl (.int .u32)])) (a : Int) (b : Int) (i : Int) (j : Int) (data : List Int) : q1t_ self (a, b, i, j, data) = q27_ (q26_ (fun a b i j data => self (a, b, i, j, data))) (fun a b i j data => self (a, b, i, j, data)) a b i j data := rfl
theorem qbh_  (a : Int) (b : Int) (i : Int) (j : Int) (data : List Int) : q2x_ a b i j data = loopF (q1t_) 18446744073709551616 (a, b, i, j, data) := rfl
def q9d_ (u1 : Int -> Int -> Int -> List Int -> Option (As [.int .i64, .sl (.int .u32)])) := (fun (self : (Int) × (Int) × (Int) × (List Int) -> Option (As [.int .i64, .sl (.int .u32)])) (s : (Int) × (Int) × (Int) × (List Int)) => q2o_ (q1d_ u1 (fun a i j data => self (a, i, j, data))) u1 (fun a i j data => self (a, i, j, data)) s.1 s.2.1 s.2.2.1 s.2.2.2)
theorem q96_ (u1 : Int -> Int -> Int -> List Int -> Option (As [.int .i64, .sl (.int .u32)])) (self : (Int) × (Int) × (Int) × (List Int) -> Option (As [.int .i64, .sl (.int .u32)])) (a i j : Int) (data : List Int) : q9d_ u1 self (a, i, j, data) = q2o_ (q1d_ u1 (fun a i j data => self (a, i, j, data))) u1 (fun a i j data => self (a, i, j, data)) a i j data := rfl
theorem qd5_ (u1 : Int -> Int -> Int -> List Int -> Option (As [.int .i64, .sl (.int .u32)])) (a i j : Int) (data : List Int) : q1e_ u1 a i j data = loopF (q9d_ u1) 18446744073709551616 (a, i, j, data) := rfl
def q9e_ (u1 : Int -> Int -> Int -> List Int -> Option (As [.int .i64, .sl (.int .u32)])) := (fun (self : (Int) × (Int) × (Int) × (List Int) -> Option (As [.int .i64, .sl (.int .u32)])) (s : (Int) × (Int) × (Int) × (List Int)) => q2p_ (q1f_ u1 (fun a i j data => self (a, i, j, data))) u1 (fun a i j data => self (a, i, j, data)) s.1 s.2.1 s.2.2.1 s.2.2.2)
theorem q91_ (u1 : Int -> Int -> Int -> List Int -> Option (As [.int .i64, .sl (.int .u32)])) (self : (Int) × (Int) × (Int) × (List Int) -> Option (As [.int .i64, .sl (.int .u32)])) (a i j : Int) (data : List Int) : q9e_ u1 self (a, i, j, data) = q2p_ (q1f_ u1 (fun a i j data => self (a, i, j, data))) u1 (fun a i j data => self (a, i, j, data)) a i j data := rfl
theorem qdf_ (u1 : Int -> Int -> Int -> List Int -> Option (As [.int .i64, .sl (.int .u32)])) (a i j : Int) (data : List Int) : q2a_ u1 a i j data = loopF (q9e_ u1) 18446744073709551616 (a, i, j, data) := rfl
def q4s_  := (fun (self : (Int) × (Int) × (Int) × (List Int) -> Option (As [.int .i64, .sl (.int .u32)])) (s : (Int) × (Int) × (Int) × (List Int)) => q3o_ (q2a_ (fun a i j data => self (a, i, j, data))) (fun a i j data => self (a, i, j, data)) s.1 s.2.1 s.2.2.1 s.2.2.2)
theorem qde_  (self : (Int) × (Int) × (Int) × (List Int) -> Option (As [.int .i64, .sl (.int .u32)])) (a : Int) (i : Int) (j : Int) (data : List Int) : q4s_ self (a, i, j, data) = q3o_ (q2a_ (fun a i j data => self (a, i, j, data))) (fun a i j data => self (a, i, j, data)) a i j data := rfl
theorem qda_  (a : Int) (i : Int) (j : Int) (data : List Int) : q2n_ a i j data = loopF (q4s_) 18446744073709551616 (a, i, j, data) := rfl
def qa0_ (u7 : Int -> Int -> Int -> List Int -> Option (As [.int .i64, .bool, .sl (.int .u32)])) := (fun (self : (Int) × (Int) × (Int) × (List Int) -> Option (As [.int .i64, .bool, .sl (.int .u32)])) (s : (Int) × (Int) × (Int) × (List Int)) => q3b_ (q24_ u7 (fun a i j data => self (a, i, j, data))) u7 (fun a i j data => self (a, i, j, data)) s.1 s.2.1 s.2.2.1 s.2.2.2)
theorem q9w_ (u7 : Int -> Int -> Int -> List Int -> Option (As [.int .i64, .bool, .sl (.int .u32)])) (self : (Int) × (Int) × (Int) × (List Int) -> Option (As [.int .i64, .bool, .sl (.int .u32)])) (a i j : Int) (data : List Int) : qa0_ u7 self (a, i, j, data) = q3b_ (q24_ u7 (fun a i j data => self (a, i, j, data))) u7 (fun a i j data => self (a, i, j, data)) a i j data := rfl
theorem qez_ (u7 : Int -> Int -> Int -> List Int -> Option (As [.int .i64, .bool, .sl (.int .u32)])) (a i j : Int) (data : List Int) : q1y_ u7 a i j data = loopF (qa0_ u7) 18446744073709551616 (a, i, j, data) := rfl
def qah_ (u7 : Int -> Int -> Int -> List Int -> Option (As [.int .i64, .bool, .sl (.int .u32)])) := (fun (self : (Int) × (Int) × (Int) × (List Int) -> Option (As [.int .i64, .bool, .sl (.int .u32)])) (s : (Int) × (Int) × (Int) × (List Int)) => q3h_ (q2e_ u7 (fun a i j data => self (a, i, j, data))) u7 (fun a i j data => self (a, i, j, data)) s.1 s.2.1 s.2.2.1 s.2.2.2)
theorem qa2_ (u7 : Int -> Int -> Int -> List Int -> Option (As [.int .i64, .bool, .sl (.int .u32)])) (self : (Int) × (Int) × (Int) × (List Int) -> Option (As [.int .i64, .bool, .sl (.int .u32)])) (a i j : Int) (data : List Int) : qah_ u7 self (a, i, j, data) = q3h_ (q2e_ u7 (fun a i j data => self (a, i, j, data))) u7 (fun a i j data => self (a, i, j, data)) a i j data := rfl
theorem qfe_ (u7 : Int -> Int -> Int -> List Int -> Option (As [.int .i64, .bool, .sl (.int .u32)])) (a i j : Int) (data : List Int) : q2s_ u7 a i j data = loopF (qah_ u7) 18446744073709551616 (a, i, j, data) := rfl
def q64_  := (fun (self : (Int) × (Int) × (Int) × (List Int) -> Option (As [.int .i64, .bool, .sl (.int .u32)])) (s : (Int) × (Int) × (Int) × (List Int)) => q4u_ (q2s_ (fun a i j data => self (a, i, j, data))) (fun a i j data => self (a, i, j, data)) s.1 s.2.1 s.2.2.1 s.2.2.2)
theorem qfh_  (self : (Int) × (Int) × (Int) × (List Int) -> Option (As [.int .i64, .bool, .sl (.int .u32)])) (a : Int) (i : Int) (j : Int) (data : List Int) : q64_ self (a, i, j, data) = q4u_ (q2s_ (fun a i j data => self (a, i, j, data))) (fun a i j data => self (a, i, j, data)) a i j data := rfl
theorem qfk_  (a : Int) (i : Int) (j : Int) (data : List Int) : q4v_ a i j data = loopF (q64_) 18446744073709551616 (a, i, j, data) := rfl
def qam_  := (fun (self : (Int) × (Int) × (Int) × (List Int) -> Option (As [.int .i64, .bool, .sl (.int .u32)])) (s : (Int) × (Int) × (Int) × (List Int)) => q3l_ (q2d_ (fun a i j data => self (a, i, j, data))) (fun a i j data => self (a, i, j, data)) s.1 s.2.1 s.2.2.1 s.2.2.2)
theorem qa3_  (self : (Int) × (Int) × (Int) × (List Int) -> Option (As [.int .i64, .bool, .sl (.int .u32)])) (a : Int) (i : Int) (j : Int) (data : List Int) : qam_ self (a, i, j, data) = q3l_ (q2d_ (fun a i j data => self (a, i, j, data))) (fun a i j data => self (a, i, j, data)) a i j data := rfl
theorem qfn_  (a : Int) (i : Int) (j : Int) (data : List Int) : q2b_ a i j data = loopF (qam_) 18446744073709551616 (a, i, j, data) := rfl
def qak_  := (fun (self : (Int) × (Int) × (Int) × (List Int) -> Option (As [.int .i64, .bool, .sl (.int .u32)])) (s : (Int) × (Int) × (Int) × (List Int)) => q3k_ (q2c_ (fun a i j data => self (a, i, j, data))) (fun a i j data => self (a, i, j, data)) s.1 s.2.1 s.2.2.1 s.2.2.2)
theorem q9z_  (self : (Int) × (Int) × (Int) × (List Int) -> Option (As [.int .i64, .bool, .sl (.int .u32)])) (a : Int) (i : Int) (j : Int) (data : List Int) : qak_ self (a, i, j, data) = q3k_ (q2c_ (fun a i j data => self (a, i, j, data))) (fun a i j data => self (a, i, j, data)) a i j data := rfl
theorem qfi_  (a : Int) (i : Int) (j : Int) (data : List Int) : q2t_ a i j data = loopF (qak_) 18446744073709551616 (a, i, j, data) := rfl
end Go.Proofs.Lx
end
section
set_option maxRecDepth 100000
namespace Go.Proofs.Lx
open Go Ev Sx Pl
theorem at_A {d : Array Int} {i : Nat} (h : i < d.size) : at? d.toList (i : Int) = some d[i]! := by
  refine at_get ?_
  rw [getElem!_pos d i h, Array.getElem?_toList, Array.getElem?_eq_getElem h]
theorem isnan (x : Int) : qd2_ (x, ()) = some (false, ()) := by
  show some (nei x x, ()) = _
  have : nei x x = false := by rw [Bool.eq_false_iff]; exact fun e => nei_iff.1 e rfl
  rw [this]
theorem less_eq (x y : Int) : q10_ (x, y, ()) = some (Sort.ltInt x y, ()) := by
  show cmp_Less_Guint32_m0 x y = _
  unfold cmp_Less_Guint32_m0
  rw [isnan, Option.bind_some]
  rfl
theorem q4r_ {R : Type} {d : Array Int} {i j : Nat} (hi : i < d.size) (hj : j < d.size) (k : Bool -> Option R) :
    ((at? d.toList (i : Int)).bind fun _ => (at? d.toList (i : Int)).bind fun y => (at? d.toList (j : Int)).bind fun _ => (at? d.toList (j : Int)).bind fun y1 => (q10_ (y, y1, ())).bind fun z => k z.1) = k (Sort.ltInt d[i]! d[j]!) := by
  rw [at_A hi, at_A hj]
  simp only [Option.bind_some]
  rw [less_eq, Option.bind_some]
theorem set_A (d : Array Int) (i : Nat) (y : Int) : d.toList.set ((i : Int).toNat) y = (d.setIfInBounds i y).toList := by rw [Int.toNat_natCast, Array.toList_setIfInBounds]
theorem q7l_ {R : Type} {d : Array Int} {i j : Nat} (hi : i < d.size) (hj : j < d.size) (k : List Int -> Option R) :
    ((at? d.toList (j : Int)).bind fun _ => (at? d.toList (j : Int)).bind fun y => (at? d.toList (i : Int)).bind fun _ => (at? d.toList (i : Int)).bind fun y1 => (at? d.toList (i : Int)).bind fun _ => (at? d.toList (i : Int)).bind fun _ =>
      (at? (d.toList.set ((i : Int).toNat) y) (j : Int)).bind fun _ => (at? (d.toList.set ((i : Int).toNat) y) (j : Int)).bind fun _ => k ((d.toList.set ((i : Int).toNat) y).set ((j : Int).toNat) y1)) = k (Sort.swp d i j).toList := by
  rw [at_A hi, at_A hj]
  simp only [Option.bind_some]
  have h2 : at? (d.toList.set ((i : Int).toNat) d[j]!) (j : Int) = some (d.setIfInBounds i d[j]!)[j]! := by
    rw [set_A]
    exact at_A (by simpa using hj)
  rw [h2, Option.bind_some, Option.bind_some, set_A, set_A]
  rfl
theorem q1v_ (d : Array Int) (i j : Nat) : (Sort.swp d i j).size = d.size := by simp [Sort.swp]
theorem i64_sub {a b : Nat} (h : b ≤ a) (ha : a < 4611686018427387904) : Sx.sub .i64 (a : Int) (b : Int) = ((a - b : Nat) : Int) := by
  rw [sub64 (by omega) (by omega)]
  omega
theorem i64_add {a b : Nat} (h : a + b < 4611686018427387904) : add .i64 (a : Int) (b : Int) = ((a + b : Nat) : Int) := by
  rw [add64 (by omega) (by omega)]
  omega
theorem ins_inner (u1 : Int -> Int -> Int -> List Int -> Option (As qj_.rs)) (a b i : Nat) : ∀ (j n : Nat) (d : Array Int), j < d.size -> d.size < 1000000000 -> j < n -> i < 2000000000 ->
    loopF (q4y_ u1) n ((a : Int), (b : Int), (i : Int), (j : Int), d.toList) = u1 (a : Int) (b : Int) ((i + 1 : Nat) : Int) (Sort.insInner Sort.ltInt a j d).toList
  | j, 0, _, _, _, h, _ => by omega
  | j, n + 1, d, hj, hd, hn, hi => by
    have K4 : ∀ D, q5m_ u1 (a : Int) (b : Int) (i : Int) D = u1 (a : Int) (b : Int) ((i + 1 : Nat) : Int) D := fun D => by
      show u1 (a : Int) (b : Int) (add .i64 (i : Int) 1) D = _
      rw [q4d_ (by omega)]
    rw [q2i_, qdl_]
    unfold q3z_
    cases j with
    | zero =>
      rw [if_neg (by rw [gt_iff]; omega)]
      show q1k_ _ _ _ (a : Int) (b : Int) (i : Int) 0 false d.toList = _
      unfold q1k_
      rw [if_neg (by decide), K4]
      rfl
    | succ j =>
      by_cases ha : a < j + 1
      · have e1 : Sx.sub .i64 ((j + 1 : Nat) : Int) 1 = (j : Int) := by rw [sub64 (by omega) (by omega)]; omega
        rw [if_pos (by rw [gt_iff]; omega), e1]
        refine (q4r_ hj (by omega) (fun z => q31_ u1 _ (a : Int) (b : Int) (i : Int) ((j + 1 : Nat) : Int) z d.toList)).trans ?_
        show q1k_ _ _ _ (a : Int) (b : Int) (i : Int) ((j + 1 : Nat) : Int) _ d.toList = _
        unfold q1k_ Sort.insInner
        rw [decide_eq_true (show j + 1 > a from ha), Bool.true_and]
        cases hl : Sort.ltInt d[j + 1]! d[j]! with
        | false => rw [if_neg (by decide), if_neg (by decide), K4]
        | true =>
          rw [if_pos rfl, if_pos rfl, e1]
          refine (q7l_ hj (by omega) (fun D => loopF (q4y_ u1) n ((a : Int), (b : Int), (i : Int), (j : Int), D))).trans ?_
          exact ins_inner u1 a b i j n (Sort.swp d (j + 1) j) (by rw [q1v_]; omega) (by rw [q1v_]; exact hd) (by omega) hi
      · rw [if_neg (by rw [gt_iff]; omega)]
        show q1k_ _ _ _ (a : Int) (b : Int) (i : Int) ((j + 1 : Nat) : Int) false d.toList = _
        unfold q1k_ Sort.insInner
        rw [if_neg (by decide), K4, decide_eq_false (show ¬ j + 1 > a from ha), Bool.false_and, if_neg (by decide)]
theorem insInner_size (a : Nat) : ∀ (j : Nat) (d : Array Int), (Sort.insInner Sort.ltInt a j d).size = d.size
  | 0, _ => rfl
  | j + 1, d => by
    unfold Sort.insInner
    split
    · rw [insInner_size a j, q1v_]
    · rfl
theorem ins_outer (a b : Nat) : ∀ (k i n : Nat) (d : Array Int), i + k = max i b -> k < n -> b ≤ d.size -> d.size < 1000000000 -> i < 2000000000 -> loopF q79_ n ((a : Int), (b : Int), (i : Int), d.toList) = some ((Sort.insOuter Sort.ltInt a b i d).toList, ())
  | _, _, 0, _, _, h, _, _, _ => by omega
  | k, i, n + 1, d, hk, hn, hb, hd, hi => by
    rw [q2i_, qdi_]
    unfold q3y_
    rw [Sort.insOuter]
    by_cases h : i < b
    · rw [if_pos (q2m_.2 (by omega)), if_pos h, qdg_]
      refine (ins_inner _ a b i i _ d (by omega) hd (by omega) hi).trans ?_
      exact ins_outer a b (k - 1) (i + 1) n (Sort.insInner Sort.ltInt a i d) (by omega) (by omega) (by rw [insInner_size]; exact hb) (by rw [insInner_size]; exact hd) (by omega)
    · rw [if_neg (by rw [q2m_]; omega), if_neg h]
theorem insert_eq {d : Array Int} {a b : Nat} (hb : b ≤ d.size) (ha : a ≤ b) (hd : d.size < 1000000000) : q4q_ ((a : Int), (b : Int), d.toList, ()) = some ((Sort.insertionSort Sort.ltInt d a b).toList, ()) := by
  show q3x_ (a : Int) (b : Int) (add .i64 (a : Int) 1) d.toList = _
  rw [qdk_, q4d_ (by omega)]
  exact ins_outer a b (max (a + 1) b - (a + 1)) (a + 1) _ d (by omega) (by omega) hb hd (by omega)
theorem sift_eq (first hi : Nat) : ∀ (k root n : Nat) (d : Array Int), hi - root ≤ k -> k < n -> first + hi ≤ d.size -> root ≤ hi -> d.size < 1000000000 -> loopF q3e_ n ((hi : Int), (first : Int), (root : Int), d.toList) = some ((Sort.siftDown Sort.ltInt hi first root d).toList, ())
  | _, _, 0, _, _, h, _, _, _ => by omega
  | k, root, n + 1, d, hk, hn, hb, hr, hd => by
    rw [q2i_, qg4_]
    unfold q4z_
    rw [Sort.siftDown]
    have e1 : add .i64 (mul .i64 2 (root : Int)) 1 = ((2 * root + 1 : Nat) : Int) := by
      rw [mul64 (by omega) (by omega), add64 (by omega) (by omega)]; omega
    rw [e1]
    by_cases h1 : 2 * root + 1 ≥ hi
    · rw [if_pos (q5v_.2 (by omega)), dif_pos h1]
    · rw [if_neg (by rw [q5v_]; omega), dif_neg h1, q4d_ (by omega)]
      have hsz : ∀ x y, (Sort.swp d x y).size = d.size := q1v_ d
      have K3 : ∀ child : Nat, child < hi -> root < child -> q70_ (fun hi first root data => loopF q3e_ n (hi, first, root, data)) (hi : Int) (first : Int) (root : Int) (child : Int) d.toList =
          if (!Sort.ltInt d[first + root]! d[first + child]!) = true then some (d.toList, ()) else some ((Sort.siftDown Sort.ltInt hi first child (Sort.swp d (first + root) (first + child))).toList, ()) := fun child hc hrc => by
        show q72_ _ (hi : Int) (first : Int) (root : Int) (child : Int) d.toList = _
        unfold q72_
        rw [i64_add (by omega), i64_add (by omega)]
        refine (q4r_ (i := first + root) (j := first + child) (by omega) (by omega) (fun z => if (!z) = true then some (d.toList, ()) else _)).trans ?_
        cases Sort.ltInt d[first + root]! d[first + child]! with
        | false => rfl
        | true =>
          rw [if_neg (by decide), if_neg (by decide)]
          refine (q7l_ (i := first + root) (j := first + child) (by omega) (by omega) (fun D => loopF q3e_ n ((hi : Int), (first : Int), (child : Int), D))).trans ?_
          exact sift_eq first hi (k - 1) child n _ (by omega) (by omega) (by rw [hsz]; exact hb) (by omega) (by rw [hsz]; exact hd)
      have K2 : ∀ z : Bool, (z = true -> 2 * root + 2 < hi) -> q33_ (fun hi first root data => loopF q3e_ n (hi, first, root, data)) (hi : Int) (first : Int) (root : Int) ((2 * root + 1 : Nat) : Int) z d.toList =
          if z = true then (if (!Sort.ltInt d[first + root]! d[first + (2 * root + 2)]!) = true then some (d.toList, ()) else some ((Sort.siftDown Sort.ltInt hi first (2 * root + 2) (Sort.swp d (first + root) (first + (2 * root + 2)))).toList, ()))
          else (if (!Sort.ltInt d[first + root]! d[first + (2 * root + 1)]!) = true then some (d.toList, ()) else some ((Sort.siftDown Sort.ltInt hi first (2 * root + 1) (Sort.swp d (first + root) (first + (2 * root + 1)))).toList, ())) := fun z hz => by
        show q74_ _ _ (hi : Int) (first : Int) (root : Int) ((2 * root + 1 : Nat) : Int) z d.toList = _
        unfold q74_
        cases z with
        | true => rw [if_pos rfl, if_pos rfl, q4d_ (by omega), K3 _ (by have := hz rfl; omega) (by omega)]
        | false => rw [if_neg (by decide), if_neg (by decide), K3 _ (by omega) (by omega)]
      by_cases h2 : 2 * root + 1 + 1 < hi
      · rw [if_pos (q2m_.2 (by omega)), i64_add (by omega), q4d_ (by omega)]
        refine (q4r_ (i := first + (2 * root + 1)) (j := first + (2 * root + 1) + 1) (by omega) (by omega) (fun z => q33_ _ (hi : Int) (first : Int) (root : Int) ((2 * root + 1 : Nat) : Int) z d.toList)).trans ?_
        rw [K2 _ (fun _ => h2), decide_eq_true h2, Bool.true_and]
        cases Sort.ltInt d[first + (2 * root + 1)]! d[first + (2 * root + 1) + 1]! with
        | true =>
          simp only [if_true]
          rw [dif_pos (show 2 * root + 2 < hi from h2)]
          cases Sort.ltInt d[first + root]! d[first + (2 * root + 2)]! <;> rfl
        | false =>
          simp only [Bool.false_eq_true, if_false]
          cases Sort.ltInt d[first + root]! d[first + (2 * root + 1)]! <;> rfl
      · rw [if_neg (by rw [q2m_]; omega), K2 _ (fun h => by cases h), decide_eq_false h2, Bool.false_and]
        simp only [Bool.false_eq_true, if_false]
        cases Sort.ltInt d[first + root]! d[first + (2 * root + 1)]! <;> rfl
end Go.Proofs.Lx
end
section
set_option maxRecDepth 100000
namespace Go.Proofs.Lx
open Go Ev Sx Pl
theorem sift_size (first hi : Nat) : ∀ (k root : Nat) (d : Array Int), hi - root ≤ k -> (Sort.siftDown Sort.ltInt hi first root d).size = d.size
  | k, root, d, hk => by
    rw [Sort.siftDown]
    split
    · rfl
    · cases k with
      | zero => omega
      | succ k =>
        split
        · split
          · rfl
          · split
            · rw [sift_size first hi k _ _ (by omega), q1v_]
            · rfl
        · split
          · rfl
          · rw [sift_size first hi k _ _ (by omega), q1v_]
theorem siftd_eq {d : Array Int} {root hi first : Nat} (hb : first + hi ≤ d.size) (hr : root ≤ hi) (hd : d.size < 1000000000) :
    q3g_ ((root : Int), (hi : Int), (first : Int), d.toList, ()) = some ((Sort.siftDown Sort.ltInt hi first root d).toList, ()) := by
  show q53_ (hi : Int) (first : Int) (root : Int) d.toList = _
  rw [qfp_]
  exact sift_eq first hi hi root _ d (by omega) (by omega) hb hr hd
theorem heap_pop (first lo : Nat) (hlo : (lo : Int) = 0) : ∀ (k n : Nat) (d : Array Int), k < n -> first + k ≤ d.size -> d.size < 1000000000 ->
    loopF q6d_ n ((first : Int), (lo : Int), (k : Int) - 1, d.toList) = some ((Sort.heapPop Sort.ltInt first k d).toList, ())
  | _, 0, _, h, _, _ => by omega
  | 0, n + 1, d, _, _, _ => by
    rw [q2i_, qaj_]
    unfold q3u_
    rw [if_neg (by rw [q5v_]; omega)]
    rfl
  | k + 1, n + 1, d, hn, hb, hd => by
    rw [q2i_, qaj_]
    unfold q3u_
    have e1 : ((k + 1 : Nat) : Int) - 1 = (k : Int) := by omega
    rw [e1, if_pos (by rw [q5v_]; omega), i64_add (by omega)]
    refine (q7l_ (i := first) (j := first + k) (by omega) (by omega) (fun D => Option.bind (q3g_ ((lo : Int), (k : Int), (first : Int), D, ())) fun (y : List Int × Unit) => loopF q6d_ n ((first : Int), (lo : Int), Sx.sub .i64 (k : Int) 1, y.1))).trans ?_
    have e2 : lo = 0 := by omega
    subst e2
    rw [siftd_eq (by rw [q1v_]; omega) (by omega) (by rw [q1v_]; exact hd), Option.bind_some]
    dsimp only
    rw [sub64 (by omega) (by omega)]
    exact heap_pop first 0 hlo k n _ (by omega) (by rw [sift_size first k k _ _ (by omega), q1v_]; omega) (by rw [sift_size first k k _ _ (by omega), q1v_]; exact hd)
theorem heap_build (first lo hi : Nat) (u : Int -> Int -> Int -> List Int -> Option (As qt_.rs)) (hu : u = q3r_) : ∀ (k n : Nat) (d : Array Int), k < n -> k ≤ hi + 1 -> (hi = 0 -> k ≤ 1) -> first + hi ≤ d.size -> d.size < 1000000000 -> (k ≤ hi ∨ hi = 0) ->
    loopF q89_ n ((first : Int), (lo : Int), (hi : Int), (k : Int) - 1, d.toList) = u (first : Int) (lo : Int) (hi : Int) (Sort.heapBuild Sort.ltInt hi first k d).toList
  | _, 0, _, h, _, _, _, _, _ => by omega
  | 0, n + 1, d, _, _, _, _, _, _ => by
    rw [q2i_, qai_]
    unfold q3t_
    rw [if_neg (by rw [q5v_]; omega), hu]
    rfl
  | k + 1, n + 1, d, hn, hk, h0, hb, hd, hh => by
    rw [q2i_, qai_]
    unfold q3t_
    have e1 : ((k + 1 : Nat) : Int) - 1 = (k : Int) := by omega
    rw [e1, if_pos (by rw [q5v_]; omega), siftd_eq hb (by omega) hd, Option.bind_some]
    dsimp only
    rw [sub64 (by omega) (by omega)]
    exact heap_build first lo hi u hu k n _ (by omega) (by omega) (fun h => by have := h0 h; omega) (by rw [sift_size first hi hi _ _ (by omega)]; exact hb) (by rw [sift_size first hi hi _ _ (by omega)]; exact hd) (by omega)
theorem build_size (first hi : Nat) : ∀ (k : Nat) (d : Array Int), (Sort.heapBuild Sort.ltInt hi first k d).size = d.size
  | 0, _ => rfl
  | k + 1, d => by
    unfold Sort.heapBuild
    rw [build_size first hi k, sift_size first hi hi _ _ (by omega)]
theorem heap_eq {d : Array Int} {a b : Nat} (hb : b ≤ d.size) (ha : a ≤ b) (hd : d.size < 1000000000) : q68_ ((a : Int), (b : Int), d.toList, ()) = some ((Sort.heapSort Sort.ltInt d a b).toList, ()) := by
  show q52_ (a : Int) 0 (Sx.sub .i64 (b : Int) (a : Int)) (quo .i64 (Sx.sub .i64 (Sx.sub .i64 (b : Int) (a : Int)) 1) 2) d.toList = _
  rw [qfx_, i64_sub ha (by omega)]
  have e1 : quo .i64 (Sx.sub .i64 ((b - a : Nat) : Int) 1) 2 = (((b - a - 1) / 2 + 1 : Nat) : Int) - 1 := by
    rw [sub64 (by omega) (by omega)]
    unfold quo
    by_cases h0 : b - a = 0
    · rw [h0]; decide
    · rw [show ((b - a : Nat) : Int) - 1 = ((b - a - 1 : Nat) : Int) by omega, Int.tdiv_eq_ediv_of_nonneg (by omega), w64 (by omega) (by omega)]
      omega
  rw [e1]
  refine (heap_build a 0 (b - a) _ rfl ((b - a - 1) / 2 + 1) _ d (by omega) (by omega) (fun h => by omega) (by omega) hd (by omega)).trans ?_
  show q51_ (a : Int) ((0 : Nat) : Int) (Sx.sub .i64 ((b - a : Nat) : Int) 1) _ = _
  rw [qg8_, sub64 (by omega) (by omega)]
  exact heap_pop a 0 rfl (b - a) _ _ (by omega) (by rw [build_size]; omega) (by rw [build_size]; exact hd)
theorem rev_loop : ∀ (k i j n : Nat) (d : Array Int), j - i ≤ k -> k < n -> (i < j -> j < d.size) -> d.size < 1000000000 -> i < 1000000000 -> loopF q5b_ n ((i : Int), (j : Int), d.toList) = some ((Sort.reverseLoop i j d).toList, ())
  | _, _, _, 0, _, _, h, _, _, _ => by omega
  | k, i, j, n + 1, d, hk, hn, hj, hd, hi => by
    rw [q2i_, qdn_]
    unfold q4b_
    rw [Sort.reverseLoop]
    by_cases h : i < j
    · have hjs := hj h
      rw [if_pos (q2m_.2 (by omega)), if_pos h, q4d_ (by omega)]
      refine (q7l_ (i := i) (j := j) (by omega) hjs (fun D => loopF q5b_ n (((i + 1 : Nat) : Int), Sx.sub .i64 (j : Int) 1, D))).trans ?_
      rw [show Sx.sub .i64 (j : Int) 1 = ((j - 1 : Nat) : Int) by rw [sub64 (by omega) (by omega)]; omega]
      exact rev_loop (k - 1) (i + 1) (j - 1) n _ (by omega) (by omega) (fun _ => by rw [q1v_]; omega) (by rw [q1v_]; exact hd) (by omega)
    · rw [if_neg (by rw [q2m_]; omega), if_neg h]
theorem rev_eq {d : Array Int} {a b : Nat} (hb : b ≤ d.size) (ha : a < b) (hd : d.size < 1000000000) : q4t_ ((a : Int), (b : Int), d.toList, ()) = some ((Sort.reverseRange d a b).toList, ()) := by
  show q4c_ (a : Int) (Sx.sub .i64 (b : Int) 1) d.toList = _
  rw [qds_, show Sx.sub .i64 (b : Int) 1 = ((b - 1 : Nat) : Int) by rw [sub64 (by omega) (by omega)]; omega]
  exact rev_loop b a (b - 1) _ d (by omega) (by omega) (fun _ => by omega) hd (by omega)
theorem scan_up {σ : Type} {R : Type} {F : (σ -> Option R) -> σ -> Option R} {mk : Nat -> σ} {p : Int -> Bool} {d : Array Int} {j : Nat} {fin : Nat -> Option R} (hj : j < d.size)
    (hs : ∀ (self : σ -> Option R) (i : Nat), i ≤ j -> p d[i]! = true -> F self (mk i) = self (mk (i + 1))) (he : ∀ (self : σ -> Option R) (i : Nat), (i ≤ j -> p d[i]! = false) -> i ≤ j + 1 -> F self (mk i) = fin i) :
    ∀ (k i n : Nat), j + 1 - i ≤ k -> k < n -> i ≤ j + 1 -> loopF F n (mk i) = fin (Sort.scanUp p d j i)
  | _, _, 0, _, h, _ => by omega
  | k, i, n + 1, hk, hn, hi => by
    rw [q2i_, Sort.scanUp]
    by_cases h : i ≤ j
    · cases hp : p d[i]! with
      | true =>
        rw [hs _ i h hp, decide_eq_true h, Bool.true_and, if_pos rfl]
        exact scan_up hj hs he (k - 1) (i + 1) n (by omega) (by omega) (by omega)
      | false => rw [he _ i (fun _ => hp) hi, Bool.and_false, if_neg (by decide)]
    · rw [he _ i (fun h' => absurd h' h) hi, decide_eq_false h, Bool.false_and, if_neg (by decide)]
theorem scan_down {σ : Type} {R : Type} {F : (σ -> Option R) -> σ -> Option R} {mk : Nat -> σ} {p : Int -> Bool} {d : Array Int} {i : Nat} {fin : Nat -> Option R} (hi : 1 ≤ i)
    (hs : ∀ (self : σ -> Option R) (j : Nat), i ≤ j + 1 -> j + 1 < d.size -> p d[j + 1]! = true -> F self (mk (j + 1)) = self (mk j)) (he : ∀ (self : σ -> Option R) (j : Nat), (i ≤ j -> p d[j]! = false) -> j < d.size -> F self (mk j) = fin j) :
    ∀ (j n : Nat), j < n -> j < d.size -> loopF F n (mk j) = fin (Sort.scanDown p d i j)
  | _, 0, h, _ => by omega
  | 0, n + 1, _, hj => by
    rw [q2i_, he _ 0 (fun h => by omega) hj]
    rfl
  | j + 1, n + 1, hn, hj => by
    rw [q2i_, Sort.scanDown]
    by_cases h : i ≤ j + 1
    · cases hp : p d[j + 1]! with
      | true =>
        rw [hs _ j h hj hp, decide_eq_true h, Bool.true_and, if_pos rfl]
        exact scan_down hi hs he j n (by omega) (by omega)
      | false => rw [he _ (j + 1) (fun _ => hp) hj, Bool.and_false, if_neg (by decide)]
    · rw [he _ (j + 1) (fun h' => absurd h' h) hj, decide_eq_false h, Bool.false_and, if_neg (by decide)]
end Go.Proofs.Lx
end
section
set_option maxRecDepth 100000
namespace Go.Proofs.Lx
open Go Ev Sx Pl
abbrev upP (d : Array Int) (a : Nat) : Int -> Bool := fun x => Sort.ltInt x d[a]!
abbrev dnP (d : Array Int) (a : Nat) : Int -> Bool := fun x => !Sort.ltInt x d[a]!
abbrev RP2 := Option (As q0_.rs)
theorem pt_up {d : Array Int} {a i j : Nat} (ha : a < d.size) (hj : j < d.size) (hd : d.size < 1000000000) (hi : i ≤ j + 1) :
    q2t_ (a : Int) (i : Int) (j : Int) d.toList = q2b_ (a : Int) ((Sort.scanUp (upP d a) d j i : Nat) : Int) (j : Int) d.toList := by
  rw [qfi_]
  refine scan_up (mk := fun i : Nat => ((a : Int), (i : Int), (j : Int), d.toList)) (p := upP d a) (fin := fun i => q2b_ (a : Int) (i : Int) (j : Int) d.toList) hj ?_ ?_ (j + 1) i _ (by omega) (by omega) hi
  · intro self i hi hp
    rw [q9z_]
    unfold q3k_
    rw [if_pos (le_iff.2 (by omega))]
    refine (q4r_ (i := i) (j := a) (by omega) ha (fun z => q2c_ (fun a i j data => self (a, i, j, data)) (a : Int) (i : Int) (j : Int) z d.toList)).trans ?_
    have hp : Sort.ltInt d[i]! d[a]! = true := hp
    rw [hp]
    show q6r_ _ _ (a : Int) (i : Int) (j : Int) true d.toList = _
    unfold q6r_
    rw [if_pos rfl, q4d_ (by omega)]
  · intro self i hp hi
    have K2f : q2c_ (fun a i j data => self (a, i, j, data)) (a : Int) (i : Int) (j : Int) false d.toList = q2b_ (a : Int) (i : Int) (j : Int) d.toList := rfl
    rw [q9z_]
    unfold q3k_
    by_cases h : i ≤ j
    · have hp : Sort.ltInt d[i]! d[a]! = false := hp h
      rw [if_pos (le_iff.2 (by omega))]
      refine (q4r_ (i := i) (j := a) (by omega) ha (fun z => q2c_ (fun a i j data => self (a, i, j, data)) (a : Int) (i : Int) (j : Int) z d.toList)).trans ?_
      rw [hp, K2f]
    · rw [if_neg (by rw [le_iff]; omega), K2f]
theorem pt_dn {d : Array Int} {a i j : Nat} (ha : a < d.size) (hj : j < d.size) (hd : d.size < 1000000000) (hi : 1 ≤ i) :
    q2b_ (a : Int) (i : Int) (j : Int) d.toList = q3j_ (a : Int) (i : Int) ((Sort.scanDown (dnP d a) d i j : Nat) : Int) d.toList := by
  rw [qfn_]
  refine scan_down (mk := fun j : Nat => ((a : Int), (i : Int), (j : Int), d.toList)) (p := dnP d a) (fin := fun j => q3j_ (a : Int) (i : Int) (j : Int) d.toList) hi ?_ ?_ j _ (by omega) hj
  · intro self j hi hjs hp
    rw [qa3_]
    unfold q3l_
    rw [if_pos (le_iff.2 (by omega))]
    refine (q4r_ (i := j + 1) (j := a) hjs ha (fun z => q2d_ (fun a i j data => self (a, i, j, data)) (a : Int) (i : Int) ((j + 1 : Nat) : Int) (!z) d.toList)).trans ?_
    have hp : (!Sort.ltInt d[j + 1]! d[a]!) = true := hp
    rw [hp]
    show q6q_ _ _ (a : Int) (i : Int) ((j + 1 : Nat) : Int) true d.toList = _
    unfold q6q_
    rw [if_pos rfl, show Sx.sub .i64 ((j + 1 : Nat) : Int) 1 = (j : Int) by rw [sub64 (by omega) (by omega)]; omega]
  · intro self j hp hjs
    have K5f : q2d_ (fun a i j data => self (a, i, j, data)) (a : Int) (i : Int) (j : Int) false d.toList = q3j_ (a : Int) (i : Int) (j : Int) d.toList := rfl
    rw [qa3_]
    unfold q3l_
    by_cases h : i ≤ j
    · have hp : (!Sort.ltInt d[j]! d[a]!) = false := hp h
      rw [if_pos (le_iff.2 (by omega))]
      refine (q4r_ (i := j) (j := a) hjs ha (fun z => q2d_ (fun a i j data => self (a, i, j, data)) (a : Int) (i : Int) (j : Int) (!z) d.toList)).trans ?_
      rw [hp, K5f]
    · rw [if_neg (by rw [le_iff]; omega), K5f]
section
variable (u7 : Int -> Int -> Int -> List Int -> RP2)
theorem pt_up2 {d : Array Int} {a i j : Nat} (ha : a < d.size) (hj : j < d.size) (hd : d.size < 1000000000) (hi : i ≤ j + 1) :
    q2s_ u7 (a : Int) (i : Int) (j : Int) d.toList = q1y_ u7 (a : Int) ((Sort.scanUp (upP d a) d j i : Nat) : Int) (j : Int) d.toList := by
  rw [qfe_]
  refine scan_up (mk := fun i : Nat => ((a : Int), (i : Int), (j : Int), d.toList)) (p := upP d a) (fin := fun i => q1y_ u7 (a : Int) (i : Int) (j : Int) d.toList) hj ?_ ?_ (j + 1) i _ (by omega) (by omega) hi
  · intro self i hi hp
    rw [qa2_]
    unfold q3h_
    rw [if_pos (le_iff.2 (by omega))]
    refine (q4r_ (i := i) (j := a) (by omega) ha (fun z => q2e_ u7 (fun a i j data => self (a, i, j, data)) (a : Int) (i : Int) (j : Int) z d.toList)).trans ?_
    have hp : Sort.ltInt d[i]! d[a]! = true := hp
    rw [hp]
    show q6t_ _ _ _ (a : Int) (i : Int) (j : Int) true d.toList = _
    unfold q6t_
    rw [if_pos rfl, q4d_ (by omega)]
  · intro self i hp hi
    have K2f : q2e_ u7 (fun a i j data => self (a, i, j, data)) (a : Int) (i : Int) (j : Int) false d.toList = q1y_ u7 (a : Int) (i : Int) (j : Int) d.toList := rfl
    rw [qa2_]
    unfold q3h_
    by_cases h : i ≤ j
    · have hp : Sort.ltInt d[i]! d[a]! = false := hp h
      rw [if_pos (le_iff.2 (by omega))]
      refine (q4r_ (i := i) (j := a) (by omega) ha (fun z => q2e_ u7 (fun a i j data => self (a, i, j, data)) (a : Int) (i : Int) (j : Int) z d.toList)).trans ?_
      rw [hp, K2f]
    · rw [if_neg (by rw [le_iff]; omega), K2f]
theorem pt_dn2 {d : Array Int} {a i j : Nat} (ha : a < d.size) (hj : j < d.size) (hd : d.size < 1000000000) (hi : 1 ≤ i) :
    q1y_ u7 (a : Int) (i : Int) (j : Int) d.toList = q3d_ u7 (a : Int) (i : Int) ((Sort.scanDown (dnP d a) d i j : Nat) : Int) d.toList := by
  rw [qez_]
  refine scan_down (mk := fun j : Nat => ((a : Int), (i : Int), (j : Int), d.toList)) (p := dnP d a) (fin := fun j => q3d_ u7 (a : Int) (i : Int) (j : Int) d.toList) hi ?_ ?_ j _ (by omega) hj
  · intro self j hi hjs hp
    rw [q9w_]
    unfold q3b_
    rw [if_pos (le_iff.2 (by omega))]
    refine (q4r_ (i := j + 1) (j := a) hjs ha (fun z => q24_ u7 (fun a i j data => self (a, i, j, data)) (a : Int) (i : Int) ((j + 1 : Nat) : Int) (!z) d.toList)).trans ?_
    have hp : (!Sort.ltInt d[j + 1]! d[a]!) = true := hp
    rw [hp]
    show q6c_ _ _ _ (a : Int) (i : Int) ((j + 1 : Nat) : Int) true d.toList = _
    unfold q6c_
    rw [if_pos rfl, show Sx.sub .i64 ((j + 1 : Nat) : Int) 1 = (j : Int) by rw [sub64 (by omega) (by omega)]; omega]
  · intro self j hp hjs
    have K5f : q24_ u7 (fun a i j data => self (a, i, j, data)) (a : Int) (i : Int) (j : Int) false d.toList = q3d_ u7 (a : Int) (i : Int) (j : Int) d.toList := rfl
    rw [q9w_]
    unfold q3b_
    by_cases h : i ≤ j
    · have hp : (!Sort.ltInt d[j]! d[a]!) = false := hp h
      rw [if_pos (le_iff.2 (by omega))]
      refine (q4r_ (i := j) (j := a) hjs ha (fun z => q24_ u7 (fun a i j data => self (a, i, j, data)) (a : Int) (i : Int) (j : Int) (!z) d.toList)).trans ?_
      rw [hp, K5f]
    · rw [if_neg (by rw [le_iff]; omega), K5f]
end
theorem facts {p q : Int -> Bool} (hq : ∀ x, q x = !p x) (d : Array Int) {i j : Nat} (hi : 1 ≤ i) (hij : i ≤ j + 1) : i ≤ Sort.scanUp p d j i ∧ Sort.scanUp p d j i ≤ j + 1 ∧ Sort.scanDown q d (Sort.scanUp p d j i) j ≤ j ∧
    (¬ Sort.scanUp p d j i > Sort.scanDown q d (Sort.scanUp p d j i) j -> Sort.scanUp p d j i < Sort.scanDown q d (Sort.scanUp p d j i) j) := by
  obtain ⟨h1, h2, h3, _, _, _, h4⟩ := Sort.round_facts p q hq d (i - 1) (j + 1) i j (by omega) hij (fun t h1 h2 => by omega) (fun t h1 h2 => by omega)
  exact ⟨h1, h2, h3, fun h => (h4 h).2.2⟩
theorem part_loop (a : Nat) : ∀ (k i j n : Nat) (d : Array Int), j + 1 - i ≤ k -> k < n -> 1 ≤ i -> i ≤ j + 1 -> j < d.size -> a < d.size -> d.size < 1000000000 ->
    loopF q64_ n ((a : Int), (i : Int), (j : Int), d.toList) =
      some (((Sort.partLoop Sort.ltInt a i j d).1 : Int), false, (Sort.swp (Sort.partLoop Sort.ltInt a i j d).2 (Sort.partLoop Sort.ltInt a i j d).1 a).toList, ())
  | _, _, _, 0, _, _, h, _, _, _, _, _ => by omega
  | k, i, j, n + 1, d, hk, hn, hi, hij, hj, ha, hd => by
    rw [q2i_, qfh_]
    unfold q4u_
    obtain ⟨f1, f2, f3, f4⟩ := facts (p := upP d a) (q := dnP d a) (fun _ => rfl) d hi hij
    rw [pt_up2 _ ha hj hd hij, pt_dn2 _ ha hj hd (by omega), Sort.partLoop_eq]
    generalize Sort.scanUp (upP d a) d j i = i2 at f1 f2 f3 f4 ⊢
    generalize Sort.scanDown (dnP d a) d i2 j = j2 at f3 f4 ⊢
    show q6h_ _ _ (a : Int) (i2 : Int) (j2 : Int) d.toList = _
    unfold q6h_
    by_cases h : i2 > j2
    · rw [if_pos (gt_iff.2 (by omega)), if_pos h]
      show q6a_ (a : Int) (j2 : Int) d.toList = _
      unfold q6a_
      exact q7l_ (i := j2) (j := a) (by omega) ha (fun D => (some ((j2 : Int), false, D, ()) : RP2))
    · have h4 := f4 h
      rw [if_neg (by rw [gt_iff]; omega), if_neg h]
      refine (q7l_ (i := i2) (j := j2) (by omega) (by omega) (fun D => loopF q64_ n ((a : Int), add .i64 (i2 : Int) 1, Sx.sub .i64 (j2 : Int) 1, D))).trans ?_
      rw [q4d_ (by omega), show Sx.sub .i64 (j2 : Int) 1 = ((j2 - 1 : Nat) : Int) by rw [sub64 (by omega) (by omega)]; omega]
      exact part_loop a (k - 1) (i2 + 1) (j2 - 1) n _ (by omega) (by omega) (by omega) (by omega) (by rw [q1v_]; omega) (by rw [q1v_]; exact ha) (by rw [q1v_]; exact hd)
theorem partition_eq {d : Array Int} {a b pivot : Nat} (hb : b ≤ d.size) (hp : a ≤ pivot) (hpb : pivot < b) (hd : d.size < 1000000000) :
    q5u_ ((a : Int), (b : Int), (pivot : Int), d.toList, ()) = some (((Sort.partition Sort.ltInt d a b pivot).1 : Int), (Sort.partition Sort.ltInt d a b pivot).2.1, (Sort.partition Sort.ltInt d a b pivot).2.2.toList, ()) := by
  show q6u_ q2t_ (a : Int) (b : Int) (pivot : Int) d.toList = _
  unfold q6u_
  refine (q7l_ (i := a) (j := pivot) (by omega) (by omega) (fun D => q2t_ (a : Int) (add .i64 (a : Int) 1) (Sx.sub .i64 (b : Int) 1) D)).trans ?_
  rw [q4d_ (by omega), show Sx.sub .i64 (b : Int) 1 = ((b - 1 : Nat) : Int) by rw [sub64 (by omega) (by omega)]; omega]
  have hs : (Sort.swp d a pivot).size = d.size := q1v_ _ _ _
  unfold Sort.partition
  generalize Sort.swp d a pivot = d1 at hs ⊢
  obtain ⟨f1, f2, f3, f4⟩ := facts (p := upP d1 a) (q := dnP d1 a) (fun _ => rfl) d1 (i := a + 1) (j := b - 1) (by omega) (by omega)
  rw [pt_up (by omega) (by omega) (by omega) (by omega), pt_dn (by omega) (by omega) (by omega) (by omega)]
  dsimp only
  show q6p_ _ (a : Int) ((Sort.scanUp (upP d1 a) d1 (b - 1) (a + 1) : Nat) : Int) ((Sort.scanDown (dnP d1 a) d1 (Sort.scanUp (upP d1 a) d1 (b - 1) (a + 1)) (b - 1) : Nat) : Int) d1.toList = _
  unfold q6p_
  generalize Sort.scanUp (upP d1 a) d1 (b - 1) (a + 1) = i2 at f1 f2 f3 f4 ⊢
  generalize Sort.scanDown (dnP d1 a) d1 i2 (b - 1) = j2 at f3 f4 ⊢
  by_cases h : i2 > j2
  · rw [if_pos (gt_iff.2 (by omega)), if_pos h]
    exact q7l_ (i := j2) (j := a) (by omega) (by omega) (fun D => (some ((j2 : Int), true, D, ()) : RP2))
  · have h4 := f4 h
    rw [if_neg (by rw [gt_iff]; omega), if_neg h]
    refine (q7l_ (i := i2) (j := j2) (by omega) (by omega) (fun D => q4v_ (a : Int) (add .i64 (i2 : Int) 1) (Sx.sub .i64 (j2 : Int) 1) D)).trans ?_
    rw [q4d_ (by omega), show Sx.sub .i64 (j2 : Int) 1 = ((j2 - 1 : Nat) : Int) by rw [sub64 (by omega) (by omega)]; omega, qfk_]
    exact part_loop a b (i2 + 1) (j2 - 1) _ _ (by omega) (by omega) (by omega) (by omega) (by rw [q1v_]; omega) (by rw [q1v_]; omega) (by rw [q1v_]; omega)
end Go.Proofs.Lx
end
section
set_option maxRecDepth 100000
namespace Go.Proofs.Lx
open Go Ev Sx Pl
abbrev upE (d : Array Int) (a : Nat) : Int -> Bool := fun x => !Sort.ltInt d[a]! x
abbrev dnE (d : Array Int) (a : Nat) : Int -> Bool := fun x => Sort.ltInt d[a]! x
abbrev RPE := Option (As q9_.rs)
section
variable (u1 : Int -> Int -> Int -> List Int -> RPE)
theorem pe_up {d : Array Int} {a i j : Nat} (ha : a < d.size) (hj : j < d.size) (hd : d.size < 1000000000) (hi : i ≤ j + 1) :
    q2a_ u1 (a : Int) (i : Int) (j : Int) d.toList = q1e_ u1 (a : Int) ((Sort.scanUp (upE d a) d j i : Nat) : Int) (j : Int) d.toList := by
  rw [qdf_]
  refine scan_up (mk := fun i : Nat => ((a : Int), (i : Int), (j : Int), d.toList)) (p := upE d a) (fin := fun i => q1e_ u1 (a : Int) (i : Int) (j : Int) d.toList) hj ?_ ?_ (j + 1) i _ (by omega) (by omega) hi
  · intro self i hi hp
    rw [q91_]
    unfold q2p_
    rw [if_pos (le_iff.2 (by omega))]
    refine (q4r_ (i := a) (j := i) ha (by omega) (fun z => q1f_ u1 (fun a i j data => self (a, i, j, data)) (a : Int) (i : Int) (j : Int) (!z) d.toList)).trans ?_
    have hp : (!Sort.ltInt d[a]! d[i]!) = true := hp
    rw [hp]
    show q5d_ _ _ _ (a : Int) (i : Int) (j : Int) true d.toList = _
    unfold q5d_
    rw [if_pos rfl, q4d_ (by omega)]
  · intro self i hp hi
    have K2f : q1f_ u1 (fun a i j data => self (a, i, j, data)) (a : Int) (i : Int) (j : Int) false d.toList = q1e_ u1 (a : Int) (i : Int) (j : Int) d.toList := rfl
    rw [q91_]
    unfold q2p_
    by_cases h : i ≤ j
    · have hp : (!Sort.ltInt d[a]! d[i]!) = false := hp h
      rw [if_pos (le_iff.2 (by omega))]
      refine (q4r_ (i := a) (j := i) ha (by omega) (fun z => q1f_ u1 (fun a i j data => self (a, i, j, data)) (a : Int) (i : Int) (j : Int) (!z) d.toList)).trans ?_
      rw [hp, K2f]
    · rw [if_neg (by rw [le_iff]; omega), K2f]
theorem pe_dn {d : Array Int} {a i j : Nat} (ha : a < d.size) (hj : j < d.size) (hd : d.size < 1000000000) (hi : 1 ≤ i) :
    q1e_ u1 (a : Int) (i : Int) (j : Int) d.toList = q2q_ u1 (a : Int) (i : Int) ((Sort.scanDown (dnE d a) d i j : Nat) : Int) d.toList := by
  rw [qd5_]
  refine scan_down (mk := fun j : Nat => ((a : Int), (i : Int), (j : Int), d.toList)) (p := dnE d a) (fin := fun j => q2q_ u1 (a : Int) (i : Int) (j : Int) d.toList) hi ?_ ?_ j _ (by omega) hj
  · intro self j hi hjs hp
    rw [q96_]
    unfold q2o_
    rw [if_pos (le_iff.2 (by omega))]
    refine (q4r_ (i := a) (j := j + 1) ha hjs (fun z => q1d_ u1 (fun a i j data => self (a, i, j, data)) (a : Int) (i : Int) ((j + 1 : Nat) : Int) z d.toList)).trans ?_
    have hp : Sort.ltInt d[a]! d[j + 1]! = true := hp
    rw [hp]
    show q57_ _ _ _ (a : Int) (i : Int) ((j + 1 : Nat) : Int) true d.toList = _
    unfold q57_
    rw [if_pos rfl, show Sx.sub .i64 ((j + 1 : Nat) : Int) 1 = (j : Int) by rw [sub64 (by omega) (by omega)]; omega]
  · intro self j hp hjs
    have K5f : q1d_ u1 (fun a i j data => self (a, i, j, data)) (a : Int) (i : Int) (j : Int) false d.toList = q2q_ u1 (a : Int) (i : Int) (j : Int) d.toList := rfl
    rw [q96_]
    unfold q2o_
    by_cases h : i ≤ j
    · have hp : Sort.ltInt d[a]! d[j]! = false := hp h
      rw [if_pos (le_iff.2 (by omega))]
      refine (q4r_ (i := a) (j := j) ha hjs (fun z => q1d_ u1 (fun a i j data => self (a, i, j, data)) (a : Int) (i : Int) (j : Int) z d.toList)).trans ?_
      rw [hp, K5f]
    · rw [if_neg (by rw [le_iff]; omega), K5f]
end
theorem pe_loop (a : Nat) : ∀ (k i j n : Nat) (d : Array Int), j + 1 - i ≤ k -> k < n -> 1 ≤ i -> i ≤ j + 1 -> j < d.size -> a < d.size -> d.size < 1000000000 ->
    loopF q4s_ n ((a : Int), (i : Int), (j : Int), d.toList) = some (((Sort.partEqLoop Sort.ltInt a i j d).1 : Int), (Sort.partEqLoop Sort.ltInt a i j d).2.toList, ())
  | _, _, _, 0, _, _, h, _, _, _, _, _ => by omega
  | k, i, j, n + 1, d, hk, hn, hi, hij, hj, ha, hd => by
    rw [q2i_, qde_]
    unfold q3o_
    obtain ⟨f1, f2, f3, f4⟩ := facts (p := upE d a) (q := dnE d a) (fun x => by simp [dnE, upE]) d hi hij
    rw [pe_up _ ha hj hd hij, pe_dn _ ha hj hd (by omega), Sort.partEqLoop_eq]
    generalize Sort.scanUp (upE d a) d j i = i2 at f1 f2 f3 f4 ⊢
    generalize Sort.scanDown (dnE d a) d i2 j = j2 at f3 f4 ⊢
    show q58_ _ (a : Int) (i2 : Int) (j2 : Int) d.toList = _
    unfold q58_
    by_cases h : i2 > j2
    · rw [if_pos (gt_iff.2 (by omega)), if_pos h]
    · have h4 := f4 h
      rw [if_neg (by rw [gt_iff]; omega), if_neg h]
      refine (q7l_ (i := i2) (j := j2) (by omega) (by omega) (fun D => loopF q4s_ n ((a : Int), add .i64 (i2 : Int) 1, Sx.sub .i64 (j2 : Int) 1, D))).trans ?_
      rw [q4d_ (by omega), show Sx.sub .i64 (j2 : Int) 1 = ((j2 - 1 : Nat) : Int) by rw [sub64 (by omega) (by omega)]; omega]
      exact pe_loop a (k - 1) (i2 + 1) (j2 - 1) n _ (by omega) (by omega) (by omega) (by omega) (by rw [q1v_]; omega) (by rw [q1v_]; exact ha) (by rw [q1v_]; exact hd)
theorem parteq_eq {d : Array Int} {a b pivot : Nat} (hb : b ≤ d.size) (hp : a ≤ pivot) (hpb : pivot < b) (hd : d.size < 1000000000) :
    q4o_ ((a : Int), (b : Int), (pivot : Int), d.toList, ()) = some (((Sort.partitionEqual Sort.ltInt d a b pivot).1 : Int), (Sort.partitionEqual Sort.ltInt d a b pivot).2.toList, ()) := by
  show q5a_ q2n_ (a : Int) (b : Int) (pivot : Int) d.toList = _
  unfold q5a_
  refine (q7l_ (i := a) (j := pivot) (by omega) (by omega) (fun D => q2n_ (a : Int) (add .i64 (a : Int) 1) (Sx.sub .i64 (b : Int) 1) D)).trans ?_
  rw [q4d_ (by omega), show Sx.sub .i64 (b : Int) 1 = ((b - 1 : Nat) : Int) by rw [sub64 (by omega) (by omega)]; omega, qda_]
  exact pe_loop a b (a + 1) (b - 1) _ _ (by omega) (by omega) (by omega) (by omega) (by rw [q1v_]; omega) (by rw [q1v_]; omega) (by rw [q1v_]; omega)
theorem order2_eq {d : Array Int} {a b s : Nat} (ha : a < d.size) (hb : b < d.size) (hs : s < 1000) :
    q6w_ ((a : Int), (b : Int), d.toList, (s : Int), ()) = some (((Sort.order2 Sort.ltInt d a b s).1 : Int), ((Sort.order2 Sort.ltInt d a b s).2.1 : Int), d.toList, ((Sort.order2 Sort.ltInt d a b s).2.2 : Int), ()) := by
  show q9c_ (a : Int) (b : Int) d.toList (s : Int) = _
  unfold q9c_ Sort.order2
  refine (q4r_ (i := b) (j := a) hb ha (fun z => if z = true then some ((b : Int), (a : Int), d.toList, add .i64 (s : Int) 1, ()) else some ((a : Int), (b : Int), d.toList, (s : Int), ()))).trans ?_
  cases Sort.ltInt d[b]! d[a]! with
  | true => simp only [if_true]; rw [q4d_ (by omega)]
  | false => rfl
theorem o2_lt (d : Array Int) {a b s n : Nat} (ha : a < n) (hb : b < n) : (Sort.order2 Sort.ltInt d a b s).1 < n ∧ (Sort.order2 Sort.ltInt d a b s).2.1 < n ∧ (Sort.order2 Sort.ltInt d a b s).2.2 ≤ s + 1 := by
  unfold Sort.order2
  split
  · exact ⟨hb, ha, Nat.le_refl _⟩
  · exact ⟨ha, hb, Nat.le_succ _⟩
theorem median_eq {d : Array Int} {a b c s : Nat} (ha : a < d.size) (hb : b < d.size) (hc : c < d.size) (hs : s < 100) :
    q6x_ ((a : Int), (b : Int), (c : Int), d.toList, (s : Int), ()) = some (((Sort.median Sort.ltInt d a b c s).1 : Int), d.toList, ((Sort.median Sort.ltInt d a b c s).2 : Int), ()) := by
  show q9b_ (a : Int) (b : Int) (c : Int) d.toList (s : Int) = _
  unfold q9b_ Sort.median
  obtain ⟨p1, p2, p3⟩ := o2_lt d (s := s) ha hb
  rw [order2_eq ha hb (by omega), Option.bind_some]
  dsimp only
  generalize Sort.order2 Sort.ltInt d a b s = r1 at p1 p2 p3 ⊢
  obtain ⟨q1, q2, q3⟩ := o2_lt d (s := r1.2.2) p2 hc
  rw [order2_eq p2 hc (by omega), Option.bind_some]
  dsimp only
  generalize Sort.order2 Sort.ltInt d r1.2.1 c r1.2.2 = r2 at q1 q2 q3 ⊢
  rw [order2_eq p1 q1 (by omega), Option.bind_some]
theorem med_lt (d : Array Int) {a b c s n : Nat} (ha : a < n) (hb : b < n) (hc : c < n) : (Sort.median Sort.ltInt d a b c s).1 < n ∧ (Sort.median Sort.ltInt d a b c s).2 ≤ s + 3 := by
  unfold Sort.median
  obtain ⟨p1, p2, p3⟩ := o2_lt d (s := s) ha hb
  dsimp only
  generalize Sort.order2 Sort.ltInt d a b s = r1 at p1 p2 p3 ⊢
  obtain ⟨q1, q2, q3⟩ := o2_lt d (s := r1.2.2) p2 hc
  generalize Sort.order2 Sort.ltInt d r1.2.1 c r1.2.2 = r2 at q1 q2 q3 ⊢
  obtain ⟨t1, t2, t3⟩ := o2_lt d (s := r2.2.2) p1 q1
  exact ⟨t2, by omega⟩
theorem medadj_eq {d : Array Int} {a s : Nat} (ha : 1 ≤ a) (hb : a + 1 < d.size) (hs : s < 100) (hd : d.size < 1000000000) :
    q2j_ ((a : Int), d.toList, (s : Int), ()) = some (((Sort.medianAdjacent Sort.ltInt d a s).1 : Int), d.toList, ((Sort.medianAdjacent Sort.ltInt d a s).2 : Int), ()) := by
  show q7m_ (a : Int) d.toList (s : Int) = _
  unfold q7m_ Sort.medianAdjacent
  rw [q4d_ (by omega), show Sx.sub .i64 (a : Int) 1 = ((a - 1 : Nat) : Int) by rw [sub64 (by omega) (by omega)]; omega, median_eq (by omega) (by omega) hb hs, Option.bind_some]
def hintI : Sort.Hint -> Int
  | .increasing => 1
  | .decreasing => 2
  | .unknown => 0
theorem quo8 {n : Nat} (k : Nat) (hk : 0 < k) (h : n < 1000000000) : quo .i64 (n : Int) (k : Int) = ((n / k : Nat) : Int) := by
  unfold quo
  rw [Int.tdiv_eq_ediv_of_nonneg (by omega)]
  have : n / k ≤ n := Nat.div_le_self _ _
  rw [show (n : Int) / (k : Int) = ((n / k : Nat) : Int) by simp]
  generalize n / k = q at this ⊢
  rw [w64 (by omega) (by omega)]
theorem choose_eq {d : Array Int} {a b : Nat} (hb : b ≤ d.size) (ha : a < b) (hd : d.size < 1000000000) :
    q54_ ((a : Int), (b : Int), d.toList, ()) = some (((Sort.choosePivot Sort.ltInt d a b).1 : Int), hintI (Sort.choosePivot Sort.ltInt d a b).2, d.toList, ()) := by
  have K2 : ∀ (j s : Nat), q1w_ (j : Int) d.toList (s : Int) = some ((j : Int), hintI (if s = 0 then .increasing else if s = 12 then .decreasing else .unknown), d.toList, ()) := fun j s => by
    show q61_ (j : Int) d.toList (s : Int) = _
    unfold q61_
    by_cases h0 : s = 0
    · rw [if_pos (q4g_.2 (by omega)), if_pos h0]; rfl
    · rw [if_neg (by rw [q4g_]; omega), if_neg h0]
      by_cases h1 : s = 12
      · rw [if_pos (q4g_.2 (by omega)), if_pos h1]; rfl
      · rw [if_neg (by rw [q4g_]; omega), if_neg h1]; rfl
  have K1 : ∀ (i j k s : Nat), i < d.size -> j < d.size -> k < d.size -> s < 100 -> q4k_ (i : Int) (j : Int) (k : Int) d.toList (s : Int) =
      q1w_ ((Sort.median Sort.ltInt d i j k s).1 : Int) d.toList ((Sort.median Sort.ltInt d i j k s).2 : Int) := fun i j k s hi hj hk hs => by
    show q63_ _ (i : Int) (j : Int) (k : Int) d.toList (s : Int) = _
    unfold q63_
    rw [median_eq hi hj hk hs, Option.bind_some]
  show q5y_ q4k_ q1w_ (a : Int) (b : Int) d.toList = _
  unfold q5y_ Sort.choosePivot
  obtain ⟨l, hl⟩ : ∃ l, l = b - a := ⟨_, rfl⟩
  have hq : (l / 4) * 4 ≤ l := Nat.div_mul_le_self _ _
  have e0 : Sx.sub .i64 (b : Int) (a : Int) = (l : Int) := by rw [i64_sub (by omega) (by omega), hl]
  have e1 : ∀ k : Nat, k ≤ 3 -> add .i64 (a : Int) (mul .i64 (quo .i64 (l : Int) 4) (k : Int)) = ((a + l / 4 * k : Nat) : Int) := fun k hk => by
    have := quo8 (n := l) 4 (by omega) (by omega)
    rw [show ((4 : Nat) : Int) = 4 from rfl] at this
    have hb2 : l / 4 * k ≤ l / 4 * 4 := Nat.mul_le_mul_left _ (by omega)
    rw [this, mul64 (by rw [<- Int.natCast_mul]; omega) (by rw [<- Int.natCast_mul]; omega), <- Int.natCast_mul, i64_add (by omega)]
  have f1 := e1 1 (by omega)
  have f2 := e1 2 (by omega)
  have f3 := e1 3 (by omega)
  rw [show ((1 : Nat) : Int) = 1 from rfl] at f1
  rw [show ((2 : Nat) : Int) = 2 from rfl] at f2
  rw [show ((3 : Nat) : Int) = 3 from rfl] at f3
  rw [e0, f1, f2, f3, <- hl]
  dsimp only
  by_cases h8 : 8 ≤ l
  · rw [if_pos (q5v_.2 (by omega)), if_pos h8]
    by_cases h50 : 50 ≤ l
    · rw [if_pos (q5v_.2 (by omega)), if_pos h50]
      have z0 : (0 : Int) = ((0 : Nat) : Int) := rfl
      have g1 : (Sort.medianAdjacent Sort.ltInt d (a + l / 4 * 1) 0).1 < d.size ∧ (Sort.medianAdjacent Sort.ltInt d (a + l / 4 * 1) 0).2 ≤ 0 + 3 := med_lt d (by omega) (by omega) (by omega)
      have m1 : q2j_ (((a + l / 4 * 1 : Nat) : Int), d.toList, 0, ()) = _ := medadj_eq (d := d) (a := a + l / 4 * 1) (s := 0) (by omega) (by omega) (by omega) hd
      rw [m1, Option.bind_some]
      dsimp only
      generalize Sort.medianAdjacent Sort.ltInt d (a + l / 4 * 1) 0 = ri at g1 ⊢
      have g2 : (Sort.medianAdjacent Sort.ltInt d (a + l / 4 * 2) ri.2).1 < d.size ∧ (Sort.medianAdjacent Sort.ltInt d (a + l / 4 * 2) ri.2).2 ≤ ri.2 + 3 := med_lt d (by omega) (by omega) (by omega)
      rw [medadj_eq (a := a + l / 4 * 2) (by omega) (by omega) (by omega) hd, Option.bind_some]
      dsimp only
      generalize Sort.medianAdjacent Sort.ltInt d (a + l / 4 * 2) ri.2 = rj at g2 ⊢
      have g3 : (Sort.medianAdjacent Sort.ltInt d (a + l / 4 * 3) rj.2).1 < d.size ∧ (Sort.medianAdjacent Sort.ltInt d (a + l / 4 * 3) rj.2).2 ≤ rj.2 + 3 := med_lt d (by omega) (by omega) (by omega)
      rw [medadj_eq (a := a + l / 4 * 3) (by omega) (by omega) (by omega) hd, Option.bind_some]
      dsimp only
      generalize Sort.medianAdjacent Sort.ltInt d (a + l / 4 * 3) rj.2 = rk at g3 ⊢
      rw [K1 _ _ _ _ g1.1 g2.1 g3.1 (by omega), K2]
    · rw [if_neg (by rw [q5v_]; omega), if_neg h50]
      have := K1 (a + l / 4 * 1) (a + l / 4 * 2) (a + l / 4 * 3) 0 (by omega) (by omega) (by omega) (by omega)
      rw [show ((0 : Nat) : Int) = 0 from rfl] at this
      rw [this, K2]
  · rw [if_neg (by rw [q5v_]; omega), if_neg h8]
    have := K2 (a + l / 4 * 2) 0
    rw [show ((0 : Nat) : Int) = 0 from rfl] at this
    rw [this]
end Go.Proofs.Lx
end
section
set_option maxRecDepth 100000
namespace Go.Proofs.Lx
open Go Ev Sx Pl
abbrev RPI := Option (As q4_.rs)
theorem pred64 {i : Nat} (h : 1 ≤ i) (h2 : i < 4611686018427387904) : Sx.sub .i64 (i : Int) 1 = ((i - 1 : Nat) : Int) := by rw [sub64 (by omega) (by omega)]; omega
section
variable (u1 : Int -> Int -> Int -> Int -> List Int -> RPI)
theorem pi_scan {d : Array Int} (a b j : Nat) (hb : b ≤ d.size) (hd : d.size < 1000000000) : ∀ (k i n : Nat), b - i ≤ k -> k < n -> 1 ≤ i -> i ≤ b ->
    loopF (q5s_ u1) n ((a : Int), (b : Int), (i : Int), (j : Int), d.toList) = q2w_ u1 (a : Int) (b : Int) ((Sort.scanSorted Sort.ltInt d b i : Nat) : Int) (j : Int) d.toList
  | _, _, 0, _, h, _, _ => by omega
  | k, i, n + 1, hk, hn, hi, hib => by
    have K3f : ∀ self, q1c_ u1 self (a : Int) (b : Int) (i : Int) (j : Int) false d.toList = q2w_ u1 (a : Int) (b : Int) (i : Int) (j : Int) d.toList := fun _ => rfl
    rw [q2i_, qbm_, Sort.scanSorted]
    unfold q2z_
    by_cases h : i < b
    · rw [if_pos (q2m_.2 (by omega)), pred64 hi (by omega), decide_eq_true h, Bool.true_and]
      refine (q4r_ (i := i) (j := i - 1) (by omega) (by omega) (fun z => q1c_ u1 _ (a : Int) (b : Int) (i : Int) (j : Int) (!z) d.toList)).trans ?_
      cases hl : Sort.ltInt d[i]! d[i - 1]! with
      | true => rw [Bool.not_true, K3f, if_neg (by decide)]
      | false =>
        rw [Bool.not_false, if_pos rfl]
        show q45_ _ _ _ (a : Int) (b : Int) (i : Int) (j : Int) true d.toList = _
        unfold q45_
        rw [if_pos rfl, q4d_ (by omega)]
        exact pi_scan a b j hb hd (k - 1) (i + 1) n (by omega) (by omega) (by omega) (by omega)
    · rw [if_neg (by rw [q2m_]; omega), K3f, decide_eq_false h, Bool.false_and, if_neg (by decide)]
theorem pi_down (a b i j : Nat) : ∀ (q n : Nat) (d : Array Int), q < n -> q < d.size -> d.size < 1000000000 ->
    loopF (q3n_ u1) n ((a : Int), (b : Int), (i : Int), (j : Int), (q : Int), d.toList) = qr_ u1 (a : Int) (b : Int) (i : Int) (j : Int) (Sort.shiftDown Sort.ltInt q d).toList
  | _, 0, _, h, _, _ => by omega
  | 0, n + 1, d, _, _, _ => by
    rw [q2i_, q83_]
    unfold q23_
    rw [if_neg (by rw [q5v_]; omega)]
    rfl
  | q + 1, n + 1, d, hn, hq, hd => by
    rw [q2i_, q83_]
    unfold q23_ Sort.shiftDown
    have e1 : Sx.sub .i64 ((q + 1 : Nat) : Int) 1 = (q : Int) := by rw [sub64 (by omega) (by omega)]; omega
    rw [if_pos (by rw [q5v_]; omega), e1]
    refine (q4r_ (i := q + 1) (j := q) hq (by omega) (fun z => if (!z) = true then qr_ u1 (a : Int) (b : Int) (i : Int) (j : Int) d.toList else _)).trans ?_
    cases Sort.ltInt d[q + 1]! d[q]! with
    | false => rfl
    | true =>
      rw [if_neg (by decide), if_neg (by decide)]
      refine (q7l_ (i := q + 1) (j := q) hq (by omega) (fun D => loopF (q3n_ u1) n ((a : Int), (b : Int), (i : Int), (j : Int), (q : Int), D))).trans ?_
      exact pi_down a b i j q n _ (by omega) (by rw [q1v_]; omega) (by rw [q1v_]; exact hd)
theorem pi_up (a b i j : Nat) : ∀ (k q n : Nat) (d : Array Int), b - q ≤ k -> k < n -> 1 ≤ q -> b ≤ d.size -> d.size < 1000000000 -> q < 2000000000 ->
    loopF (q3m_ u1) n ((a : Int), (b : Int), (i : Int), (j : Int), (q : Int), d.toList) = qs_ u1 (a : Int) (b : Int) (i : Int) (j : Int) (Sort.shiftUp Sort.ltInt b q d).toList
  | _, _, 0, _, _, h, _, _, _, _ => by omega
  | k, q, n + 1, d, hk, hn, hq, hb, hd, hq2 => by
    rw [q2i_, qbl_, Sort.shiftUp]
    unfold q2y_
    by_cases h : q < b
    · rw [if_pos (q2m_.2 (by omega)), if_pos h, pred64 hq (by omega)]
      refine (q4r_ (i := q) (j := q - 1) (by omega) (by omega) (fun z => if (!z) = true then qs_ u1 (a : Int) (b : Int) (i : Int) (j : Int) d.toList else _)).trans ?_
      cases Sort.ltInt d[q]! d[q - 1]! with
      | false => rfl
      | true =>
        rw [if_neg (by decide), if_neg (by decide), q4d_ (by omega)]
        refine (q7l_ (i := q) (j := q - 1) (by omega) (by omega) (fun D => loopF (q3m_ u1) n ((a : Int), (b : Int), (i : Int), (j : Int), ((q + 1 : Nat) : Int), D))).trans ?_
        exact pi_up a b i j (k - 1) (q + 1) n _ (by omega) (by omega) (by omega) (by rw [q1v_]; exact hb) (by rw [q1v_]; exact hd) (by omega)
    · rw [if_neg (by rw [q2m_]; omega), if_neg h]
end
theorem shiftDown_size : ∀ (q : Nat) (d : Array Int), (Sort.shiftDown Sort.ltInt q d).size = d.size
  | 0, _ => rfl
  | q + 1, d => by
    unfold Sort.shiftDown
    split
    · rfl
    · rw [shiftDown_size q, q1v_]
theorem shiftUp_size (b : Nat) : ∀ (k q : Nat) (d : Array Int), b - q ≤ k -> (Sort.shiftUp Sort.ltInt b q d).size = d.size
  | k, q, d, hk => by
    rw [Sort.shiftUp]
    split
    · split
      · rfl
      · cases k with
        | zero => omega
        | succ k => rw [shiftUp_size b k _ _ (by omega), q1v_]
    · rfl
theorem scanSorted_le (d : Array Int) (b : Nat) : ∀ (k i : Nat), b - i ≤ k -> i ≤ b -> i ≤ Sort.scanSorted Sort.ltInt d b i ∧ Sort.scanSorted Sort.ltInt d b i ≤ b
  | k, i, hk, hi => by
    rw [Sort.scanSorted]
    split
    · rename_i h
      simp only [Bool.and_eq_true, decide_eq_true_eq] at h
      cases k with
      | zero => omega
      | succ k =>
        have := scanSorted_le d b k (i + 1) (by omega) (by omega)
        omega
    · omega
theorem pi_loop (a b : Nat) (hab : a < b) : ∀ (s j i n : Nat) (d : Array Int), j + s = 5 -> s < n -> 1 ≤ i -> a < i -> i ≤ b -> b ≤ d.size -> d.size < 1000000000 ->
    loopF q1t_ n ((a : Int), (b : Int), (i : Int), (j : Int), d.toList) = some ((Sort.partialIns Sort.ltInt a b s i d).2, (Sort.partialIns Sort.ltInt a b s i d).1.toList, ())
  | _, _, _, 0, _, _, h, _, _, _, _, _ => by omega
  | 0, j, i, n + 1, d, hj, _, _, _, _, _, _ => by
    rw [q2i_, q84_]
    unfold q27_
    rw [if_neg (by rw [q2m_]; omega)]
    rfl
  | s + 1, j, i, n + 1, d, hj, hn, hi, hai, hib, hb, hd => by
    rw [q2i_, q84_]
    unfold q27_ Sort.partialIns
    rw [if_pos (q2m_.2 (by omega)), qbo_, pi_scan _ a b j hb hd b i _ (by omega) (by omega) hi hib]
    obtain ⟨g1, g2⟩ := scanSorted_le d b b i (by omega) hib
    dsimp only
    generalize Sort.scanSorted Sort.ltInt d b i = i2 at g1 g2 ⊢
    show q43_ _ _ _ (a : Int) (b : Int) (i2 : Int) (j : Int) d.toList = _
    unfold q43_
    by_cases h1 : i2 = b
    · rw [if_pos (q4g_.2 (by omega)), if_pos h1]
    · rw [if_neg (by rw [q4g_]; omega), if_neg h1, i64_sub (by omega) (by omega)]
      by_cases h50 : b - a < 50
      · rw [if_pos (q2m_.2 (by omega)), if_pos h50]
      · rw [if_neg (by rw [q2m_]; omega), if_neg h50, pred64 (by omega) (by omega)]
        refine (q7l_ (i := i2) (j := i2 - 1) (by omega) (by omega) (fun D => if ge (Sx.sub .i64 (i2 : Int) (a : Int)) 2 = true then q2v_ _ (a : Int) (b : Int) (i2 : Int) (j : Int) ((i2 - 1 : Nat) : Int) D else qr_ _ (a : Int) (b : Int) (i2 : Int) (j : Int) D)).trans ?_
        have hz1 : (Sort.swp d i2 (i2 - 1)).size = d.size := q1v_ _ _ _
        generalize Sort.swp d i2 (i2 - 1) = d1 at hz1 ⊢
        have K6 : ∀ D : Array Int, D.size = d.size -> qr_ (fun a b i j data => loopF q1t_ n (a, b, i, j, data)) (a : Int) (b : Int) (i2 : Int) (j : Int) D.toList =
            some ((Sort.partialIns Sort.ltInt a b s i2 (if b - i2 ≥ 2 then Sort.shiftUp Sort.ltInt b (i2 + 1) D else D)).2, (Sort.partialIns Sort.ltInt a b s i2 (if b - i2 ≥ 2 then Sort.shiftUp Sort.ltInt b (i2 + 1) D else D)).1.toList, ()) := fun D hD => by
          have K8 : ∀ E : Array Int, E.size = d.size -> qs_ (fun a b i j data => loopF q1t_ n (a, b, i, j, data)) (a : Int) (b : Int) (i2 : Int) (j : Int) E.toList =
              some ((Sort.partialIns Sort.ltInt a b s i2 E).2, (Sort.partialIns Sort.ltInt a b s i2 E).1.toList, ()) := fun E hE => by
            show loopF q1t_ n ((a : Int), (b : Int), (i2 : Int), add .i64 (j : Int) 1, E.toList) = _
            rw [q4d_ (by omega)]
            exact pi_loop a b hab s (j + 1) i2 n E (by omega) (by omega) (by omega) (by omega) (by omega) (by omega) (by omega)
          show q46_ _ _ _ (a : Int) (b : Int) (i2 : Int) (j : Int) D.toList = _
          unfold q46_
          rw [i64_sub (by omega) (by omega)]
          by_cases h2 : b - i2 ≥ 2
          · rw [if_pos (q5v_.2 (by omega)), if_pos h2, q4d_ (by omega), qbk_, pi_up _ a b i2 j b (i2 + 1) _ D (by omega) (by omega) (by omega) (by omega) (by omega) (by omega), K8 _ (by rw [shiftUp_size b b _ _ (by omega)]; exact hD)]
          · rw [if_neg (by rw [q5v_]; omega), if_neg h2, K8 _ hD]
        rw [i64_sub (by omega) (by omega)]
        by_cases h2 : i2 - a ≥ 2
        · rw [if_pos (q5v_.2 (by omega)), if_pos h2, qbi_, pi_down _ a b i2 j (i2 - 1) _ d1 (by omega) (by omega) (by omega), K6 _ (by rw [shiftDown_size]; exact hz1)]
        · rw [if_neg (by rw [q5v_]; omega), if_neg h2, K6 _ hz1]
theorem partial_eq {d : Array Int} {a b : Nat} (hb : b ≤ d.size) (ha : a < b) (hd : d.size < 1000000000) :
    q39_ ((a : Int), (b : Int), d.toList, ()) = some ((Sort.partialInsertionSort Sort.ltInt d a b).2, (Sort.partialInsertionSort Sort.ltInt d a b).1.toList, ()) := by
  show q2x_ (a : Int) (b : Int) (add .i64 (a : Int) 1) 0 d.toList = _
  rw [qbh_, q4d_ (by omega)]
  exact pi_loop a b ha 5 0 (a + 1) _ d rfl (by omega) (by omega) (by omega) (by omega) hb hd
theorem w64u {n : Nat} (h : n < 18446744073709551616) : IntKind.u64.wrap (n : Int) = (n : Int) := wu64 (by omega) (by omega)
theorem bv64 {n : Nat} (h : n < 18446744073709551616) : (BitVec.ofInt 64 (n : Int)).toNat = n := by
  rw [BitVec.ofInt_natCast, BitVec.toNat_ofNat]
  exact Nat.mod_eq_of_lt h
theorem bxor_n {x y : Nat} (hx : x < 18446744073709551616) (hy : y < 18446744073709551616) : Sx.bxor .u64 (x : Int) (y : Int) = ((x ^^^ y : Nat) : Int) := by
  unfold Sx.bxor
  show IntKind.u64.wrap (((BitVec.ofInt 64 (x : Int) ^^^ BitVec.ofInt 64 (y : Int)).toNat : Nat) : Int) = _
  rw [BitVec.toNat_xor, bv64 hx, bv64 hy, w64u (Nat.xor_lt_two_pow (n := 64) hx hy)]
theorem band_n {x y : Nat} (hx : x < 18446744073709551616) (hy : y < 18446744073709551616) : Sx.band .u64 (x : Int) (y : Int) = ((x &&& y : Nat) : Int) := by
  unfold Sx.band
  show IntKind.u64.wrap (((BitVec.ofInt 64 (x : Int) &&& BitVec.ofInt 64 (y : Int)).toNat : Nat) : Int) = _
  rw [BitVec.toNat_and, bv64 hx, bv64 hy, w64u (Nat.lt_of_le_of_lt Nat.and_le_left hx)]
theorem shl_n {x : Nat} (k : Nat) (hk : k ≤ 64) : Sx.shl .u64 (x : Int) (k : Int) = ((x * 2 ^ k % 18446744073709551616 : Nat) : Int) := by
  unfold Sx.shl
  rw [Int.toNat_natCast]
  show IntKind.u64.wrap ((x : Int) * 2 ^ (min k 64)) = _
  rw [Nat.min_eq_left hk]
  show ((x : Int) * 2 ^ k) % 18446744073709551616 = _
  simp
theorem shr_n {x : Nat} (k : Nat) (hk : k ≤ 64) : Sx.shr .u64 (x : Int) (k : Int) = ((x / 2 ^ k : Nat) : Int) := by
  unfold Sx.shr
  rw [Int.toNat_natCast]
  show (x : Int).fdiv (2 ^ (min k 64)) = _
  rw [Nat.min_eq_left hk, Int.fdiv_eq_ediv_of_nonneg _ (by exact_mod_cast Nat.zero_le _)]
  simp
theorem next_eq {x : Nat} (hx : x < 18446744073709551616) : qb5_ ((x : Int), ()) = some ((Sort.xorNextN x : Int), (Sort.xorNextN x : Int), ()) := by
  show qbz_ (x : Int) = _
  unfold qbz_
  have e1 : Sx.shl .u64 (x : Int) 13 = ((x * 8192 % 18446744073709551616 : Nat) : Int) := shl_n 13 (by decide)
  rw [e1, bxor_n hx (Nat.mod_lt _ (by decide))]
  have ha : x ^^^ (x * 8192 % 18446744073709551616) < 18446744073709551616 := Nat.xor_lt_two_pow (n := 64) hx (Nat.mod_lt _ (by decide))
  unfold Sort.xorNextN
  dsimp only
  generalize x ^^^ (x * 8192 % 18446744073709551616) = A at ha ⊢
  have e2 : Sx.shr .u64 (A : Int) 7 = ((A / 128 : Nat) : Int) := shr_n 7 (by decide)
  rw [e2, bxor_n ha (by omega)]
  have hb : A ^^^ (A / 128) < 18446744073709551616 := Nat.xor_lt_two_pow (n := 64) ha (by omega)
  generalize A ^^^ (A / 128) = B at hb ⊢
  have e3 : Sx.shl .u64 (B : Int) 17 = ((B * 131072 % 18446744073709551616 : Nat) : Int) := shl_n 17 (by decide)
  rw [e3, bxor_n hb (Nat.mod_lt _ (by decide))]
theorem pow_all : ((List.range 128).all fun n => match q82_ ((n : Int), ()) with
    | some y => decide (y.1 = ((1 <<< Sort.bitsLen n : Nat) : Int))
    | none => false) = true := by kernel_rfl
theorem pow_eq {n : Nat} (h : n < 128) : q82_ ((n : Int), ()) = some (((1 <<< Sort.bitsLen n : Nat) : Int), ()) := by
  have := List.all_eq_true.1 pow_all n (List.mem_range.2 h)
  cases hy : q82_ ((n : Int), ()) with
  | none => rw [hy] at this; cases this
  | some y =>
    rw [hy] at this
    have := of_decide_eq_true this
    obtain ⟨y1, y2⟩ := y
    rw [<- this]
def brk (a len m : Nat) : Nat -> Nat -> UInt64 × Array Int -> UInt64 × Array Int
  | 0, _, st => st
  | k + 1, idx, st => brk a len m k (idx + 1) (Sort.breakStep a len m st idx)
theorem break_round (a len m c : Nat) (hm : 1 ≤ m) (hl : len < 1000) (hm2 : m ≤ 2 * len) (ha : a < 1000) (hc : a + len / 4 * 2 + 1 = c) : ∀ (k idx n : Nat) (r : UInt64) (d : Array Int), idx + k = c + 1 -> k < n -> a + len ≤ d.size -> c < d.size ->
    loopF q3f_ n ((a : Int), (len : Int), (m : Int), (idx : Int), d.toList, (r.toNat : Int)) = some ((brk a len m k idx (r, d)).2.toList, ())
  | _, _, 0, _, _, _, h, _, _ => by omega
  | k, idx, n + 1, r, d, hk, hn, hs, hcs => by
    have e1 : add .i64 (add .i64 (a : Int) (mul .i64 (quo .i64 (len : Int) 4) 2)) 1 = (c : Int) := by
      have q4 := quo8 (n := len) 4 (by omega) (by omega)
      rw [show ((4 : Nat) : Int) = 4 from rfl] at q4
      rw [q4, mul64 (by omega) (by omega), show ((len / 4 : Nat) : Int) * 2 = ((len / 4 * 2 : Nat) : Int) by omega, i64_add (by omega), q4d_ (by omega), hc]
    rw [q2i_, qdj_]
    unfold q3w_
    rw [e1]
    cases k with
    | zero => rw [if_neg (by rw [le_iff]; omega)]; rfl
    | succ k =>
      have hr : r.toNat < 18446744073709551616 := r.toNat_lt
      rw [if_pos (le_iff.2 (by omega)), next_eq hr, Option.bind_some, <- Sort.xorNext_toNat]
      dsimp only
      obtain ⟨R, hR⟩ : ∃ R, R = Sort.xorNext r := ⟨_, rfl⟩
      rw [<- hR]
      have hRl : R.toNat < 18446744073709551616 := R.toNat_lt
      have e2 : Sx.sub .u64 (m : Int) 1 = ((m - 1 : Nat) : Int) := by
        show IntKind.u64.wrap ((m : Int) - 1) = _
        rw [show (m : Int) - 1 = ((m - 1 : Nat) : Int) by omega, w64u (by omega)]
      have ho : R.toNat &&& (m - 1) ≤ m - 1 := Nat.and_le_right
      rw [e2, band_n hRl (by omega)]
      obtain ⟨o, hoo⟩ : ∃ o, o = R.toNat &&& (m - 1) := ⟨_, rfl⟩
      rw [<- hoo] at ho ⊢
      rw [cvt64 (by omega) (by omega)]
      have K2 : ∀ q : Nat, q < len -> q30_ (fun a length modulus idx data random => loopF q3f_ n (a, length, modulus, idx, data, random)) (a : Int) (len : Int) (m : Int) (idx : Int) (q : Int) d.toList (R.toNat : Int) =
          some ((brk a len m k (idx + 1) (R, Sort.swp d idx (a + q))).2.toList, ()) := fun q hq => by
        show q5n_ _ (a : Int) (len : Int) (m : Int) (idx : Int) (q : Int) d.toList (R.toNat : Int) = _
        unfold q5n_
        rw [i64_add (by omega)]
        refine (q7l_ (i := idx) (j := a + q) (by omega) (by omega) (fun D => loopF q3f_ n ((a : Int), (len : Int), (m : Int), add .i64 (idx : Int) 1, D, (R.toNat : Int)))).trans ?_
        rw [q4d_ (by omega)]
        exact break_round a len m c hm hl hm2 ha hc k (idx + 1) n R _ (by omega) (by omega) (by rw [q1v_]; exact hs) (by rw [q1v_]; exact hcs)
      show _ = some ((brk a len m k (idx + 1) (Sort.breakStep a len m (r, d) idx)).2.toList, ())
      unfold Sort.breakStep
      dsimp only
      rw [<- hR, <- hoo]
      by_cases h : o ≥ len
      · rw [if_pos (q5v_.2 (by omega)), if_pos h, i64_sub h (by omega), K2 _ (by omega)]
      · rw [if_neg (by rw [q5v_]; omega), if_neg h, K2 _ (by omega)]
theorem break_eq {d : Array Int} {a b : Nat} (hb : b ≤ d.size) (ha : a ≤ b) (hd : d.size < 128) :
    q3c_ ((a : Int), (b : Int), d.toList, ()) = some ((Sort.breakPatterns d a b).toList, ()) := by
  show q5p_ q40_ (a : Int) (b : Int) d.toList = _
  unfold q5p_ Sort.breakPatterns
  rw [i64_sub ha (by omega)]
  obtain ⟨len, hlen⟩ : ∃ len, len = b - a := ⟨_, rfl⟩
  rw [<- hlen]
  dsimp only
  by_cases h8 : len ≥ 8
  · rw [if_pos (q5v_.2 (by omega)), if_pos h8, pow_eq (by omega), Option.bind_some]
    dsimp only
    have hm : 1 <<< Sort.bitsLen len ≤ 2 * len := by rw [Nat.one_shiftLeft]; exact Sort.two_pow_bitsLen_le (by omega)
    have hm1 : 1 ≤ 1 <<< Sort.bitsLen len := by rw [Nat.one_shiftLeft]; exact Nat.one_le_two_pow
    generalize 1 <<< Sort.bitsLen len = m at hm hm1 ⊢
    have q4 := quo8 (n := len) 4 (by omega) (by omega)
    rw [show ((4 : Nat) : Int) = 4 from rfl] at q4
    have e2 : Sx.sub .i64 (add .i64 (a : Int) (mul .i64 (quo .i64 (len : Int) 4) 2)) 1 = ((a + len / 4 * 2 - 1 : Nat) : Int) := by
      rw [q4, mul64 (by omega) (by omega), show ((len / 4 : Nat) : Int) * 2 = ((len / 4 * 2 : Nat) : Int) by omega, i64_add (by omega), pred64 (by omega) (by omega)]
    have e3 : cvt .u64 (len : Int) = ((UInt64.ofNat len).toNat : Int) := by
      rw [show (UInt64.ofNat len).toNat = len by simp; omega]
      exact wu64 (by omega) (by omega)
    rw [e2, e3, qdh_, break_round a len m (a + len / 4 * 2 + 1) hm1 (by omega) hm (by omega) rfl 3 (a + len / 4 * 2 - 1) _ (UInt64.ofNat len) d (by omega) (by omega) (by omega) (by omega)]
    rfl
  · rw [if_neg (by rw [q5v_]; omega), if_neg h8]
end Go.Proofs.Lx
end
section
open Go Go.Proofs Ev Sx
set_option maxRecDepth 100000
namespace Go.Proofs.Lx
@[reducible] def qb_ : Sh := ⟨[.row 0, .d (.int .i64), .d (.int .i64), .d (.int .i64)], [.row (.int .u32) 26], [.int .i64, .int .i64, .int .i64, .sl (.int .u32)], [], [(0, .row (.int .u32) 26)], 0, [.sl (.int .u32)]⟩
abbrev PDM := As qb_.ps -> Option (As qb_.rs)
def ql_ (M : PDM) : Env := (cts [(47, (⟨cmp_Less_Guint32_s, q10_⟩ : Ct)), (74, (⟨qj_, q4q_⟩ : Ct)), (75, (⟨qt_, q68_⟩ : Ct)), (76, (⟨q11_, q3c_⟩ : Ct)), (77, (⟨qy_, q54_⟩ : Ct)), (78, (⟨q2k_, q4t_⟩ : Ct)), (79, (⟨q4_, q39_⟩ : Ct)), (80, (⟨q9_, q4o_⟩ : Ct)), (81, (⟨q0_, q5u_⟩ : Ct)), (65, (⟨qb_, M⟩ : Ct))])
def qk_ : List (Nat × Hint) := [(14, ⟨[], [0, 1, 2, 3, 8, 9, 63, 66, 67, 76, 77, 78, 79, 80, 81, 82, 83, 84, 85, 86]⟩), (455, ⟨[], [0, 1, 2, 3, 8, 9, 10, 63, 66, 67, 76, 77, 78, 79, 80, 81, 82, 83, 84, 85, 86]⟩), (1823, ⟨[], [0, 1, 2, 3, 8, 9, 10, 11, 12, 63, 66, 67, 76, 77, 78, 79, 80, 81, 82, 83, 84, 85, 86]⟩), (3647, ⟨[], [0, 1, 2, 3, 8, 9, 10, 11, 63, 66, 67, 76, 77, 78, 79, 80, 81, 82, 83, 84, 85, 86]⟩), (14590, ⟨[.agd 77 (.int .i64), .agd 78 (.int .i64), .agd 80 (.int .u32), .agd 82 (.int .i64), .agd 84 (.int .u32), .agd 85 .bool, .agd 86 .bool], [0, 1, 2, 3, 8, 9, 10, 11, 87]⟩), (7294, ⟨[.agd 66 (.int .i64), .agd 67 .bool, .agd 63 .bool], [0, 1, 2, 3, 8, 9, 10, 11, 68]⟩)]
def qi_ (a b limit : Int) (wasBalanced wasPartitioned : Bool) (data : List Int) : St := { fr := [(0, .row 0), (1, .d (.int .i64) a), (2, .d (.int .i64) b), (3, .d (.int .i64) limit), (8, .d .bool wasBalanced), (9, .d .bool wasPartitioned)], nt := 134, up := [], own := [(0, .row (.int .u32) 26 data)], nx := 1, log := [], ln := 1 }
def q7j_ (a b limit : Int) (wasBalanced wasPartitioned : Bool) (length : Int) (data : List Int) : St := { fr := [(0, .row 0), (1, .d (.int .i64) a), (2, .d (.int .i64) b), (3, .d (.int .i64) limit), (8, .d .bool wasBalanced), (9, .d .bool wasPartitioned), (10, .d (.int .i64) length)], nt := 134, up := [], own := [(0, .row (.int .u32) 26 data)], nx := 1, log := [], ln := 1 }
def q7h_ (a b limit : Int) (wasBalanced wasPartitioned : Bool) (length pivot hint : Int) (data : List Int) : St := { fr := [(0, .row 0), (1, .d (.int .i64) a), (2, .d (.int .i64) b), (3, .d (.int .i64) limit), (8, .d .bool wasBalanced), (9, .d .bool wasPartitioned), (10, .d (.int .i64) length), (11, .d (.int .i64) pivot), (12, .d (.int .i64) hint)], nt := 134, up := [], own := [(0, .row (.int .u32) 26 data)], nx := 1, log := [], ln := 1 }
def q7g_ (a b limit : Int) (wasBalanced wasPartitioned : Bool) (length pivot : Int) (t68 : Bool) (data : List Int) : St := { fr := [(0, .row 0), (1, .d (.int .i64) a), (2, .d (.int .i64) b), (3, .d (.int .i64) limit), (8, .d .bool wasBalanced), (9, .d .bool wasPartitioned), (10, .d (.int .i64) length), (11, .d (.int .i64) pivot), (68, .d .bool t68)], nt := 134, up := [], own := [(0, .row (.int .u32) 26 data)], nx := 1, log := [], ln := 1 }
def q7k_ (a b limit : Int) (wasBalanced wasPartitioned : Bool) (length pivot : Int) (data : List Int) : St := { fr := [(0, .row 0), (1, .d (.int .i64) a), (2, .d (.int .i64) b), (3, .d (.int .i64) limit), (8, .d .bool wasBalanced), (9, .d .bool wasPartitioned), (10, .d (.int .i64) length), (11, .d (.int .i64) pivot)], nt := 134, up := [], own := [(0, .row (.int .u32) 26 data)], nx := 1, log := [], ln := 1 }
def q7i_ (a b limit : Int) (wasBalanced wasPartitioned : Bool) (length pivot : Int) (t87 : Bool) (data : List Int) : St := { fr := [(0, .row 0), (1, .d (.int .i64) a), (2, .d (.int .i64) b), (3, .d (.int .i64) limit), (8, .d .bool wasBalanced), (9, .d .bool wasPartitioned), (10, .d (.int .i64) length), (11, .d (.int .i64) pivot), (87, .d .bool t87)], nt := 134, up := [], own := [(0, .row (.int .u32) 26 data)], nx := 1, log := [], ln := 1 }
def q5g_ (M : PDM) (j2 : Int -> Int -> Int -> Bool -> Bool -> Int -> List Int -> Option (As [.sl (.int .u32)])) (self1 : Int -> Int -> Int -> Bool -> Bool -> List Int -> Option (As [.sl (.int .u32)])) (a b limit : Int) (wasBalanced wasPartitioned : Bool) (data : List Int) : Option (As [.sl (.int .u32)]) :=
  if le (Sx.sub .i64 b a) 12 = true then Option.bind (q4q_ (a, b, data, ())) fun (y : List Int × Unit) => some (y.fst, ()) else if eqi limit 0 = true then Option.bind (q68_ (a, b, data, ())) fun (y : List Int × Unit) => some (y.fst, ()) else if (!wasBalanced) = true then Option.bind (q3c_ (a, b, data, ())) fun (y : List Int × Unit) => j2 a b (Sx.sub .i64 limit 1) wasBalanced wasPartitioned (Sx.sub .i64 b a) y.fst else j2 a b limit wasBalanced wasPartitioned (Sx.sub .i64 b a) data
def q7d_ (M : PDM) (j3 : Int -> Int -> Int -> Bool -> Bool -> Int -> Int -> Int -> List Int -> Option (As [.sl (.int .u32)])) (self1 : Int -> Int -> Int -> Bool -> Bool -> List Int -> Option (As [.sl (.int .u32)])) (a b limit : Int) (wasBalanced wasPartitioned : Bool) (length : Int) (data : List Int) : Option (As [.sl (.int .u32)]) :=
  Option.bind (q54_ (a, b, data, ())) fun (y : Int × Int × List Int × Unit) => if eqi y.snd.fst 2 = true then Option.bind (q4t_ (a, b, y.snd.snd.fst, ())) fun (y_1 : List Int × Unit) => j3 a b limit wasBalanced wasPartitioned length (Sx.sub .i64 (Sx.sub .i64 b 1) (Sx.sub .i64 y.fst a)) 1 y_1.fst else j3 a b limit wasBalanced wasPartitioned length y.fst y.snd.fst y.snd.snd.fst
def q7f_ (M : PDM) (j4 : Int -> Int -> Int -> Bool -> Bool -> Int -> Int -> Bool -> List Int -> Option (As [.sl (.int .u32)])) (self1 : Int -> Int -> Int -> Bool -> Bool -> List Int -> Option (As [.sl (.int .u32)])) (a b limit : Int) (wasBalanced wasPartitioned : Bool) (length pivot hint : Int) (data : List Int) : Option (As [.sl (.int .u32)]) :=
  if wasBalanced = true then if wasPartitioned = true then j4 a b limit wasBalanced wasPartitioned length pivot (eqi hint 1) data else j4 a b limit wasBalanced wasPartitioned length pivot false data else j4 a b limit wasBalanced wasPartitioned length pivot false data
def q7a_ (M : PDM) (j5 : Int -> Int -> Int -> Bool -> Bool -> Int -> Int -> List Int -> Option (As [.sl (.int .u32)])) (self1 : Int -> Int -> Int -> Bool -> Bool -> List Int -> Option (As [.sl (.int .u32)])) (a b limit : Int) (wasBalanced wasPartitioned : Bool) (length pivot : Int) (t68 : Bool) (data : List Int) : Option (As [.sl (.int .u32)]) :=
  if t68 = true then Option.bind (q39_ (a, b, data, ())) fun (y : Bool × List Int × Unit) => if y.fst = true then some (y.snd.fst, ()) else j5 a b limit wasBalanced wasPartitioned length pivot y.snd.fst else j5 a b limit wasBalanced wasPartitioned length pivot data
def q7c_ (M : PDM) (j6 : Int -> Int -> Int -> Bool -> Bool -> Int -> Int -> Bool -> List Int -> Option (As [.sl (.int .u32)])) (self1 : Int -> Int -> Int -> Bool -> Bool -> List Int -> Option (As [.sl (.int .u32)])) (a b limit : Int) (wasBalanced wasPartitioned : Bool) (length pivot : Int) (data : List Int) : Option (As [.sl (.int .u32)]) :=
  if gt a 0 = true then Option.bind (at? data (Sx.sub .i64 a 1)) fun (x : Int) => Option.bind (at? data (Sx.sub .i64 a 1)) fun (y : Int) => Option.bind (at? data pivot) fun (x : Int) => Option.bind (at? data pivot) fun (y_1 : Int) => Option.bind (q10_ (y, y_1, ())) fun (y : Bool × Unit) => j6 a b limit wasBalanced wasPartitioned length pivot (!y.fst) data else j6 a b limit wasBalanced wasPartitioned length pivot false data
def q7e_ (M : PDM) (self1 : Int -> Int -> Int -> Bool -> Bool -> List Int -> Option (As [.sl (.int .u32)])) (a b limit : Int) (wasBalanced wasPartitioned : Bool) (length pivot : Int) (t87 : Bool) (data : List Int) : Option (As [.sl (.int .u32)]) :=
  if t87 = true then Option.bind (q4o_ (a, b, pivot, data, ())) fun (y : Int × List Int × Unit) => self1 y.fst b limit wasBalanced wasPartitioned y.snd.fst else Option.bind (q5u_ (a, b, pivot, data, ())) fun (y : Int × Bool × List Int × Unit) => if lt (Sx.sub .i64 y.fst a) (Sx.sub .i64 b y.fst) = true then Option.bind (M (a, y.fst, limit, y.snd.snd.fst, ())) fun (y_1 : List Int × Unit) => self1 (add .i64 y.fst 1) b limit (ge (Sx.sub .i64 y.fst a) (quo .i64 length 8)) y.snd.fst y_1.fst else Option.bind (M (add .i64 y.fst 1, b, limit, y.snd.snd.fst, ())) fun (y_1 : List Int × Unit) => self1 a y.fst limit (ge (Sx.sub .i64 b y.fst) (quo .i64 length 8)) y.snd.fst y_1.fst
def qbj_ (M : PDM) (j1 : Int -> Int -> Int -> Bool -> Bool -> List Int -> Option (As [.sl (.int .u32)])) (data a b : Int) (limit : List Int) : Option (As [.sl (.int .u32)]) :=
  j1 data a b true true limit
def q4a_ (M : PDM) (u1 : Int -> Int -> Int -> Bool -> Bool -> List Int -> Option (As [.sl (.int .u32)])) (a b limit : Int) (wasBalanced wasPartitioned : Bool) (length pivot : Int) (t87 : Bool) (data : List Int) : Option (As [.sl (.int .u32)]) := (q7e_ M) u1 a b limit wasBalanced wasPartitioned length pivot t87 data
def q49_ (M : PDM) (u1 : Int -> Int -> Int -> Bool -> Bool -> List Int -> Option (As [.sl (.int .u32)])) (a b limit : Int) (wasBalanced wasPartitioned : Bool) (length pivot : Int) (data : List Int) : Option (As [.sl (.int .u32)]) := (q7c_ M) ((q4a_ M) u1) u1 a b limit wasBalanced wasPartitioned length pivot data
def q7b_ (M : PDM) (u1 : Int -> Int -> Int -> Bool -> Bool -> List Int -> Option (As [.sl (.int .u32)])) (a b limit : Int) (wasBalanced wasPartitioned : Bool) (length pivot : Int) (t68 : Bool) (data : List Int) : Option (As [.sl (.int .u32)]) := (q7a_ M) ((q49_ M) u1) u1 a b limit wasBalanced wasPartitioned length pivot t68 data
def q5h_ (M : PDM) (u1 : Int -> Int -> Int -> Bool -> Bool -> List Int -> Option (As [.sl (.int .u32)])) (a b limit : Int) (wasBalanced wasPartitioned : Bool) (length pivot hint : Int) (data : List Int) : Option (As [.sl (.int .u32)]) := (q7f_ M) ((q7b_ M) u1) u1 a b limit wasBalanced wasPartitioned length pivot hint data
def q1x_ (M : PDM) (u1 : Int -> Int -> Int -> Bool -> Bool -> List Int -> Option (As [.sl (.int .u32)])) (a b limit : Int) (wasBalanced wasPartitioned : Bool) (length : Int) (data : List Int) : Option (As [.sl (.int .u32)]) := (q7d_ M) ((q5h_ M) u1) u1 a b limit wasBalanced wasPartitioned length data
def q48_ (M : PDM) (a b limit : Int) (wasBalanced wasPartitioned : Bool) (data : List Int) : Option (As [.sl (.int .u32)]) :=
  loopF (fun (self : (Int) × (Int) × (Int) × (Bool) × (Bool) × (List Int) -> Option (As [.sl (.int .u32)])) (s : (Int) × (Int) × (Int) × (Bool) × (Bool) × (List Int)) => (q5g_ M) ((q1x_ M) (fun a b limit wasBalanced wasPartitioned data => self (a, b, limit, wasBalanced, wasPartitioned, data))) (fun a b limit wasBalanced wasPartitioned data => self (a, b, limit, wasBalanced, wasPartitioned, data)) s.1 s.2.1 s.2.2.1 s.2.2.2.1 s.2.2.2.2.1 s.2.2.2.2.2) 18446744073709551616 (a, b, limit, wasBalanced, wasPartitioned, data)
def q9q_ (M : PDM) (x : As [.int .i64, .int .i64, .int .i64, .sl (.int .u32)]) : Option (As [.sl (.int .u32)]) := (qbj_ M) (q48_ M) x.1 x.2.1 x.2.2.1 x.2.2.2.1
theorem qiq_  (M J w1 a b limit wasBalanced wasPartitioned length pivot t87 data) : pfn Tryd.prog (ql_ M) 6 18446744073709551616 (Ev.get qk_) 65 qb_ J 14590 [w1] (q7i_ a b limit wasBalanced wasPartitioned length pivot t87 data) = (q7e_ M) (fun a b limit wasBalanced wasPartitioned data => w1 (qi_ a b limit wasBalanced wasPartitioned data)) a b limit wasBalanced wasPartitioned length pivot t87 data := by kernel_rfl
theorem qir_  (M J w1 a b limit wasBalanced wasPartitioned length pivot data) : pfn Tryd.prog (ql_ M) 6 18446744073709551616 (Ev.get qk_) 65 qb_ J 3647 [w1] (q7k_ a b limit wasBalanced wasPartitioned length pivot data) = (q7c_ M) (fun a b limit wasBalanced wasPartitioned length pivot t87 data => J 14590 [w1] (q7i_ a b limit wasBalanced wasPartitioned length pivot t87 data)) (fun a b limit wasBalanced wasPartitioned data => w1 (qi_ a b limit wasBalanced wasPartitioned data)) a b limit wasBalanced wasPartitioned length pivot data := by kernel_rfl
theorem qio_  (M J w1 a b limit wasBalanced wasPartitioned length pivot t68 data) : pfn Tryd.prog (ql_ M) 6 18446744073709551616 (Ev.get qk_) 65 qb_ J 7294 [w1] (q7g_ a b limit wasBalanced wasPartitioned length pivot t68 data) = (q7a_ M) (fun a b limit wasBalanced wasPartitioned length pivot data => J 3647 [w1] (q7k_ a b limit wasBalanced wasPartitioned length pivot data)) (fun a b limit wasBalanced wasPartitioned data => w1 (qi_ a b limit wasBalanced wasPartitioned data)) a b limit wasBalanced wasPartitioned length pivot t68 data := by kernel_rfl
theorem qik_  (M J w1 a b limit wasBalanced wasPartitioned length pivot hint data) : pfn Tryd.prog (ql_ M) 6 18446744073709551616 (Ev.get qk_) 65 qb_ J 1823 [w1] (q7h_ a b limit wasBalanced wasPartitioned length pivot hint data) = (q7f_ M) (fun a b limit wasBalanced wasPartitioned length pivot t68 data => J 7294 [w1] (q7g_ a b limit wasBalanced wasPartitioned length pivot t68 data)) (fun a b limit wasBalanced wasPartitioned data => w1 (qi_ a b limit wasBalanced wasPartitioned data)) a b limit wasBalanced wasPartitioned length pivot hint data := by kernel_rfl
theorem qig_  (M J w1 a b limit wasBalanced wasPartitioned length data) : pfn Tryd.prog (ql_ M) 6 18446744073709551616 (Ev.get qk_) 65 qb_ J 455 [w1] (q7j_ a b limit wasBalanced wasPartitioned length data) = (q7d_ M) (fun a b limit wasBalanced wasPartitioned length pivot hint data => J 1823 [w1] (q7h_ a b limit wasBalanced wasPartitioned length pivot hint data)) (fun a b limit wasBalanced wasPartitioned data => w1 (qi_ a b limit wasBalanced wasPartitioned data)) a b limit wasBalanced wasPartitioned length data := by kernel_rfl
theorem qic_  (M J w1 a b limit wasBalanced wasPartitioned data) : pfn Tryd.prog (ql_ M) 6 18446744073709551616 (Ev.get qk_) 65 qb_ J 14 [w1] (qi_ a b limit wasBalanced wasPartitioned data) = (q5g_ M) (fun a b limit wasBalanced wasPartitioned length data => J 455 [w1] (q7j_ a b limit wasBalanced wasPartitioned length data)) (fun a b limit wasBalanced wasPartitioned data => w1 (qi_ a b limit wasBalanced wasPartitioned data)) a b limit wasBalanced wasPartitioned data := by kernel_rfl
theorem qih_ (M : PDM) (J : Orc (As [.sl (.int .u32)])) (x : As [.int .i64, .int .i64, .int .i64, .sl (.int .u32)]) : rfn Tryd.prog (ql_ M) 6 18446744073709551616 (Ev.get qk_) 65 qb_ J x = (qbj_ M) (fun a b limit wasBalanced wasPartitioned data => J 14 [] (qi_ a b limit wasBalanced wasPartitioned data)) x.1 x.2.1 x.2.2.1 x.2.2.2.1 := by kernel_rfl
theorem qii_  (M w1 a b limit wasBalanced wasPartitioned length pivot t87 data) : jfn Tryd.prog (ql_ M) 6 18446744073709551616 (Ev.get qk_) 65 qb_ 14590 [w1] (q7i_ a b limit wasBalanced wasPartitioned length pivot t87 data) = (q4a_ M) (fun a b limit wasBalanced wasPartitioned data => w1 (qi_ a b limit wasBalanced wasPartitioned data)) a b limit wasBalanced wasPartitioned length pivot t87 data := by
  rw [qo_ (by decide)]
  rw [(qiq_ M)]
  rfl
theorem qim_  (M w1 a b limit wasBalanced wasPartitioned length pivot data) : jfn Tryd.prog (ql_ M) 6 18446744073709551616 (Ev.get qk_) 65 qb_ 3647 [w1] (q7k_ a b limit wasBalanced wasPartitioned length pivot data) = (q49_ M) (fun a b limit wasBalanced wasPartitioned data => w1 (qi_ a b limit wasBalanced wasPartitioned data)) a b limit wasBalanced wasPartitioned length pivot data := by
  rw [qo_ (by decide)]
  have e6 : (fun a b limit wasBalanced wasPartitioned length pivot t87 data => (jfn Tryd.prog (ql_ M) 6 18446744073709551616 (Ev.get qk_) 65 qb_) 14590 [w1] (q7i_ a b limit wasBalanced wasPartitioned length pivot t87 data)) = (q4a_ M) (fun a b limit wasBalanced wasPartitioned data => w1 (qi_ a b limit wasBalanced wasPartitioned data)) := by funext a b limit wasBalanced wasPartitioned length pivot t87 data; exact (qii_ M) w1 a b limit wasBalanced wasPartitioned length pivot t87 data
  rw [(qir_ M), e6]
  rfl
theorem qis_  (M w1 a b limit wasBalanced wasPartitioned length pivot t68 data) : jfn Tryd.prog (ql_ M) 6 18446744073709551616 (Ev.get qk_) 65 qb_ 7294 [w1] (q7g_ a b limit wasBalanced wasPartitioned length pivot t68 data) = (q7b_ M) (fun a b limit wasBalanced wasPartitioned data => w1 (qi_ a b limit wasBalanced wasPartitioned data)) a b limit wasBalanced wasPartitioned length pivot t68 data := by
  rw [qo_ (by decide)]
  have e5 : (fun a b limit wasBalanced wasPartitioned length pivot data => (jfn Tryd.prog (ql_ M) 6 18446744073709551616 (Ev.get qk_) 65 qb_) 3647 [w1] (q7k_ a b limit wasBalanced wasPartitioned length pivot data)) = (q49_ M) (fun a b limit wasBalanced wasPartitioned data => w1 (qi_ a b limit wasBalanced wasPartitioned data)) := by funext a b limit wasBalanced wasPartitioned length pivot data; exact (qim_ M) w1 a b limit wasBalanced wasPartitioned length pivot data
  rw [(qio_ M), e5]
  rfl
theorem qin_  (M w1 a b limit wasBalanced wasPartitioned length pivot hint data) : jfn Tryd.prog (ql_ M) 6 18446744073709551616 (Ev.get qk_) 65 qb_ 1823 [w1] (q7h_ a b limit wasBalanced wasPartitioned length pivot hint data) = (q5h_ M) (fun a b limit wasBalanced wasPartitioned data => w1 (qi_ a b limit wasBalanced wasPartitioned data)) a b limit wasBalanced wasPartitioned length pivot hint data := by
  rw [qo_ (by decide)]
  have e4 : (fun a b limit wasBalanced wasPartitioned length pivot t68 data => (jfn Tryd.prog (ql_ M) 6 18446744073709551616 (Ev.get qk_) 65 qb_) 7294 [w1] (q7g_ a b limit wasBalanced wasPartitioned length pivot t68 data)) = (q7b_ M) (fun a b limit wasBalanced wasPartitioned data => w1 (qi_ a b limit wasBalanced wasPartitioned data)) := by funext a b limit wasBalanced wasPartitioned length pivot t68 data; exact (qis_ M) w1 a b limit wasBalanced wasPartitioned length pivot t68 data
  rw [(qik_ M), e4]
  rfl
theorem qil_  (M w1 a b limit wasBalanced wasPartitioned length data) : jfn Tryd.prog (ql_ M) 6 18446744073709551616 (Ev.get qk_) 65 qb_ 455 [w1] (q7j_ a b limit wasBalanced wasPartitioned length data) = (q1x_ M) (fun a b limit wasBalanced wasPartitioned data => w1 (qi_ a b limit wasBalanced wasPartitioned data)) a b limit wasBalanced wasPartitioned length data := by
  rw [qo_ (by decide)]
  have e3 : (fun a b limit wasBalanced wasPartitioned length pivot hint data => (jfn Tryd.prog (ql_ M) 6 18446744073709551616 (Ev.get qk_) 65 qb_) 1823 [w1] (q7h_ a b limit wasBalanced wasPartitioned length pivot hint data)) = (q5h_ M) (fun a b limit wasBalanced wasPartitioned data => w1 (qi_ a b limit wasBalanced wasPartitioned data)) := by funext a b limit wasBalanced wasPartitioned length pivot hint data; exact (qin_ M) w1 a b limit wasBalanced wasPartitioned length pivot hint data
  rw [(qig_ M), e3]
  rfl
theorem qij_  (M a b limit wasBalanced wasPartitioned data) : jfn Tryd.prog (ql_ M) 6 18446744073709551616 (Ev.get qk_) 65 qb_ 14 [] (qi_ a b limit wasBalanced wasPartitioned data) = (q48_ M) a b limit wasBalanced wasPartitioned data := by
  rw [qo_ (by decide)]
  rw [q2u_ (by kernel_rfl)]
  refine q29_ (σ := (Int) × (Int) × (Int) × (Bool) × (Bool) × (List Int)) (mk := fun s => qi_ s.1 s.2.1 s.2.2.1 s.2.2.2.1 s.2.2.2.2.1 s.2.2.2.2.2) (fun w1 s => ?_) 18446744073709551616 (a, b, limit, wasBalanced, wasPartitioned, data)
  have e2 : (fun a b limit wasBalanced wasPartitioned length data => (jfn Tryd.prog (ql_ M) 6 18446744073709551616 (Ev.get qk_) 65 qb_) 455 [w1] (q7j_ a b limit wasBalanced wasPartitioned length data)) = (q1x_ M) (fun a b limit wasBalanced wasPartitioned data => w1 (qi_ a b limit wasBalanced wasPartitioned data)) := by funext a b limit wasBalanced wasPartitioned length data; exact (qil_ M) w1 a b limit wasBalanced wasPartitioned length data
  refine ((qic_ M) _ w1 s.1 s.2.1 s.2.2.1 s.2.2.2.1 s.2.2.2.2.1 s.2.2.2.2.2).trans ?_
  rw [e2]
theorem qiz_ (M : PDM) (x : As [.int .i64, .int .i64, .int .i64, .sl (.int .u32)]) : evT Tryd.prog (ql_ M) 6 18446744073709551616 (Ev.get qk_) 65 qb_ x = (q9q_ M) x := by
  have e1 : (fun a b limit wasBalanced wasPartitioned data => (jfn Tryd.prog (ql_ M) 6 18446744073709551616 (Ev.get qk_) 65 qb_) 14 [] (qi_ a b limit wasBalanced wasPartitioned data)) = (q48_ M) := by funext a b limit wasBalanced wasPartitioned data; exact (qij_ M) a b limit wasBalanced wasPartitioned data
  rw [q56_, (qih_ M), e1]
  rfl
theorem qid_ (M : PDM) (hM : CtOk Tryd.prog (fun _ => True) 65 ⟨qb_, M⟩) : CtOk Tryd.prog (fun _ => True) 65 ⟨qb_, q9q_ M⟩ := Ev.ct_of_ev (Ev.env_cons q6i_ (Ev.env_cons qf4_ (Ev.env_cons qhm_ (Ev.env_cons qf1_ (Ev.env_cons qg5_ (Ev.env_cons qfm_ (Ev.env_cons qc9_ (Ev.env_cons qek_ (Ev.env_cons qh2_ (Ev.env_cons hM Ev.env_nil)))))))))) (qiz_ M)
end Go.Proofs.Lx
end
section
set_option maxRecDepth 100000
namespace Go.Proofs.Lx
open Go Ev Sx
def q2r_ (M : PDM) := (fun (self : (Int) × (Int) × (Int) × (Bool) × (Bool) × (List Int) -> Option (As [.sl (.int .u32)])) (s : (Int) × (Int) × (Int) × (Bool) × (Bool) × (List Int)) => (q5g_ M) ((q1x_ M) (fun a b limit wasBalanced wasPartitioned data => self (a, b, limit, wasBalanced, wasPartitioned, data))) (fun a b limit wasBalanced wasPartitioned data => self (a, b, limit, wasBalanced, wasPartitioned, data)) s.1 s.2.1 s.2.2.1 s.2.2.2.1 s.2.2.2.2.1 s.2.2.2.2.2)
theorem qgn_ (M : PDM) (self : (Int) × (Int) × (Int) × (Bool) × (Bool) × (List Int) -> Option (As [.sl (.int .u32)])) (a b limit : Int) (wasBalanced wasPartitioned : Bool) (data : List Int) : q2r_ M self (a, b, limit, wasBalanced, wasPartitioned, data) = (q5g_ M) ((q1x_ M) (fun a b limit wasBalanced wasPartitioned data => self (a, b, limit, wasBalanced, wasPartitioned, data))) (fun a b limit wasBalanced wasPartitioned data => self (a, b, limit, wasBalanced, wasPartitioned, data)) a b limit wasBalanced wasPartitioned data := rfl
theorem qas_ (M : PDM) (a b limit : Int) (wasBalanced wasPartitioned : Bool) (data : List Int) : q48_ M a b limit wasBalanced wasPartitioned data = loopF (q2r_ M) 18446744073709551616 (a, b, limit, wasBalanced, wasPartitioned, data) := rfl
end Go.Proofs.Lx
end
