/- Proved in the last of these 12 parts (this is part 7): the law RecipeLines of chapter 14 returns true at every recipe and every number of lines ahead. Conditions: those of the given statement, and no others. -/
import Derived.Test.YtnamnibaedolaaaGreatDoorParte
import Derived.Test.YtnamnibaedolaaaGreatDoorPartf
import Derived.Test.YtnamnibaedolaaaGreatDoorProg
set_option linter.unusedVariables false
set_option linter.unusedSimpArgs false
set_option linter.unusedSectionVars false
section
open Go Go.Proofs Ev Sx
set_option maxRecDepth 100000
namespace Go.Proofs.Lx
def qjr_ (j2 : List UInt8 -> Bool -> Int -> Int -> Option (As [.pr (.int .i64) (.int .u8), .bool])) (s : List UInt8) (below : Bool) (t2 t2_2 : Int) : Option (As [.pr (.int .i64) (.int .u8), .bool]) :=
  if below = true then Option.bind (cut s 1 (Int.ofNat (List.length s))) fun (y : List UInt8) => j2 y below t2 t2_2 else j2 s below t2 t2_2
def qjb_ (j3 : List UInt8 -> Bool -> Int -> Bool -> Int -> Int -> Int -> Int -> Int -> Option (As [.pr (.int .i64) (.int .u8), .bool])) (s : List UInt8) (below : Bool) (t2 t2_2 : Int) : Option (As [.pr (.int .i64) (.int .u8), .bool]) :=
  j3 s below 0 false 0 0 0 t2 t2_2
def qki_ (j4 : List UInt8 -> Bool -> Int -> Bool -> Int -> Int -> Int -> Bool -> Int -> Int -> Option (As [.pr (.int .i64) (.int .u8), .bool])) (j5 : Bool -> Int -> Bool -> Int -> Int -> Int -> Int -> Option (As [.pr (.int .i64) (.int .u8), .bool])) (self3 : List UInt8 -> Bool -> Int -> Bool -> Int -> Int -> Int -> Int -> Int -> Option (As [.pr (.int .i64) (.int .u8), .bool])) (s : List UInt8) (below : Bool) (n : Int) (point : Bool) (behind ahead i t2 t2_2 : Int) : Option (As [.pr (.int .i64) (.int .u8), .bool]) :=
  if lt i (Int.ofNat (List.length s)) = true then Option.bind (at? s i) fun (c : UInt8) => if eqi (Int.ofNat (UInt8.toNat c)) 46 = true then if (!point) = true then j4 s below n point behind ahead i (gt ahead 0) t2 t2_2 else j4 s below n point behind ahead i false t2 t2_2 else j4 s below n point behind ahead i false t2 t2_2 else j5 below n point behind ahead t2 t2_2
def qk4_ (j6 : List UInt8 -> Bool -> Int -> Bool -> Int -> Int -> Int -> Int -> Int -> Option (As [.pr (.int .i64) (.int .u8), .bool])) (j7 : List UInt8 -> Bool -> Int -> Bool -> Int -> Int -> Int -> Bool -> Int -> Int -> Option (As [.pr (.int .i64) (.int .u8), .bool])) (self3 : List UInt8 -> Bool -> Int -> Bool -> Int -> Int -> Int -> Int -> Int -> Option (As [.pr (.int .i64) (.int .u8), .bool])) (s : List UInt8) (below : Bool) (n : Int) (point : Bool) (behind ahead i : Int) (t38 : Bool) (t2 t2_2 : Int) : Option (As [.pr (.int .i64) (.int .u8), .bool]) :=
  if t38 = true then j6 s below n true behind ahead i t2 t2_2 else Option.bind (at? s i) fun (c : UInt8) => if lt (Int.ofNat (UInt8.toNat c)) 48 = true then j7 s below n point behind ahead i true t2 t2_2 else Option.bind (at? s i) fun (c : UInt8) => if gt (Int.ofNat (UInt8.toNat c)) 57 = true then j7 s below n point behind ahead i true t2 t2_2 else if eqi ahead 1 = true then Option.bind (at? s 0) fun (c : UInt8) => if eqi (Int.ofNat (UInt8.toNat c)) 48 = true then j7 s below n point behind ahead i (!point) t2 t2_2 else j7 s below n point behind ahead i false t2 t2_2 else j7 s below n point behind ahead i false t2 t2_2
def qjw_ (j8 : Bool -> Int -> Int -> Bool -> Int -> Int -> Option (As [.pr (.int .i64) (.int .u8), .bool])) (below : Bool) (n : Int) (point : Bool) (behind ahead t2 t2_2 : Int) : Option (As [.pr (.int .i64) (.int .u8), .bool]) :=
  if eqi ahead 0 = true then j8 below n behind true t2 t2_2 else if point = true then if eqi behind 0 = true then j8 below n behind true t2 t2_2 else j8 below n behind (gt behind 6) t2 t2_2 else j8 below n behind (gt behind 6) t2 t2_2
def qil_ (self3 : List UInt8 -> Bool -> Int -> Bool -> Int -> Int -> Int -> Int -> Int -> Option (As [.pr (.int .i64) (.int .u8), .bool])) (s : List UInt8) (below : Bool) (n : Int) (point : Bool) (behind ahead i t2 t2_2 : Int) : Option (As [.pr (.int .i64) (.int .u8), .bool]) :=
  self3 s below n point behind ahead (add .i64 i 1) t2 t2_2
def qkg_ (j6 self3 : List UInt8 -> Bool -> Int -> Bool -> Int -> Int -> Int -> Int -> Int -> Option (As [.pr (.int .i64) (.int .u8), .bool])) (s : List UInt8) (below : Bool) (n : Int) (point : Bool) (behind ahead i : Int) (t61 : Bool) (t2 t2_2 : Int) : Option (As [.pr (.int .i64) (.int .u8), .bool]) :=
  if t61 = true then some ((0, 0), false, ()) else if gt n 100000000000000000 = true then some ((0, 0), false, ()) else Option.bind (at? s i) fun (c : UInt8) => if point = true then j6 s below (add .i64 (mul .i64 n 10) (cvt .i64 (Sx.sub .u8 (Int.ofNat (UInt8.toNat c)) 48))) point (add .i64 behind 1) ahead i t2 t2_2 else j6 s below (add .i64 (mul .i64 n 10) (cvt .i64 (Sx.sub .u8 (Int.ofNat (UInt8.toNat c)) 48))) point behind (add .i64 ahead 1) i t2 t2_2
def qj0_ (j9 : Int -> Int -> Int -> Int -> Option (As [.pr (.int .i64) (.int .u8), .bool])) (below : Bool) (n behind : Int) (t91 : Bool) (t2 t2_2 : Int) : Option (As [.pr (.int .i64) (.int .u8), .bool]) :=
  if t91 = true then some ((0, 0), false, ()) else if below = true then j9 (Sx.neg .i64 n) behind t2 t2_2 else j9 n behind t2 t2_2
def qhz_ (n behind t2 t2_2 : Int) : Option (As [.pr (.int .i64) (.int .u8), .bool]) :=
  Option.bind (qoe_ (n, behind, ())) fun (y : (Int × Int) × Bool × Unit) => some (y.1, y.2.1, ())
def qkl_ (j1 : List UInt8 -> Bool -> Int -> Int -> Option (As [.pr (.int .i64) (.int .u8), .bool])) (s : List UInt8) : Option (As [.pr (.int .i64) (.int .u8), .bool]) :=
  if gt (Int.ofNat (List.length s)) 0 = true then Option.bind (at? s 0) fun (c : UInt8) => j1 s (eqi (Int.ofNat (UInt8.toNat c)) 45) 0 0 else j1 s false 0 0
def qdm_ (u3 : List UInt8 -> Bool -> Int -> Bool -> Int -> Int -> Int -> Int -> Int -> Option (As [.pr (.int .i64) (.int .u8), .bool])) (s : List UInt8) (below : Bool) (n : Int) (point : Bool) (behind ahead i t2 t2_2 : Int) : Option (As [.pr (.int .i64) (.int .u8), .bool]) := qil_ u3 s below n point behind ahead i t2 t2_2
def qkq_ (u3 : List UInt8 -> Bool -> Int -> Bool -> Int -> Int -> Int -> Int -> Int -> Option (As [.pr (.int .i64) (.int .u8), .bool])) (s : List UInt8) (below : Bool) (n : Int) (point : Bool) (behind ahead i : Int) (t61 : Bool) (t2 t2_2 : Int) : Option (As [.pr (.int .i64) (.int .u8), .bool]) := qkg_ (qdm_ u3) u3 s below n point behind ahead i t61 t2 t2_2
def qj2_ (u3 : List UInt8 -> Bool -> Int -> Bool -> Int -> Int -> Int -> Int -> Int -> Option (As [.pr (.int .i64) (.int .u8), .bool])) (s : List UInt8) (below : Bool) (n : Int) (point : Bool) (behind ahead i : Int) (t38 : Bool) (t2 t2_2 : Int) : Option (As [.pr (.int .i64) (.int .u8), .bool]) := qk4_ (qdm_ u3) (qkq_ u3) u3 s below n point behind ahead i t38 t2 t2_2
def qkn_ (n behind t2 t2_2 : Int) : Option (As [.pr (.int .i64) (.int .u8), .bool]) := qhz_ n behind t2 t2_2
def qin_ (below : Bool) (n behind : Int) (t91 : Bool) (t2 t2_2 : Int) : Option (As [.pr (.int .i64) (.int .u8), .bool]) := qj0_ (qkn_) below n behind t91 t2 t2_2
def qkf_ (below : Bool) (n : Int) (point : Bool) (behind ahead t2 t2_2 : Int) : Option (As [.pr (.int .i64) (.int .u8), .bool]) := qjw_ (qin_) below n point behind ahead t2 t2_2
def qkj_ (s : List UInt8) (below : Bool) (n : Int) (point : Bool) (behind ahead i t2 t2_2 : Int) : Option (As [.pr (.int .i64) (.int .u8), .bool]) :=
  loopF (fun (self : (List UInt8) × (Bool) × (Int) × (Bool) × (Int) × (Int) × (Int) × (Int) × (Int) -> Option (As [.pr (.int .i64) (.int .u8), .bool])) (s : (List UInt8) × (Bool) × (Int) × (Bool) × (Int) × (Int) × (Int) × (Int) × (Int)) => qki_ (qj2_ (fun s below n point behind ahead i t2 t2_2 => self (s, below, n, point, behind, ahead, i, t2, t2_2))) (qkf_) (fun s below n point behind ahead i t2 t2_2 => self (s, below, n, point, behind, ahead, i, t2, t2_2)) s.1 s.2.1 s.2.2.1 s.2.2.2.1 s.2.2.2.2.1 s.2.2.2.2.2.1 s.2.2.2.2.2.2.1 s.2.2.2.2.2.2.2.1 s.2.2.2.2.2.2.2.2) 18446744073709551616 (s, below, n, point, behind, ahead, i, t2, t2_2)
def qi3_ (s : List UInt8) (below : Bool) (t2 t2_2 : Int) : Option (As [.pr (.int .i64) (.int .u8), .bool]) := qjb_ (qkj_) s below t2 t2_2
def qi9_ (s : List UInt8) (below : Bool) (t2 t2_2 : Int) : Option (As [.pr (.int .i64) (.int .u8), .bool]) := qjr_ (qi3_) s below t2 t2_2
def qnr_ (x : As [.str]) : Option (As [.pr (.int .i64) (.int .u8), .bool]) := qkl_ qi9_ x.1
def qmo_ (j2 : List UInt8 -> Int -> Bool -> Int -> Bool -> Int -> Int -> List QAT4 -> Option (As [.sl QAT1, .pr (.int .i64) (.int .i64)])) (j3 : Int -> Int -> List QAT4 -> Option (As [.sl QAT1, .pr (.int .i64) (.int .i64)])) (self1 : List UInt8 -> Int -> Bool -> Int -> Int -> Int -> List QAT4 -> Option (As [.sl QAT1, .pr (.int .i64) (.int .i64)])) (text : List UInt8) (line : Int) (some' : Bool) (i t3 t3_2 : Int) (out : List QAT4) : Option (As [.sl QAT1, .pr (.int .i64) (.int .i64)]) :=
  if le i (Int.ofNat (List.length text)) = true then if eqi i (Int.ofNat (List.length text)) = true then j2 text line some' i true t3 t3_2 out else Option.bind (at? text i) fun (c : UInt8) => j2 text line some' i (eqi (Int.ofNat (UInt8.toNat c)) 10) t3 t3_2 out else j3 t3 t3_2 out
def qmu_ (j4 : List UInt8 -> Int -> Int -> Int -> Int -> List QAT4 -> Option (As [.sl QAT1, .pr (.int .i64) (.int .i64)])) (j5 : List UInt8 -> Int -> Bool -> Int -> Int -> Int -> List QAT4 -> Option (As [.sl QAT1, .pr (.int .i64) (.int .i64)])) (j6 : List UInt8 -> Int -> Bool -> Int -> Int -> Int -> Int -> List QAT4 -> Option (As [.sl QAT1, .pr (.int .i64) (.int .i64)])) (self1 : List UInt8 -> Int -> Bool -> Int -> Int -> Int -> List QAT4 -> Option (As [.sl QAT1, .pr (.int .i64) (.int .i64)])) (text : List UInt8) (line : Int) (some' : Bool) (i : Int) (t31 : Bool) (t3 t3_2 : Int) (out : List QAT4) : Option (As [.sl QAT1, .pr (.int .i64) (.int .i64)]) :=
  if t31 = true then if some' = true then need (small (List.length out + Nat.succ 0)) (j4 text line i t3 t3_2 (out ++ [(4, [], (0, 0), line)])) else j4 text line i t3 t3_2 out else Option.bind (at? text i) fun (c : UInt8) => if eqi (Int.ofNat (UInt8.toNat c)) 35 = true then j5 text line some' i t3 t3_2 out else j6 text line some' i (Int.ofNat (UInt8.toNat c)) t3 t3_2 out
def qn7_ (t3 t3_2 : Int) (out : List QAT4) : Option (As [.sl QAT1, .pr (.int .i64) (.int .i64)]) :=
  some (out, (0, 0), ())
def qmj_ (j7 self1 : List UInt8 -> Int -> Bool -> Int -> Int -> Int -> List QAT4 -> Option (As [.sl QAT1, .pr (.int .i64) (.int .i64)])) (text : List UInt8) (line i t3 t3_2 : Int) (out : List QAT4) : Option (As [.sl QAT1, .pr (.int .i64) (.int .i64)]) :=
  j7 text (add .i64 line 1) false i t3 t3_2 out
def qmq_ (j8 : List UInt8 -> Int -> Bool -> Int -> Bool -> Int -> Int -> List QAT4 -> Option (As [.sl QAT1, .pr (.int .i64) (.int .i64)])) (self1 self5 : List UInt8 -> Int -> Bool -> Int -> Int -> Int -> List QAT4 -> Option (As [.sl QAT1, .pr (.int .i64) (.int .i64)])) (text : List UInt8) (line : Int) (some' : Bool) (i t3 t3_2 : Int) (out : List QAT4) : Option (As [.sl QAT1, .pr (.int .i64) (.int .i64)]) :=
  if lt (add .i64 i 1) (Int.ofNat (List.length text)) = true then Option.bind (at? text (add .i64 i 1)) fun (c : UInt8) => j8 text line some' i (nei (Int.ofNat (UInt8.toNat c)) 10) t3 t3_2 out else j8 text line some' i false t3 t3_2 out
def qn3_ (j9 : List UInt8 -> Int -> Bool -> Int -> Int -> Bool -> Int -> Int -> List QAT4 -> Option (As [.sl QAT1, .pr (.int .i64) (.int .i64)])) (self1 : List UInt8 -> Int -> Bool -> Int -> Int -> Int -> List QAT4 -> Option (As [.sl QAT1, .pr (.int .i64) (.int .i64)])) (text : List UInt8) (line : Int) (some' : Bool) (i c t3 t3_2 : Int) (out : List QAT4) : Option (As [.sl QAT1, .pr (.int .i64) (.int .i64)]) :=
  if eqi c 9 = true then j9 text line some' i c true t3 t3_2 out else if eqi c 13 = true then j9 text line some' i c true t3 t3_2 out else j9 text line some' i c (eqi c 32) t3 t3_2 out
def qmv_ (self1 : List UInt8 -> Int -> Bool -> Int -> Int -> Int -> List QAT4 -> Option (As [.sl QAT1, .pr (.int .i64) (.int .i64)])) (text : List UInt8) (line : Int) (some' : Bool) (i t3 t3_2 : Int) (out : List QAT4) : Option (As [.sl QAT1, .pr (.int .i64) (.int .i64)]) :=
  self1 text line some' (add .i64 i 1) t3 t3_2 out
def qn5_ (j7 self1 self5 : List UInt8 -> Int -> Bool -> Int -> Int -> Int -> List QAT4 -> Option (As [.sl QAT1, .pr (.int .i64) (.int .i64)])) (text : List UInt8) (line : Int) (some' : Bool) (i : Int) (t56 : Bool) (t3 t3_2 : Int) (out : List QAT4) : Option (As [.sl QAT1, .pr (.int .i64) (.int .i64)]) :=
  if t56 = true then self5 text line some' (add .i64 i 1) t3 t3_2 out else j7 text line some' i t3 t3_2 out
def qmx_ (j7 : List UInt8 -> Int -> Bool -> Int -> Int -> Int -> List QAT4 -> Option (As [.sl QAT1, .pr (.int .i64) (.int .i64)])) (j10 : List UInt8 -> Int -> Int -> Int -> Int -> List QAT4 -> Int -> List UInt8 -> Int -> Int -> Int -> Option (As [.sl QAT1, .pr (.int .i64) (.int .i64)])) (j11 : List UInt8 -> Int -> Int -> Int -> Bool -> Int -> Int -> List QAT4 -> Int -> List UInt8 -> Int -> Int -> Int -> Option (As [.sl QAT1, .pr (.int .i64) (.int .i64)])) (self1 : List UInt8 -> Int -> Bool -> Int -> Int -> Int -> List QAT4 -> Option (As [.sl QAT1, .pr (.int .i64) (.int .i64)])) (text : List UInt8) (line : Int) (some' : Bool) (i c : Int) (t68 : Bool) (t3 t3_2 : Int) (out : List QAT4) : Option (As [.sl QAT1, .pr (.int .i64) (.int .i64)]) :=
  if t68 = true then j7 text line some' i t3 t3_2 out else Option.bind (qfd_ (c, ())) fun (y : Bool × Unit) => if y.1 = true then j10 text line i t3 t3_2 out 1 [] 0 0 line else Option.bind (qdl_ (c, ())) fun (y : Bool × Unit) => if y.1 = true then j11 text line i c true t3 t3_2 out 0 [] 0 0 line else j11 text line i c (eqi c 45) t3 t3_2 out 0 [] 0 0 line
def ql6_ (j12 : List UInt8 -> Int -> Int -> Int -> Int -> List QAT4 -> Int -> List UInt8 -> Int -> Int -> Int -> Option (As [.sl QAT1, .pr (.int .i64) (.int .i64)])) (self1 : List UInt8 -> Int -> Bool -> Int -> Int -> Int -> List QAT4 -> Option (As [.sl QAT1, .pr (.int .i64) (.int .i64)])) (text : List UInt8) (line i t3 t3_2 : Int) (out : List QAT4) (t : Int) (t_2 : List UInt8) (t_3 t_4 t_5 : Int) : Option (As [.sl QAT1, .pr (.int .i64) (.int .i64)]) :=
  Option.bind (cut text i (add .i64 i 1)) fun (y : List UInt8) => j12 text line i t3 t3_2 out t y t_3 t_4 t_5
def qm6_ (j10 : List UInt8 -> Int -> Int -> Int -> Int -> List QAT4 -> Int -> List UInt8 -> Int -> Int -> Int -> Option (As [.sl QAT1, .pr (.int .i64) (.int .i64)])) (self1 : List UInt8 -> Int -> Bool -> Int -> Int -> Int -> List QAT4 -> Option (As [.sl QAT1, .pr (.int .i64) (.int .i64)])) (text : List UInt8) (line i c : Int) (t79 : Bool) (t3 t3_2 : Int) (out : List QAT4) (t : Int) (t_2 : List UInt8) (t_3 t_4 t_5 : Int) : Option (As [.sl QAT1, .pr (.int .i64) (.int .i64)]) :=
  if t79 = true then j10 text line i t3 t3_2 out 2 t_2 t_3 t_4 t_5 else if eqi c 61 = true then j10 text line i t3 t3_2 out 3 t_2 t_3 t_4 t_5 else some ([], (131, line), ())
def qlk_ (j13 : List UInt8 -> Int -> Int -> Bool -> Int -> Int -> List QAT4 -> Int -> List UInt8 -> Int -> Int -> Int -> Option (As [.sl QAT1, .pr (.int .i64) (.int .i64)])) (self1 : List UInt8 -> Int -> Bool -> Int -> Int -> Int -> List QAT4 -> Option (As [.sl QAT1, .pr (.int .i64) (.int .i64)])) (self12 : List UInt8 -> Int -> Int -> Int -> Int -> List QAT4 -> Int -> List UInt8 -> Int -> Int -> Int -> Option (As [.sl QAT1, .pr (.int .i64) (.int .i64)])) (text : List UInt8) (line i t3 t3_2 : Int) (out : List QAT4) (t : Int) (t_2 : List UInt8) (t_3 t_4 t_5 : Int) : Option (As [.sl QAT1, .pr (.int .i64) (.int .i64)]) :=
  if nei t 3 = true then if lt (add .i64 i 1) (Int.ofNat (List.length text)) = true then Option.bind (at? text (add .i64 i 1)) fun (c : UInt8) => Option.bind (qo4_ (t, Int.ofNat (UInt8.toNat c), ())) fun (y : Bool × Unit) => j13 text line i y.1 t3 t3_2 out t t_2 t_3 t_4 t_5 else j13 text line i false t3 t3_2 out t t_2 t_3 t_4 t_5 else j13 text line i false t3 t3_2 out t t_2 t_3 t_4 t_5
def qmb_ (j14 : List UInt8 -> Int -> Int -> Int -> Int -> List QAT4 -> Int -> List UInt8 -> Int -> Int -> Int -> Option (As [.sl QAT1, .pr (.int .i64) (.int .i64)])) (self1 : List UInt8 -> Int -> Bool -> Int -> Int -> Int -> List QAT4 -> Option (As [.sl QAT1, .pr (.int .i64) (.int .i64)])) (self12 : List UInt8 -> Int -> Int -> Int -> Int -> List QAT4 -> Int -> List UInt8 -> Int -> Int -> Int -> Option (As [.sl QAT1, .pr (.int .i64) (.int .i64)])) (text : List UInt8) (line i : Int) (t110 : Bool) (t3 t3_2 : Int) (out : List QAT4) (t : Int) (t_2 : List UInt8) (t_3 t_4 t_5 : Int) : Option (As [.sl QAT1, .pr (.int .i64) (.int .i64)]) :=
  if t110 = true then Option.bind (cut text (add .i64 i 1) (add .i64 (add .i64 i 1) 1)) fun (y : List UInt8) => need (small (List.length t_2 + List.length y)) (self12 text line (add .i64 i 1) t3 t3_2 out t (t_2 ++ y) t_3 t_4 t_5) else j14 text line i t3 t3_2 out t t_2 t_3 t_4 t_5
def qll_ (j15 : List UInt8 -> Int -> Int -> Bool -> Int -> Int -> List QAT4 -> Int -> List UInt8 -> Int -> Int -> Int -> Option (As [.sl QAT1, .pr (.int .i64) (.int .i64)])) (self1 : List UInt8 -> Int -> Bool -> Int -> Int -> Int -> List QAT4 -> Option (As [.sl QAT1, .pr (.int .i64) (.int .i64)])) (text : List UInt8) (line i t3 t3_2 : Int) (out : List QAT4) (t : Int) (t_2 : List UInt8) (t_3 t_4 t_5 : Int) : Option (As [.sl QAT1, .pr (.int .i64) (.int .i64)]) :=
  if eqi t 1 = true then j15 text line i (gt (Int.ofNat (List.length t_2)) 20) t3 t3_2 out t t_2 t_3 t_4 t_5 else j15 text line i false t3 t3_2 out t t_2 t_3 t_4 t_5
def ql9_ (j16 : List UInt8 -> Int -> Int -> Int -> Int -> List QAT4 -> Int -> List UInt8 -> Int -> Int -> Int -> Option (As [.sl QAT1, .pr (.int .i64) (.int .i64)])) (self1 : List UInt8 -> Int -> Bool -> Int -> Int -> Int -> List QAT4 -> Option (As [.sl QAT1, .pr (.int .i64) (.int .i64)])) (text : List UInt8) (line i : Int) (t130 : Bool) (t3 t3_2 : Int) (out : List QAT4) (t : Int) (t_2 : List UInt8) (t_3 t_4 t_5 : Int) : Option (As [.sl QAT1, .pr (.int .i64) (.int .i64)]) :=
  if t130 = true then some ([], (133, line), ()) else if eqi t 2 = true then Option.bind (qnr_ (t_2, ())) fun (y : (Int × Int) × Bool × Unit) => if (!y.2.1) = true then some ([], (132, line), ()) else j16 text line i t3 t3_2 out t t_2 y.1.1 y.1.2 t_5 else j16 text line i t3 t3_2 out t t_2 t_3 t_4 t_5
def qlz_ (j7 self1 : List UInt8 -> Int -> Bool -> Int -> Int -> Int -> List QAT4 -> Option (As [.sl QAT1, .pr (.int .i64) (.int .i64)])) (text : List UInt8) (line i t3 t3_2 : Int) (out : List QAT4) (t : Int) (t_2 : List UInt8) (t_3 t_4 t_5 : Int) : Option (As [.sl QAT1, .pr (.int .i64) (.int .i64)]) :=
  need (small (List.length out + Nat.succ 0)) (j7 text line true i t3 t3_2 (out ++ [(t, t_2, (t_3, t_4), t_5)]))
def qmp_ (j1 : List UInt8 -> Int -> Bool -> Int -> Int -> Int -> List QAT4 -> Option (As [.sl QAT1, .pr (.int .i64) (.int .i64)])) (text : List UInt8) : Option (As [.sl QAT1, .pr (.int .i64) (.int .i64)]) :=
  if gt (Int.ofNat (List.length text)) 8192 = true then some ([], (130, 0), ()) else j1 text 1 false 0 0 0 []
def qbe_ (u1 : List UInt8 -> Int -> Bool -> Int -> Int -> Int -> List QAT4 -> Option (As [.sl QAT1, .pr (.int .i64) (.int .i64)])) (text : List UInt8) (line : Int) (some' : Bool) (i t3 t3_2 : Int) (out : List QAT4) : Option (As [.sl QAT1, .pr (.int .i64) (.int .i64)]) := qmv_ u1 text line some' i t3 t3_2 out
def qnb_ (u1 : List UInt8 -> Int -> Bool -> Int -> Int -> Int -> List QAT4 -> Option (As [.sl QAT1, .pr (.int .i64) (.int .i64)])) (text : List UInt8) (line i t3 t3_2 : Int) (out : List QAT4) : Option (As [.sl QAT1, .pr (.int .i64) (.int .i64)]) := qmj_ (qbe_ u1) u1 text line i t3 t3_2 out
def qn4_ (u1 u5 : List UInt8 -> Int -> Bool -> Int -> Int -> Int -> List QAT4 -> Option (As [.sl QAT1, .pr (.int .i64) (.int .i64)])) (text : List UInt8) (line : Int) (some' : Bool) (i : Int) (t56 : Bool) (t3 t3_2 : Int) (out : List QAT4) : Option (As [.sl QAT1, .pr (.int .i64) (.int .i64)]) := qn5_ (qbe_ u1) u1 u5 text line some' i t56 t3 t3_2 out
def qmi_ (u1 : List UInt8 -> Int -> Bool -> Int -> Int -> Int -> List QAT4 -> Option (As [.sl QAT1, .pr (.int .i64) (.int .i64)])) (text : List UInt8) (line : Int) (some' : Bool) (i t3 t3_2 : Int) (out : List QAT4) : Option (As [.sl QAT1, .pr (.int .i64) (.int .i64)]) :=
  loopF (fun (self : (List UInt8) × (Int) × (Bool) × (Int) × (Int) × (Int) × (List QAT4) -> Option (As [.sl QAT1, .pr (.int .i64) (.int .i64)])) (s : (List UInt8) × (Int) × (Bool) × (Int) × (Int) × (Int) × (List QAT4)) => qmq_ (qn4_ u1 (fun text line some' i t3 t3_2 out => self (text, line, some', i, t3, t3_2, out))) u1 (fun text line some' i t3 t3_2 out => self (text, line, some', i, t3, t3_2, out)) s.1 s.2.1 s.2.2.1 s.2.2.2.1 s.2.2.2.2.1 s.2.2.2.2.2.1 s.2.2.2.2.2.2) 18446744073709551616 (text, line, some', i, t3, t3_2, out)
def ql4_ (u1 : List UInt8 -> Int -> Bool -> Int -> Int -> Int -> List QAT4 -> Option (As [.sl QAT1, .pr (.int .i64) (.int .i64)])) (text : List UInt8) (line i t3 t3_2 : Int) (out : List QAT4) (t : Int) (t_2 : List UInt8) (t_3 t_4 t_5 : Int) : Option (As [.sl QAT1, .pr (.int .i64) (.int .i64)]) := qlz_ (qbe_ u1) u1 text line i t3 t3_2 out t t_2 t_3 t_4 t_5
def qkz_ (u1 : List UInt8 -> Int -> Bool -> Int -> Int -> Int -> List QAT4 -> Option (As [.sl QAT1, .pr (.int .i64) (.int .i64)])) (text : List UInt8) (line i : Int) (t130 : Bool) (t3 t3_2 : Int) (out : List QAT4) (t : Int) (t_2 : List UInt8) (t_3 t_4 t_5 : Int) : Option (As [.sl QAT1, .pr (.int .i64) (.int .i64)]) := ql9_ (ql4_ u1) u1 text line i t130 t3 t3_2 out t t_2 t_3 t_4 t_5
def qky_ (u1 : List UInt8 -> Int -> Bool -> Int -> Int -> Int -> List QAT4 -> Option (As [.sl QAT1, .pr (.int .i64) (.int .i64)])) (text : List UInt8) (line i t3 t3_2 : Int) (out : List QAT4) (t : Int) (t_2 : List UInt8) (t_3 t_4 t_5 : Int) : Option (As [.sl QAT1, .pr (.int .i64) (.int .i64)]) := qll_ (qkz_ u1) u1 text line i t3 t3_2 out t t_2 t_3 t_4 t_5
def ql1_ (u1 : List UInt8 -> Int -> Bool -> Int -> Int -> Int -> List QAT4 -> Option (As [.sl QAT1, .pr (.int .i64) (.int .i64)])) (u12 : List UInt8 -> Int -> Int -> Int -> Int -> List QAT4 -> Int -> List UInt8 -> Int -> Int -> Int -> Option (As [.sl QAT1, .pr (.int .i64) (.int .i64)])) (text : List UInt8) (line i : Int) (t110 : Bool) (t3 t3_2 : Int) (out : List QAT4) (t : Int) (t_2 : List UInt8) (t_3 t_4 t_5 : Int) : Option (As [.sl QAT1, .pr (.int .i64) (.int .i64)]) := qmb_ (qky_ u1) u1 u12 text line i t110 t3 t3_2 out t t_2 t_3 t_4 t_5
def qm5_ (u1 : List UInt8 -> Int -> Bool -> Int -> Int -> Int -> List QAT4 -> Option (As [.sl QAT1, .pr (.int .i64) (.int .i64)])) (text : List UInt8) (line i t3 t3_2 : Int) (out : List QAT4) (t : Int) (t_2 : List UInt8) (t_3 t_4 t_5 : Int) : Option (As [.sl QAT1, .pr (.int .i64) (.int .i64)]) :=
  loopF (fun (self : (List UInt8) × (Int) × (Int) × (Int) × (Int) × (List QAT4) × (Int) × (List UInt8) × (Int) × (Int) × (Int) -> Option (As [.sl QAT1, .pr (.int .i64) (.int .i64)])) (s : (List UInt8) × (Int) × (Int) × (Int) × (Int) × (List QAT4) × (Int) × (List UInt8) × (Int) × (Int) × (Int)) => qlk_ (ql1_ u1 (fun text line i t3 t3_2 out t t_2 t_3 t_4 t_5 => self (text, line, i, t3, t3_2, out, t, t_2, t_3, t_4, t_5))) u1 (fun text line i t3 t3_2 out t t_2 t_3 t_4 t_5 => self (text, line, i, t3, t3_2, out, t, t_2, t_3, t_4, t_5)) s.1 s.2.1 s.2.2.1 s.2.2.2.1 s.2.2.2.2.1 s.2.2.2.2.2.1 s.2.2.2.2.2.2.1 s.2.2.2.2.2.2.2.1 s.2.2.2.2.2.2.2.2.1 s.2.2.2.2.2.2.2.2.2.1 s.2.2.2.2.2.2.2.2.2.2) 18446744073709551616 (text, line, i, t3, t3_2, out, t, t_2, t_3, t_4, t_5)
def qeu_ (u1 : List UInt8 -> Int -> Bool -> Int -> Int -> Int -> List QAT4 -> Option (As [.sl QAT1, .pr (.int .i64) (.int .i64)])) (text : List UInt8) (line i t3 t3_2 : Int) (out : List QAT4) (t : Int) (t_2 : List UInt8) (t_3 t_4 t_5 : Int) : Option (As [.sl QAT1, .pr (.int .i64) (.int .i64)]) := ql6_ (qm5_ u1) u1 text line i t3 t3_2 out t t_2 t_3 t_4 t_5
def qku_ (u1 : List UInt8 -> Int -> Bool -> Int -> Int -> Int -> List QAT4 -> Option (As [.sl QAT1, .pr (.int .i64) (.int .i64)])) (text : List UInt8) (line i c : Int) (t79 : Bool) (t3 t3_2 : Int) (out : List QAT4) (t : Int) (t_2 : List UInt8) (t_3 t_4 t_5 : Int) : Option (As [.sl QAT1, .pr (.int .i64) (.int .i64)]) := qm6_ (qeu_ u1) u1 text line i c t79 t3 t3_2 out t t_2 t_3 t_4 t_5
def qmf_ (u1 : List UInt8 -> Int -> Bool -> Int -> Int -> Int -> List QAT4 -> Option (As [.sl QAT1, .pr (.int .i64) (.int .i64)])) (text : List UInt8) (line : Int) (some' : Bool) (i c : Int) (t68 : Bool) (t3 t3_2 : Int) (out : List QAT4) : Option (As [.sl QAT1, .pr (.int .i64) (.int .i64)]) := qmx_ (qbe_ u1) (qeu_ u1) (qku_ u1) u1 text line some' i c t68 t3 t3_2 out
def qmn_ (u1 : List UInt8 -> Int -> Bool -> Int -> Int -> Int -> List QAT4 -> Option (As [.sl QAT1, .pr (.int .i64) (.int .i64)])) (text : List UInt8) (line : Int) (some' : Bool) (i c t3 t3_2 : Int) (out : List QAT4) : Option (As [.sl QAT1, .pr (.int .i64) (.int .i64)]) := qn3_ (qmf_ u1) u1 text line some' i c t3 t3_2 out
def qn6_ (u1 : List UInt8 -> Int -> Bool -> Int -> Int -> Int -> List QAT4 -> Option (As [.sl QAT1, .pr (.int .i64) (.int .i64)])) (text : List UInt8) (line : Int) (some' : Bool) (i : Int) (t31 : Bool) (t3 t3_2 : Int) (out : List QAT4) : Option (As [.sl QAT1, .pr (.int .i64) (.int .i64)]) := qmu_ (qnb_ u1) (qmi_ u1) (qmn_ u1) u1 text line some' i t31 t3 t3_2 out
def qn9_ (t3 t3_2 : Int) (out : List QAT4) : Option (As [.sl QAT1, .pr (.int .i64) (.int .i64)]) := qn7_ t3 t3_2 out
def qn8_ (text : List UInt8) (line : Int) (some' : Bool) (i t3 t3_2 : Int) (out : List QAT4) : Option (As [.sl QAT1, .pr (.int .i64) (.int .i64)]) :=
  loopF (fun (self : (List UInt8) × (Int) × (Bool) × (Int) × (Int) × (Int) × (List QAT4) -> Option (As [.sl QAT1, .pr (.int .i64) (.int .i64)])) (s : (List UInt8) × (Int) × (Bool) × (Int) × (Int) × (Int) × (List QAT4)) => qmo_ (qn6_ (fun text line some' i t3 t3_2 out => self (text, line, some', i, t3, t3_2, out))) (qn9_) (fun text line some' i t3 t3_2 out => self (text, line, some', i, t3, t3_2, out)) s.1 s.2.1 s.2.2.1 s.2.2.2.1 s.2.2.2.2.1 s.2.2.2.2.2.1 s.2.2.2.2.2.2) 18446744073709551616 (text, line, some', i, t3, t3_2, out)
def qks_ (x : As [.str]) : Option (As [.sl QAT1, .pr (.int .i64) (.int .i64)]) := qmp_ qn8_ x.1
@[reducible] def qbx_ : Sh := ⟨[.d (.int .u8)], [], [.int .u8], [.d (.bool)], [], 0, [.bool]⟩
def qgv_ (c : Int) : Option (As [.bool]) :=
  if ge c 97 = true then some (le c 122, ()) else some (false, ())
def q5k_ (x : As [.int .u8]) : Option (As [.bool]) := qgv_ x.1
theorem qdg_ : CtOk Tryz.prog I0 78 ⟨qbx_, q5k_⟩ := ctn q9_ 6 fun J x => by kernel_rfl
@[reducible] def qbu_ : Sh := ⟨[.d (.int .u8)], [], [.int .u8], [.d (.bool)], [], 0, [.bool]⟩
def qhe_ (c : Int) : Option (As [.bool]) :=
  if ge c 48 = true then some (le c 57, ()) else some (false, ())
def q6p_ (x : As [.int .u8]) : Option (As [.bool]) := qhe_ x.1
theorem qdf_ : CtOk Tryz.prog I0 79 ⟨qbu_, q6p_⟩ := ctn q9_ 6 fun J x => by kernel_rfl
@[reducible] def q1c_ : Sh := ⟨[.d (.str)], [], [.str], [.d (.bool)], [], 0, [.bool]⟩
def q2a_ : Env := (cts [(78, (⟨qbx_, q5k_⟩ : Ct)), (79, (⟨qbu_, q6p_⟩ : Ct))])
def q2c_ : List (Nat × Hint) := [(7, ⟨[], [0, 44, 45, 48, 49]⟩), (58, ⟨[], [0, 18, 19, 28, 29, 30, 31, 32, 35, 36, 37, 38, 44, 45, 48, 49]⟩), (3737, ⟨[.agd 35 .str, .agd 36 (.int .i64), .agd 37 (.int .u8), .agd 38 .bool, .agd 28 .str, .agd 29 (.int .i64), .agd 30 (.int .u8), .agd 31 .bool, .agd 32 .bool], [0, 18, 19, 39]⟩), (6, ⟨[], [0, 16, 28, 29, 30, 31, 32, 35, 36, 37, 38, 44, 45, 48, 49]⟩)]
def qae_ (s : List UInt8) (t16 : Bool) : St := { fr := [(0, .d .str s), (16, .d .bool t16)], nt := 51, up := [], own := [], nx := 0, log := [], ln := 0 }
def q46_ (s : List UInt8) (t18 t19 : Int) : St := { fr := [(0, .d .str s), (18, .d (.int .i64) t18), (19, .d (.int .i64) t19)], nt := 51, up := [], own := [], nx := 0, log := [], ln := 0 }
def qa5_ (s : List UInt8) (t18 t19 : Int) (t39 : Bool) : St := { fr := [(0, .d .str s), (18, .d (.int .i64) t18), (19, .d (.int .i64) t19), (39, .d .bool t39)], nt := 51, up := [], own := [], nx := 0, log := [], ln := 0 }
def qa0_ (s : List UInt8) : St := { fr := [(0, .d .str s)], nt := 51, up := [], own := [], nx := 0, log := [], ln := 0 }
def qdt_ (j2 : List UInt8 -> Int -> Int -> Option (As [.bool])) (s : List UInt8) (t16 : Bool) : Option (As [.bool]) :=
  if t16 = true then some (false, ()) else j2 s (Int.ofNat (List.length s)) 0
def q6k_ (j3 : List UInt8 -> Int -> Int -> Bool -> Option (As [.bool])) (j4 : List UInt8 -> Option (As [.bool])) (self2 : List UInt8 -> Int -> Int -> Option (As [.bool])) (s : List UInt8) (t18 t19 : Int) : Option (As [.bool]) :=
  if lt t19 t18 = true then Option.bind (at? s t19) fun (c : UInt8) => Option.bind (q5k_ (Int.ofNat (UInt8.toNat c), ())) fun (y : Bool × Unit) => if (!y.1) = true then Option.bind (at? s t19) fun (c : UInt8) => Option.bind (q6p_ (Int.ofNat (UInt8.toNat c), ())) fun (y : Bool × Unit) => if (!y.1) = true then Option.bind (at? s t19) fun (c : UInt8) => j3 s t18 t19 (nei (Int.ofNat (UInt8.toNat c)) 95) else j3 s t18 t19 false else j3 s t18 t19 false else j4 s
def qab_ (self2 : List UInt8 -> Int -> Int -> Option (As [.bool])) (s : List UInt8) (t18 t19 : Int) (t39 : Bool) : Option (As [.bool]) :=
  if t39 = true then some (false, ()) else self2 s t18 (add .i64 t19 1)
def qac_ (s : List UInt8) : Option (As [.bool]) :=
  if nes s [114, 101, 99, 105, 112, 101] = true then if nes s [115, 108, 97, 118, 101] = true then some (nes s [101, 110, 100], ()) else some (false, ()) else some (false, ())
def qa8_ (j1 : List UInt8 -> Bool -> Option (As [.bool])) (s : List UInt8) : Option (As [.bool]) :=
  if eqs s [] = true then j1 s true else if gt (Int.ofNat (List.length s)) 20 = true then j1 s true else Option.bind (at? s 0) fun (c : UInt8) => Option.bind (q5k_ (Int.ofNat (UInt8.toNat c), ())) fun (y : Bool × Unit) => j1 s !y.1
def q6m_ (u2 : List UInt8 -> Int -> Int -> Option (As [.bool])) (s : List UInt8) (t18 t19 : Int) (t39 : Bool) : Option (As [.bool]) := qab_ u2 s t18 t19 t39
def q6g_ (s : List UInt8) : Option (As [.bool]) := qac_ s
def q8e_ (s : List UInt8) (t18 t19 : Int) : Option (As [.bool]) :=
  loopF (fun (self : (List UInt8) × (Int) × (Int) -> Option (As [.bool])) (s : (List UInt8) × (Int) × (Int)) => q6k_ (q6m_ (fun s t18 t19 => self (s, t18, t19))) (q6g_) (fun s t18 t19 => self (s, t18, t19)) s.1 s.2.1 s.2.2) 18446744073709551616 (s, t18, t19)
def q87_ (s : List UInt8) (t16 : Bool) : Option (As [.bool]) := qdt_ (q8e_) s t16
def q21_ (x : As [.str]) : Option (As [.bool]) := qa8_ q87_ x.1
theorem qji_  (J w2 s t18 t19 t39) : pfn Tryz.prog q2a_ 6 18446744073709551616 (Ev.get q2c_) 51 q1c_ J 3737 [w2] (qa5_ s t18 t19 t39) = qab_ (fun s t18 t19 => w2 (q46_ s t18 t19)) s t18 t19 t39 := by kernel_rfl
theorem qir_  (J s) : pfn Tryz.prog q2a_ 6 18446744073709551616 (Ev.get q2c_) 51 q1c_ J 7 [] (qa0_ s) = qac_ s := by kernel_rfl
theorem qje_  (J w2 s t18 t19) : pfn Tryz.prog q2a_ 6 18446744073709551616 (Ev.get q2c_) 51 q1c_ J 58 [w2] (q46_ s t18 t19) = q6k_ (fun s t18 t19 t39 => J 3737 [w2] (qa5_ s t18 t19 t39)) (fun s => J 7 [] (qa0_ s)) (fun s t18 t19 => w2 (q46_ s t18 t19)) s t18 t19 := by kernel_rfl
theorem qip_  (J s t16) : pfn Tryz.prog q2a_ 6 18446744073709551616 (Ev.get q2c_) 51 q1c_ J 6 [] (qae_ s t16) = qdt_ (fun s t18 t19 => J 58 [] (q46_ s t18 t19)) s t16 := by kernel_rfl
theorem qjz_ (J : Orc (As [.bool])) (x : As [.str]) : rfn Tryz.prog q2a_ 6 18446744073709551616 (Ev.get q2c_) 51 q1c_ J x = qa8_ (fun s t16 => J 6 [] (qae_ s t16)) x.1 := by kernel_rfl
theorem qiy_  (w2 s t18 t19 t39) : jfn Tryz.prog q2a_ 6 18446744073709551616 (Ev.get q2c_) 51 q1c_ 3737 [w2] (qa5_ s t18 t19 t39) = q6m_ (fun s t18 t19 => w2 (q46_ s t18 t19)) s t18 t19 t39 := by
  rw [q2_ (by decide)]
  rw [qji_]
  rfl
theorem qk9_  (s) : jfn Tryz.prog q2a_ 6 18446744073709551616 (Ev.get q2c_) 51 q1c_ 7 [] (qa0_ s) = q6g_ s := by
  rw [q2_ (by decide)]
  rw [qir_]
  rfl
theorem qkp_  (s t18 t19) : jfn Tryz.prog q2a_ 6 18446744073709551616 (Ev.get q2c_) 51 q1c_ 58 [] (q46_ s t18 t19) = q8e_ s t18 t19 := by
  rw [q2_ (by decide)]
  rw [qv_ (by kernel_rfl)]
  refine qi_ (σ := (List UInt8) × (Int) × (Int)) (mk := fun s => q46_ s.1 s.2.1 s.2.2) (fun w2 s => ?_) 18446744073709551616 (s, t18, t19)
  have e3 : (fun s t18 t19 t39 => (jfn Tryz.prog q2a_ 6 18446744073709551616 (Ev.get q2c_) 51 q1c_) 3737 [w2] (qa5_ s t18 t19 t39)) = q6m_ (fun s t18 t19 => w2 (q46_ s t18 t19)) := by funext s t18 t19 t39; exact qiy_ w2 s t18 t19 t39
  have e4 : (fun s => (jfn Tryz.prog q2a_ 6 18446744073709551616 (Ev.get q2c_) 51 q1c_) 7 [] (qa0_ s)) = q6g_ := funext fun s => qk9_ s
  refine (qje_ _ w2 s.1 s.2.1 s.2.2).trans ?_
  rw [e3, e4]
theorem qim_  (s t16) : jfn Tryz.prog q2a_ 6 18446744073709551616 (Ev.get q2c_) 51 q1c_ 6 [] (qae_ s t16) = q87_ s t16 := by
  rw [q2_ (by decide)]
  have e2 : (fun s t18 t19 => (jfn Tryz.prog q2a_ 6 18446744073709551616 (Ev.get q2c_) 51 q1c_) 58 [] (q46_ s t18 t19)) = q8e_ := by funext s t18 t19; exact qkp_ s t18 t19
  rw [qip_, e2]
  rfl
theorem qld_ (x : As [.str]) : evT Tryz.prog q2a_ 6 18446744073709551616 (Ev.get q2c_) 51 q1c_ x = q21_ x := by
  have e1 : (fun s t16 => (jfn Tryz.prog q2a_ 6 18446744073709551616 (Ev.get q2c_) 51 q1c_) 6 [] (qae_ s t16)) = q87_ := by funext s t16; exact qim_ s t16
  rw [q1u_, qjz_, e1]
  rfl
theorem qbt_ : CtOk Tryz.prog I0 51 ⟨q1c_, q21_⟩ := qu_ (q0_ qdg_ (q0_ qdf_ q9_)) qld_
@[reducible] def qcq_ : Sh := ⟨[.d (.pr (.int .i64) (.int .u8))], [], [.pr (.int .i64) (.int .u8)], [.d (.bool)], [], 0, [.bool]⟩
def q8c_ (d : Int × Int) : Option (As [.bool]) :=
  if ge d.1 (-1000000000000) = true then if le d.1 1000000000000 = true then if le d.2 6 = true then if eqi d.2 0 = true then some (true, ()) else some (nei (rem d.1 10) 0, ()) else some (false, ()) else some (false, ()) else some (false, ())
def q7t_ (x : As [.pr (.int .i64) (.int .u8)]) : Option (As [.bool]) := q8c_ x.1
theorem qdo_ : CtOk Tryz.prog I0 52 ⟨qcq_, q7t_⟩ := ctn q9_ 6 fun J x => by kernel_rfl
@[reducible] def q2h_ : Sh := ⟨[.d (.str)], [], [.str], [.d (.bool)], [], 0, [.bool]⟩
def q3f_ : Env := (cts [(78, (⟨qbx_, q5k_⟩ : Ct)), (79, (⟨qbu_, q6p_⟩ : Ct))])
def q3g_ : List (Nat × Hint) := [(58, ⟨[], [0, 10, 11, 20, 21, 22, 23, 24, 25, 28, 29, 34, 35, 36, 37, 38, 39, 40, 41, 42, 43, 44]⟩), (7475, ⟨[.agd 20 (.int .u8), .agd 21 .bool, .agd 22 .bool, .agd 23 (.int .u8), .agd 24 .bool, .agd 25 .bool, .agd 28 (.int .u8), .agd 29 .bool], [0, 3, 4, 5, 10, 11]⟩), (14951, ⟨[.agd 37 (.int .u8), .agd 38 .bool, .agd 39 .bool, .agd 40 .bool, .agd 41 (.int .u8), .agd 42 .bool, .agd 43 .bool, .agd 34 (.int .i64), .agd 35 .bool, .agd 36 .bool, .agd 44 .bool], [0, 10, 11, 45]⟩)]
def q2g_ (s : List UInt8) (t10 t11 : Int) : St := { fr := [(0, .d .str s), (10, .d (.int .i64) t10), (11, .d (.int .i64) t11)], nt := 47, up := [], own := [], nx := 0, log := [], ln := 0 }
def qa6_ (s : List UInt8) (i c : Int) (letter : Bool) (t10 t11 : Int) : St := { fr := [(0, .d .str s), (3, .d (.int .i64) i), (4, .d (.int .u8) c), (5, .d .bool letter), (10, .d (.int .i64) t10), (11, .d (.int .i64) t11)], nt := 47, up := [], own := [], nx := 0, log := [], ln := 0 }
def qa7_ (s : List UInt8) (t10 t11 : Int) (t45 : Bool) : St := { fr := [(0, .d .str s), (10, .d (.int .i64) t10), (11, .d (.int .i64) t11), (45, .d .bool t45)], nt := 47, up := [], own := [], nx := 0, log := [], ln := 0 }
def q6e_ (j2 : List UInt8 -> Int -> Int -> Bool -> Int -> Int -> Option (As [.bool])) (self1 : List UInt8 -> Int -> Int -> Option (As [.bool])) (s : List UInt8) (t10 t11 : Int) : Option (As [.bool]) :=
  if lt t11 t10 = true then Option.bind (at? s t11) fun (c : UInt8) => Option.bind (q5k_ (Int.ofNat (UInt8.toNat c), ())) fun (y : Bool × Unit) => if y.1 = true then j2 s t11 (Int.ofNat (UInt8.toNat c)) true t10 t11 else if ge (Int.ofNat (UInt8.toNat c)) 65 = true then if le (Int.ofNat (UInt8.toNat c)) 90 = true then j2 s t11 (Int.ofNat (UInt8.toNat c)) true t10 t11 else j2 s t11 (Int.ofNat (UInt8.toNat c)) (eqi (Int.ofNat (UInt8.toNat c)) 37) t10 t11 else j2 s t11 (Int.ofNat (UInt8.toNat c)) (eqi (Int.ofNat (UInt8.toNat c)) 37) t10 t11 else some (true, ())
def qaa_ (j3 : List UInt8 -> Int -> Int -> Bool -> Option (As [.bool])) (self1 : List UInt8 -> Int -> Int -> Option (As [.bool])) (s : List UInt8) (i c : Int) (letter : Bool) (t10 t11 : Int) : Option (As [.bool]) :=
  if (!letter) = true then if eqi i 0 = true then j3 s t10 t11 true else Option.bind (q6p_ (c, ())) fun (y : Bool × Unit) => if (!y.1) = true then j3 s t10 t11 (nei c 95) else j3 s t10 t11 false else j3 s t10 t11 false
def qai_ (self1 : List UInt8 -> Int -> Int -> Option (As [.bool])) (s : List UInt8) (t10 t11 : Int) (t45 : Bool) : Option (As [.bool]) :=
  if t45 = true then some (false, ()) else self1 s t10 (add .i64 t11 1)
def qa3_ (j1 : List UInt8 -> Int -> Int -> Option (As [.bool])) (s : List UInt8) : Option (As [.bool]) :=
  if gt (Int.ofNat (List.length s)) 20 = true then some (false, ()) else j1 s (Int.ofNat (List.length s)) 0
def q8i_ (u1 : List UInt8 -> Int -> Int -> Option (As [.bool])) (s : List UInt8) (t10 t11 : Int) (t45 : Bool) : Option (As [.bool]) := qai_ u1 s t10 t11 t45
def q6i_ (u1 : List UInt8 -> Int -> Int -> Option (As [.bool])) (s : List UInt8) (i c : Int) (letter : Bool) (t10 t11 : Int) : Option (As [.bool]) := qaa_ (q8i_ u1) u1 s i c letter t10 t11
def q6l_ (s : List UInt8) (t10 t11 : Int) : Option (As [.bool]) :=
  loopF (fun (self : (List UInt8) × (Int) × (Int) -> Option (As [.bool])) (s : (List UInt8) × (Int) × (Int)) => q6e_ (q6i_ (fun s t10 t11 => self (s, t10, t11))) (fun s t10 t11 => self (s, t10, t11)) s.1 s.2.1 s.2.2) 18446744073709551616 (s, t10, t11)
def qam_ (x : As [.str]) : Option (As [.bool]) := qa3_ q6l_ x.1
theorem qjc_  (J w1 s t10 t11 t45) : pfn Tryz.prog q3f_ 6 18446744073709551616 (Ev.get q3g_) 53 q2h_ J 14951 [w1] (qa7_ s t10 t11 t45) = qai_ (fun s t10 t11 => w1 (q2g_ s t10 t11)) s t10 t11 t45 := by kernel_rfl
theorem qhy_  (J w1 s i c letter t10 t11) : pfn Tryz.prog q3f_ 6 18446744073709551616 (Ev.get q3g_) 53 q2h_ J 7475 [w1] (qa6_ s i c letter t10 t11) = qaa_ (fun s t10 t11 t45 => J 14951 [w1] (qa7_ s t10 t11 t45)) (fun s t10 t11 => w1 (q2g_ s t10 t11)) s i c letter t10 t11 := by kernel_rfl
theorem qj5_  (J w1 s t10 t11) : pfn Tryz.prog q3f_ 6 18446744073709551616 (Ev.get q3g_) 53 q2h_ J 58 [w1] (q2g_ s t10 t11) = q6e_ (fun s i c letter t10 t11 => J 7475 [w1] (qa6_ s i c letter t10 t11)) (fun s t10 t11 => w1 (q2g_ s t10 t11)) s t10 t11 := by kernel_rfl
theorem qk8_ (J : Orc (As [.bool])) (x : As [.str]) : rfn Tryz.prog q3f_ 6 18446744073709551616 (Ev.get q3g_) 53 q2h_ J x = qa3_ (fun s t10 t11 => J 58 [] (q2g_ s t10 t11)) x.1 := by kernel_rfl
theorem qja_  (w1 s t10 t11 t45) : jfn Tryz.prog q3f_ 6 18446744073709551616 (Ev.get q3g_) 53 q2h_ 14951 [w1] (qa7_ s t10 t11 t45) = q8i_ (fun s t10 t11 => w1 (q2g_ s t10 t11)) s t10 t11 t45 := by
  rw [q2_ (by decide)]
  rw [qjc_]
  rfl
theorem qij_  (w1 s i c letter t10 t11) : jfn Tryz.prog q3f_ 6 18446744073709551616 (Ev.get q3g_) 53 q2h_ 7475 [w1] (qa6_ s i c letter t10 t11) = q6i_ (fun s t10 t11 => w1 (q2g_ s t10 t11)) s i c letter t10 t11 := by
  rw [q2_ (by decide)]
  have e3 : (fun s t10 t11 t45 => (jfn Tryz.prog q3f_ 6 18446744073709551616 (Ev.get q3g_) 53 q2h_) 14951 [w1] (qa7_ s t10 t11 t45)) = q8i_ (fun s t10 t11 => w1 (q2g_ s t10 t11)) := by funext s t10 t11 t45; exact qja_ w1 s t10 t11 t45
  rw [qhy_, e3]
  rfl
theorem qk5_  (s t10 t11) : jfn Tryz.prog q3f_ 6 18446744073709551616 (Ev.get q3g_) 53 q2h_ 58 [] (q2g_ s t10 t11) = q6l_ s t10 t11 := by
  rw [q2_ (by decide)]
  rw [qv_ (by kernel_rfl)]
  refine qi_ (σ := (List UInt8) × (Int) × (Int)) (mk := fun s => q2g_ s.1 s.2.1 s.2.2) (fun w1 s => ?_) 18446744073709551616 (s, t10, t11)
  have e2 : (fun s i c letter t10 t11 => (jfn Tryz.prog q3f_ 6 18446744073709551616 (Ev.get q3g_) 53 q2h_) 7475 [w1] (qa6_ s i c letter t10 t11)) = q6i_ (fun s t10 t11 => w1 (q2g_ s t10 t11)) := by funext s i c letter t10 t11; exact qij_ w1 s i c letter t10 t11
  refine (qj5_ _ w1 s.1 s.2.1 s.2.2).trans ?_
  rw [e2]
theorem qm3_ (x : As [.str]) : evT Tryz.prog q3f_ 6 18446744073709551616 (Ev.get q3g_) 53 q2h_ x = qam_ x := by
  have e1 : (fun s t10 t11 => (jfn Tryz.prog q3f_ 6 18446744073709551616 (Ev.get q3g_) 53 q2h_) 58 [] (q2g_ s t10 t11)) = q6l_ := by funext s t10 t11; exact qk5_ s t10 t11
  rw [q1u_, qk8_, e1]
  rfl
theorem qj4_ : CtOk Tryz.prog I0 53 ⟨q2h_, qam_⟩ := qu_ (q0_ qdg_ (q0_ qdf_ q9_)) qm3_
@[reducible] def qo_ : Sh := ⟨[.d (.pr .str (.sl QAT2))], [], [.pr .str (.sl QAT2)], [.d (.bool)], [], 0, [.bool]⟩
def q10_ : Env := (cts [(51, (⟨q1c_, q21_⟩ : Ct)), (52, (⟨qcq_, q7t_⟩ : Ct)), (53, (⟨q2h_, qam_⟩ : Ct))])
def q11_ : List (Nat × Hint) := [(58, ⟨[], [18, 19, 20, 29, 30, 31, 32, 46, 47, 48, 49, 52, 53, 54, 55]⟩), (29902, ⟨[], [18, 19, 20, 29, 30, 31, 32, 35, 36, 37, 46, 47, 48, 49, 52, 53, 54, 55]⟩), (1913753, ⟨[.agd 47 (.pr (.int .i64) (.int .u8)), .agd 48 .bool, .agd 49 .bool, .agd 53 .str, .agd 54 .bool, .agd 55 .bool], [18, 19, 20, 35, 36, 37, 56]⟩), (7474, ⟨[.agd 30 (.sl QAT5), .agd 31 (.int .i64), .agd 32 .bool], [4, 18, 19, 20, 33]⟩), (6, ⟨[], [1, 16, 29, 30, 31, 32, 46, 47, 48, 49, 52, 53, 54, 55]⟩)]
def q9j_ (t16 : Bool) (r : List UInt8 × List QAT0) : St := { fr := [(1, .pb 0 0), (16, .d .bool t16)], nt := 59, up := [], own := [(0, .box 26 [.d .str r.1, .d (.sl QAT2) r.2])], nx := 1, log := [], ln := 0 }
def q17_ (t18 : List QAT0) (t19 t20 : Int) : St := { fr := [(18, .d (.sl QAT2) t18), (19, .d (.int .i64) t19), (20, .d (.int .i64) t20)], nt := 59, up := [], own := [], nx := 0, log := [], ln := 0 }
def q9h_ (t18 : List QAT0) (t19 t20 : Int) (t33 : Bool) (part : List UInt8 × Int × List QAT3) : St := { fr := [(4, .pb 0 0), (18, .d (.sl QAT2) t18), (19, .d (.int .i64) t19), (20, .d (.int .i64) t20), (33, .d .bool t33)], nt := 59, up := [], own := [(0, .box 43 [.d .str part.1, .d (.int .i64) part.2.1, .d (.sl QAT5) part.2.2])], nx := 1, log := [], ln := 0 }
def q3n_ (t18 : List QAT0) (t19 t20 : Int) (t35 : List QAT3) (t36 t37 : Int) : St := { fr := [(18, .d (.sl QAT2) t18), (19, .d (.int .i64) t19), (20, .d (.int .i64) t20), (35, .d (.sl QAT5) t35), (36, .d (.int .i64) t36), (37, .d (.int .i64) t37)], nt := 59, up := [], own := [], nx := 0, log := [], ln := 0 }
def q9e_ (t18 : List QAT0) (t19 t20 : Int) (t35 : List QAT3) (t36 t37 : Int) (t56 : Bool) : St := { fr := [(18, .d (.sl QAT2) t18), (19, .d (.int .i64) t19), (20, .d (.int .i64) t20), (35, .d (.sl QAT5) t35), (36, .d (.int .i64) t36), (37, .d (.int .i64) t37), (56, .d .bool t56)], nt := 59, up := [], own := [], nx := 0, log := [], ln := 0 }
def qdc_ (j2 : List QAT0 -> Int -> Int -> Option (As [.bool])) (t16 : Bool) (r : List UInt8 × List QAT0) : Option (As [.bool]) :=
  if t16 = true then some (false, ()) else j2 r.2 (Int.ofNat (List.length r.2)) 0
def q2z_ (j3 : List QAT0 -> Int -> Int -> Bool -> List UInt8 × Int × List QAT3 -> Option (As [.bool])) (self2 : List QAT0 -> Int -> Int -> Option (As [.bool])) (t18 : List QAT0) (t19 t20 : Int) : Option (As [.bool]) :=
  if lt t20 t19 = true then Option.bind (at? t18 t20) fun (y : List UInt8 × Int × List QAT3) => Option.bind (q21_ (y.1, ())) fun (y_1 : Bool × Unit) => if (!y_1.1) = true then j3 t18 t19 t20 true y else j3 t18 t19 t20 (gt (Int.ofNat (List.length y.2.2)) 64) y else some (true, ())
def q9m_ (j4 : List QAT0 -> Int -> Int -> List QAT3 -> Int -> Int -> Option (As [.bool])) (self2 : List QAT0 -> Int -> Int -> Option (As [.bool])) (t18 : List QAT0) (t19 t20 : Int) (t33 : Bool) (part : List UInt8 × Int × List QAT3) : Option (As [.bool]) :=
  if t33 = true then some (false, ()) else j4 t18 t19 t20 part.2.2 (Int.ofNat (List.length part.2.2)) 0
def q2y_ (j5 : List QAT0 -> Int -> Int -> List QAT3 -> Int -> Int -> Bool -> Option (As [.bool])) (self2 : List QAT0 -> Int -> Int -> Option (As [.bool])) (self4 : List QAT0 -> Int -> Int -> List QAT3 -> Int -> Int -> Option (As [.bool])) (t18 : List QAT0) (t19 t20 : Int) (t35 : List QAT3) (t36 t37 : Int) : Option (As [.bool]) :=
  if lt t37 t36 = true then Option.bind (at? t35 t37) fun (y : List UInt8 × (Int × Int) × List UInt8 × Int) => Option.bind (q21_ (y.1, ())) fun (y_1 : Bool × Unit) => if (!y_1.1) = true then j5 t18 t19 t20 t35 t36 t37 true else Option.bind (q7t_ (y.2.1, ())) fun (y_2 : Bool × Unit) => if (!y_2.1) = true then j5 t18 t19 t20 t35 t36 t37 true else Option.bind (qam_ (y.2.2.1, ())) fun (y : Bool × Unit) => j5 t18 t19 t20 t35 t36 t37 !y.1 else self2 t18 t19 (add .i64 t20 1)
def q5n_ (self2 : List QAT0 -> Int -> Int -> Option (As [.bool])) (self4 : List QAT0 -> Int -> Int -> List QAT3 -> Int -> Int -> Option (As [.bool])) (t18 : List QAT0) (t19 t20 : Int) (t35 : List QAT3) (t36 t37 : Int) (t56 : Bool) : Option (As [.bool]) :=
  if t56 = true then some (false, ()) else self4 t18 t19 t20 t35 t36 (add .i64 t37 1)
def q5l_ (j1 : Bool -> List UInt8 × List QAT0 -> Option (As [.bool])) (r : List UInt8 × List QAT0) : Option (As [.bool]) :=
  Option.bind (q21_ (r.1, ())) fun (y : Bool × Unit) => if (!y.1) = true then j1 true r else j1 (gt (Int.ofNat (List.length r.2)) 8) r
def q4w_ (u2 : List QAT0 -> Int -> Int -> Option (As [.bool])) (u4 : List QAT0 -> Int -> Int -> List QAT3 -> Int -> Int -> Option (As [.bool])) (t18 : List QAT0) (t19 t20 : Int) (t35 : List QAT3) (t36 t37 : Int) (t56 : Bool) : Option (As [.bool]) := q5n_ u2 u4 t18 t19 t20 t35 t36 t37 t56
def q3p_ (u2 : List QAT0 -> Int -> Int -> Option (As [.bool])) (t18 : List QAT0) (t19 t20 : Int) (t35 : List QAT3) (t36 t37 : Int) : Option (As [.bool]) :=
  loopF (fun (self : (List QAT0) × (Int) × (Int) × (List QAT3) × (Int) × (Int) -> Option (As [.bool])) (s : (List QAT0) × (Int) × (Int) × (List QAT3) × (Int) × (Int)) => q2y_ (q4w_ u2 (fun t18 t19 t20 t35 t36 t37 => self (t18, t19, t20, t35, t36, t37))) u2 (fun t18 t19 t20 t35 t36 t37 => self (t18, t19, t20, t35, t36, t37)) s.1 s.2.1 s.2.2.1 s.2.2.2.1 s.2.2.2.2.1 s.2.2.2.2.2) 18446744073709551616 (t18, t19, t20, t35, t36, t37)
def q4r_ (u2 : List QAT0 -> Int -> Int -> Option (As [.bool])) (t18 : List QAT0) (t19 t20 : Int) (t33 : Bool) (part : List UInt8 × Int × List QAT3) : Option (As [.bool]) := q9m_ (q3p_ u2) u2 t18 t19 t20 t33 part
def q3r_ (t18 : List QAT0) (t19 t20 : Int) : Option (As [.bool]) :=
  loopF (fun (self : (List QAT0) × (Int) × (Int) -> Option (As [.bool])) (s : (List QAT0) × (Int) × (Int)) => q2z_ (q4r_ (fun t18 t19 t20 => self (t18, t19, t20))) (fun t18 t19 t20 => self (t18, t19, t20)) s.1 s.2.1 s.2.2) 18446744073709551616 (t18, t19, t20)
def q4u_ (t16 : Bool) (r : List UInt8 × List QAT0) : Option (As [.bool]) := qdc_ (q3r_) t16 r
def q4t_ (x : As [.pr .str (.sl QAT2)]) : Option (As [.bool]) := q5l_ q4u_ x.1
theorem qhr_  (J w2 w4 t18 t19 t20 t35 t36 t37 t56) : pfn Tryz.prog q10_ 6 18446744073709551616 (Ev.get q11_) 21 qo_ J 1913753 [w2, w4] (q9e_ t18 t19 t20 t35 t36 t37 t56) = q5n_ (fun t18 t19 t20 => w2 (q17_ t18 t19 t20)) (fun t18 t19 t20 t35 t36 t37 => w4 (q3n_ t18 t19 t20 t35 t36 t37)) t18 t19 t20 t35 t36 t37 t56 := by kernel_rfl
theorem qh0_  (J w2 w4 t18 t19 t20 t35 t36 t37) : pfn Tryz.prog q10_ 6 18446744073709551616 (Ev.get q11_) 21 qo_ J 29902 [w2, w4] (q3n_ t18 t19 t20 t35 t36 t37) = q2y_ (fun t18 t19 t20 t35 t36 t37 t56 => J 1913753 [w2, w4] (q9e_ t18 t19 t20 t35 t36 t37 t56)) (fun t18 t19 t20 => w2 (q17_ t18 t19 t20)) (fun t18 t19 t20 t35 t36 t37 => w4 (q3n_ t18 t19 t20 t35 t36 t37)) t18 t19 t20 t35 t36 t37 := by kernel_rfl
theorem qhq_  (J w2 t18 t19 t20 t33 part) : pfn Tryz.prog q10_ 6 18446744073709551616 (Ev.get q11_) 21 qo_ J 7474 [w2] (q9h_ t18 t19 t20 t33 part) = q9m_ (fun t18 t19 t20 t35 t36 t37 => J 29902 [w2] (q3n_ t18 t19 t20 t35 t36 t37)) (fun t18 t19 t20 => w2 (q17_ t18 t19 t20)) t18 t19 t20 t33 part := by kernel_rfl
theorem qhk_  (J w2 t18 t19 t20) : pfn Tryz.prog q10_ 6 18446744073709551616 (Ev.get q11_) 21 qo_ J 58 [w2] (q17_ t18 t19 t20) = q2z_ (fun t18 t19 t20 t33 part => J 7474 [w2] (q9h_ t18 t19 t20 t33 part)) (fun t18 t19 t20 => w2 (q17_ t18 t19 t20)) t18 t19 t20 := by kernel_rfl
theorem qha_  (J t16 r) : pfn Tryz.prog q10_ 6 18446744073709551616 (Ev.get q11_) 21 qo_ J 6 [] (q9j_ t16 r) = qdc_ (fun t18 t19 t20 => J 58 [] (q17_ t18 t19 t20)) t16 r := by kernel_rfl
theorem qh4_ (J : Orc (As [.bool])) (x : As [.pr .str (.sl QAT2)]) : rfn Tryz.prog q10_ 6 18446744073709551616 (Ev.get q11_) 21 qo_ J x = q5l_ (fun t16 r => J 6 [] (q9j_ t16 r)) x.1 := by kernel_rfl
theorem qgx_  (w2 w4 t18 t19 t20 t35 t36 t37 t56) : jfn Tryz.prog q10_ 6 18446744073709551616 (Ev.get q11_) 21 qo_ 1913753 [w2, w4] (q9e_ t18 t19 t20 t35 t36 t37 t56) = q4w_ (fun t18 t19 t20 => w2 (q17_ t18 t19 t20)) (fun t18 t19 t20 t35 t36 t37 => w4 (q3n_ t18 t19 t20 t35 t36 t37)) t18 t19 t20 t35 t36 t37 t56 := by
  rw [q2_ (by decide)]
  rw [qhr_]
  rfl
theorem qh1_  (w2 t18 t19 t20 t35 t36 t37) : jfn Tryz.prog q10_ 6 18446744073709551616 (Ev.get q11_) 21 qo_ 29902 [w2] (q3n_ t18 t19 t20 t35 t36 t37) = q3p_ (fun t18 t19 t20 => w2 (q17_ t18 t19 t20)) t18 t19 t20 t35 t36 t37 := by
  rw [q2_ (by decide)]
  rw [qv_ (by kernel_rfl)]
  refine qi_ (σ := (List QAT0) × (Int) × (Int) × (List QAT3) × (Int) × (Int)) (mk := fun s => q3n_ s.1 s.2.1 s.2.2.1 s.2.2.2.1 s.2.2.2.2.1 s.2.2.2.2.2) (fun w4 s => ?_) 18446744073709551616 (t18, t19, t20, t35, t36, t37)
  have e5 : (fun t18 t19 t20 t35 t36 t37 t56 => (jfn Tryz.prog q10_ 6 18446744073709551616 (Ev.get q11_) 21 qo_) 1913753 [w2, w4] (q9e_ t18 t19 t20 t35 t36 t37 t56)) = q4w_ (fun t18 t19 t20 => w2 (q17_ t18 t19 t20)) (fun t18 t19 t20 t35 t36 t37 => w4 (q3n_ t18 t19 t20 t35 t36 t37)) := by funext t18 t19 t20 t35 t36 t37 t56; exact qgx_ w2 w4 t18 t19 t20 t35 t36 t37 t56
  refine (qh0_ _ w2 w4 s.1 s.2.1 s.2.2.1 s.2.2.2.1 s.2.2.2.2.1 s.2.2.2.2.2).trans ?_
  rw [e5]
theorem qh2_  (w2 t18 t19 t20 t33 part) : jfn Tryz.prog q10_ 6 18446744073709551616 (Ev.get q11_) 21 qo_ 7474 [w2] (q9h_ t18 t19 t20 t33 part) = q4r_ (fun t18 t19 t20 => w2 (q17_ t18 t19 t20)) t18 t19 t20 t33 part := by
  rw [q2_ (by decide)]
  have e4 : (fun t18 t19 t20 t35 t36 t37 => (jfn Tryz.prog q10_ 6 18446744073709551616 (Ev.get q11_) 21 qo_) 29902 [w2] (q3n_ t18 t19 t20 t35 t36 t37)) = q3p_ (fun t18 t19 t20 => w2 (q17_ t18 t19 t20)) := by funext t18 t19 t20 t35 t36 t37; exact qh1_ w2 t18 t19 t20 t35 t36 t37
  rw [qhq_, e4]
  rfl
theorem qhh_  (t18 t19 t20) : jfn Tryz.prog q10_ 6 18446744073709551616 (Ev.get q11_) 21 qo_ 58 [] (q17_ t18 t19 t20) = q3r_ t18 t19 t20 := by
  rw [q2_ (by decide)]
  rw [qv_ (by kernel_rfl)]
  refine qi_ (σ := (List QAT0) × (Int) × (Int)) (mk := fun s => q17_ s.1 s.2.1 s.2.2) (fun w2 s => ?_) 18446744073709551616 (t18, t19, t20)
  have e3 : (fun t18 t19 t20 t33 part => (jfn Tryz.prog q10_ 6 18446744073709551616 (Ev.get q11_) 21 qo_) 7474 [w2] (q9h_ t18 t19 t20 t33 part)) = q4r_ (fun t18 t19 t20 => w2 (q17_ t18 t19 t20)) := by funext t18 t19 t20 t33 part; exact qh2_ w2 t18 t19 t20 t33 part
  refine (qhk_ _ w2 s.1 s.2.1 s.2.2).trans ?_
  rw [e3]
theorem qhb_  (t16 r) : jfn Tryz.prog q10_ 6 18446744073709551616 (Ev.get q11_) 21 qo_ 6 [] (q9j_ t16 r) = q4u_ t16 r := by
  rw [q2_ (by decide)]
  have e2 : (fun t18 t19 t20 => (jfn Tryz.prog q10_ 6 18446744073709551616 (Ev.get q11_) 21 qo_) 58 [] (q17_ t18 t19 t20)) = q3r_ := by funext t18 t19 t20; exact qhh_ t18 t19 t20
  rw [qha_, e2]
  rfl
theorem qjm_ (x : As [.pr .str (.sl QAT2)]) : evT Tryz.prog q10_ 6 18446744073709551616 (Ev.get q11_) 21 qo_ x = q4t_ x := by
  have e1 : (fun t16 r => (jfn Tryz.prog q10_ 6 18446744073709551616 (Ev.get q11_) 21 qo_) 6 [] (q9j_ t16 r)) = q4u_ := by funext t16 r; exact qhb_ t16 r
  rw [q1u_, qh4_, e1]
  rfl
theorem qho_ : CtOk Tryz.prog I0 21 ⟨qo_, q4t_⟩ := qu_ (q0_ qbt_ (q0_ qdo_ (q0_ qj4_ q9_))) qjm_
def ql0_ (j2 : List UInt8 -> Int -> Option (As [.bool])) (s : List UInt8) (t34 : Bool) : Option (As [.bool]) :=
  if t34 = true then some (false, ()) else j2 s 0
def qlg_ (j3 : List UInt8 -> Int -> Bool -> Option (As [.bool])) (self2 : List UInt8 -> Int -> Option (As [.bool])) (s : List UInt8) (i : Int) : Option (As [.bool]) :=
  if lt i (Int.ofNat (List.length s)) = true then Option.bind (at? s i) fun (c : UInt8) => if ge (Int.ofNat (UInt8.toNat c)) 97 = true then if (!le (Int.ofNat (UInt8.toNat c)) 122) = true then if ge (Int.ofNat (UInt8.toNat c)) 48 = true then if (!le (Int.ofNat (UInt8.toNat c)) 57) = true then j3 s i (nei (Int.ofNat (UInt8.toNat c)) 95) else j3 s i false else j3 s i (nei (Int.ofNat (UInt8.toNat c)) 95) else j3 s i false else if ge (Int.ofNat (UInt8.toNat c)) 48 = true then if (!le (Int.ofNat (UInt8.toNat c)) 57) = true then j3 s i (nei (Int.ofNat (UInt8.toNat c)) 95) else j3 s i false else j3 s i (nei (Int.ofNat (UInt8.toNat c)) 95) else some (true, ())
def qkw_ (self2 : List UInt8 -> Int -> Option (As [.bool])) (s : List UInt8) (i : Int) (t63 : Bool) : Option (As [.bool]) :=
  if t63 = true then some (false, ()) else self2 s (add .i64 i 1)
def qly_ (j1 : List UInt8 -> Bool -> Option (As [.bool])) (s : List UInt8) : Option (As [.bool]) :=
  if lt (Int.ofNat (List.length s)) 1 = true then j1 s true else if gt (Int.ofNat (List.length s)) 20 = true then j1 s true else if eqs s [114, 101, 99, 105, 112, 101] = true then j1 s true else if eqs s [115, 108, 97, 118, 101] = true then j1 s true else if eqs s [101, 110, 100] = true then j1 s true else Option.bind (at? s 0) fun (c : UInt8) => if lt (Int.ofNat (UInt8.toNat c)) 97 = true then j1 s true else Option.bind (at? s 0) fun (c : UInt8) => j1 s (gt (Int.ofNat (UInt8.toNat c)) 122)
def qlb_ (u2 : List UInt8 -> Int -> Option (As [.bool])) (s : List UInt8) (i : Int) (t63 : Bool) : Option (As [.bool]) := qkw_ u2 s i t63
def ql7_ (s : List UInt8) (i : Int) : Option (As [.bool]) :=
  loopF (fun (self : (List UInt8) × (Int) -> Option (As [.bool])) (s : (List UInt8) × (Int)) => qlg_ (qlb_ (fun s i => self (s, i))) (fun s i => self (s, i)) s.1 s.2) 18446744073709551616 (s, i)
def qlj_ (s : List UInt8) (t34 : Bool) : Option (As [.bool]) := ql0_ (ql7_) s t34
def qbj_ (x : As [.str]) : Option (As [.bool]) := qly_ qlj_ x.1
def qko_ (d : Int × Int) : Option (As [.bool]) :=
  if ge d.1 (-1000000000000) = true then if le d.1 1000000000000 = true then if le d.2 6 = true then if eqi d.2 0 = true then some (true, ()) else some (nei (rem d.1 10) 0, ()) else some (false, ()) else some (false, ()) else some (false, ())
def qo0_ (x : As [.pr (.int .i64) (.int .u8)]) : Option (As [.bool]) := qko_ x.1
def ql2_ (s : List UInt8) : Option (As [.bool]) :=
  Option.bind (qks_ (s, ())) fun (y : List QAT4 × (Int × Int) × Unit) => if eqi y.2.1.1 0 = true then if eqi (Int.ofNat (List.length y.1)) 2 = true then Option.bind (at? y.1 0) fun (y_1 : Int × List UInt8 × (Int × Int) × Int) => if eqi y_1.1 1 = true then Option.bind (at? y.1 0) fun (y : Int × List UInt8 × (Int × Int) × Int) => some (eqs y.2.1 s, ()) else some (false, ()) else some (false, ()) else some (false, ())
def qoa_ (x : As [.str]) : Option (As [.bool]) := ql2_ x.1
end Go.Proofs.Lx
end
