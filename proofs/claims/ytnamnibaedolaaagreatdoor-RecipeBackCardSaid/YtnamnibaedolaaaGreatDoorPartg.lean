/- Proved in the last of these 11 parts (this is part 7): the law RecipeBack of chapter 14 returns true at every recipe and every text. Conditions: those of the given statement, and no others. -/
import Derived.Test.YtnamnibaedolaaaGreatDoorParte
import Derived.Test.YtnamnibaedolaaaGreatDoorPartf
import Derived.Test.YtnamnibaedolaaaGreatDoorProg
set_option linter.unusedVariables false
set_option linter.unusedSimpArgs false
set_option linter.unusedSectionVars false
section
open Go Go.Proofs Ev Sx
set_option maxRecDepth 100000
namespace Go.Proofs.Lx
def qgm_ (j2 : List UInt8 -> Bool -> Int -> Int -> Option (As [.pr (.int .i64) (.int .u8), .bool])) (s : List UInt8) (below : Bool) (t2 t2_2 : Int) : Option (As [.pr (.int .i64) (.int .u8), .bool]) :=
  if below = true then Option.bind (cut s 1 (Int.ofNat (List.length s))) fun (y : List UInt8) => j2 y below t2 t2_2 else j2 s below t2 t2_2
def qgv_ (j3 : List UInt8 -> Bool -> Int -> Bool -> Int -> Int -> Int -> Int -> Int -> Option (As [.pr (.int .i64) (.int .u8), .bool])) (s : List UInt8) (below : Bool) (t2 t2_2 : Int) : Option (As [.pr (.int .i64) (.int .u8), .bool]) :=
  j3 s below 0 false 0 0 0 t2 t2_2
def qi8_ (j4 : List UInt8 -> Bool -> Int -> Bool -> Int -> Int -> Int -> Bool -> Int -> Int -> Option (As [.pr (.int .i64) (.int .u8), .bool])) (j5 : Bool -> Int -> Bool -> Int -> Int -> Int -> Int -> Option (As [.pr (.int .i64) (.int .u8), .bool])) (self3 : List UInt8 -> Bool -> Int -> Bool -> Int -> Int -> Int -> Int -> Int -> Option (As [.pr (.int .i64) (.int .u8), .bool])) (s : List UInt8) (below : Bool) (n : Int) (point : Bool) (behind ahead i t2 t2_2 : Int) : Option (As [.pr (.int .i64) (.int .u8), .bool]) :=
  if lt i (Int.ofNat (List.length s)) = true then Option.bind (at? s i) fun (c : UInt8) => if eqi (Int.ofNat (UInt8.toNat c)) 46 = true then if (!point) = true then j4 s below n point behind ahead i (gt ahead 0) t2 t2_2 else j4 s below n point behind ahead i false t2 t2_2 else j4 s below n point behind ahead i false t2 t2_2 else j5 below n point behind ahead t2 t2_2
def qi0_ (j6 : List UInt8 -> Bool -> Int -> Bool -> Int -> Int -> Int -> Int -> Int -> Option (As [.pr (.int .i64) (.int .u8), .bool])) (j7 : List UInt8 -> Bool -> Int -> Bool -> Int -> Int -> Int -> Bool -> Int -> Int -> Option (As [.pr (.int .i64) (.int .u8), .bool])) (self3 : List UInt8 -> Bool -> Int -> Bool -> Int -> Int -> Int -> Int -> Int -> Option (As [.pr (.int .i64) (.int .u8), .bool])) (s : List UInt8) (below : Bool) (n : Int) (point : Bool) (behind ahead i : Int) (t38 : Bool) (t2 t2_2 : Int) : Option (As [.pr (.int .i64) (.int .u8), .bool]) :=
  if t38 = true then j6 s below n true behind ahead i t2 t2_2 else Option.bind (at? s i) fun (c : UInt8) => if lt (Int.ofNat (UInt8.toNat c)) 48 = true then j7 s below n point behind ahead i true t2 t2_2 else Option.bind (at? s i) fun (c : UInt8) => if gt (Int.ofNat (UInt8.toNat c)) 57 = true then j7 s below n point behind ahead i true t2 t2_2 else if eqi ahead 1 = true then Option.bind (at? s 0) fun (c : UInt8) => if eqi (Int.ofNat (UInt8.toNat c)) 48 = true then j7 s below n point behind ahead i (!point) t2 t2_2 else j7 s below n point behind ahead i false t2 t2_2 else j7 s below n point behind ahead i false t2 t2_2
def qh0_ (j8 : Bool -> Int -> Int -> Bool -> Int -> Int -> Option (As [.pr (.int .i64) (.int .u8), .bool])) (below : Bool) (n : Int) (point : Bool) (behind ahead t2 t2_2 : Int) : Option (As [.pr (.int .i64) (.int .u8), .bool]) :=
  if eqi ahead 0 = true then j8 below n behind true t2 t2_2 else if point = true then if eqi behind 0 = true then j8 below n behind true t2 t2_2 else j8 below n behind (gt behind 6) t2 t2_2 else j8 below n behind (gt behind 6) t2 t2_2
def qhw_ (self3 : List UInt8 -> Bool -> Int -> Bool -> Int -> Int -> Int -> Int -> Int -> Option (As [.pr (.int .i64) (.int .u8), .bool])) (s : List UInt8) (below : Bool) (n : Int) (point : Bool) (behind ahead i t2 t2_2 : Int) : Option (As [.pr (.int .i64) (.int .u8), .bool]) :=
  self3 s below n point behind ahead (add .i64 i 1) t2 t2_2
def qg0_ (j6 self3 : List UInt8 -> Bool -> Int -> Bool -> Int -> Int -> Int -> Int -> Int -> Option (As [.pr (.int .i64) (.int .u8), .bool])) (s : List UInt8) (below : Bool) (n : Int) (point : Bool) (behind ahead i : Int) (t61 : Bool) (t2 t2_2 : Int) : Option (As [.pr (.int .i64) (.int .u8), .bool]) :=
  if t61 = true then some ((0, 0), false, ()) else if gt n 100000000000000000 = true then some ((0, 0), false, ()) else Option.bind (at? s i) fun (c : UInt8) => if point = true then j6 s below (add .i64 (mul .i64 n 10) (cvt .i64 (Sx.sub .u8 (Int.ofNat (UInt8.toNat c)) 48))) point (add .i64 behind 1) ahead i t2 t2_2 else j6 s below (add .i64 (mul .i64 n 10) (cvt .i64 (Sx.sub .u8 (Int.ofNat (UInt8.toNat c)) 48))) point behind (add .i64 ahead 1) i t2 t2_2
def qia_ (j9 : Int -> Int -> Int -> Int -> Option (As [.pr (.int .i64) (.int .u8), .bool])) (below : Bool) (n behind : Int) (t91 : Bool) (t2 t2_2 : Int) : Option (As [.pr (.int .i64) (.int .u8), .bool]) :=
  if t91 = true then some ((0, 0), false, ()) else if below = true then j9 (Sx.neg .i64 n) behind t2 t2_2 else j9 n behind t2 t2_2
def qhz_ (n behind t2 t2_2 : Int) : Option (As [.pr (.int .i64) (.int .u8), .bool]) :=
  Option.bind (qma_ (n, behind, ())) fun (y : (Int × Int) × Bool × Unit) => some (y.1, y.2.1, ())
def qic_ (j1 : List UInt8 -> Bool -> Int -> Int -> Option (As [.pr (.int .i64) (.int .u8), .bool])) (s : List UInt8) : Option (As [.pr (.int .i64) (.int .u8), .bool]) :=
  if gt (Int.ofNat (List.length s)) 0 = true then Option.bind (at? s 0) fun (c : UInt8) => j1 s (eqi (Int.ofNat (UInt8.toNat c)) 45) 0 0 else j1 s false 0 0
def qc7_ (u3 : List UInt8 -> Bool -> Int -> Bool -> Int -> Int -> Int -> Int -> Int -> Option (As [.pr (.int .i64) (.int .u8), .bool])) (s : List UInt8) (below : Bool) (n : Int) (point : Bool) (behind ahead i t2 t2_2 : Int) : Option (As [.pr (.int .i64) (.int .u8), .bool]) := qhw_ u3 s below n point behind ahead i t2 t2_2
def qhc_ (u3 : List UInt8 -> Bool -> Int -> Bool -> Int -> Int -> Int -> Int -> Int -> Option (As [.pr (.int .i64) (.int .u8), .bool])) (s : List UInt8) (below : Bool) (n : Int) (point : Bool) (behind ahead i : Int) (t61 : Bool) (t2 t2_2 : Int) : Option (As [.pr (.int .i64) (.int .u8), .bool]) := qg0_ (qc7_ u3) u3 s below n point behind ahead i t61 t2 t2_2
def qfr_ (u3 : List UInt8 -> Bool -> Int -> Bool -> Int -> Int -> Int -> Int -> Int -> Option (As [.pr (.int .i64) (.int .u8), .bool])) (s : List UInt8) (below : Bool) (n : Int) (point : Bool) (behind ahead i : Int) (t38 : Bool) (t2 t2_2 : Int) : Option (As [.pr (.int .i64) (.int .u8), .bool]) := qi0_ (qc7_ u3) (qhc_ u3) u3 s below n point behind ahead i t38 t2 t2_2
def qh5_ (n behind t2 t2_2 : Int) : Option (As [.pr (.int .i64) (.int .u8), .bool]) := qhz_ n behind t2 t2_2
def qi1_ (below : Bool) (n behind : Int) (t91 : Bool) (t2 t2_2 : Int) : Option (As [.pr (.int .i64) (.int .u8), .bool]) := qia_ (qh5_) below n behind t91 t2 t2_2
def qh1_ (below : Bool) (n : Int) (point : Bool) (behind ahead t2 t2_2 : Int) : Option (As [.pr (.int .i64) (.int .u8), .bool]) := qh0_ (qi1_) below n point behind ahead t2 t2_2
def qin_ (s : List UInt8) (below : Bool) (n : Int) (point : Bool) (behind ahead i t2 t2_2 : Int) : Option (As [.pr (.int .i64) (.int .u8), .bool]) :=
  loopF (fun (self : (List UInt8) × (Bool) × (Int) × (Bool) × (Int) × (Int) × (Int) × (Int) × (Int) -> Option (As [.pr (.int .i64) (.int .u8), .bool])) (s : (List UInt8) × (Bool) × (Int) × (Bool) × (Int) × (Int) × (Int) × (Int) × (Int)) => qi8_ (qfr_ (fun s below n point behind ahead i t2 t2_2 => self (s, below, n, point, behind, ahead, i, t2, t2_2))) (qh1_) (fun s below n point behind ahead i t2 t2_2 => self (s, below, n, point, behind, ahead, i, t2, t2_2)) s.1 s.2.1 s.2.2.1 s.2.2.2.1 s.2.2.2.2.1 s.2.2.2.2.2.1 s.2.2.2.2.2.2.1 s.2.2.2.2.2.2.2.1 s.2.2.2.2.2.2.2.2) 18446744073709551616 (s, below, n, point, behind, ahead, i, t2, t2_2)
def qgf_ (s : List UInt8) (below : Bool) (t2 t2_2 : Int) : Option (As [.pr (.int .i64) (.int .u8), .bool]) := qgv_ (qin_) s below t2 t2_2
def qi4_ (s : List UInt8) (below : Bool) (t2 t2_2 : Int) : Option (As [.pr (.int .i64) (.int .u8), .bool]) := qgm_ (qgf_) s below t2 t2_2
def qld_ (x : As [.str]) : Option (As [.pr (.int .i64) (.int .u8), .bool]) := qic_ qi4_ x.1
def ql2_ (j2 : List UInt8 -> Int -> Bool -> Int -> Bool -> Int -> Int -> List QAT4 -> Option (As [.sl QAT1, .pr (.int .i64) (.int .i64)])) (j3 : Int -> Int -> List QAT4 -> Option (As [.sl QAT1, .pr (.int .i64) (.int .i64)])) (self1 : List UInt8 -> Int -> Bool -> Int -> Int -> Int -> List QAT4 -> Option (As [.sl QAT1, .pr (.int .i64) (.int .i64)])) (text : List UInt8) (line : Int) (some' : Bool) (i t3 t3_2 : Int) (out : List QAT4) : Option (As [.sl QAT1, .pr (.int .i64) (.int .i64)]) :=
  if le i (Int.ofNat (List.length text)) = true then if eqi i (Int.ofNat (List.length text)) = true then j2 text line some' i true t3 t3_2 out else Option.bind (at? text i) fun (c : UInt8) => j2 text line some' i (eqi (Int.ofNat (UInt8.toNat c)) 10) t3 t3_2 out else j3 t3 t3_2 out
def qkm_ (j4 : List UInt8 -> Int -> Int -> Int -> Int -> List QAT4 -> Option (As [.sl QAT1, .pr (.int .i64) (.int .i64)])) (j5 : List UInt8 -> Int -> Bool -> Int -> Int -> Int -> List QAT4 -> Option (As [.sl QAT1, .pr (.int .i64) (.int .i64)])) (j6 : List UInt8 -> Int -> Bool -> Int -> Int -> Int -> Int -> List QAT4 -> Option (As [.sl QAT1, .pr (.int .i64) (.int .i64)])) (self1 : List UInt8 -> Int -> Bool -> Int -> Int -> Int -> List QAT4 -> Option (As [.sl QAT1, .pr (.int .i64) (.int .i64)])) (text : List UInt8) (line : Int) (some' : Bool) (i : Int) (t31 : Bool) (t3 t3_2 : Int) (out : List QAT4) : Option (As [.sl QAT1, .pr (.int .i64) (.int .i64)]) :=
  if t31 = true then if some' = true then need (small (List.length out + Nat.succ 0)) (j4 text line i t3 t3_2 (out ++ [(4, [], (0, 0), line)])) else j4 text line i t3 t3_2 out else Option.bind (at? text i) fun (c : UInt8) => if eqi (Int.ofNat (UInt8.toNat c)) 35 = true then j5 text line some' i t3 t3_2 out else j6 text line some' i (Int.ofNat (UInt8.toNat c)) t3 t3_2 out
def qkf_ (t3 t3_2 : Int) (out : List QAT4) : Option (As [.sl QAT1, .pr (.int .i64) (.int .i64)]) :=
  some (out, (0, 0), ())
def qkt_ (j7 self1 : List UInt8 -> Int -> Bool -> Int -> Int -> Int -> List QAT4 -> Option (As [.sl QAT1, .pr (.int .i64) (.int .i64)])) (text : List UInt8) (line i t3 t3_2 : Int) (out : List QAT4) : Option (As [.sl QAT1, .pr (.int .i64) (.int .i64)]) :=
  j7 text (add .i64 line 1) false i t3 t3_2 out
def qki_ (j8 : List UInt8 -> Int -> Bool -> Int -> Bool -> Int -> Int -> List QAT4 -> Option (As [.sl QAT1, .pr (.int .i64) (.int .i64)])) (self1 self5 : List UInt8 -> Int -> Bool -> Int -> Int -> Int -> List QAT4 -> Option (As [.sl QAT1, .pr (.int .i64) (.int .i64)])) (text : List UInt8) (line : Int) (some' : Bool) (i t3 t3_2 : Int) (out : List QAT4) : Option (As [.sl QAT1, .pr (.int .i64) (.int .i64)]) :=
  if lt (add .i64 i 1) (Int.ofNat (List.length text)) = true then Option.bind (at? text (add .i64 i 1)) fun (c : UInt8) => j8 text line some' i (nei (Int.ofNat (UInt8.toNat c)) 10) t3 t3_2 out else j8 text line some' i false t3 t3_2 out
def ql0_ (j9 : List UInt8 -> Int -> Bool -> Int -> Int -> Bool -> Int -> Int -> List QAT4 -> Option (As [.sl QAT1, .pr (.int .i64) (.int .i64)])) (self1 : List UInt8 -> Int -> Bool -> Int -> Int -> Int -> List QAT4 -> Option (As [.sl QAT1, .pr (.int .i64) (.int .i64)])) (text : List UInt8) (line : Int) (some' : Bool) (i c t3 t3_2 : Int) (out : List QAT4) : Option (As [.sl QAT1, .pr (.int .i64) (.int .i64)]) :=
  if eqi c 9 = true then j9 text line some' i c true t3 t3_2 out else if eqi c 13 = true then j9 text line some' i c true t3 t3_2 out else j9 text line some' i c (eqi c 32) t3 t3_2 out
def qkx_ (self1 : List UInt8 -> Int -> Bool -> Int -> Int -> Int -> List QAT4 -> Option (As [.sl QAT1, .pr (.int .i64) (.int .i64)])) (text : List UInt8) (line : Int) (some' : Bool) (i t3 t3_2 : Int) (out : List QAT4) : Option (As [.sl QAT1, .pr (.int .i64) (.int .i64)]) :=
  self1 text line some' (add .i64 i 1) t3 t3_2 out
def qkn_ (j7 self1 self5 : List UInt8 -> Int -> Bool -> Int -> Int -> Int -> List QAT4 -> Option (As [.sl QAT1, .pr (.int .i64) (.int .i64)])) (text : List UInt8) (line : Int) (some' : Bool) (i : Int) (t56 : Bool) (t3 t3_2 : Int) (out : List QAT4) : Option (As [.sl QAT1, .pr (.int .i64) (.int .i64)]) :=
  if t56 = true then self5 text line some' (add .i64 i 1) t3 t3_2 out else j7 text line some' i t3 t3_2 out
def qky_ (j7 : List UInt8 -> Int -> Bool -> Int -> Int -> Int -> List QAT4 -> Option (As [.sl QAT1, .pr (.int .i64) (.int .i64)])) (j10 : List UInt8 -> Int -> Int -> Int -> Int -> List QAT4 -> Int -> List UInt8 -> Int -> Int -> Int -> Option (As [.sl QAT1, .pr (.int .i64) (.int .i64)])) (j11 : List UInt8 -> Int -> Int -> Int -> Bool -> Int -> Int -> List QAT4 -> Int -> List UInt8 -> Int -> Int -> Int -> Option (As [.sl QAT1, .pr (.int .i64) (.int .i64)])) (self1 : List UInt8 -> Int -> Bool -> Int -> Int -> Int -> List QAT4 -> Option (As [.sl QAT1, .pr (.int .i64) (.int .i64)])) (text : List UInt8) (line : Int) (some' : Bool) (i c : Int) (t68 : Bool) (t3 t3_2 : Int) (out : List QAT4) : Option (As [.sl QAT1, .pr (.int .i64) (.int .i64)]) :=
  if t68 = true then j7 text line some' i t3 t3_2 out else Option.bind (qd9_ (c, ())) fun (y : Bool × Unit) => if y.1 = true then j10 text line i t3 t3_2 out 1 [] 0 0 line else Option.bind (qby_ (c, ())) fun (y : Bool × Unit) => if y.1 = true then j11 text line i c true t3 t3_2 out 0 [] 0 0 line else j11 text line i c (eqi c 45) t3 t3_2 out 0 [] 0 0 line
def qj3_ (j12 : List UInt8 -> Int -> Int -> Int -> Int -> List QAT4 -> Int -> List UInt8 -> Int -> Int -> Int -> Option (As [.sl QAT1, .pr (.int .i64) (.int .i64)])) (self1 : List UInt8 -> Int -> Bool -> Int -> Int -> Int -> List QAT4 -> Option (As [.sl QAT1, .pr (.int .i64) (.int .i64)])) (text : List UInt8) (line i t3 t3_2 : Int) (out : List QAT4) (t : Int) (t_2 : List UInt8) (t_3 t_4 t_5 : Int) : Option (As [.sl QAT1, .pr (.int .i64) (.int .i64)]) :=
  Option.bind (cut text i (add .i64 i 1)) fun (y : List UInt8) => j12 text line i t3 t3_2 out t y t_3 t_4 t_5
def qjf_ (j10 : List UInt8 -> Int -> Int -> Int -> Int -> List QAT4 -> Int -> List UInt8 -> Int -> Int -> Int -> Option (As [.sl QAT1, .pr (.int .i64) (.int .i64)])) (self1 : List UInt8 -> Int -> Bool -> Int -> Int -> Int -> List QAT4 -> Option (As [.sl QAT1, .pr (.int .i64) (.int .i64)])) (text : List UInt8) (line i c : Int) (t79 : Bool) (t3 t3_2 : Int) (out : List QAT4) (t : Int) (t_2 : List UInt8) (t_3 t_4 t_5 : Int) : Option (As [.sl QAT1, .pr (.int .i64) (.int .i64)]) :=
  if t79 = true then j10 text line i t3 t3_2 out 2 t_2 t_3 t_4 t_5 else if eqi c 61 = true then j10 text line i t3 t3_2 out 3 t_2 t_3 t_4 t_5 else some ([], (131, line), ())
def qk2_ (j13 : List UInt8 -> Int -> Int -> Bool -> Int -> Int -> List QAT4 -> Int -> List UInt8 -> Int -> Int -> Int -> Option (As [.sl QAT1, .pr (.int .i64) (.int .i64)])) (self1 : List UInt8 -> Int -> Bool -> Int -> Int -> Int -> List QAT4 -> Option (As [.sl QAT1, .pr (.int .i64) (.int .i64)])) (self12 : List UInt8 -> Int -> Int -> Int -> Int -> List QAT4 -> Int -> List UInt8 -> Int -> Int -> Int -> Option (As [.sl QAT1, .pr (.int .i64) (.int .i64)])) (text : List UInt8) (line i t3 t3_2 : Int) (out : List QAT4) (t : Int) (t_2 : List UInt8) (t_3 t_4 t_5 : Int) : Option (As [.sl QAT1, .pr (.int .i64) (.int .i64)]) :=
  if nei t 3 = true then if lt (add .i64 i 1) (Int.ofNat (List.length text)) = true then Option.bind (at? text (add .i64 i 1)) fun (c : UInt8) => Option.bind (qm2_ (t, Int.ofNat (UInt8.toNat c), ())) fun (y : Bool × Unit) => j13 text line i y.1 t3 t3_2 out t t_2 t_3 t_4 t_5 else j13 text line i false t3 t3_2 out t t_2 t_3 t_4 t_5 else j13 text line i false t3 t3_2 out t t_2 t_3 t_4 t_5
def qir_ (j14 : List UInt8 -> Int -> Int -> Int -> Int -> List QAT4 -> Int -> List UInt8 -> Int -> Int -> Int -> Option (As [.sl QAT1, .pr (.int .i64) (.int .i64)])) (self1 : List UInt8 -> Int -> Bool -> Int -> Int -> Int -> List QAT4 -> Option (As [.sl QAT1, .pr (.int .i64) (.int .i64)])) (self12 : List UInt8 -> Int -> Int -> Int -> Int -> List QAT4 -> Int -> List UInt8 -> Int -> Int -> Int -> Option (As [.sl QAT1, .pr (.int .i64) (.int .i64)])) (text : List UInt8) (line i : Int) (t110 : Bool) (t3 t3_2 : Int) (out : List QAT4) (t : Int) (t_2 : List UInt8) (t_3 t_4 t_5 : Int) : Option (As [.sl QAT1, .pr (.int .i64) (.int .i64)]) :=
  if t110 = true then Option.bind (cut text (add .i64 i 1) (add .i64 (add .i64 i 1) 1)) fun (y : List UInt8) => need (small (List.length t_2 + List.length y)) (self12 text line (add .i64 i 1) t3 t3_2 out t (t_2 ++ y) t_3 t_4 t_5) else j14 text line i t3 t3_2 out t t_2 t_3 t_4 t_5
def qka_ (j15 : List UInt8 -> Int -> Int -> Bool -> Int -> Int -> List QAT4 -> Int -> List UInt8 -> Int -> Int -> Int -> Option (As [.sl QAT1, .pr (.int .i64) (.int .i64)])) (self1 : List UInt8 -> Int -> Bool -> Int -> Int -> Int -> List QAT4 -> Option (As [.sl QAT1, .pr (.int .i64) (.int .i64)])) (text : List UInt8) (line i t3 t3_2 : Int) (out : List QAT4) (t : Int) (t_2 : List UInt8) (t_3 t_4 t_5 : Int) : Option (As [.sl QAT1, .pr (.int .i64) (.int .i64)]) :=
  if eqi t 1 = true then j15 text line i (gt (Int.ofNat (List.length t_2)) 20) t3 t3_2 out t t_2 t_3 t_4 t_5 else j15 text line i false t3 t3_2 out t t_2 t_3 t_4 t_5
def qk9_ (j16 : List UInt8 -> Int -> Int -> Int -> Int -> List QAT4 -> Int -> List UInt8 -> Int -> Int -> Int -> Option (As [.sl QAT1, .pr (.int .i64) (.int .i64)])) (self1 : List UInt8 -> Int -> Bool -> Int -> Int -> Int -> List QAT4 -> Option (As [.sl QAT1, .pr (.int .i64) (.int .i64)])) (text : List UInt8) (line i : Int) (t130 : Bool) (t3 t3_2 : Int) (out : List QAT4) (t : Int) (t_2 : List UInt8) (t_3 t_4 t_5 : Int) : Option (As [.sl QAT1, .pr (.int .i64) (.int .i64)]) :=
  if t130 = true then some ([], (133, line), ()) else if eqi t 2 = true then Option.bind (qld_ (t_2, ())) fun (y : (Int × Int) × Bool × Unit) => if (!y.2.1) = true then some ([], (132, line), ()) else j16 text line i t3 t3_2 out t t_2 y.1.1 y.1.2 t_5 else j16 text line i t3 t3_2 out t t_2 t_3 t_4 t_5
def qj9_ (j7 self1 : List UInt8 -> Int -> Bool -> Int -> Int -> Int -> List QAT4 -> Option (As [.sl QAT1, .pr (.int .i64) (.int .i64)])) (text : List UInt8) (line i t3 t3_2 : Int) (out : List QAT4) (t : Int) (t_2 : List UInt8) (t_3 t_4 t_5 : Int) : Option (As [.sl QAT1, .pr (.int .i64) (.int .i64)]) :=
  need (small (List.length out + Nat.succ 0)) (j7 text line true i t3 t3_2 (out ++ [(t, t_2, (t_3, t_4), t_5)]))
def qks_ (j1 : List UInt8 -> Int -> Bool -> Int -> Int -> Int -> List QAT4 -> Option (As [.sl QAT1, .pr (.int .i64) (.int .i64)])) (text : List UInt8) : Option (As [.sl QAT1, .pr (.int .i64) (.int .i64)]) :=
  if gt (Int.ofNat (List.length text)) 8192 = true then some ([], (130, 0), ()) else j1 text 1 false 0 0 0 []
def q9o_ (u1 : List UInt8 -> Int -> Bool -> Int -> Int -> Int -> List QAT4 -> Option (As [.sl QAT1, .pr (.int .i64) (.int .i64)])) (text : List UInt8) (line : Int) (some' : Bool) (i t3 t3_2 : Int) (out : List QAT4) : Option (As [.sl QAT1, .pr (.int .i64) (.int .i64)]) := qkx_ u1 text line some' i t3 t3_2 out
def qkq_ (u1 : List UInt8 -> Int -> Bool -> Int -> Int -> Int -> List QAT4 -> Option (As [.sl QAT1, .pr (.int .i64) (.int .i64)])) (text : List UInt8) (line i t3 t3_2 : Int) (out : List QAT4) : Option (As [.sl QAT1, .pr (.int .i64) (.int .i64)]) := qkt_ (q9o_ u1) u1 text line i t3 t3_2 out
def qkp_ (u1 u5 : List UInt8 -> Int -> Bool -> Int -> Int -> Int -> List QAT4 -> Option (As [.sl QAT1, .pr (.int .i64) (.int .i64)])) (text : List UInt8) (line : Int) (some' : Bool) (i : Int) (t56 : Bool) (t3 t3_2 : Int) (out : List QAT4) : Option (As [.sl QAT1, .pr (.int .i64) (.int .i64)]) := qkn_ (q9o_ u1) u1 u5 text line some' i t56 t3 t3_2 out
def qkr_ (u1 : List UInt8 -> Int -> Bool -> Int -> Int -> Int -> List QAT4 -> Option (As [.sl QAT1, .pr (.int .i64) (.int .i64)])) (text : List UInt8) (line : Int) (some' : Bool) (i t3 t3_2 : Int) (out : List QAT4) : Option (As [.sl QAT1, .pr (.int .i64) (.int .i64)]) :=
  loopF (fun (self : (List UInt8) × (Int) × (Bool) × (Int) × (Int) × (Int) × (List QAT4) -> Option (As [.sl QAT1, .pr (.int .i64) (.int .i64)])) (s : (List UInt8) × (Int) × (Bool) × (Int) × (Int) × (Int) × (List QAT4)) => qki_ (qkp_ u1 (fun text line some' i t3 t3_2 out => self (text, line, some', i, t3, t3_2, out))) u1 (fun text line some' i t3 t3_2 out => self (text, line, some', i, t3, t3_2, out)) s.1 s.2.1 s.2.2.1 s.2.2.2.1 s.2.2.2.2.1 s.2.2.2.2.2.1 s.2.2.2.2.2.2) 18446744073709551616 (text, line, some', i, t3, t3_2, out)
def qjz_ (u1 : List UInt8 -> Int -> Bool -> Int -> Int -> Int -> List QAT4 -> Option (As [.sl QAT1, .pr (.int .i64) (.int .i64)])) (text : List UInt8) (line i t3 t3_2 : Int) (out : List QAT4) (t : Int) (t_2 : List UInt8) (t_3 t_4 t_5 : Int) : Option (As [.sl QAT1, .pr (.int .i64) (.int .i64)]) := qj9_ (q9o_ u1) u1 text line i t3 t3_2 out t t_2 t_3 t_4 t_5
def qjq_ (u1 : List UInt8 -> Int -> Bool -> Int -> Int -> Int -> List QAT4 -> Option (As [.sl QAT1, .pr (.int .i64) (.int .i64)])) (text : List UInt8) (line i : Int) (t130 : Bool) (t3 t3_2 : Int) (out : List QAT4) (t : Int) (t_2 : List UInt8) (t_3 t_4 t_5 : Int) : Option (As [.sl QAT1, .pr (.int .i64) (.int .i64)]) := qk9_ (qjz_ u1) u1 text line i t130 t3 t3_2 out t t_2 t_3 t_4 t_5
def qis_ (u1 : List UInt8 -> Int -> Bool -> Int -> Int -> Int -> List QAT4 -> Option (As [.sl QAT1, .pr (.int .i64) (.int .i64)])) (text : List UInt8) (line i t3 t3_2 : Int) (out : List QAT4) (t : Int) (t_2 : List UInt8) (t_3 t_4 t_5 : Int) : Option (As [.sl QAT1, .pr (.int .i64) (.int .i64)]) := qka_ (qjq_ u1) u1 text line i t3 t3_2 out t t_2 t_3 t_4 t_5
def qk6_ (u1 : List UInt8 -> Int -> Bool -> Int -> Int -> Int -> List QAT4 -> Option (As [.sl QAT1, .pr (.int .i64) (.int .i64)])) (u12 : List UInt8 -> Int -> Int -> Int -> Int -> List QAT4 -> Int -> List UInt8 -> Int -> Int -> Int -> Option (As [.sl QAT1, .pr (.int .i64) (.int .i64)])) (text : List UInt8) (line i : Int) (t110 : Bool) (t3 t3_2 : Int) (out : List QAT4) (t : Int) (t_2 : List UInt8) (t_3 t_4 t_5 : Int) : Option (As [.sl QAT1, .pr (.int .i64) (.int .i64)]) := qir_ (qis_ u1) u1 u12 text line i t110 t3 t3_2 out t t_2 t_3 t_4 t_5
def qjh_ (u1 : List UInt8 -> Int -> Bool -> Int -> Int -> Int -> List QAT4 -> Option (As [.sl QAT1, .pr (.int .i64) (.int .i64)])) (text : List UInt8) (line i t3 t3_2 : Int) (out : List QAT4) (t : Int) (t_2 : List UInt8) (t_3 t_4 t_5 : Int) : Option (As [.sl QAT1, .pr (.int .i64) (.int .i64)]) :=
  loopF (fun (self : (List UInt8) × (Int) × (Int) × (Int) × (Int) × (List QAT4) × (Int) × (List UInt8) × (Int) × (Int) × (Int) -> Option (As [.sl QAT1, .pr (.int .i64) (.int .i64)])) (s : (List UInt8) × (Int) × (Int) × (Int) × (Int) × (List QAT4) × (Int) × (List UInt8) × (Int) × (Int) × (Int)) => qk2_ (qk6_ u1 (fun text line i t3 t3_2 out t t_2 t_3 t_4 t_5 => self (text, line, i, t3, t3_2, out, t, t_2, t_3, t_4, t_5))) u1 (fun text line i t3 t3_2 out t t_2 t_3 t_4 t_5 => self (text, line, i, t3, t3_2, out, t, t_2, t_3, t_4, t_5)) s.1 s.2.1 s.2.2.1 s.2.2.2.1 s.2.2.2.2.1 s.2.2.2.2.2.1 s.2.2.2.2.2.2.1 s.2.2.2.2.2.2.2.1 s.2.2.2.2.2.2.2.2.1 s.2.2.2.2.2.2.2.2.2.1 s.2.2.2.2.2.2.2.2.2.2) 18446744073709551616 (text, line, i, t3, t3_2, out, t, t_2, t_3, t_4, t_5)
def qck_ (u1 : List UInt8 -> Int -> Bool -> Int -> Int -> Int -> List QAT4 -> Option (As [.sl QAT1, .pr (.int .i64) (.int .i64)])) (text : List UInt8) (line i t3 t3_2 : Int) (out : List QAT4) (t : Int) (t_2 : List UInt8) (t_3 t_4 t_5 : Int) : Option (As [.sl QAT1, .pr (.int .i64) (.int .i64)]) := qj3_ (qjh_ u1) u1 text line i t3 t3_2 out t t_2 t_3 t_4 t_5
def qj1_ (u1 : List UInt8 -> Int -> Bool -> Int -> Int -> Int -> List QAT4 -> Option (As [.sl QAT1, .pr (.int .i64) (.int .i64)])) (text : List UInt8) (line i c : Int) (t79 : Bool) (t3 t3_2 : Int) (out : List QAT4) (t : Int) (t_2 : List UInt8) (t_3 t_4 t_5 : Int) : Option (As [.sl QAT1, .pr (.int .i64) (.int .i64)]) := qjf_ (qck_ u1) u1 text line i c t79 t3 t3_2 out t t_2 t_3 t_4 t_5
def qkb_ (u1 : List UInt8 -> Int -> Bool -> Int -> Int -> Int -> List QAT4 -> Option (As [.sl QAT1, .pr (.int .i64) (.int .i64)])) (text : List UInt8) (line : Int) (some' : Bool) (i c : Int) (t68 : Bool) (t3 t3_2 : Int) (out : List QAT4) : Option (As [.sl QAT1, .pr (.int .i64) (.int .i64)]) := qky_ (q9o_ u1) (qck_ u1) (qj1_ u1) u1 text line some' i c t68 t3 t3_2 out
def qkd_ (u1 : List UInt8 -> Int -> Bool -> Int -> Int -> Int -> List QAT4 -> Option (As [.sl QAT1, .pr (.int .i64) (.int .i64)])) (text : List UInt8) (line : Int) (some' : Bool) (i c t3 t3_2 : Int) (out : List QAT4) : Option (As [.sl QAT1, .pr (.int .i64) (.int .i64)]) := ql0_ (qkb_ u1) u1 text line some' i c t3 t3_2 out
def ql8_ (u1 : List UInt8 -> Int -> Bool -> Int -> Int -> Int -> List QAT4 -> Option (As [.sl QAT1, .pr (.int .i64) (.int .i64)])) (text : List UInt8) (line : Int) (some' : Bool) (i : Int) (t31 : Bool) (t3 t3_2 : Int) (out : List QAT4) : Option (As [.sl QAT1, .pr (.int .i64) (.int .i64)]) := qkm_ (qkq_ u1) (qkr_ u1) (qkd_ u1) u1 text line some' i t31 t3 t3_2 out
def qko_ (t3 t3_2 : Int) (out : List QAT4) : Option (As [.sl QAT1, .pr (.int .i64) (.int .i64)]) := qkf_ t3 t3_2 out
def qkg_ (text : List UInt8) (line : Int) (some' : Bool) (i t3 t3_2 : Int) (out : List QAT4) : Option (As [.sl QAT1, .pr (.int .i64) (.int .i64)]) :=
  loopF (fun (self : (List UInt8) × (Int) × (Bool) × (Int) × (Int) × (Int) × (List QAT4) -> Option (As [.sl QAT1, .pr (.int .i64) (.int .i64)])) (s : (List UInt8) × (Int) × (Bool) × (Int) × (Int) × (Int) × (List QAT4)) => ql2_ (ql8_ (fun text line some' i t3 t3_2 out => self (text, line, some', i, t3, t3_2, out))) (qko_) (fun text line some' i t3 t3_2 out => self (text, line, some', i, t3, t3_2, out)) s.1 s.2.1 s.2.2.1 s.2.2.2.1 s.2.2.2.2.1 s.2.2.2.2.2.1 s.2.2.2.2.2.2) 18446744073709551616 (text, line, some', i, t3, t3_2, out)
def qip_ (x : As [.str]) : Option (As [.sl QAT1, .pr (.int .i64) (.int .i64)]) := qks_ qkg_ x.1
@[reducible] def qa8_ : Sh := ⟨[.d (.int .u8)], [], [.int .u8], [.d (.bool)], [], 0, [.bool]⟩
def qf2_ (c : Int) : Option (As [.bool]) :=
  if ge c 97 = true then some (le c 122, ()) else some (false, ())
def q4p_ (x : As [.int .u8]) : Option (As [.bool]) := qf2_ x.1
theorem qbv_ : CtOk Tryz.prog I0 78 ⟨qa8_, q4p_⟩ := ctn qa_ 6 fun J x => by kernel_rfl
@[reducible] def qaj_ : Sh := ⟨[.d (.int .u8)], [], [.int .u8], [.d (.bool)], [], 0, [.bool]⟩
def qf9_ (c : Int) : Option (As [.bool]) :=
  if ge c 48 = true then some (le c 57, ()) else some (false, ())
def q5g_ (x : As [.int .u8]) : Option (As [.bool]) := qf9_ x.1
theorem qbs_ : CtOk Tryz.prog I0 79 ⟨qaj_, q5g_⟩ := ctn qa_ 6 fun J x => by kernel_rfl
@[reducible] def q15_ : Sh := ⟨[.d (.str)], [], [.str], [.d (.bool)], [], 0, [.bool]⟩
def q1z_ : Env := (cts [(78, (⟨qa8_, q4p_⟩ : Ct)), (79, (⟨qaj_, q5g_⟩ : Ct))])
def q21_ : List (Nat × Hint) := [(7, ⟨[], [0, 44, 45, 48, 49]⟩), (58, ⟨[], [0, 18, 19, 28, 29, 30, 31, 32, 35, 36, 37, 38, 44, 45, 48, 49]⟩), (3737, ⟨[.agd 35 .str, .agd 36 (.int .i64), .agd 37 (.int .u8), .agd 38 .bool, .agd 28 .str, .agd 29 (.int .i64), .agd 30 (.int .u8), .agd 31 .bool, .agd 32 .bool], [0, 18, 19, 39]⟩), (6, ⟨[], [0, 16, 28, 29, 30, 31, 32, 35, 36, 37, 38, 44, 45, 48, 49]⟩)]
def q8k_ (s : List UInt8) (t16 : Bool) : St := { fr := [(0, .d .str s), (16, .d .bool t16)], nt := 51, up := [], own := [], nx := 0, log := [], ln := 0 }
def q3h_ (s : List UInt8) (t18 t19 : Int) : St := { fr := [(0, .d .str s), (18, .d (.int .i64) t18), (19, .d (.int .i64) t19)], nt := 51, up := [], own := [], nx := 0, log := [], ln := 0 }
def q8p_ (s : List UInt8) (t18 t19 : Int) (t39 : Bool) : St := { fr := [(0, .d .str s), (18, .d (.int .i64) t18), (19, .d (.int .i64) t19), (39, .d .bool t39)], nt := 51, up := [], own := [], nx := 0, log := [], ln := 0 }
def q8l_ (s : List UInt8) : St := { fr := [(0, .d .str s)], nt := 51, up := [], own := [], nx := 0, log := [], ln := 0 }
def qca_ (j2 : List UInt8 -> Int -> Int -> Option (As [.bool])) (s : List UInt8) (t16 : Bool) : Option (As [.bool]) :=
  if t16 = true then some (false, ()) else j2 s (Int.ofNat (List.length s)) 0
def q58_ (j3 : List UInt8 -> Int -> Int -> Bool -> Option (As [.bool])) (j4 : List UInt8 -> Option (As [.bool])) (self2 : List UInt8 -> Int -> Int -> Option (As [.bool])) (s : List UInt8) (t18 t19 : Int) : Option (As [.bool]) :=
  if lt t19 t18 = true then Option.bind (at? s t19) fun (c : UInt8) => Option.bind (q4p_ (Int.ofNat (UInt8.toNat c), ())) fun (y : Bool × Unit) => if (!y.1) = true then Option.bind (at? s t19) fun (c : UInt8) => Option.bind (q5g_ (Int.ofNat (UInt8.toNat c), ())) fun (y : Bool × Unit) => if (!y.1) = true then Option.bind (at? s t19) fun (c : UInt8) => j3 s t18 t19 (nei (Int.ofNat (UInt8.toNat c)) 95) else j3 s t18 t19 false else j3 s t18 t19 false else j4 s
def q8v_ (self2 : List UInt8 -> Int -> Int -> Option (As [.bool])) (s : List UInt8) (t18 t19 : Int) (t39 : Bool) : Option (As [.bool]) :=
  if t39 = true then some (false, ()) else self2 s t18 (add .i64 t19 1)
def q8r_ (s : List UInt8) : Option (As [.bool]) :=
  if nes s [114, 101, 99, 105, 112, 101] = true then if nes s [115, 108, 97, 118, 101] = true then some (nes s [101, 110, 100], ()) else some (false, ()) else some (false, ())
def q8m_ (j1 : List UInt8 -> Bool -> Option (As [.bool])) (s : List UInt8) : Option (As [.bool]) :=
  if eqs s [] = true then j1 s true else if gt (Int.ofNat (List.length s)) 20 = true then j1 s true else Option.bind (at? s 0) fun (c : UInt8) => Option.bind (q4p_ (Int.ofNat (UInt8.toNat c), ())) fun (y : Bool × Unit) => j1 s !y.1
def q5c_ (u2 : List UInt8 -> Int -> Int -> Option (As [.bool])) (s : List UInt8) (t18 t19 : Int) (t39 : Bool) : Option (As [.bool]) := q8v_ u2 s t18 t19 t39
def q5a_ (s : List UInt8) : Option (As [.bool]) := q8r_ s
def q6u_ (s : List UInt8) (t18 t19 : Int) : Option (As [.bool]) :=
  loopF (fun (self : (List UInt8) × (Int) × (Int) -> Option (As [.bool])) (s : (List UInt8) × (Int) × (Int)) => q58_ (q5c_ (fun s t18 t19 => self (s, t18, t19))) (q5a_) (fun s t18 t19 => self (s, t18, t19)) s.1 s.2.1 s.2.2) 18446744073709551616 (s, t18, t19)
def q6r_ (s : List UInt8) (t16 : Bool) : Option (As [.bool]) := qca_ (q6u_) s t16
def q1q_ (x : As [.str]) : Option (As [.bool]) := q8m_ q6r_ x.1
theorem qid_  (J w2 s t18 t19 t39) : pfn Tryz.prog q1z_ 6 18446744073709551616 (Ev.get q21_) 51 q15_ J 3737 [w2] (q8p_ s t18 t19 t39) = q8v_ (fun s t18 t19 => w2 (q3h_ s t18 t19)) s t18 t19 t39 := by kernel_rfl
theorem qh7_  (J s) : pfn Tryz.prog q1z_ 6 18446744073709551616 (Ev.get q21_) 51 q15_ J 7 [] (q8l_ s) = q8r_ s := by kernel_rfl
theorem qgt_  (J w2 s t18 t19) : pfn Tryz.prog q1z_ 6 18446744073709551616 (Ev.get q21_) 51 q15_ J 58 [w2] (q3h_ s t18 t19) = q58_ (fun s t18 t19 t39 => J 3737 [w2] (q8p_ s t18 t19 t39)) (fun s => J 7 [] (q8l_ s)) (fun s t18 t19 => w2 (q3h_ s t18 t19)) s t18 t19 := by kernel_rfl
theorem qho_  (J s t16) : pfn Tryz.prog q1z_ 6 18446744073709551616 (Ev.get q21_) 51 q15_ J 6 [] (q8k_ s t16) = qca_ (fun s t18 t19 => J 58 [] (q3h_ s t18 t19)) s t16 := by kernel_rfl
theorem qhf_ (J : Orc (As [.bool])) (x : As [.str]) : rfn Tryz.prog q1z_ 6 18446744073709551616 (Ev.get q21_) 51 q15_ J x = q8m_ (fun s t16 => J 6 [] (q8k_ s t16)) x.1 := by kernel_rfl
theorem qgs_  (w2 s t18 t19 t39) : jfn Tryz.prog q1z_ 6 18446744073709551616 (Ev.get q21_) 51 q15_ 3737 [w2] (q8p_ s t18 t19 t39) = q5c_ (fun s t18 t19 => w2 (q3h_ s t18 t19)) s t18 t19 t39 := by
  rw [q5_ (by decide)]
  rw [qid_]
  rfl
theorem qi6_  (s) : jfn Tryz.prog q1z_ 6 18446744073709551616 (Ev.get q21_) 51 q15_ 7 [] (q8l_ s) = q5a_ s := by
  rw [q5_ (by decide)]
  rw [qh7_]
  rfl
theorem qhm_  (s t18 t19) : jfn Tryz.prog q1z_ 6 18446744073709551616 (Ev.get q21_) 51 q15_ 58 [] (q3h_ s t18 t19) = q6u_ s t18 t19 := by
  rw [q5_ (by decide)]
  rw [q16_ (by kernel_rfl)]
  refine qp_ (σ := (List UInt8) × (Int) × (Int)) (mk := fun s => q3h_ s.1 s.2.1 s.2.2) (fun w2 s => ?_) 18446744073709551616 (s, t18, t19)
  have e3 : (fun s t18 t19 t39 => (jfn Tryz.prog q1z_ 6 18446744073709551616 (Ev.get q21_) 51 q15_) 3737 [w2] (q8p_ s t18 t19 t39)) = q5c_ (fun s t18 t19 => w2 (q3h_ s t18 t19)) := by funext s t18 t19 t39; exact qgs_ w2 s t18 t19 t39
  have e4 : (fun s => (jfn Tryz.prog q1z_ 6 18446744073709551616 (Ev.get q21_) 51 q15_) 7 [] (q8l_ s)) = q5a_ := funext fun s => qi6_ s
  refine (qgt_ _ w2 s.1 s.2.1 s.2.2).trans ?_
  rw [e3, e4]
theorem qhe_  (s t16) : jfn Tryz.prog q1z_ 6 18446744073709551616 (Ev.get q21_) 51 q15_ 6 [] (q8k_ s t16) = q6r_ s t16 := by
  rw [q5_ (by decide)]
  have e2 : (fun s t18 t19 => (jfn Tryz.prog q1z_ 6 18446744073709551616 (Ev.get q21_) 51 q15_) 58 [] (q3h_ s t18 t19)) = q6u_ := by funext s t18 t19; exact qhm_ s t18 t19
  rw [qho_, e2]
  rfl
theorem qix_ (x : As [.str]) : evT Tryz.prog q1z_ 6 18446744073709551616 (Ev.get q21_) 51 q15_ x = q1q_ x := by
  have e1 : (fun s t16 => (jfn Tryz.prog q1z_ 6 18446744073709551616 (Ev.get q21_) 51 q15_) 6 [] (q8k_ s t16)) = q6r_ := by funext s t16; exact qhe_ s t16
  rw [rfn_eq, qhf_, e1]
  rfl
theorem qag_ : CtOk Tryz.prog I0 51 ⟨q15_, q1q_⟩ := q18_ (q0_ qbv_ (q0_ qbs_ qa_)) qix_
@[reducible] def qax_ : Sh := ⟨[.d (.pr (.int .i64) (.int .u8))], [], [.pr (.int .i64) (.int .u8)], [.d (.bool)], [], 0, [.bool]⟩
def q6p_ (d : Int × Int) : Option (As [.bool]) :=
  if ge d.1 (-1000000000000) = true then if le d.1 1000000000000 = true then if le d.2 6 = true then if eqi d.2 0 = true then some (true, ()) else some (nei (rem d.1 10) 0, ()) else some (false, ()) else some (false, ()) else some (false, ())
def q6f_ (x : As [.pr (.int .i64) (.int .u8)]) : Option (As [.bool]) := q6p_ x.1
theorem qc8_ : CtOk Tryz.prog I0 52 ⟨qax_, q6f_⟩ := ctn qa_ 6 fun J x => by kernel_rfl
@[reducible] def q26_ : Sh := ⟨[.d (.str)], [], [.str], [.d (.bool)], [], 0, [.bool]⟩
def q2y_ : Env := (cts [(78, (⟨qa8_, q4p_⟩ : Ct)), (79, (⟨qaj_, q5g_⟩ : Ct))])
def q2z_ : List (Nat × Hint) := [(58, ⟨[], [0, 10, 11, 20, 21, 22, 23, 24, 25, 28, 29, 34, 35, 36, 37, 38, 39, 40, 41, 42, 43, 44]⟩), (7475, ⟨[.agd 20 (.int .u8), .agd 21 .bool, .agd 22 .bool, .agd 23 (.int .u8), .agd 24 .bool, .agd 25 .bool, .agd 28 (.int .u8), .agd 29 .bool], [0, 3, 4, 5, 10, 11]⟩), (14951, ⟨[.agd 37 (.int .u8), .agd 38 .bool, .agd 39 .bool, .agd 40 .bool, .agd 41 (.int .u8), .agd 42 .bool, .agd 43 .bool, .agd 34 (.int .i64), .agd 35 .bool, .agd 36 .bool, .agd 44 .bool], [0, 10, 11, 45]⟩)]
def q25_ (s : List UInt8) (t10 t11 : Int) : St := { fr := [(0, .d .str s), (10, .d (.int .i64) t10), (11, .d (.int .i64) t11)], nt := 47, up := [], own := [], nx := 0, log := [], ln := 0 }
def q8g_ (s : List UInt8) (i c : Int) (letter : Bool) (t10 t11 : Int) : St := { fr := [(0, .d .str s), (3, .d (.int .i64) i), (4, .d (.int .u8) c), (5, .d .bool letter), (10, .d (.int .i64) t10), (11, .d (.int .i64) t11)], nt := 47, up := [], own := [], nx := 0, log := [], ln := 0 }
def q8e_ (s : List UInt8) (t10 t11 : Int) (t45 : Bool) : St := { fr := [(0, .d .str s), (10, .d (.int .i64) t10), (11, .d (.int .i64) t11), (45, .d .bool t45)], nt := 47, up := [], own := [], nx := 0, log := [], ln := 0 }
def q57_ (j2 : List UInt8 -> Int -> Int -> Bool -> Int -> Int -> Option (As [.bool])) (self1 : List UInt8 -> Int -> Int -> Option (As [.bool])) (s : List UInt8) (t10 t11 : Int) : Option (As [.bool]) :=
  if lt t11 t10 = true then Option.bind (at? s t11) fun (c : UInt8) => Option.bind (q4p_ (Int.ofNat (UInt8.toNat c), ())) fun (y : Bool × Unit) => if y.1 = true then j2 s t11 (Int.ofNat (UInt8.toNat c)) true t10 t11 else if ge (Int.ofNat (UInt8.toNat c)) 65 = true then if le (Int.ofNat (UInt8.toNat c)) 90 = true then j2 s t11 (Int.ofNat (UInt8.toNat c)) true t10 t11 else j2 s t11 (Int.ofNat (UInt8.toNat c)) (eqi (Int.ofNat (UInt8.toNat c)) 37) t10 t11 else j2 s t11 (Int.ofNat (UInt8.toNat c)) (eqi (Int.ofNat (UInt8.toNat c)) 37) t10 t11 else some (true, ())
def q8o_ (j3 : List UInt8 -> Int -> Int -> Bool -> Option (As [.bool])) (self1 : List UInt8 -> Int -> Int -> Option (As [.bool])) (s : List UInt8) (i c : Int) (letter : Bool) (t10 t11 : Int) : Option (As [.bool]) :=
  if (!letter) = true then if eqi i 0 = true then j3 s t10 t11 true else Option.bind (q5g_ (c, ())) fun (y : Bool × Unit) => if (!y.1) = true then j3 s t10 t11 (nei c 95) else j3 s t10 t11 false else j3 s t10 t11 false
def q8t_ (self1 : List UInt8 -> Int -> Int -> Option (As [.bool])) (s : List UInt8) (t10 t11 : Int) (t45 : Bool) : Option (As [.bool]) :=
  if t45 = true then some (false, ()) else self1 s t10 (add .i64 t11 1)
def q8h_ (j1 : List UInt8 -> Int -> Int -> Option (As [.bool])) (s : List UInt8) : Option (As [.bool]) :=
  if gt (Int.ofNat (List.length s)) 20 = true then some (false, ()) else j1 s (Int.ofNat (List.length s)) 0
def q6s_ (u1 : List UInt8 -> Int -> Int -> Option (As [.bool])) (s : List UInt8) (t10 t11 : Int) (t45 : Bool) : Option (As [.bool]) := q8t_ u1 s t10 t11 t45
def q59_ (u1 : List UInt8 -> Int -> Int -> Option (As [.bool])) (s : List UInt8) (i c : Int) (letter : Bool) (t10 t11 : Int) : Option (As [.bool]) := q8o_ (q6s_ u1) u1 s i c letter t10 t11
def q5e_ (s : List UInt8) (t10 t11 : Int) : Option (As [.bool]) :=
  loopF (fun (self : (List UInt8) × (Int) × (Int) -> Option (As [.bool])) (s : (List UInt8) × (Int) × (Int)) => q57_ (q59_ (fun s t10 t11 => self (s, t10, t11))) (fun s t10 t11 => self (s, t10, t11)) s.1 s.2.1 s.2.2) 18446744073709551616 (s, t10, t11)
def q8w_ (x : As [.str]) : Option (As [.bool]) := q8h_ q5e_ x.1
theorem qgr_  (J w1 s t10 t11 t45) : pfn Tryz.prog q2y_ 6 18446744073709551616 (Ev.get q2z_) 53 q26_ J 14951 [w1] (q8e_ s t10 t11 t45) = q8t_ (fun s t10 t11 => w1 (q25_ s t10 t11)) s t10 t11 t45 := by kernel_rfl
theorem qhh_  (J w1 s i c letter t10 t11) : pfn Tryz.prog q2y_ 6 18446744073709551616 (Ev.get q2z_) 53 q26_ J 7475 [w1] (q8g_ s i c letter t10 t11) = q8o_ (fun s t10 t11 t45 => J 14951 [w1] (q8e_ s t10 t11 t45)) (fun s t10 t11 => w1 (q25_ s t10 t11)) s i c letter t10 t11 := by kernel_rfl
theorem qgq_  (J w1 s t10 t11) : pfn Tryz.prog q2y_ 6 18446744073709551616 (Ev.get q2z_) 53 q26_ J 58 [w1] (q25_ s t10 t11) = q57_ (fun s i c letter t10 t11 => J 7475 [w1] (q8g_ s i c letter t10 t11)) (fun s t10 t11 => w1 (q25_ s t10 t11)) s t10 t11 := by kernel_rfl
theorem qij_ (J : Orc (As [.bool])) (x : As [.str]) : rfn Tryz.prog q2y_ 6 18446744073709551616 (Ev.get q2z_) 53 q26_ J x = q8h_ (fun s t10 t11 => J 58 [] (q25_ s t10 t11)) x.1 := by kernel_rfl
theorem qgu_  (w1 s t10 t11 t45) : jfn Tryz.prog q2y_ 6 18446744073709551616 (Ev.get q2z_) 53 q26_ 14951 [w1] (q8e_ s t10 t11 t45) = q6s_ (fun s t10 t11 => w1 (q25_ s t10 t11)) s t10 t11 t45 := by
  rw [q5_ (by decide)]
  rw [qgr_]
  rfl
theorem qgc_  (w1 s i c letter t10 t11) : jfn Tryz.prog q2y_ 6 18446744073709551616 (Ev.get q2z_) 53 q26_ 7475 [w1] (q8g_ s i c letter t10 t11) = q59_ (fun s t10 t11 => w1 (q25_ s t10 t11)) s i c letter t10 t11 := by
  rw [q5_ (by decide)]
  have e3 : (fun s t10 t11 t45 => (jfn Tryz.prog q2y_ 6 18446744073709551616 (Ev.get q2z_) 53 q26_) 14951 [w1] (q8e_ s t10 t11 t45)) = q6s_ (fun s t10 t11 => w1 (q25_ s t10 t11)) := by funext s t10 t11 t45; exact qgu_ w1 s t10 t11 t45
  rw [qhh_, e3]
  rfl
theorem qh3_  (s t10 t11) : jfn Tryz.prog q2y_ 6 18446744073709551616 (Ev.get q2z_) 53 q26_ 58 [] (q25_ s t10 t11) = q5e_ s t10 t11 := by
  rw [q5_ (by decide)]
  rw [q16_ (by kernel_rfl)]
  refine qp_ (σ := (List UInt8) × (Int) × (Int)) (mk := fun s => q25_ s.1 s.2.1 s.2.2) (fun w1 s => ?_) 18446744073709551616 (s, t10, t11)
  have e2 : (fun s i c letter t10 t11 => (jfn Tryz.prog q2y_ 6 18446744073709551616 (Ev.get q2z_) 53 q26_) 7475 [w1] (q8g_ s i c letter t10 t11)) = q59_ (fun s t10 t11 => w1 (q25_ s t10 t11)) := by funext s i c letter t10 t11; exact qgc_ w1 s i c letter t10 t11
  refine (qgq_ _ w1 s.1 s.2.1 s.2.2).trans ?_
  rw [e2]
theorem qk0_ (x : As [.str]) : evT Tryz.prog q2y_ 6 18446744073709551616 (Ev.get q2z_) 53 q26_ x = q8w_ x := by
  have e1 : (fun s t10 t11 => (jfn Tryz.prog q2y_ 6 18446744073709551616 (Ev.get q2z_) 53 q26_) 58 [] (q25_ s t10 t11)) = q5e_ := by funext s t10 t11; exact qh3_ s t10 t11
  rw [rfn_eq, qij_, e1]
  rfl
theorem qg5_ : CtOk Tryz.prog I0 53 ⟨q26_, q8w_⟩ := q18_ (q0_ qbv_ (q0_ qbs_ qa_)) qk0_
@[reducible] def qh_ : Sh := ⟨[.d (.pr .str (.sl QAT2))], [], [.pr .str (.sl QAT2)], [.d (.bool)], [], 0, [.bool]⟩
def qs_ : Env := (cts [(51, (⟨q15_, q1q_⟩ : Ct)), (52, (⟨qax_, q6f_⟩ : Ct)), (53, (⟨q26_, q8w_⟩ : Ct))])
def qw_ : List (Nat × Hint) := [(58, ⟨[], [18, 19, 20, 29, 30, 31, 32, 46, 47, 48, 49, 52, 53, 54, 55]⟩), (29902, ⟨[], [18, 19, 20, 29, 30, 31, 32, 35, 36, 37, 46, 47, 48, 49, 52, 53, 54, 55]⟩), (1913753, ⟨[.agd 47 (.pr (.int .i64) (.int .u8)), .agd 48 .bool, .agd 49 .bool, .agd 53 .str, .agd 54 .bool, .agd 55 .bool], [18, 19, 20, 35, 36, 37, 56]⟩), (7474, ⟨[.agd 30 (.sl QAT5), .agd 31 (.int .i64), .agd 32 .bool], [4, 18, 19, 20, 33]⟩), (6, ⟨[], [1, 16, 29, 30, 31, 32, 46, 47, 48, 49, 52, 53, 54, 55]⟩)]
def q7s_ (t16 : Bool) (r : List UInt8 × List QAT0) : St := { fr := [(1, .pb 0 0), (16, .d .bool t16)], nt := 59, up := [], own := [(0, .box 26 [.d .str r.1, .d (.sl QAT2) r.2])], nx := 1, log := [], ln := 0 }
def qz_ (t18 : List QAT0) (t19 t20 : Int) : St := { fr := [(18, .d (.sl QAT2) t18), (19, .d (.int .i64) t19), (20, .d (.int .i64) t20)], nt := 59, up := [], own := [], nx := 0, log := [], ln := 0 }
def q7r_ (t18 : List QAT0) (t19 t20 : Int) (t33 : Bool) (part : List UInt8 × Int × List QAT3) : St := { fr := [(4, .pb 0 0), (18, .d (.sl QAT2) t18), (19, .d (.int .i64) t19), (20, .d (.int .i64) t20), (33, .d .bool t33)], nt := 59, up := [], own := [(0, .box 43 [.d .str part.1, .d (.int .i64) part.2.1, .d (.sl QAT5) part.2.2])], nx := 1, log := [], ln := 0 }
def q3b_ (t18 : List QAT0) (t19 t20 : Int) (t35 : List QAT3) (t36 t37 : Int) : St := { fr := [(18, .d (.sl QAT2) t18), (19, .d (.int .i64) t19), (20, .d (.int .i64) t20), (35, .d (.sl QAT5) t35), (36, .d (.int .i64) t36), (37, .d (.int .i64) t37)], nt := 59, up := [], own := [], nx := 0, log := [], ln := 0 }
def q7w_ (t18 : List QAT0) (t19 t20 : Int) (t35 : List QAT3) (t36 t37 : Int) (t56 : Bool) : St := { fr := [(18, .d (.sl QAT2) t18), (19, .d (.int .i64) t19), (20, .d (.int .i64) t20), (35, .d (.sl QAT5) t35), (36, .d (.int .i64) t36), (37, .d (.int .i64) t37), (56, .d .bool t56)], nt := 59, up := [], own := [], nx := 0, log := [], ln := 0 }
def qbu_ (j2 : List QAT0 -> Int -> Int -> Option (As [.bool])) (t16 : Bool) (r : List UInt8 × List QAT0) : Option (As [.bool]) :=
  if t16 = true then some (false, ()) else j2 r.2 (Int.ofNat (List.length r.2)) 0
def q4r_ (j3 : List QAT0 -> Int -> Int -> Bool -> List UInt8 × Int × List QAT3 -> Option (As [.bool])) (self2 : List QAT0 -> Int -> Int -> Option (As [.bool])) (t18 : List QAT0) (t19 t20 : Int) : Option (As [.bool]) :=
  if lt t20 t19 = true then Option.bind (at? t18 t20) fun (y : List UInt8 × Int × List QAT3) => Option.bind (q1q_ (y.1, ())) fun (y_1 : Bool × Unit) => if (!y_1.1) = true then j3 t18 t19 t20 true y else j3 t18 t19 t20 (gt (Int.ofNat (List.length y.2.2)) 64) y else some (true, ())
def q7z_ (j4 : List QAT0 -> Int -> Int -> List QAT3 -> Int -> Int -> Option (As [.bool])) (self2 : List QAT0 -> Int -> Int -> Option (As [.bool])) (t18 : List QAT0) (t19 t20 : Int) (t33 : Bool) (part : List UInt8 × Int × List QAT3) : Option (As [.bool]) :=
  if t33 = true then some (false, ()) else j4 t18 t19 t20 part.2.2 (Int.ofNat (List.length part.2.2)) 0
def q4s_ (j5 : List QAT0 -> Int -> Int -> List QAT3 -> Int -> Int -> Bool -> Option (As [.bool])) (self2 : List QAT0 -> Int -> Int -> Option (As [.bool])) (self4 : List QAT0 -> Int -> Int -> List QAT3 -> Int -> Int -> Option (As [.bool])) (t18 : List QAT0) (t19 t20 : Int) (t35 : List QAT3) (t36 t37 : Int) : Option (As [.bool]) :=
  if lt t37 t36 = true then Option.bind (at? t35 t37) fun (y : List UInt8 × (Int × Int) × List UInt8 × Int) => Option.bind (q1q_ (y.1, ())) fun (y_1 : Bool × Unit) => if (!y_1.1) = true then j5 t18 t19 t20 t35 t36 t37 true else Option.bind (q6f_ (y.2.1, ())) fun (y_2 : Bool × Unit) => if (!y_2.1) = true then j5 t18 t19 t20 t35 t36 t37 true else Option.bind (q8w_ (y.2.2.1, ())) fun (y : Bool × Unit) => j5 t18 t19 t20 t35 t36 t37 !y.1 else self2 t18 t19 (add .i64 t20 1)
def q7v_ (self2 : List QAT0 -> Int -> Int -> Option (As [.bool])) (self4 : List QAT0 -> Int -> Int -> List QAT3 -> Int -> Int -> Option (As [.bool])) (t18 : List QAT0) (t19 t20 : Int) (t35 : List QAT3) (t36 t37 : Int) (t56 : Bool) : Option (As [.bool]) :=
  if t56 = true then some (false, ()) else self4 t18 t19 t20 t35 t36 (add .i64 t37 1)
def q81_ (j1 : Bool -> List UInt8 × List QAT0 -> Option (As [.bool])) (r : List UInt8 × List QAT0) : Option (As [.bool]) :=
  Option.bind (q1q_ (r.1, ())) fun (y : Bool × Unit) => if (!y.1) = true then j1 true r else j1 (gt (Int.ofNat (List.length r.2)) 8) r
def q63_ (u2 : List QAT0 -> Int -> Int -> Option (As [.bool])) (u4 : List QAT0 -> Int -> Int -> List QAT3 -> Int -> Int -> Option (As [.bool])) (t18 : List QAT0) (t19 t20 : Int) (t35 : List QAT3) (t36 t37 : Int) (t56 : Bool) : Option (As [.bool]) := q7v_ u2 u4 t18 t19 t20 t35 t36 t37 t56
def q4w_ (u2 : List QAT0 -> Int -> Int -> Option (As [.bool])) (t18 : List QAT0) (t19 t20 : Int) (t35 : List QAT3) (t36 t37 : Int) : Option (As [.bool]) :=
  loopF (fun (self : (List QAT0) × (Int) × (Int) × (List QAT3) × (Int) × (Int) -> Option (As [.bool])) (s : (List QAT0) × (Int) × (Int) × (List QAT3) × (Int) × (Int)) => q4s_ (q63_ u2 (fun t18 t19 t20 t35 t36 t37 => self (t18, t19, t20, t35, t36, t37))) u2 (fun t18 t19 t20 t35 t36 t37 => self (t18, t19, t20, t35, t36, t37)) s.1 s.2.1 s.2.2.1 s.2.2.2.1 s.2.2.2.2.1 s.2.2.2.2.2) 18446744073709551616 (t18, t19, t20, t35, t36, t37)
def q67_ (u2 : List QAT0 -> Int -> Int -> Option (As [.bool])) (t18 : List QAT0) (t19 t20 : Int) (t33 : Bool) (part : List UInt8 × Int × List QAT3) : Option (As [.bool]) := q7z_ (q4w_ u2) u2 t18 t19 t20 t33 part
def q4t_ (t18 : List QAT0) (t19 t20 : Int) : Option (As [.bool]) :=
  loopF (fun (self : (List QAT0) × (Int) × (Int) -> Option (As [.bool])) (s : (List QAT0) × (Int) × (Int)) => q4r_ (q67_ (fun t18 t19 t20 => self (t18, t19, t20))) (fun t18 t19 t20 => self (t18, t19, t20)) s.1 s.2.1 s.2.2) 18446744073709551616 (t18, t19, t20)
def q64_ (t16 : Bool) (r : List UInt8 × List QAT0) : Option (As [.bool]) := qbu_ (q4t_) t16 r
def q44_ (x : As [.pr .str (.sl QAT2)]) : Option (As [.bool]) := q81_ q64_ x.1
theorem qff_  (J w2 w4 t18 t19 t20 t35 t36 t37 t56) : pfn Tryz.prog qs_ 6 18446744073709551616 (Ev.get qw_) 21 qh_ J 1913753 [w2, w4] (q7w_ t18 t19 t20 t35 t36 t37 t56) = q7v_ (fun t18 t19 t20 => w2 (qz_ t18 t19 t20)) (fun t18 t19 t20 t35 t36 t37 => w4 (q3b_ t18 t19 t20 t35 t36 t37)) t18 t19 t20 t35 t36 t37 t56 := by kernel_rfl
theorem qer_  (J w2 w4 t18 t19 t20 t35 t36 t37) : pfn Tryz.prog qs_ 6 18446744073709551616 (Ev.get qw_) 21 qh_ J 29902 [w2, w4] (q3b_ t18 t19 t20 t35 t36 t37) = q4s_ (fun t18 t19 t20 t35 t36 t37 t56 => J 1913753 [w2, w4] (q7w_ t18 t19 t20 t35 t36 t37 t56)) (fun t18 t19 t20 => w2 (qz_ t18 t19 t20)) (fun t18 t19 t20 t35 t36 t37 => w4 (q3b_ t18 t19 t20 t35 t36 t37)) t18 t19 t20 t35 t36 t37 := by kernel_rfl
theorem qfk_  (J w2 t18 t19 t20 t33 part) : pfn Tryz.prog qs_ 6 18446744073709551616 (Ev.get qw_) 21 qh_ J 7474 [w2] (q7r_ t18 t19 t20 t33 part) = q7z_ (fun t18 t19 t20 t35 t36 t37 => J 29902 [w2] (q3b_ t18 t19 t20 t35 t36 t37)) (fun t18 t19 t20 => w2 (qz_ t18 t19 t20)) t18 t19 t20 t33 part := by kernel_rfl
theorem qev_  (J w2 t18 t19 t20) : pfn Tryz.prog qs_ 6 18446744073709551616 (Ev.get qw_) 21 qh_ J 58 [w2] (qz_ t18 t19 t20) = q4r_ (fun t18 t19 t20 t33 part => J 7474 [w2] (q7r_ t18 t19 t20 t33 part)) (fun t18 t19 t20 => w2 (qz_ t18 t19 t20)) t18 t19 t20 := by kernel_rfl
theorem qf0_  (J t16 r) : pfn Tryz.prog qs_ 6 18446744073709551616 (Ev.get qw_) 21 qh_ J 6 [] (q7s_ t16 r) = qbu_ (fun t18 t19 t20 => J 58 [] (qz_ t18 t19 t20)) t16 r := by kernel_rfl
theorem qf8_ (J : Orc (As [.bool])) (x : As [.pr .str (.sl QAT2)]) : rfn Tryz.prog qs_ 6 18446744073709551616 (Ev.get qw_) 21 qh_ J x = q81_ (fun t16 r => J 6 [] (q7s_ t16 r)) x.1 := by kernel_rfl
theorem qf1_  (w2 w4 t18 t19 t20 t35 t36 t37 t56) : jfn Tryz.prog qs_ 6 18446744073709551616 (Ev.get qw_) 21 qh_ 1913753 [w2, w4] (q7w_ t18 t19 t20 t35 t36 t37 t56) = q63_ (fun t18 t19 t20 => w2 (qz_ t18 t19 t20)) (fun t18 t19 t20 t35 t36 t37 => w4 (q3b_ t18 t19 t20 t35 t36 t37)) t18 t19 t20 t35 t36 t37 t56 := by
  rw [q5_ (by decide)]
  rw [qff_]
  rfl
theorem qeu_  (w2 t18 t19 t20 t35 t36 t37) : jfn Tryz.prog qs_ 6 18446744073709551616 (Ev.get qw_) 21 qh_ 29902 [w2] (q3b_ t18 t19 t20 t35 t36 t37) = q4w_ (fun t18 t19 t20 => w2 (qz_ t18 t19 t20)) t18 t19 t20 t35 t36 t37 := by
  rw [q5_ (by decide)]
  rw [q16_ (by kernel_rfl)]
  refine qp_ (σ := (List QAT0) × (Int) × (Int) × (List QAT3) × (Int) × (Int)) (mk := fun s => q3b_ s.1 s.2.1 s.2.2.1 s.2.2.2.1 s.2.2.2.2.1 s.2.2.2.2.2) (fun w4 s => ?_) 18446744073709551616 (t18, t19, t20, t35, t36, t37)
  have e5 : (fun t18 t19 t20 t35 t36 t37 t56 => (jfn Tryz.prog qs_ 6 18446744073709551616 (Ev.get qw_) 21 qh_) 1913753 [w2, w4] (q7w_ t18 t19 t20 t35 t36 t37 t56)) = q63_ (fun t18 t19 t20 => w2 (qz_ t18 t19 t20)) (fun t18 t19 t20 t35 t36 t37 => w4 (q3b_ t18 t19 t20 t35 t36 t37)) := by funext t18 t19 t20 t35 t36 t37 t56; exact qf1_ w2 w4 t18 t19 t20 t35 t36 t37 t56
  refine (qer_ _ w2 w4 s.1 s.2.1 s.2.2.1 s.2.2.2.1 s.2.2.2.2.1 s.2.2.2.2.2).trans ?_
  rw [e5]
theorem qfd_  (w2 t18 t19 t20 t33 part) : jfn Tryz.prog qs_ 6 18446744073709551616 (Ev.get qw_) 21 qh_ 7474 [w2] (q7r_ t18 t19 t20 t33 part) = q67_ (fun t18 t19 t20 => w2 (qz_ t18 t19 t20)) t18 t19 t20 t33 part := by
  rw [q5_ (by decide)]
  have e4 : (fun t18 t19 t20 t35 t36 t37 => (jfn Tryz.prog qs_ 6 18446744073709551616 (Ev.get qw_) 21 qh_) 29902 [w2] (q3b_ t18 t19 t20 t35 t36 t37)) = q4w_ (fun t18 t19 t20 => w2 (qz_ t18 t19 t20)) := by funext t18 t19 t20 t35 t36 t37; exact qeu_ w2 t18 t19 t20 t35 t36 t37
  rw [qfk_, e4]
  rfl
theorem qfi_  (t18 t19 t20) : jfn Tryz.prog qs_ 6 18446744073709551616 (Ev.get qw_) 21 qh_ 58 [] (qz_ t18 t19 t20) = q4t_ t18 t19 t20 := by
  rw [q5_ (by decide)]
  rw [q16_ (by kernel_rfl)]
  refine qp_ (σ := (List QAT0) × (Int) × (Int)) (mk := fun s => qz_ s.1 s.2.1 s.2.2) (fun w2 s => ?_) 18446744073709551616 (t18, t19, t20)
  have e3 : (fun t18 t19 t20 t33 part => (jfn Tryz.prog qs_ 6 18446744073709551616 (Ev.get qw_) 21 qh_) 7474 [w2] (q7r_ t18 t19 t20 t33 part)) = q67_ (fun t18 t19 t20 => w2 (qz_ t18 t19 t20)) := by funext t18 t19 t20 t33 part; exact qfd_ w2 t18 t19 t20 t33 part
  refine (qev_ _ w2 s.1 s.2.1 s.2.2).trans ?_
  rw [e3]
theorem qfc_  (t16 r) : jfn Tryz.prog qs_ 6 18446744073709551616 (Ev.get qw_) 21 qh_ 6 [] (q7s_ t16 r) = q64_ t16 r := by
  rw [q5_ (by decide)]
  have e2 : (fun t18 t19 t20 => (jfn Tryz.prog qs_ 6 18446744073709551616 (Ev.get qw_) 21 qh_) 58 [] (qz_ t18 t19 t20)) = q4t_ := by funext t18 t19 t20; exact qfi_ t18 t19 t20
  rw [qf0_, e2]
  rfl
theorem qge_ (x : As [.pr .str (.sl QAT2)]) : evT Tryz.prog qs_ 6 18446744073709551616 (Ev.get qw_) 21 qh_ x = q44_ x := by
  have e1 : (fun t16 r => (jfn Tryz.prog qs_ 6 18446744073709551616 (Ev.get qw_) 21 qh_) 6 [] (q7s_ t16 r)) = q64_ := by funext t16 r; exact qfc_ t16 r
  rw [rfn_eq, qf8_, e1]
  rfl
theorem qbq_ : CtOk Tryz.prog I0 21 ⟨qh_, q44_⟩ := q18_ (q0_ qag_ (q0_ qc8_ (q0_ qg5_ qa_))) qge_
def qj6_ (j2 : List UInt8 -> Int -> Option (As [.bool])) (s : List UInt8) (t34 : Bool) : Option (As [.bool]) :=
  if t34 = true then some (false, ()) else j2 s 0
def qjw_ (j3 : List UInt8 -> Int -> Bool -> Option (As [.bool])) (self2 : List UInt8 -> Int -> Option (As [.bool])) (s : List UInt8) (i : Int) : Option (As [.bool]) :=
  if lt i (Int.ofNat (List.length s)) = true then Option.bind (at? s i) fun (c : UInt8) => if ge (Int.ofNat (UInt8.toNat c)) 97 = true then if (!le (Int.ofNat (UInt8.toNat c)) 122) = true then if ge (Int.ofNat (UInt8.toNat c)) 48 = true then if (!le (Int.ofNat (UInt8.toNat c)) 57) = true then j3 s i (nei (Int.ofNat (UInt8.toNat c)) 95) else j3 s i false else j3 s i (nei (Int.ofNat (UInt8.toNat c)) 95) else j3 s i false else if ge (Int.ofNat (UInt8.toNat c)) 48 = true then if (!le (Int.ofNat (UInt8.toNat c)) 57) = true then j3 s i (nei (Int.ofNat (UInt8.toNat c)) 95) else j3 s i false else j3 s i (nei (Int.ofNat (UInt8.toNat c)) 95) else some (true, ())
def qk5_ (self2 : List UInt8 -> Int -> Option (As [.bool])) (s : List UInt8) (i : Int) (t63 : Bool) : Option (As [.bool]) :=
  if t63 = true then some (false, ()) else self2 s (add .i64 i 1)
def qjn_ (j1 : List UInt8 -> Bool -> Option (As [.bool])) (s : List UInt8) : Option (As [.bool]) :=
  if lt (Int.ofNat (List.length s)) 1 = true then j1 s true else if gt (Int.ofNat (List.length s)) 20 = true then j1 s true else if eqs s [114, 101, 99, 105, 112, 101] = true then j1 s true else if eqs s [115, 108, 97, 118, 101] = true then j1 s true else if eqs s [101, 110, 100] = true then j1 s true else Option.bind (at? s 0) fun (c : UInt8) => if lt (Int.ofNat (UInt8.toNat c)) 97 = true then j1 s true else Option.bind (at? s 0) fun (c : UInt8) => j1 s (gt (Int.ofNat (UInt8.toNat c)) 122)
def qjv_ (u2 : List UInt8 -> Int -> Option (As [.bool])) (s : List UInt8) (i : Int) (t63 : Bool) : Option (As [.bool]) := qk5_ u2 s i t63
def qk8_ (s : List UInt8) (i : Int) : Option (As [.bool]) :=
  loopF (fun (self : (List UInt8) × (Int) -> Option (As [.bool])) (s : (List UInt8) × (Int)) => qjw_ (qjv_ (fun s i => self (s, i))) (fun s i => self (s, i)) s.1 s.2) 18446744073709551616 (s, i)
def qiz_ (s : List UInt8) (t34 : Bool) : Option (As [.bool]) := qj6_ (qk8_) s t34
def q9u_ (x : As [.str]) : Option (As [.bool]) := qjn_ qiz_ x.1
def qhx_ (d : Int × Int) : Option (As [.bool]) :=
  if ge d.1 (-1000000000000) = true then if le d.1 1000000000000 = true then if le d.2 6 = true then if eqi d.2 0 = true then some (true, ()) else some (nei (rem d.1 10) 0, ()) else some (false, ()) else some (false, ()) else some (false, ())
def qlm_ (x : As [.pr (.int .i64) (.int .u8)]) : Option (As [.bool]) := qhx_ x.1
def qiv_ (s : List UInt8) : Option (As [.bool]) :=
  Option.bind (qip_ (s, ())) fun (y : List QAT4 × (Int × Int) × Unit) => if eqi y.2.1.1 0 = true then if eqi (Int.ofNat (List.length y.1)) 2 = true then Option.bind (at? y.1 0) fun (y_1 : Int × List UInt8 × (Int × Int) × Int) => if eqi y_1.1 1 = true then Option.bind (at? y.1 0) fun (y : Int × List UInt8 × (Int × Int) × Int) => some (eqs y.2.1 s, ()) else some (false, ()) else some (false, ()) else some (false, ())
def qly_ (x : As [.str]) : Option (As [.bool]) := qiv_ x.1
end Go.Proofs.Lx
end
