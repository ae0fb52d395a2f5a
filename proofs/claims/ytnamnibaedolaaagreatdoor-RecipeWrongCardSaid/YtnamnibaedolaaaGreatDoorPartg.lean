/- Proved in the last of these 10 parts (this is part 7): the law RecipeWrong of chapter 14 returns true at every recipe, every place and every line. Conditions: those of the given statement, and no others. -/
import Derived.Test.YtnamnibaedolaaaGreatDoorParte
import Derived.Test.YtnamnibaedolaaaGreatDoorPartf
import Derived.Test.YtnamnibaedolaaaGreatDoorProg
set_option linter.unusedVariables false
set_option linter.unusedSimpArgs false
set_option linter.unusedSectionVars false
section
open Go Go.Proofs Ev Sx
set_option maxRecDepth 100000
namespace Go.Proofs.Lx
def qhe_ (j2 : List UInt8 -> Bool -> Int -> Int -> Option (As [.pr (.int .i64) (.int .u8), .bool])) (s : List UInt8) (below : Bool) (t2 t2_2 : Int) : Option (As [.pr (.int .i64) (.int .u8), .bool]) :=
  if below = true then Option.bind (cut s 1 (Int.ofNat (List.length s))) fun (y : List UInt8) => j2 y below t2 t2_2 else j2 s below t2 t2_2
def qha_ (j3 : List UInt8 -> Bool -> Int -> Bool -> Int -> Int -> Int -> Int -> Int -> Option (As [.pr (.int .i64) (.int .u8), .bool])) (s : List UInt8) (below : Bool) (t2 t2_2 : Int) : Option (As [.pr (.int .i64) (.int .u8), .bool]) :=
  j3 s below 0 false 0 0 0 t2 t2_2
def qhb_ (j4 : List UInt8 -> Bool -> Int -> Bool -> Int -> Int -> Int -> Bool -> Int -> Int -> Option (As [.pr (.int .i64) (.int .u8), .bool])) (j5 : Bool -> Int -> Bool -> Int -> Int -> Int -> Int -> Option (As [.pr (.int .i64) (.int .u8), .bool])) (self3 : List UInt8 -> Bool -> Int -> Bool -> Int -> Int -> Int -> Int -> Int -> Option (As [.pr (.int .i64) (.int .u8), .bool])) (s : List UInt8) (below : Bool) (n : Int) (point : Bool) (behind ahead i t2 t2_2 : Int) : Option (As [.pr (.int .i64) (.int .u8), .bool]) :=
  if lt i (Int.ofNat (List.length s)) = true then Option.bind (at? s i) fun (c : UInt8) => if eqi (Int.ofNat (UInt8.toNat c)) 46 = true then if (!point) = true then j4 s below n point behind ahead i (gt ahead 0) t2 t2_2 else j4 s below n point behind ahead i false t2 t2_2 else j4 s below n point behind ahead i false t2 t2_2 else j5 below n point behind ahead t2 t2_2
def qhd_ (j6 : List UInt8 -> Bool -> Int -> Bool -> Int -> Int -> Int -> Int -> Int -> Option (As [.pr (.int .i64) (.int .u8), .bool])) (j7 : List UInt8 -> Bool -> Int -> Bool -> Int -> Int -> Int -> Bool -> Int -> Int -> Option (As [.pr (.int .i64) (.int .u8), .bool])) (self3 : List UInt8 -> Bool -> Int -> Bool -> Int -> Int -> Int -> Int -> Int -> Option (As [.pr (.int .i64) (.int .u8), .bool])) (s : List UInt8) (below : Bool) (n : Int) (point : Bool) (behind ahead i : Int) (t38 : Bool) (t2 t2_2 : Int) : Option (As [.pr (.int .i64) (.int .u8), .bool]) :=
  if t38 = true then j6 s below n true behind ahead i t2 t2_2 else Option.bind (at? s i) fun (c : UInt8) => if lt (Int.ofNat (UInt8.toNat c)) 48 = true then j7 s below n point behind ahead i true t2 t2_2 else Option.bind (at? s i) fun (c : UInt8) => if gt (Int.ofNat (UInt8.toNat c)) 57 = true then j7 s below n point behind ahead i true t2 t2_2 else if eqi ahead 1 = true then Option.bind (at? s 0) fun (c : UInt8) => if eqi (Int.ofNat (UInt8.toNat c)) 48 = true then j7 s below n point behind ahead i (!point) t2 t2_2 else j7 s below n point behind ahead i false t2 t2_2 else j7 s below n point behind ahead i false t2 t2_2
def qi3_ (j8 : Bool -> Int -> Int -> Bool -> Int -> Int -> Option (As [.pr (.int .i64) (.int .u8), .bool])) (below : Bool) (n : Int) (point : Bool) (behind ahead t2 t2_2 : Int) : Option (As [.pr (.int .i64) (.int .u8), .bool]) :=
  if eqi ahead 0 = true then j8 below n behind true t2 t2_2 else if point = true then if eqi behind 0 = true then j8 below n behind true t2 t2_2 else j8 below n behind (gt behind 6) t2 t2_2 else j8 below n behind (gt behind 6) t2 t2_2
def qhs_ (self3 : List UInt8 -> Bool -> Int -> Bool -> Int -> Int -> Int -> Int -> Int -> Option (As [.pr (.int .i64) (.int .u8), .bool])) (s : List UInt8) (below : Bool) (n : Int) (point : Bool) (behind ahead i t2 t2_2 : Int) : Option (As [.pr (.int .i64) (.int .u8), .bool]) :=
  self3 s below n point behind ahead (add .i64 i 1) t2 t2_2
def qjp_ (j6 self3 : List UInt8 -> Bool -> Int -> Bool -> Int -> Int -> Int -> Int -> Int -> Option (As [.pr (.int .i64) (.int .u8), .bool])) (s : List UInt8) (below : Bool) (n : Int) (point : Bool) (behind ahead i : Int) (t61 : Bool) (t2 t2_2 : Int) : Option (As [.pr (.int .i64) (.int .u8), .bool]) :=
  if t61 = true then some ((0, 0), false, ()) else if gt n 100000000000000000 = true then some ((0, 0), false, ()) else Option.bind (at? s i) fun (c : UInt8) => if point = true then j6 s below (add .i64 (mul .i64 n 10) (cvt .i64 (Sx.sub .u8 (Int.ofNat (UInt8.toNat c)) 48))) point (add .i64 behind 1) ahead i t2 t2_2 else j6 s below (add .i64 (mul .i64 n 10) (cvt .i64 (Sx.sub .u8 (Int.ofNat (UInt8.toNat c)) 48))) point behind (add .i64 ahead 1) i t2 t2_2
def qit_ (j9 : Int -> Int -> Int -> Int -> Option (As [.pr (.int .i64) (.int .u8), .bool])) (below : Bool) (n behind : Int) (t91 : Bool) (t2 t2_2 : Int) : Option (As [.pr (.int .i64) (.int .u8), .bool]) :=
  if t91 = true then some ((0, 0), false, ()) else if below = true then j9 (Sx.neg .i64 n) behind t2 t2_2 else j9 n behind t2 t2_2
def qhl_ (n behind t2 t2_2 : Int) : Option (As [.pr (.int .i64) (.int .u8), .bool]) :=
  Option.bind (qnp_ (n, behind, ())) fun (y : (Int × Int) × Bool × Unit) => some (y.1, y.2.1, ())
def qhj_ (j1 : List UInt8 -> Bool -> Int -> Int -> Option (As [.pr (.int .i64) (.int .u8), .bool])) (s : List UInt8) : Option (As [.pr (.int .i64) (.int .u8), .bool]) :=
  if gt (Int.ofNat (List.length s)) 0 = true then Option.bind (at? s 0) fun (c : UInt8) => j1 s (eqi (Int.ofNat (UInt8.toNat c)) 45) 0 0 else j1 s false 0 0
def qcs_ (u3 : List UInt8 -> Bool -> Int -> Bool -> Int -> Int -> Int -> Int -> Int -> Option (As [.pr (.int .i64) (.int .u8), .bool])) (s : List UInt8) (below : Bool) (n : Int) (point : Bool) (behind ahead i t2 t2_2 : Int) : Option (As [.pr (.int .i64) (.int .u8), .bool]) := qhs_ u3 s below n point behind ahead i t2 t2_2
def qin_ (u3 : List UInt8 -> Bool -> Int -> Bool -> Int -> Int -> Int -> Int -> Int -> Option (As [.pr (.int .i64) (.int .u8), .bool])) (s : List UInt8) (below : Bool) (n : Int) (point : Bool) (behind ahead i : Int) (t61 : Bool) (t2 t2_2 : Int) : Option (As [.pr (.int .i64) (.int .u8), .bool]) := qjp_ (qcs_ u3) u3 s below n point behind ahead i t61 t2 t2_2
def qjo_ (u3 : List UInt8 -> Bool -> Int -> Bool -> Int -> Int -> Int -> Int -> Int -> Option (As [.pr (.int .i64) (.int .u8), .bool])) (s : List UInt8) (below : Bool) (n : Int) (point : Bool) (behind ahead i : Int) (t38 : Bool) (t2 t2_2 : Int) : Option (As [.pr (.int .i64) (.int .u8), .bool]) := qhd_ (qcs_ u3) (qin_ u3) u3 s below n point behind ahead i t38 t2 t2_2
def qhy_ (n behind t2 t2_2 : Int) : Option (As [.pr (.int .i64) (.int .u8), .bool]) := qhl_ n behind t2 t2_2
def qhg_ (below : Bool) (n behind : Int) (t91 : Bool) (t2 t2_2 : Int) : Option (As [.pr (.int .i64) (.int .u8), .bool]) := qit_ (qhy_) below n behind t91 t2 t2_2
def qik_ (below : Bool) (n : Int) (point : Bool) (behind ahead t2 t2_2 : Int) : Option (As [.pr (.int .i64) (.int .u8), .bool]) := qi3_ (qhg_) below n point behind ahead t2 t2_2
def qj9_ (s : List UInt8) (below : Bool) (n : Int) (point : Bool) (behind ahead i t2 t2_2 : Int) : Option (As [.pr (.int .i64) (.int .u8), .bool]) :=
  loopF (fun (self : (List UInt8) × (Bool) × (Int) × (Bool) × (Int) × (Int) × (Int) × (Int) × (Int) -> Option (As [.pr (.int .i64) (.int .u8), .bool])) (s : (List UInt8) × (Bool) × (Int) × (Bool) × (Int) × (Int) × (Int) × (Int) × (Int)) => qhb_ (qjo_ (fun s below n point behind ahead i t2 t2_2 => self (s, below, n, point, behind, ahead, i, t2, t2_2))) (qik_) (fun s below n point behind ahead i t2 t2_2 => self (s, below, n, point, behind, ahead, i, t2, t2_2)) s.1 s.2.1 s.2.2.1 s.2.2.2.1 s.2.2.2.2.1 s.2.2.2.2.2.1 s.2.2.2.2.2.2.1 s.2.2.2.2.2.2.2.1 s.2.2.2.2.2.2.2.2) 18446744073709551616 (s, below, n, point, behind, ahead, i, t2, t2_2)
def qjg_ (s : List UInt8) (below : Bool) (t2 t2_2 : Int) : Option (As [.pr (.int .i64) (.int .u8), .bool]) := qha_ (qj9_) s below t2 t2_2
def qju_ (s : List UInt8) (below : Bool) (t2 t2_2 : Int) : Option (As [.pr (.int .i64) (.int .u8), .bool]) := qhe_ (qjg_) s below t2 t2_2
def qmu_ (x : As [.str]) : Option (As [.pr (.int .i64) (.int .u8), .bool]) := qhj_ qju_ x.1
def qm9_ (j2 : List UInt8 -> Int -> Bool -> Int -> Bool -> Int -> Int -> List QAT4 -> Option (As [.sl QAT1, .pr (.int .i64) (.int .i64)])) (j3 : Int -> Int -> List QAT4 -> Option (As [.sl QAT1, .pr (.int .i64) (.int .i64)])) (self1 : List UInt8 -> Int -> Bool -> Int -> Int -> Int -> List QAT4 -> Option (As [.sl QAT1, .pr (.int .i64) (.int .i64)])) (text : List UInt8) (line : Int) (some' : Bool) (i t3 t3_2 : Int) (out : List QAT4) : Option (As [.sl QAT1, .pr (.int .i64) (.int .i64)]) :=
  if le i (Int.ofNat (List.length text)) = true then if eqi i (Int.ofNat (List.length text)) = true then j2 text line some' i true t3 t3_2 out else Option.bind (at? text i) fun (c : UInt8) => j2 text line some' i (eqi (Int.ofNat (UInt8.toNat c)) 10) t3 t3_2 out else j3 t3 t3_2 out
def qmj_ (j4 : List UInt8 -> Int -> Int -> Int -> Int -> List QAT4 -> Option (As [.sl QAT1, .pr (.int .i64) (.int .i64)])) (j5 : List UInt8 -> Int -> Bool -> Int -> Int -> Int -> List QAT4 -> Option (As [.sl QAT1, .pr (.int .i64) (.int .i64)])) (j6 : List UInt8 -> Int -> Bool -> Int -> Int -> Int -> Int -> List QAT4 -> Option (As [.sl QAT1, .pr (.int .i64) (.int .i64)])) (self1 : List UInt8 -> Int -> Bool -> Int -> Int -> Int -> List QAT4 -> Option (As [.sl QAT1, .pr (.int .i64) (.int .i64)])) (text : List UInt8) (line : Int) (some' : Bool) (i : Int) (t31 : Bool) (t3 t3_2 : Int) (out : List QAT4) : Option (As [.sl QAT1, .pr (.int .i64) (.int .i64)]) :=
  if t31 = true then if some' = true then need (small (List.length out + Nat.succ 0)) (j4 text line i t3 t3_2 (out ++ [(4, [], (0, 0), line)])) else j4 text line i t3 t3_2 out else Option.bind (at? text i) fun (c : UInt8) => if eqi (Int.ofNat (UInt8.toNat c)) 35 = true then j5 text line some' i t3 t3_2 out else j6 text line some' i (Int.ofNat (UInt8.toNat c)) t3 t3_2 out
def qmi_ (t3 t3_2 : Int) (out : List QAT4) : Option (As [.sl QAT1, .pr (.int .i64) (.int .i64)]) :=
  some (out, (0, 0), ())
def qm2_ (j7 self1 : List UInt8 -> Int -> Bool -> Int -> Int -> Int -> List QAT4 -> Option (As [.sl QAT1, .pr (.int .i64) (.int .i64)])) (text : List UInt8) (line i t3 t3_2 : Int) (out : List QAT4) : Option (As [.sl QAT1, .pr (.int .i64) (.int .i64)]) :=
  j7 text (add .i64 line 1) false i t3 t3_2 out
def qlx_ (j8 : List UInt8 -> Int -> Bool -> Int -> Bool -> Int -> Int -> List QAT4 -> Option (As [.sl QAT1, .pr (.int .i64) (.int .i64)])) (self1 self5 : List UInt8 -> Int -> Bool -> Int -> Int -> Int -> List QAT4 -> Option (As [.sl QAT1, .pr (.int .i64) (.int .i64)])) (text : List UInt8) (line : Int) (some' : Bool) (i t3 t3_2 : Int) (out : List QAT4) : Option (As [.sl QAT1, .pr (.int .i64) (.int .i64)]) :=
  if lt (add .i64 i 1) (Int.ofNat (List.length text)) = true then Option.bind (at? text (add .i64 i 1)) fun (c : UInt8) => j8 text line some' i (nei (Int.ofNat (UInt8.toNat c)) 10) t3 t3_2 out else j8 text line some' i false t3 t3_2 out
def qml_ (j9 : List UInt8 -> Int -> Bool -> Int -> Int -> Bool -> Int -> Int -> List QAT4 -> Option (As [.sl QAT1, .pr (.int .i64) (.int .i64)])) (self1 : List UInt8 -> Int -> Bool -> Int -> Int -> Int -> List QAT4 -> Option (As [.sl QAT1, .pr (.int .i64) (.int .i64)])) (text : List UInt8) (line : Int) (some' : Bool) (i c t3 t3_2 : Int) (out : List QAT4) : Option (As [.sl QAT1, .pr (.int .i64) (.int .i64)]) :=
  if eqi c 9 = true then j9 text line some' i c true t3 t3_2 out else if eqi c 13 = true then j9 text line some' i c true t3 t3_2 out else j9 text line some' i c (eqi c 32) t3 t3_2 out
def qm1_ (self1 : List UInt8 -> Int -> Bool -> Int -> Int -> Int -> List QAT4 -> Option (As [.sl QAT1, .pr (.int .i64) (.int .i64)])) (text : List UInt8) (line : Int) (some' : Bool) (i t3 t3_2 : Int) (out : List QAT4) : Option (As [.sl QAT1, .pr (.int .i64) (.int .i64)]) :=
  self1 text line some' (add .i64 i 1) t3 t3_2 out
def qmc_ (j7 self1 self5 : List UInt8 -> Int -> Bool -> Int -> Int -> Int -> List QAT4 -> Option (As [.sl QAT1, .pr (.int .i64) (.int .i64)])) (text : List UInt8) (line : Int) (some' : Bool) (i : Int) (t56 : Bool) (t3 t3_2 : Int) (out : List QAT4) : Option (As [.sl QAT1, .pr (.int .i64) (.int .i64)]) :=
  if t56 = true then self5 text line some' (add .i64 i 1) t3 t3_2 out else j7 text line some' i t3 t3_2 out
def qm4_ (j7 : List UInt8 -> Int -> Bool -> Int -> Int -> Int -> List QAT4 -> Option (As [.sl QAT1, .pr (.int .i64) (.int .i64)])) (j10 : List UInt8 -> Int -> Int -> Int -> Int -> List QAT4 -> Int -> List UInt8 -> Int -> Int -> Int -> Option (As [.sl QAT1, .pr (.int .i64) (.int .i64)])) (j11 : List UInt8 -> Int -> Int -> Int -> Bool -> Int -> Int -> List QAT4 -> Int -> List UInt8 -> Int -> Int -> Int -> Option (As [.sl QAT1, .pr (.int .i64) (.int .i64)])) (self1 : List UInt8 -> Int -> Bool -> Int -> Int -> Int -> List QAT4 -> Option (As [.sl QAT1, .pr (.int .i64) (.int .i64)])) (text : List UInt8) (line : Int) (some' : Bool) (i c : Int) (t68 : Bool) (t3 t3_2 : Int) (out : List QAT4) : Option (As [.sl QAT1, .pr (.int .i64) (.int .i64)]) :=
  if t68 = true then j7 text line some' i t3 t3_2 out else Option.bind (qeu_ (c, ())) fun (y : Bool × Unit) => if y.1 = true then j10 text line i t3 t3_2 out 1 [] 0 0 line else Option.bind (qcp_ (c, ())) fun (y : Bool × Unit) => if y.1 = true then j11 text line i c true t3 t3_2 out 0 [] 0 0 line else j11 text line i c (eqi c 45) t3 t3_2 out 0 [] 0 0 line
def qkz_ (j12 : List UInt8 -> Int -> Int -> Int -> Int -> List QAT4 -> Int -> List UInt8 -> Int -> Int -> Int -> Option (As [.sl QAT1, .pr (.int .i64) (.int .i64)])) (self1 : List UInt8 -> Int -> Bool -> Int -> Int -> Int -> List QAT4 -> Option (As [.sl QAT1, .pr (.int .i64) (.int .i64)])) (text : List UInt8) (line i t3 t3_2 : Int) (out : List QAT4) (t : Int) (t_2 : List UInt8) (t_3 t_4 t_5 : Int) : Option (As [.sl QAT1, .pr (.int .i64) (.int .i64)]) :=
  Option.bind (cut text i (add .i64 i 1)) fun (y : List UInt8) => j12 text line i t3 t3_2 out t y t_3 t_4 t_5
def qk4_ (j10 : List UInt8 -> Int -> Int -> Int -> Int -> List QAT4 -> Int -> List UInt8 -> Int -> Int -> Int -> Option (As [.sl QAT1, .pr (.int .i64) (.int .i64)])) (self1 : List UInt8 -> Int -> Bool -> Int -> Int -> Int -> List QAT4 -> Option (As [.sl QAT1, .pr (.int .i64) (.int .i64)])) (text : List UInt8) (line i c : Int) (t79 : Bool) (t3 t3_2 : Int) (out : List QAT4) (t : Int) (t_2 : List UInt8) (t_3 t_4 t_5 : Int) : Option (As [.sl QAT1, .pr (.int .i64) (.int .i64)]) :=
  if t79 = true then j10 text line i t3 t3_2 out 2 t_2 t_3 t_4 t_5 else if eqi c 61 = true then j10 text line i t3 t3_2 out 3 t_2 t_3 t_4 t_5 else some ([], (131, line), ())
def qla_ (j13 : List UInt8 -> Int -> Int -> Bool -> Int -> Int -> List QAT4 -> Int -> List UInt8 -> Int -> Int -> Int -> Option (As [.sl QAT1, .pr (.int .i64) (.int .i64)])) (self1 : List UInt8 -> Int -> Bool -> Int -> Int -> Int -> List QAT4 -> Option (As [.sl QAT1, .pr (.int .i64) (.int .i64)])) (self12 : List UInt8 -> Int -> Int -> Int -> Int -> List QAT4 -> Int -> List UInt8 -> Int -> Int -> Int -> Option (As [.sl QAT1, .pr (.int .i64) (.int .i64)])) (text : List UInt8) (line i t3 t3_2 : Int) (out : List QAT4) (t : Int) (t_2 : List UInt8) (t_3 t_4 t_5 : Int) : Option (As [.sl QAT1, .pr (.int .i64) (.int .i64)]) :=
  if nei t 3 = true then if lt (add .i64 i 1) (Int.ofNat (List.length text)) = true then Option.bind (at? text (add .i64 i 1)) fun (c : UInt8) => Option.bind (qnj_ (t, Int.ofNat (UInt8.toNat c), ())) fun (y : Bool × Unit) => j13 text line i y.1 t3 t3_2 out t t_2 t_3 t_4 t_5 else j13 text line i false t3 t3_2 out t t_2 t_3 t_4 t_5 else j13 text line i false t3 t3_2 out t t_2 t_3 t_4 t_5
def qlc_ (j14 : List UInt8 -> Int -> Int -> Int -> Int -> List QAT4 -> Int -> List UInt8 -> Int -> Int -> Int -> Option (As [.sl QAT1, .pr (.int .i64) (.int .i64)])) (self1 : List UInt8 -> Int -> Bool -> Int -> Int -> Int -> List QAT4 -> Option (As [.sl QAT1, .pr (.int .i64) (.int .i64)])) (self12 : List UInt8 -> Int -> Int -> Int -> Int -> List QAT4 -> Int -> List UInt8 -> Int -> Int -> Int -> Option (As [.sl QAT1, .pr (.int .i64) (.int .i64)])) (text : List UInt8) (line i : Int) (t110 : Bool) (t3 t3_2 : Int) (out : List QAT4) (t : Int) (t_2 : List UInt8) (t_3 t_4 t_5 : Int) : Option (As [.sl QAT1, .pr (.int .i64) (.int .i64)]) :=
  if t110 = true then Option.bind (cut text (add .i64 i 1) (add .i64 (add .i64 i 1) 1)) fun (y : List UInt8) => need (small (List.length t_2 + List.length y)) (self12 text line (add .i64 i 1) t3 t3_2 out t (t_2 ++ y) t_3 t_4 t_5) else j14 text line i t3 t3_2 out t t_2 t_3 t_4 t_5
def qll_ (j15 : List UInt8 -> Int -> Int -> Bool -> Int -> Int -> List QAT4 -> Int -> List UInt8 -> Int -> Int -> Int -> Option (As [.sl QAT1, .pr (.int .i64) (.int .i64)])) (self1 : List UInt8 -> Int -> Bool -> Int -> Int -> Int -> List QAT4 -> Option (As [.sl QAT1, .pr (.int .i64) (.int .i64)])) (text : List UInt8) (line i t3 t3_2 : Int) (out : List QAT4) (t : Int) (t_2 : List UInt8) (t_3 t_4 t_5 : Int) : Option (As [.sl QAT1, .pr (.int .i64) (.int .i64)]) :=
  if eqi t 1 = true then j15 text line i (gt (Int.ofNat (List.length t_2)) 20) t3 t3_2 out t t_2 t_3 t_4 t_5 else j15 text line i false t3 t3_2 out t t_2 t_3 t_4 t_5
def qkt_ (j16 : List UInt8 -> Int -> Int -> Int -> Int -> List QAT4 -> Int -> List UInt8 -> Int -> Int -> Int -> Option (As [.sl QAT1, .pr (.int .i64) (.int .i64)])) (self1 : List UInt8 -> Int -> Bool -> Int -> Int -> Int -> List QAT4 -> Option (As [.sl QAT1, .pr (.int .i64) (.int .i64)])) (text : List UInt8) (line i : Int) (t130 : Bool) (t3 t3_2 : Int) (out : List QAT4) (t : Int) (t_2 : List UInt8) (t_3 t_4 t_5 : Int) : Option (As [.sl QAT1, .pr (.int .i64) (.int .i64)]) :=
  if t130 = true then some ([], (133, line), ()) else if eqi t 2 = true then Option.bind (qmu_ (t_2, ())) fun (y : (Int × Int) × Bool × Unit) => if (!y.2.1) = true then some ([], (132, line), ()) else j16 text line i t3 t3_2 out t t_2 y.1.1 y.1.2 t_5 else j16 text line i t3 t3_2 out t t_2 t_3 t_4 t_5
def qln_ (j7 self1 : List UInt8 -> Int -> Bool -> Int -> Int -> Int -> List QAT4 -> Option (As [.sl QAT1, .pr (.int .i64) (.int .i64)])) (text : List UInt8) (line i t3 t3_2 : Int) (out : List QAT4) (t : Int) (t_2 : List UInt8) (t_3 t_4 t_5 : Int) : Option (As [.sl QAT1, .pr (.int .i64) (.int .i64)]) :=
  need (small (List.length out + Nat.succ 0)) (j7 text line true i t3 t3_2 (out ++ [(t, t_2, (t_3, t_4), t_5)]))
def qlw_ (j1 : List UInt8 -> Int -> Bool -> Int -> Int -> Int -> List QAT4 -> Option (As [.sl QAT1, .pr (.int .i64) (.int .i64)])) (text : List UInt8) : Option (As [.sl QAT1, .pr (.int .i64) (.int .i64)]) :=
  if gt (Int.ofNat (List.length text)) 8192 = true then some ([], (130, 0), ()) else j1 text 1 false 0 0 0 []
def qap_ (u1 : List UInt8 -> Int -> Bool -> Int -> Int -> Int -> List QAT4 -> Option (As [.sl QAT1, .pr (.int .i64) (.int .i64)])) (text : List UInt8) (line : Int) (some' : Bool) (i t3 t3_2 : Int) (out : List QAT4) : Option (As [.sl QAT1, .pr (.int .i64) (.int .i64)]) := qm1_ u1 text line some' i t3 t3_2 out
def qm8_ (u1 : List UInt8 -> Int -> Bool -> Int -> Int -> Int -> List QAT4 -> Option (As [.sl QAT1, .pr (.int .i64) (.int .i64)])) (text : List UInt8) (line i t3 t3_2 : Int) (out : List QAT4) : Option (As [.sl QAT1, .pr (.int .i64) (.int .i64)]) := qm2_ (qap_ u1) u1 text line i t3 t3_2 out
def qmf_ (u1 u5 : List UInt8 -> Int -> Bool -> Int -> Int -> Int -> List QAT4 -> Option (As [.sl QAT1, .pr (.int .i64) (.int .i64)])) (text : List UInt8) (line : Int) (some' : Bool) (i : Int) (t56 : Bool) (t3 t3_2 : Int) (out : List QAT4) : Option (As [.sl QAT1, .pr (.int .i64) (.int .i64)]) := qmc_ (qap_ u1) u1 u5 text line some' i t56 t3 t3_2 out
def qlt_ (u1 : List UInt8 -> Int -> Bool -> Int -> Int -> Int -> List QAT4 -> Option (As [.sl QAT1, .pr (.int .i64) (.int .i64)])) (text : List UInt8) (line : Int) (some' : Bool) (i t3 t3_2 : Int) (out : List QAT4) : Option (As [.sl QAT1, .pr (.int .i64) (.int .i64)]) :=
  loopF (fun (self : (List UInt8) × (Int) × (Bool) × (Int) × (Int) × (Int) × (List QAT4) -> Option (As [.sl QAT1, .pr (.int .i64) (.int .i64)])) (s : (List UInt8) × (Int) × (Bool) × (Int) × (Int) × (Int) × (List QAT4)) => qlx_ (qmf_ u1 (fun text line some' i t3 t3_2 out => self (text, line, some', i, t3, t3_2, out))) u1 (fun text line some' i t3 t3_2 out => self (text, line, some', i, t3, t3_2, out)) s.1 s.2.1 s.2.2.1 s.2.2.2.1 s.2.2.2.2.1 s.2.2.2.2.2.1 s.2.2.2.2.2.2) 18446744073709551616 (text, line, some', i, t3, t3_2, out)
def qke_ (u1 : List UInt8 -> Int -> Bool -> Int -> Int -> Int -> List QAT4 -> Option (As [.sl QAT1, .pr (.int .i64) (.int .i64)])) (text : List UInt8) (line i t3 t3_2 : Int) (out : List QAT4) (t : Int) (t_2 : List UInt8) (t_3 t_4 t_5 : Int) : Option (As [.sl QAT1, .pr (.int .i64) (.int .i64)]) := qln_ (qap_ u1) u1 text line i t3 t3_2 out t t_2 t_3 t_4 t_5
def qkl_ (u1 : List UInt8 -> Int -> Bool -> Int -> Int -> Int -> List QAT4 -> Option (As [.sl QAT1, .pr (.int .i64) (.int .i64)])) (text : List UInt8) (line i : Int) (t130 : Bool) (t3 t3_2 : Int) (out : List QAT4) (t : Int) (t_2 : List UInt8) (t_3 t_4 t_5 : Int) : Option (As [.sl QAT1, .pr (.int .i64) (.int .i64)]) := qkt_ (qke_ u1) u1 text line i t130 t3 t3_2 out t t_2 t_3 t_4 t_5
def qlh_ (u1 : List UInt8 -> Int -> Bool -> Int -> Int -> Int -> List QAT4 -> Option (As [.sl QAT1, .pr (.int .i64) (.int .i64)])) (text : List UInt8) (line i t3 t3_2 : Int) (out : List QAT4) (t : Int) (t_2 : List UInt8) (t_3 t_4 t_5 : Int) : Option (As [.sl QAT1, .pr (.int .i64) (.int .i64)]) := qll_ (qkl_ u1) u1 text line i t3 t3_2 out t t_2 t_3 t_4 t_5
def qkh_ (u1 : List UInt8 -> Int -> Bool -> Int -> Int -> Int -> List QAT4 -> Option (As [.sl QAT1, .pr (.int .i64) (.int .i64)])) (u12 : List UInt8 -> Int -> Int -> Int -> Int -> List QAT4 -> Int -> List UInt8 -> Int -> Int -> Int -> Option (As [.sl QAT1, .pr (.int .i64) (.int .i64)])) (text : List UInt8) (line i : Int) (t110 : Bool) (t3 t3_2 : Int) (out : List QAT4) (t : Int) (t_2 : List UInt8) (t_3 t_4 t_5 : Int) : Option (As [.sl QAT1, .pr (.int .i64) (.int .i64)]) := qlc_ (qlh_ u1) u1 u12 text line i t110 t3 t3_2 out t t_2 t_3 t_4 t_5
def qkg_ (u1 : List UInt8 -> Int -> Bool -> Int -> Int -> Int -> List QAT4 -> Option (As [.sl QAT1, .pr (.int .i64) (.int .i64)])) (text : List UInt8) (line i t3 t3_2 : Int) (out : List QAT4) (t : Int) (t_2 : List UInt8) (t_3 t_4 t_5 : Int) : Option (As [.sl QAT1, .pr (.int .i64) (.int .i64)]) :=
  loopF (fun (self : (List UInt8) × (Int) × (Int) × (Int) × (Int) × (List QAT4) × (Int) × (List UInt8) × (Int) × (Int) × (Int) -> Option (As [.sl QAT1, .pr (.int .i64) (.int .i64)])) (s : (List UInt8) × (Int) × (Int) × (Int) × (Int) × (List QAT4) × (Int) × (List UInt8) × (Int) × (Int) × (Int)) => qla_ (qkh_ u1 (fun text line i t3 t3_2 out t t_2 t_3 t_4 t_5 => self (text, line, i, t3, t3_2, out, t, t_2, t_3, t_4, t_5))) u1 (fun text line i t3 t3_2 out t t_2 t_3 t_4 t_5 => self (text, line, i, t3, t3_2, out, t, t_2, t_3, t_4, t_5)) s.1 s.2.1 s.2.2.1 s.2.2.2.1 s.2.2.2.2.1 s.2.2.2.2.2.1 s.2.2.2.2.2.2.1 s.2.2.2.2.2.2.2.1 s.2.2.2.2.2.2.2.2.1 s.2.2.2.2.2.2.2.2.2.1 s.2.2.2.2.2.2.2.2.2.2) 18446744073709551616 (text, line, i, t3, t3_2, out, t, t_2, t_3, t_4, t_5)
def qe4_ (u1 : List UInt8 -> Int -> Bool -> Int -> Int -> Int -> List QAT4 -> Option (As [.sl QAT1, .pr (.int .i64) (.int .i64)])) (text : List UInt8) (line i t3 t3_2 : Int) (out : List QAT4) (t : Int) (t_2 : List UInt8) (t_3 t_4 t_5 : Int) : Option (As [.sl QAT1, .pr (.int .i64) (.int .i64)]) := qkz_ (qkg_ u1) u1 text line i t3 t3_2 out t t_2 t_3 t_4 t_5
def qky_ (u1 : List UInt8 -> Int -> Bool -> Int -> Int -> Int -> List QAT4 -> Option (As [.sl QAT1, .pr (.int .i64) (.int .i64)])) (text : List UInt8) (line i c : Int) (t79 : Bool) (t3 t3_2 : Int) (out : List QAT4) (t : Int) (t_2 : List UInt8) (t_3 t_4 t_5 : Int) : Option (As [.sl QAT1, .pr (.int .i64) (.int .i64)]) := qk4_ (qe4_ u1) u1 text line i c t79 t3 t3_2 out t t_2 t_3 t_4 t_5
def qls_ (u1 : List UInt8 -> Int -> Bool -> Int -> Int -> Int -> List QAT4 -> Option (As [.sl QAT1, .pr (.int .i64) (.int .i64)])) (text : List UInt8) (line : Int) (some' : Bool) (i c : Int) (t68 : Bool) (t3 t3_2 : Int) (out : List QAT4) : Option (As [.sl QAT1, .pr (.int .i64) (.int .i64)]) := qm4_ (qap_ u1) (qe4_ u1) (qky_ u1) u1 text line some' i c t68 t3 t3_2 out
def qlp_ (u1 : List UInt8 -> Int -> Bool -> Int -> Int -> Int -> List QAT4 -> Option (As [.sl QAT1, .pr (.int .i64) (.int .i64)])) (text : List UInt8) (line : Int) (some' : Bool) (i c t3 t3_2 : Int) (out : List QAT4) : Option (As [.sl QAT1, .pr (.int .i64) (.int .i64)]) := qml_ (qls_ u1) u1 text line some' i c t3 t3_2 out
def qm5_ (u1 : List UInt8 -> Int -> Bool -> Int -> Int -> Int -> List QAT4 -> Option (As [.sl QAT1, .pr (.int .i64) (.int .i64)])) (text : List UInt8) (line : Int) (some' : Bool) (i : Int) (t31 : Bool) (t3 t3_2 : Int) (out : List QAT4) : Option (As [.sl QAT1, .pr (.int .i64) (.int .i64)]) := qmj_ (qm8_ u1) (qlt_ u1) (qlp_ u1) u1 text line some' i t31 t3 t3_2 out
def qmd_ (t3 t3_2 : Int) (out : List QAT4) : Option (As [.sl QAT1, .pr (.int .i64) (.int .i64)]) := qmi_ t3 t3_2 out
def qmh_ (text : List UInt8) (line : Int) (some' : Bool) (i t3 t3_2 : Int) (out : List QAT4) : Option (As [.sl QAT1, .pr (.int .i64) (.int .i64)]) :=
  loopF (fun (self : (List UInt8) × (Int) × (Bool) × (Int) × (Int) × (Int) × (List QAT4) -> Option (As [.sl QAT1, .pr (.int .i64) (.int .i64)])) (s : (List UInt8) × (Int) × (Bool) × (Int) × (Int) × (Int) × (List QAT4)) => qm9_ (qm5_ (fun text line some' i t3 t3_2 out => self (text, line, some', i, t3, t3_2, out))) (qmd_) (fun text line some' i t3 t3_2 out => self (text, line, some', i, t3, t3_2, out)) s.1 s.2.1 s.2.2.1 s.2.2.2.1 s.2.2.2.2.1 s.2.2.2.2.2.1 s.2.2.2.2.2.2) 18446744073709551616 (text, line, some', i, t3, t3_2, out)
def qk3_ (x : As [.str]) : Option (As [.sl QAT1, .pr (.int .i64) (.int .i64)]) := qlw_ qmh_ x.1
@[reducible] def qb2_ : Sh := ⟨[.d (.int .u8)], [], [.int .u8], [.d (.bool)], [], 0, [.bool]⟩
def qgv_ (c : Int) : Option (As [.bool]) :=
  if ge c 97 = true then some (le c 122, ()) else some (false, ())
def q51_ (x : As [.int .u8]) : Option (As [.bool]) := qgv_ x.1
theorem qci_ : CtOk Tryz.prog I0 78 ⟨qb2_, q51_⟩ := ctn q7_ 6 fun J x => by kernel_rfl
@[reducible] def qaz_ : Sh := ⟨[.d (.int .u8)], [], [.int .u8], [.d (.bool)], [], 0, [.bool]⟩
def qgd_ (c : Int) : Option (As [.bool]) :=
  if ge c 48 = true then some (le c 57, ()) else some (false, ())
def q5y_ (x : As [.int .u8]) : Option (As [.bool]) := qgd_ x.1
theorem qcg_ : CtOk Tryz.prog I0 79 ⟨qaz_, q5y_⟩ := ctn q7_ 6 fun J x => by kernel_rfl
@[reducible] def q1c_ : Sh := ⟨[.d (.str)], [], [.str], [.d (.bool)], [], 0, [.bool]⟩
def q21_ : Env := (cts [(78, (⟨qb2_, q51_⟩ : Ct)), (79, (⟨qaz_, q5y_⟩ : Ct))])
def q1z_ : List (Nat × Hint) := [(7, ⟨[], [0, 44, 45, 48, 49]⟩), (58, ⟨[], [0, 18, 19, 28, 29, 30, 31, 32, 35, 36, 37, 38, 44, 45, 48, 49]⟩), (3737, ⟨[.agd 35 .str, .agd 36 (.int .i64), .agd 37 (.int .u8), .agd 38 .bool, .agd 28 .str, .agd 29 (.int .i64), .agd 30 (.int .u8), .agd 31 .bool, .agd 32 .bool], [0, 18, 19, 39]⟩), (6, ⟨[], [0, 16, 28, 29, 30, 31, 32, 35, 36, 37, 38, 44, 45, 48, 49]⟩)]
def q9k_ (s : List UInt8) (t16 : Bool) : St := { fr := [(0, .d .str s), (16, .d .bool t16)], nt := 51, up := [], own := [], nx := 0, log := [], ln := 0 }
def q3l_ (s : List UInt8) (t18 t19 : Int) : St := { fr := [(0, .d .str s), (18, .d (.int .i64) t18), (19, .d (.int .i64) t19)], nt := 51, up := [], own := [], nx := 0, log := [], ln := 0 }
def q9l_ (s : List UInt8) (t18 t19 : Int) (t39 : Bool) : St := { fr := [(0, .d .str s), (18, .d (.int .i64) t18), (19, .d (.int .i64) t19), (39, .d .bool t39)], nt := 51, up := [], own := [], nx := 0, log := [], ln := 0 }
def q9f_ (s : List UInt8) : St := { fr := [(0, .d .str s)], nt := 51, up := [], own := [], nx := 0, log := [], ln := 0 }
def qcw_ (j2 : List UInt8 -> Int -> Int -> Option (As [.bool])) (s : List UInt8) (t16 : Bool) : Option (As [.bool]) :=
  if t16 = true then some (false, ()) else j2 s (Int.ofNat (List.length s)) 0
def q5r_ (j3 : List UInt8 -> Int -> Int -> Bool -> Option (As [.bool])) (j4 : List UInt8 -> Option (As [.bool])) (self2 : List UInt8 -> Int -> Int -> Option (As [.bool])) (s : List UInt8) (t18 t19 : Int) : Option (As [.bool]) :=
  if lt t19 t18 = true then Option.bind (at? s t19) fun (c : UInt8) => Option.bind (q51_ (Int.ofNat (UInt8.toNat c), ())) fun (y : Bool × Unit) => if (!y.1) = true then Option.bind (at? s t19) fun (c : UInt8) => Option.bind (q5y_ (Int.ofNat (UInt8.toNat c), ())) fun (y : Bool × Unit) => if (!y.1) = true then Option.bind (at? s t19) fun (c : UInt8) => j3 s t18 t19 (nei (Int.ofNat (UInt8.toNat c)) 95) else j3 s t18 t19 false else j3 s t18 t19 false else j4 s
def q99_ (self2 : List UInt8 -> Int -> Int -> Option (As [.bool])) (s : List UInt8) (t18 t19 : Int) (t39 : Bool) : Option (As [.bool]) :=
  if t39 = true then some (false, ()) else self2 s t18 (add .i64 t19 1)
def q98_ (s : List UInt8) : Option (As [.bool]) :=
  if nes s [114, 101, 99, 105, 112, 101] = true then if nes s [115, 108, 97, 118, 101] = true then some (nes s [101, 110, 100], ()) else some (false, ()) else some (false, ())
def q96_ (j1 : List UInt8 -> Bool -> Option (As [.bool])) (s : List UInt8) : Option (As [.bool]) :=
  if eqs s [] = true then j1 s true else if gt (Int.ofNat (List.length s)) 20 = true then j1 s true else Option.bind (at? s 0) fun (c : UInt8) => Option.bind (q51_ (Int.ofNat (UInt8.toNat c), ())) fun (y : Bool × Unit) => j1 s !y.1
def q5q_ (u2 : List UInt8 -> Int -> Int -> Option (As [.bool])) (s : List UInt8) (t18 t19 : Int) (t39 : Bool) : Option (As [.bool]) := q99_ u2 s t18 t19 t39
def q5w_ (s : List UInt8) : Option (As [.bool]) := q98_ s
def q7j_ (s : List UInt8) (t18 t19 : Int) : Option (As [.bool]) :=
  loopF (fun (self : (List UInt8) × (Int) × (Int) -> Option (As [.bool])) (s : (List UInt8) × (Int) × (Int)) => q5r_ (q5q_ (fun s t18 t19 => self (s, t18, t19))) (q5w_) (fun s t18 t19 => self (s, t18, t19)) s.1 s.2.1 s.2.2) 18446744073709551616 (s, t18, t19)
def q7i_ (s : List UInt8) (t16 : Bool) : Option (As [.bool]) := qcw_ (q7j_) s t16
def q1t_ (x : As [.str]) : Option (As [.bool]) := q96_ q7i_ x.1
theorem qhr_  (J w2 s t18 t19 t39) : pfn Tryz.prog q21_ 6 18446744073709551616 (Ev.get q1z_) 51 q1c_ J 3737 [w2] (q9l_ s t18 t19 t39) = q99_ (fun s t18 t19 => w2 (q3l_ s t18 t19)) s t18 t19 t39 := by kernel_rfl
theorem qi9_  (J s) : pfn Tryz.prog q21_ 6 18446744073709551616 (Ev.get q1z_) 51 q1c_ J 7 [] (q9f_ s) = q98_ s := by kernel_rfl
theorem qig_  (J w2 s t18 t19) : pfn Tryz.prog q21_ 6 18446744073709551616 (Ev.get q1z_) 51 q1c_ J 58 [w2] (q3l_ s t18 t19) = q5r_ (fun s t18 t19 t39 => J 3737 [w2] (q9l_ s t18 t19 t39)) (fun s => J 7 [] (q9f_ s)) (fun s t18 t19 => w2 (q3l_ s t18 t19)) s t18 t19 := by kernel_rfl
theorem qjn_  (J s t16) : pfn Tryz.prog q21_ 6 18446744073709551616 (Ev.get q1z_) 51 q1c_ J 6 [] (q9k_ s t16) = qcw_ (fun s t18 t19 => J 58 [] (q3l_ s t18 t19)) s t16 := by kernel_rfl
theorem qi0_ (J : Orc (As [.bool])) (x : As [.str]) : rfn Tryz.prog q21_ 6 18446744073709551616 (Ev.get q1z_) 51 q1c_ J x = q96_ (fun s t16 => J 6 [] (q9k_ s t16)) x.1 := by kernel_rfl
theorem qhh_  (w2 s t18 t19 t39) : jfn Tryz.prog q21_ 6 18446744073709551616 (Ev.get q1z_) 51 q1c_ 3737 [w2] (q9l_ s t18 t19 t39) = q5q_ (fun s t18 t19 => w2 (q3l_ s t18 t19)) s t18 t19 t39 := by
  rw [q4_ (by decide)]
  rw [qhr_]
  rfl
theorem qhw_  (s) : jfn Tryz.prog q21_ 6 18446744073709551616 (Ev.get q1z_) 51 q1c_ 7 [] (q9f_ s) = q5w_ s := by
  rw [q4_ (by decide)]
  rw [qi9_]
  rfl
theorem qho_  (s t18 t19) : jfn Tryz.prog q21_ 6 18446744073709551616 (Ev.get q1z_) 51 q1c_ 58 [] (q3l_ s t18 t19) = q7j_ s t18 t19 := by
  rw [q4_ (by decide)]
  rw [q16_ (by kernel_rfl)]
  refine qk_ (σ := (List UInt8) × (Int) × (Int)) (mk := fun s => q3l_ s.1 s.2.1 s.2.2) (fun w2 s => ?_) 18446744073709551616 (s, t18, t19)
  have e3 : (fun s t18 t19 t39 => (jfn Tryz.prog q21_ 6 18446744073709551616 (Ev.get q1z_) 51 q1c_) 3737 [w2] (q9l_ s t18 t19 t39)) = q5q_ (fun s t18 t19 => w2 (q3l_ s t18 t19)) := by funext s t18 t19 t39; exact qhh_ w2 s t18 t19 t39
  have e4 : (fun s => (jfn Tryz.prog q21_ 6 18446744073709551616 (Ev.get q1z_) 51 q1c_) 7 [] (q9f_ s)) = q5w_ := funext fun s => qhw_ s
  refine (qig_ _ w2 s.1 s.2.1 s.2.2).trans ?_
  rw [e3, e4]
theorem qiw_  (s t16) : jfn Tryz.prog q21_ 6 18446744073709551616 (Ev.get q1z_) 51 q1c_ 6 [] (q9k_ s t16) = q7i_ s t16 := by
  rw [q4_ (by decide)]
  have e2 : (fun s t18 t19 => (jfn Tryz.prog q21_ 6 18446744073709551616 (Ev.get q1z_) 51 q1c_) 58 [] (q3l_ s t18 t19)) = q7j_ := by funext s t18 t19; exact qho_ s t18 t19
  rw [qjn_, e2]
  rfl
theorem ql1_ (x : As [.str]) : evT Tryz.prog q21_ 6 18446744073709551616 (Ev.get q1z_) 51 q1c_ x = q1t_ x := by
  have e1 : (fun s t16 => (jfn Tryz.prog q21_ 6 18446744073709551616 (Ev.get q1z_) 51 q1c_) 6 [] (q9k_ s t16)) = q7i_ := by funext s t16; exact qiw_ s t16
  rw [q27_, qi0_, e1]
  rfl
theorem qb7_ : CtOk Tryz.prog I0 51 ⟨q1c_, q1t_⟩ := qx_ (q0_ qci_ (q0_ qcg_ q7_)) ql1_
@[reducible] def qbm_ : Sh := ⟨[.d (.pr (.int .i64) (.int .u8))], [], [.pr (.int .i64) (.int .u8)], [.d (.bool)], [], 0, [.bool]⟩
def q7q_ (d : Int × Int) : Option (As [.bool]) :=
  if ge d.1 (-1000000000000) = true then if le d.1 1000000000000 = true then if le d.2 6 = true then if eqi d.2 0 = true then some (true, ()) else some (nei (rem d.1 10) 0, ()) else some (false, ()) else some (false, ()) else some (false, ())
def q73_ (x : As [.pr (.int .i64) (.int .u8)]) : Option (As [.bool]) := q7q_ x.1
theorem qcu_ : CtOk Tryz.prog I0 52 ⟨qbm_, q73_⟩ := ctn q7_ 6 fun J x => by kernel_rfl
@[reducible] def q28_ : Sh := ⟨[.d (.str)], [], [.str], [.d (.bool)], [], 0, [.bool]⟩
def q2w_ : Env := (cts [(78, (⟨qb2_, q51_⟩ : Ct)), (79, (⟨qaz_, q5y_⟩ : Ct))])
def q2x_ : List (Nat × Hint) := [(58, ⟨[], [0, 10, 11, 20, 21, 22, 23, 24, 25, 28, 29, 34, 35, 36, 37, 38, 39, 40, 41, 42, 43, 44]⟩), (7475, ⟨[.agd 20 (.int .u8), .agd 21 .bool, .agd 22 .bool, .agd 23 (.int .u8), .agd 24 .bool, .agd 25 .bool, .agd 28 (.int .u8), .agd 29 .bool], [0, 3, 4, 5, 10, 11]⟩), (14951, ⟨[.agd 37 (.int .u8), .agd 38 .bool, .agd 39 .bool, .agd 40 .bool, .agd 41 (.int .u8), .agd 42 .bool, .agd 43 .bool, .agd 34 (.int .i64), .agd 35 .bool, .agd 36 .bool, .agd 44 .bool], [0, 10, 11, 45]⟩)]
def q29_ (s : List UInt8) (t10 t11 : Int) : St := { fr := [(0, .d .str s), (10, .d (.int .i64) t10), (11, .d (.int .i64) t11)], nt := 47, up := [], own := [], nx := 0, log := [], ln := 0 }
def q9d_ (s : List UInt8) (i c : Int) (letter : Bool) (t10 t11 : Int) : St := { fr := [(0, .d .str s), (3, .d (.int .i64) i), (4, .d (.int .u8) c), (5, .d .bool letter), (10, .d (.int .i64) t10), (11, .d (.int .i64) t11)], nt := 47, up := [], own := [], nx := 0, log := [], ln := 0 }
def q9i_ (s : List UInt8) (t10 t11 : Int) (t45 : Bool) : St := { fr := [(0, .d .str s), (10, .d (.int .i64) t10), (11, .d (.int .i64) t11), (45, .d .bool t45)], nt := 47, up := [], own := [], nx := 0, log := [], ln := 0 }
def q5v_ (j2 : List UInt8 -> Int -> Int -> Bool -> Int -> Int -> Option (As [.bool])) (self1 : List UInt8 -> Int -> Int -> Option (As [.bool])) (s : List UInt8) (t10 t11 : Int) : Option (As [.bool]) :=
  if lt t11 t10 = true then Option.bind (at? s t11) fun (c : UInt8) => Option.bind (q51_ (Int.ofNat (UInt8.toNat c), ())) fun (y : Bool × Unit) => if y.1 = true then j2 s t11 (Int.ofNat (UInt8.toNat c)) true t10 t11 else if ge (Int.ofNat (UInt8.toNat c)) 65 = true then if le (Int.ofNat (UInt8.toNat c)) 90 = true then j2 s t11 (Int.ofNat (UInt8.toNat c)) true t10 t11 else j2 s t11 (Int.ofNat (UInt8.toNat c)) (eqi (Int.ofNat (UInt8.toNat c)) 37) t10 t11 else j2 s t11 (Int.ofNat (UInt8.toNat c)) (eqi (Int.ofNat (UInt8.toNat c)) 37) t10 t11 else some (true, ())
def q95_ (j3 : List UInt8 -> Int -> Int -> Bool -> Option (As [.bool])) (self1 : List UInt8 -> Int -> Int -> Option (As [.bool])) (s : List UInt8) (i c : Int) (letter : Bool) (t10 t11 : Int) : Option (As [.bool]) :=
  if (!letter) = true then if eqi i 0 = true then j3 s t10 t11 true else Option.bind (q5y_ (c, ())) fun (y : Bool × Unit) => if (!y.1) = true then j3 s t10 t11 (nei c 95) else j3 s t10 t11 false else j3 s t10 t11 false
def q9e_ (self1 : List UInt8 -> Int -> Int -> Option (As [.bool])) (s : List UInt8) (t10 t11 : Int) (t45 : Bool) : Option (As [.bool]) :=
  if t45 = true then some (false, ()) else self1 s t10 (add .i64 t11 1)
def q9a_ (j1 : List UInt8 -> Int -> Int -> Option (As [.bool])) (s : List UInt8) : Option (As [.bool]) :=
  if gt (Int.ofNat (List.length s)) 20 = true then some (false, ()) else j1 s (Int.ofNat (List.length s)) 0
def q7s_ (u1 : List UInt8 -> Int -> Int -> Option (As [.bool])) (s : List UInt8) (t10 t11 : Int) (t45 : Bool) : Option (As [.bool]) := q9e_ u1 s t10 t11 t45
def q5x_ (u1 : List UInt8 -> Int -> Int -> Option (As [.bool])) (s : List UInt8) (i c : Int) (letter : Bool) (t10 t11 : Int) : Option (As [.bool]) := q95_ (q7s_ u1) u1 s i c letter t10 t11
def q5t_ (s : List UInt8) (t10 t11 : Int) : Option (As [.bool]) :=
  loopF (fun (self : (List UInt8) × (Int) × (Int) -> Option (As [.bool])) (s : (List UInt8) × (Int) × (Int)) => q5v_ (q5x_ (fun s t10 t11 => self (s, t10, t11))) (fun s t10 t11 => self (s, t10, t11)) s.1 s.2.1 s.2.2) 18446744073709551616 (s, t10, t11)
def q9q_ (x : As [.str]) : Option (As [.bool]) := q9a_ q5t_ x.1
theorem qhc_  (J w1 s t10 t11 t45) : pfn Tryz.prog q2w_ 6 18446744073709551616 (Ev.get q2x_) 53 q28_ J 14951 [w1] (q9i_ s t10 t11 t45) = q9e_ (fun s t10 t11 => w1 (q29_ s t10 t11)) s t10 t11 t45 := by kernel_rfl
theorem qht_  (J w1 s i c letter t10 t11) : pfn Tryz.prog q2w_ 6 18446744073709551616 (Ev.get q2x_) 53 q28_ J 7475 [w1] (q9d_ s i c letter t10 t11) = q95_ (fun s t10 t11 t45 => J 14951 [w1] (q9i_ s t10 t11 t45)) (fun s t10 t11 => w1 (q29_ s t10 t11)) s i c letter t10 t11 := by kernel_rfl
theorem qjl_  (J w1 s t10 t11) : pfn Tryz.prog q2w_ 6 18446744073709551616 (Ev.get q2x_) 53 q28_ J 58 [w1] (q29_ s t10 t11) = q5v_ (fun s i c letter t10 t11 => J 7475 [w1] (q9d_ s i c letter t10 t11)) (fun s t10 t11 => w1 (q29_ s t10 t11)) s t10 t11 := by kernel_rfl
theorem qiq_ (J : Orc (As [.bool])) (x : As [.str]) : rfn Tryz.prog q2w_ 6 18446744073709551616 (Ev.get q2x_) 53 q28_ J x = q9a_ (fun s t10 t11 => J 58 [] (q29_ s t10 t11)) x.1 := by kernel_rfl
theorem qjm_  (w1 s t10 t11 t45) : jfn Tryz.prog q2w_ 6 18446744073709551616 (Ev.get q2x_) 53 q28_ 14951 [w1] (q9i_ s t10 t11 t45) = q7s_ (fun s t10 t11 => w1 (q29_ s t10 t11)) s t10 t11 t45 := by
  rw [q4_ (by decide)]
  rw [qhc_]
  rfl
theorem qim_  (w1 s i c letter t10 t11) : jfn Tryz.prog q2w_ 6 18446744073709551616 (Ev.get q2x_) 53 q28_ 7475 [w1] (q9d_ s i c letter t10 t11) = q5x_ (fun s t10 t11 => w1 (q29_ s t10 t11)) s i c letter t10 t11 := by
  rw [q4_ (by decide)]
  have e3 : (fun s t10 t11 t45 => (jfn Tryz.prog q2w_ 6 18446744073709551616 (Ev.get q2x_) 53 q28_) 14951 [w1] (q9i_ s t10 t11 t45)) = q7s_ (fun s t10 t11 => w1 (q29_ s t10 t11)) := by funext s t10 t11 t45; exact qjm_ w1 s t10 t11 t45
  rw [qht_, e3]
  rfl
theorem qi5_  (s t10 t11) : jfn Tryz.prog q2w_ 6 18446744073709551616 (Ev.get q2x_) 53 q28_ 58 [] (q29_ s t10 t11) = q5t_ s t10 t11 := by
  rw [q4_ (by decide)]
  rw [q16_ (by kernel_rfl)]
  refine qk_ (σ := (List UInt8) × (Int) × (Int)) (mk := fun s => q29_ s.1 s.2.1 s.2.2) (fun w1 s => ?_) 18446744073709551616 (s, t10, t11)
  have e2 : (fun s i c letter t10 t11 => (jfn Tryz.prog q2w_ 6 18446744073709551616 (Ev.get q2x_) 53 q28_) 7475 [w1] (q9d_ s i c letter t10 t11)) = q5x_ (fun s t10 t11 => w1 (q29_ s t10 t11)) := by funext s i c letter t10 t11; exact qim_ w1 s i c letter t10 t11
  refine (qjl_ _ w1 s.1 s.2.1 s.2.2).trans ?_
  rw [e2]
theorem ql8_ (x : As [.str]) : evT Tryz.prog q2w_ 6 18446744073709551616 (Ev.get q2x_) 53 q28_ x = q9q_ x := by
  have e1 : (fun s t10 t11 => (jfn Tryz.prog q2w_ 6 18446744073709551616 (Ev.get q2x_) 53 q28_) 58 [] (q29_ s t10 t11)) = q5t_ := by funext s t10 t11; exact qi5_ s t10 t11
  rw [q27_, qiq_, e1]
  rfl
theorem qjb_ : CtOk Tryz.prog I0 53 ⟨q28_, q9q_⟩ := qx_ (q0_ qci_ (q0_ qcg_ q7_)) ql8_
@[reducible] def qj_ : Sh := ⟨[.d (.pr .str (.sl QAT2))], [], [.pr .str (.sl QAT2)], [.d (.bool)], [], 0, [.bool]⟩
def q14_ : Env := (cts [(51, (⟨q1c_, q1t_⟩ : Ct)), (52, (⟨qbm_, q73_⟩ : Ct)), (53, (⟨q28_, q9q_⟩ : Ct))])
def q10_ : List (Nat × Hint) := [(58, ⟨[], [18, 19, 20, 29, 30, 31, 32, 46, 47, 48, 49, 52, 53, 54, 55]⟩), (29902, ⟨[], [18, 19, 20, 29, 30, 31, 32, 35, 36, 37, 46, 47, 48, 49, 52, 53, 54, 55]⟩), (1913753, ⟨[.agd 47 (.pr (.int .i64) (.int .u8)), .agd 48 .bool, .agd 49 .bool, .agd 53 .str, .agd 54 .bool, .agd 55 .bool], [18, 19, 20, 35, 36, 37, 56]⟩), (7474, ⟨[.agd 30 (.sl QAT5), .agd 31 (.int .i64), .agd 32 .bool], [4, 18, 19, 20, 33]⟩), (6, ⟨[], [1, 16, 29, 30, 31, 32, 46, 47, 48, 49, 52, 53, 54, 55]⟩)]
def q8l_ (t16 : Bool) (r : List UInt8 × List QAT0) : St := { fr := [(1, .pb 0 0), (16, .d .bool t16)], nt := 59, up := [], own := [(0, .box 26 [.d .str r.1, .d (.sl QAT2) r.2])], nx := 1, log := [], ln := 0 }
def q17_ (t18 : List QAT0) (t19 t20 : Int) : St := { fr := [(18, .d (.sl QAT2) t18), (19, .d (.int .i64) t19), (20, .d (.int .i64) t20)], nt := 59, up := [], own := [], nx := 0, log := [], ln := 0 }
def q8p_ (t18 : List QAT0) (t19 t20 : Int) (t33 : Bool) (part : List UInt8 × Int × List QAT3) : St := { fr := [(4, .pb 0 0), (18, .d (.sl QAT2) t18), (19, .d (.int .i64) t19), (20, .d (.int .i64) t20), (33, .d .bool t33)], nt := 59, up := [], own := [(0, .box 43 [.d .str part.1, .d (.int .i64) part.2.1, .d (.sl QAT5) part.2.2])], nx := 1, log := [], ln := 0 }
def q38_ (t18 : List QAT0) (t19 t20 : Int) (t35 : List QAT3) (t36 t37 : Int) : St := { fr := [(18, .d (.sl QAT2) t18), (19, .d (.int .i64) t19), (20, .d (.int .i64) t20), (35, .d (.sl QAT5) t35), (36, .d (.int .i64) t36), (37, .d (.int .i64) t37)], nt := 59, up := [], own := [], nx := 0, log := [], ln := 0 }
def q8i_ (t18 : List QAT0) (t19 t20 : Int) (t35 : List QAT3) (t36 t37 : Int) (t56 : Bool) : St := { fr := [(18, .d (.sl QAT2) t18), (19, .d (.int .i64) t19), (20, .d (.int .i64) t20), (35, .d (.sl QAT5) t35), (36, .d (.int .i64) t36), (37, .d (.int .i64) t37), (56, .d .bool t56)], nt := 59, up := [], own := [], nx := 0, log := [], ln := 0 }
def qcl_ (j2 : List QAT0 -> Int -> Int -> Option (As [.bool])) (t16 : Bool) (r : List UInt8 × List QAT0) : Option (As [.bool]) :=
  if t16 = true then some (false, ()) else j2 r.2 (Int.ofNat (List.length r.2)) 0
def q2l_ (j3 : List QAT0 -> Int -> Int -> Bool -> List UInt8 × Int × List QAT3 -> Option (As [.bool])) (self2 : List QAT0 -> Int -> Int -> Option (As [.bool])) (t18 : List QAT0) (t19 t20 : Int) : Option (As [.bool]) :=
  if lt t20 t19 = true then Option.bind (at? t18 t20) fun (y : List UInt8 × Int × List QAT3) => Option.bind (q1t_ (y.1, ())) fun (y_1 : Bool × Unit) => if (!y_1.1) = true then j3 t18 t19 t20 true y else j3 t18 t19 t20 (gt (Int.ofNat (List.length y.2.2)) 64) y else some (true, ())
def q8q_ (j4 : List QAT0 -> Int -> Int -> List QAT3 -> Int -> Int -> Option (As [.bool])) (self2 : List QAT0 -> Int -> Int -> Option (As [.bool])) (t18 : List QAT0) (t19 t20 : Int) (t33 : Bool) (part : List UInt8 × Int × List QAT3) : Option (As [.bool]) :=
  if t33 = true then some (false, ()) else j4 t18 t19 t20 part.2.2 (Int.ofNat (List.length part.2.2)) 0
def q2k_ (j5 : List QAT0 -> Int -> Int -> List QAT3 -> Int -> Int -> Bool -> Option (As [.bool])) (self2 : List QAT0 -> Int -> Int -> Option (As [.bool])) (self4 : List QAT0 -> Int -> Int -> List QAT3 -> Int -> Int -> Option (As [.bool])) (t18 : List QAT0) (t19 t20 : Int) (t35 : List QAT3) (t36 t37 : Int) : Option (As [.bool]) :=
  if lt t37 t36 = true then Option.bind (at? t35 t37) fun (y : List UInt8 × (Int × Int) × List UInt8 × Int) => Option.bind (q1t_ (y.1, ())) fun (y_1 : Bool × Unit) => if (!y_1.1) = true then j5 t18 t19 t20 t35 t36 t37 true else Option.bind (q73_ (y.2.1, ())) fun (y_2 : Bool × Unit) => if (!y_2.1) = true then j5 t18 t19 t20 t35 t36 t37 true else Option.bind (q9q_ (y.2.2.1, ())) fun (y : Bool × Unit) => j5 t18 t19 t20 t35 t36 t37 !y.1 else self2 t18 t19 (add .i64 t20 1)
def q55_ (self2 : List QAT0 -> Int -> Int -> Option (As [.bool])) (self4 : List QAT0 -> Int -> Int -> List QAT3 -> Int -> Int -> Option (As [.bool])) (t18 : List QAT0) (t19 t20 : Int) (t35 : List QAT3) (t36 t37 : Int) (t56 : Bool) : Option (As [.bool]) :=
  if t56 = true then some (false, ()) else self4 t18 t19 t20 t35 t36 (add .i64 t37 1)
def q56_ (j1 : Bool -> List UInt8 × List QAT0 -> Option (As [.bool])) (r : List UInt8 × List QAT0) : Option (As [.bool]) :=
  Option.bind (q1t_ (r.1, ())) fun (y : Bool × Unit) => if (!y.1) = true then j1 true r else j1 (gt (Int.ofNat (List.length r.2)) 8) r
def q47_ (u2 : List QAT0 -> Int -> Int -> Option (As [.bool])) (u4 : List QAT0 -> Int -> Int -> List QAT3 -> Int -> Int -> Option (As [.bool])) (t18 : List QAT0) (t19 t20 : Int) (t35 : List QAT3) (t36 t37 : Int) (t56 : Bool) : Option (As [.bool]) := q55_ u2 u4 t18 t19 t20 t35 t36 t37 t56
def q37_ (u2 : List QAT0 -> Int -> Int -> Option (As [.bool])) (t18 : List QAT0) (t19 t20 : Int) (t35 : List QAT3) (t36 t37 : Int) : Option (As [.bool]) :=
  loopF (fun (self : (List QAT0) × (Int) × (Int) × (List QAT3) × (Int) × (Int) -> Option (As [.bool])) (s : (List QAT0) × (Int) × (Int) × (List QAT3) × (Int) × (Int)) => q2k_ (q47_ u2 (fun t18 t19 t20 t35 t36 t37 => self (t18, t19, t20, t35, t36, t37))) u2 (fun t18 t19 t20 t35 t36 t37 => self (t18, t19, t20, t35, t36, t37)) s.1 s.2.1 s.2.2.1 s.2.2.2.1 s.2.2.2.2.1 s.2.2.2.2.2) 18446744073709551616 (t18, t19, t20, t35, t36, t37)
def q4e_ (u2 : List QAT0 -> Int -> Int -> Option (As [.bool])) (t18 : List QAT0) (t19 t20 : Int) (t33 : Bool) (part : List UInt8 × Int × List QAT3) : Option (As [.bool]) := q8q_ (q37_ u2) u2 t18 t19 t20 t33 part
def q35_ (t18 : List QAT0) (t19 t20 : Int) : Option (As [.bool]) :=
  loopF (fun (self : (List QAT0) × (Int) × (Int) -> Option (As [.bool])) (s : (List QAT0) × (Int) × (Int)) => q2l_ (q4e_ (fun t18 t19 t20 => self (t18, t19, t20))) (fun t18 t19 t20 => self (t18, t19, t20)) s.1 s.2.1 s.2.2) 18446744073709551616 (t18, t19, t20)
def q49_ (t16 : Bool) (r : List UInt8 × List QAT0) : Option (As [.bool]) := qcl_ (q35_) t16 r
def q3f_ (x : As [.pr .str (.sl QAT2)]) : Option (As [.bool]) := q56_ q49_ x.1
theorem qgu_  (J w2 w4 t18 t19 t20 t35 t36 t37 t56) : pfn Tryz.prog q14_ 6 18446744073709551616 (Ev.get q10_) 21 qj_ J 1913753 [w2, w4] (q8i_ t18 t19 t20 t35 t36 t37 t56) = q55_ (fun t18 t19 t20 => w2 (q17_ t18 t19 t20)) (fun t18 t19 t20 t35 t36 t37 => w4 (q38_ t18 t19 t20 t35 t36 t37)) t18 t19 t20 t35 t36 t37 t56 := by kernel_rfl
theorem qgk_  (J w2 w4 t18 t19 t20 t35 t36 t37) : pfn Tryz.prog q14_ 6 18446744073709551616 (Ev.get q10_) 21 qj_ J 29902 [w2, w4] (q38_ t18 t19 t20 t35 t36 t37) = q2k_ (fun t18 t19 t20 t35 t36 t37 t56 => J 1913753 [w2, w4] (q8i_ t18 t19 t20 t35 t36 t37 t56)) (fun t18 t19 t20 => w2 (q17_ t18 t19 t20)) (fun t18 t19 t20 t35 t36 t37 => w4 (q38_ t18 t19 t20 t35 t36 t37)) t18 t19 t20 t35 t36 t37 := by kernel_rfl
theorem qg8_  (J w2 t18 t19 t20 t33 part) : pfn Tryz.prog q14_ 6 18446744073709551616 (Ev.get q10_) 21 qj_ J 7474 [w2] (q8p_ t18 t19 t20 t33 part) = q8q_ (fun t18 t19 t20 t35 t36 t37 => J 29902 [w2] (q38_ t18 t19 t20 t35 t36 t37)) (fun t18 t19 t20 => w2 (q17_ t18 t19 t20)) t18 t19 t20 t33 part := by kernel_rfl
theorem qgh_  (J w2 t18 t19 t20) : pfn Tryz.prog q14_ 6 18446744073709551616 (Ev.get q10_) 21 qj_ J 58 [w2] (q17_ t18 t19 t20) = q2l_ (fun t18 t19 t20 t33 part => J 7474 [w2] (q8p_ t18 t19 t20 t33 part)) (fun t18 t19 t20 => w2 (q17_ t18 t19 t20)) t18 t19 t20 := by kernel_rfl
theorem qh2_  (J t16 r) : pfn Tryz.prog q14_ 6 18446744073709551616 (Ev.get q10_) 21 qj_ J 6 [] (q8l_ t16 r) = qcl_ (fun t18 t19 t20 => J 58 [] (q17_ t18 t19 t20)) t16 r := by kernel_rfl
theorem qgy_ (J : Orc (As [.bool])) (x : As [.pr .str (.sl QAT2)]) : rfn Tryz.prog q14_ 6 18446744073709551616 (Ev.get q10_) 21 qj_ J x = q56_ (fun t16 r => J 6 [] (q8l_ t16 r)) x.1 := by kernel_rfl
theorem qgb_  (w2 w4 t18 t19 t20 t35 t36 t37 t56) : jfn Tryz.prog q14_ 6 18446744073709551616 (Ev.get q10_) 21 qj_ 1913753 [w2, w4] (q8i_ t18 t19 t20 t35 t36 t37 t56) = q47_ (fun t18 t19 t20 => w2 (q17_ t18 t19 t20)) (fun t18 t19 t20 t35 t36 t37 => w4 (q38_ t18 t19 t20 t35 t36 t37)) t18 t19 t20 t35 t36 t37 t56 := by
  rw [q4_ (by decide)]
  rw [qgu_]
  rfl
theorem qgm_  (w2 t18 t19 t20 t35 t36 t37) : jfn Tryz.prog q14_ 6 18446744073709551616 (Ev.get q10_) 21 qj_ 29902 [w2] (q38_ t18 t19 t20 t35 t36 t37) = q37_ (fun t18 t19 t20 => w2 (q17_ t18 t19 t20)) t18 t19 t20 t35 t36 t37 := by
  rw [q4_ (by decide)]
  rw [q16_ (by kernel_rfl)]
  refine qk_ (σ := (List QAT0) × (Int) × (Int) × (List QAT3) × (Int) × (Int)) (mk := fun s => q38_ s.1 s.2.1 s.2.2.1 s.2.2.2.1 s.2.2.2.2.1 s.2.2.2.2.2) (fun w4 s => ?_) 18446744073709551616 (t18, t19, t20, t35, t36, t37)
  have e5 : (fun t18 t19 t20 t35 t36 t37 t56 => (jfn Tryz.prog q14_ 6 18446744073709551616 (Ev.get q10_) 21 qj_) 1913753 [w2, w4] (q8i_ t18 t19 t20 t35 t36 t37 t56)) = q47_ (fun t18 t19 t20 => w2 (q17_ t18 t19 t20)) (fun t18 t19 t20 t35 t36 t37 => w4 (q38_ t18 t19 t20 t35 t36 t37)) := by funext t18 t19 t20 t35 t36 t37 t56; exact qgb_ w2 w4 t18 t19 t20 t35 t36 t37 t56
  refine (qgk_ _ w2 w4 s.1 s.2.1 s.2.2.1 s.2.2.2.1 s.2.2.2.2.1 s.2.2.2.2.2).trans ?_
  rw [e5]
theorem qgz_  (w2 t18 t19 t20 t33 part) : jfn Tryz.prog q14_ 6 18446744073709551616 (Ev.get q10_) 21 qj_ 7474 [w2] (q8p_ t18 t19 t20 t33 part) = q4e_ (fun t18 t19 t20 => w2 (q17_ t18 t19 t20)) t18 t19 t20 t33 part := by
  rw [q4_ (by decide)]
  have e4 : (fun t18 t19 t20 t35 t36 t37 => (jfn Tryz.prog q14_ 6 18446744073709551616 (Ev.get q10_) 21 qj_) 29902 [w2] (q38_ t18 t19 t20 t35 t36 t37)) = q37_ (fun t18 t19 t20 => w2 (q17_ t18 t19 t20)) := by funext t18 t19 t20 t35 t36 t37; exact qgm_ w2 t18 t19 t20 t35 t36 t37
  rw [qg8_, e4]
  rfl
theorem qge_  (t18 t19 t20) : jfn Tryz.prog q14_ 6 18446744073709551616 (Ev.get q10_) 21 qj_ 58 [] (q17_ t18 t19 t20) = q35_ t18 t19 t20 := by
  rw [q4_ (by decide)]
  rw [q16_ (by kernel_rfl)]
  refine qk_ (σ := (List QAT0) × (Int) × (Int)) (mk := fun s => q17_ s.1 s.2.1 s.2.2) (fun w2 s => ?_) 18446744073709551616 (t18, t19, t20)
  have e3 : (fun t18 t19 t20 t33 part => (jfn Tryz.prog q14_ 6 18446744073709551616 (Ev.get q10_) 21 qj_) 7474 [w2] (q8p_ t18 t19 t20 t33 part)) = q4e_ (fun t18 t19 t20 => w2 (q17_ t18 t19 t20)) := by funext t18 t19 t20 t33 part; exact qgz_ w2 t18 t19 t20 t33 part
  refine (qgh_ _ w2 s.1 s.2.1 s.2.2).trans ?_
  rw [e3]
theorem qgc_  (t16 r) : jfn Tryz.prog q14_ 6 18446744073709551616 (Ev.get q10_) 21 qj_ 6 [] (q8l_ t16 r) = q49_ t16 r := by
  rw [q4_ (by decide)]
  have e2 : (fun t18 t19 t20 => (jfn Tryz.prog q14_ 6 18446744073709551616 (Ev.get q10_) 21 qj_) 58 [] (q17_ t18 t19 t20)) = q35_ := by funext t18 t19 t20; exact qge_ t18 t19 t20
  rw [qh2_, e2]
  rfl
theorem qix_ (x : As [.pr .str (.sl QAT2)]) : evT Tryz.prog q14_ 6 18446744073709551616 (Ev.get q10_) 21 qj_ x = q3f_ x := by
  have e1 : (fun t16 r => (jfn Tryz.prog q14_ 6 18446744073709551616 (Ev.get q10_) 21 qj_) 6 [] (q8l_ t16 r)) = q49_ := by funext t16 r; exact qgc_ t16 r
  rw [q27_, qgy_, e1]
  rfl
theorem qck_ : CtOk Tryz.prog I0 21 ⟨qj_, q3f_⟩ := qx_ (q0_ qb7_ (q0_ qcu_ (q0_ qjb_ q7_))) qix_
def qki_ (j2 : List UInt8 -> Int -> Option (As [.bool])) (s : List UInt8) (t34 : Bool) : Option (As [.bool]) :=
  if t34 = true then some (false, ()) else j2 s 0
def qk9_ (j3 : List UInt8 -> Int -> Bool -> Option (As [.bool])) (self2 : List UInt8 -> Int -> Option (As [.bool])) (s : List UInt8) (i : Int) : Option (As [.bool]) :=
  if lt i (Int.ofNat (List.length s)) = true then Option.bind (at? s i) fun (c : UInt8) => if ge (Int.ofNat (UInt8.toNat c)) 97 = true then if (!le (Int.ofNat (UInt8.toNat c)) 122) = true then if ge (Int.ofNat (UInt8.toNat c)) 48 = true then if (!le (Int.ofNat (UInt8.toNat c)) 57) = true then j3 s i (nei (Int.ofNat (UInt8.toNat c)) 95) else j3 s i false else j3 s i (nei (Int.ofNat (UInt8.toNat c)) 95) else j3 s i false else if ge (Int.ofNat (UInt8.toNat c)) 48 = true then if (!le (Int.ofNat (UInt8.toNat c)) 57) = true then j3 s i (nei (Int.ofNat (UInt8.toNat c)) 95) else j3 s i false else j3 s i (nei (Int.ofNat (UInt8.toNat c)) 95) else some (true, ())
def ql9_ (self2 : List UInt8 -> Int -> Option (As [.bool])) (s : List UInt8) (i : Int) (t63 : Bool) : Option (As [.bool]) :=
  if t63 = true then some (false, ()) else self2 s (add .i64 i 1)
def qlk_ (j1 : List UInt8 -> Bool -> Option (As [.bool])) (s : List UInt8) : Option (As [.bool]) :=
  if lt (Int.ofNat (List.length s)) 1 = true then j1 s true else if gt (Int.ofNat (List.length s)) 20 = true then j1 s true else if eqs s [114, 101, 99, 105, 112, 101] = true then j1 s true else if eqs s [115, 108, 97, 118, 101] = true then j1 s true else if eqs s [101, 110, 100] = true then j1 s true else Option.bind (at? s 0) fun (c : UInt8) => if lt (Int.ofNat (UInt8.toNat c)) 97 = true then j1 s true else Option.bind (at? s 0) fun (c : UInt8) => j1 s (gt (Int.ofNat (UInt8.toNat c)) 122)
def qka_ (u2 : List UInt8 -> Int -> Option (As [.bool])) (s : List UInt8) (i : Int) (t63 : Bool) : Option (As [.bool]) := ql9_ u2 s i t63
def ql6_ (s : List UInt8) (i : Int) : Option (As [.bool]) :=
  loopF (fun (self : (List UInt8) × (Int) -> Option (As [.bool])) (s : (List UInt8) × (Int)) => qk9_ (qka_ (fun s i => self (s, i))) (fun s i => self (s, i)) s.1 s.2) 18446744073709551616 (s, i)
def ql5_ (s : List UInt8) (t34 : Bool) : Option (As [.bool]) := qki_ (ql6_) s t34
def qaj_ (x : As [.str]) : Option (As [.bool]) := qlk_ ql5_ x.1
def qh7_ (d : Int × Int) : Option (As [.bool]) :=
  if ge d.1 (-1000000000000) = true then if le d.1 1000000000000 = true then if le d.2 6 = true then if eqi d.2 0 = true then some (true, ()) else some (nei (rem d.1 10) 0, ()) else some (false, ()) else some (false, ()) else some (false, ())
def qmt_ (x : As [.pr (.int .i64) (.int .u8)]) : Option (As [.bool]) := qh7_ x.1
def qk6_ (s : List UInt8) : Option (As [.bool]) :=
  Option.bind (qk3_ (s, ())) fun (y : List QAT4 × (Int × Int) × Unit) => if eqi y.2.1.1 0 = true then if eqi (Int.ofNat (List.length y.1)) 2 = true then Option.bind (at? y.1 0) fun (y_1 : Int × List UInt8 × (Int × Int) × Int) => if eqi y_1.1 1 = true then Option.bind (at? y.1 0) fun (y : Int × List UInt8 × (Int × Int) × Int) => some (eqs y.2.1 s, ()) else some (false, ()) else some (false, ()) else some (false, ())
def qng_ (x : As [.str]) : Option (As [.bool]) := qk6_ x.1
end Go.Proofs.Lx
end
section
open Go Go.Proofs Ev Sx
set_option maxRecDepth 100000
namespace Go.Proofs.Lx
def qjw_ (j2 : Int -> List UInt8 × List QAT0 -> Option (As [.bool])) (t16 : Bool) (r : List UInt8 × List QAT0) : Option (As [.bool]) :=
  if t16 = true then some (false, ()) else j2 0 r
def qj7_ (j3 : Int -> Bool -> List UInt8 × List QAT0 -> List UInt8 × Int × List QAT3 -> Option (As [.bool])) (self2 : Int -> List UInt8 × List QAT0 -> Option (As [.bool])) (i : Int) (r : List UInt8 × List QAT0) : Option (As [.bool]) :=
  if lt i (Int.ofNat (List.length r.2)) = true then Option.bind (at? r.2 i) fun (y : List UInt8 × Int × List QAT3) => Option.bind (qaj_ (y.1, ())) fun (y_1 : Bool × Unit) => if (!y_1.1) = true then j3 i true r y else j3 i (gt (Int.ofNat (List.length y.2.2)) 64) r y else some (true, ())
def qjr_ (j4 : Int -> Int -> List UInt8 × List QAT0 -> List UInt8 × Int × List QAT3 -> Option (As [.bool])) (self2 : Int -> List UInt8 × List QAT0 -> Option (As [.bool])) (i : Int) (t38 : Bool) (r : List UInt8 × List QAT0) (p : List UInt8 × Int × List QAT3) : Option (As [.bool]) :=
  if t38 = true then some (false, ()) else j4 i 0 r p
def qh9_ (j5 : Int -> Int -> Bool -> List UInt8 × List QAT0 -> List UInt8 × Int × List QAT3 -> Option (As [.bool])) (j6 self2 : Int -> List UInt8 × List QAT0 -> Option (As [.bool])) (self4 : Int -> Int -> List UInt8 × List QAT0 -> List UInt8 × Int × List QAT3 -> Option (As [.bool])) (i k : Int) (r : List UInt8 × List QAT0) (p : List UInt8 × Int × List QAT3) : Option (As [.bool]) :=
  if lt k (Int.ofNat (List.length p.2.2)) = true then Option.bind (at? p.2.2 k) fun (y : List UInt8 × (Int × Int) × List UInt8 × Int) => Option.bind (qaj_ (y.1, ())) fun (y_1 : Bool × Unit) => if (!y_1.1) = true then j5 i k true r p else Option.bind (qmt_ (y.2.1, ())) fun (y_2 : Bool × Unit) => if (!y_2.1) = true then j5 i k true r p else if nes y.2.2.1 [] = true then Option.bind (qng_ (y.2.2.1, ())) fun (y : Bool × Unit) => j5 i k (!y.1) r p else j5 i k false r p else j6 i r
def qja_ (self2 : Int -> List UInt8 × List QAT0 -> Option (As [.bool])) (self4 : Int -> Int -> List UInt8 × List QAT0 -> List UInt8 × Int × List QAT3 -> Option (As [.bool])) (i k : Int) (t71 : Bool) (r : List UInt8 × List QAT0) (p : List UInt8 × Int × List QAT3) : Option (As [.bool]) :=
  if t71 = true then some (false, ()) else self4 i (add .i64 k 1) r p
def qhv_ (self2 : Int -> List UInt8 × List QAT0 -> Option (As [.bool])) (i : Int) (r : List UInt8 × List QAT0) : Option (As [.bool]) :=
  self2 (add .i64 i 1) r
def qi4_ (j1 : Bool -> List UInt8 × List QAT0 -> Option (As [.bool])) (r : List UInt8 × List QAT0) : Option (As [.bool]) :=
  Option.bind (qaj_ (r.1, ())) fun (y : Bool × Unit) => if (!y.1) = true then j1 true r else j1 (gt (Int.ofNat (List.length r.2)) 8) r
def qjx_ (u2 : Int -> List UInt8 × List QAT0 -> Option (As [.bool])) (u4 : Int -> Int -> List UInt8 × List QAT0 -> List UInt8 × Int × List QAT3 -> Option (As [.bool])) (i k : Int) (t71 : Bool) (r : List UInt8 × List QAT0) (p : List UInt8 × Int × List QAT3) : Option (As [.bool]) := qja_ u2 u4 i k t71 r p
def qj8_ (u2 : Int -> List UInt8 × List QAT0 -> Option (As [.bool])) (i : Int) (r : List UInt8 × List QAT0) : Option (As [.bool]) := qhv_ u2 i r
def qhn_ (u2 : Int -> List UInt8 × List QAT0 -> Option (As [.bool])) (i k : Int) (r : List UInt8 × List QAT0) (p : List UInt8 × Int × List QAT3) : Option (As [.bool]) :=
  loopF (fun (self : (Int) × (Int) × (List UInt8 × List QAT0) × QAT0 -> Option (As [.bool])) (s : (Int) × (Int) × (List UInt8 × List QAT0) × QAT0) => qh9_ (qjx_ u2 (fun i k r p => self (i, k, r, p))) (qj8_ u2) u2 (fun i k r p => self (i, k, r, p)) s.1 s.2.1 s.2.2.1 s.2.2.2) 18446744073709551616 (i, k, r, p)
def qio_ (u2 : Int -> List UInt8 × List QAT0 -> Option (As [.bool])) (i : Int) (t38 : Bool) (r : List UInt8 × List QAT0) (p : List UInt8 × Int × List QAT3) : Option (As [.bool]) := qjr_ (qhn_ u2) u2 i t38 r p
def qj1_ (i : Int) (r : List UInt8 × List QAT0) : Option (As [.bool]) :=
  loopF (fun (self : (Int) × (List UInt8 × List QAT0) -> Option (As [.bool])) (s : (Int) × (List UInt8 × List QAT0)) => qj7_ (qio_ (fun i r => self (i, r))) (fun i r => self (i, r)) s.1 s.2) 18446744073709551616 (i, r)
def qie_ (t16 : Bool) (r : List UInt8 × List QAT0) : Option (As [.bool]) := qjw_ (qj1_) t16 r
def qfe_ (x : As [.pr .str (.sl QAT2)]) : Option (As [.bool]) := qi4_ qie_ x.1
def qay_ (self1 : List QAT3 -> List QAT3 -> Int -> Int -> Option (As [.bool])) (s2 t15 : List QAT3) (t16 t17 : Int) : Option (As [.bool]) :=
  if lt t17 t16 = true then Option.bind (at? t15 t17) fun (y : List UInt8 × (Int × Int) × List UInt8 × Int) => Option.bind (at? s2 t17) fun (y_1 : List UInt8 × (Int × Int) × List UInt8 × Int) => if eqs y.1 y_1.1 = true then if (eqi y.2.1.1 y_1.2.1.1 && (eqi y.2.1.2 y_1.2.1.2 && true)) = true then if (!eqs y.2.2.1 y_1.2.2.1) = true then some (false, ()) else self1 s2 t15 t16 (add .i64 t17 1) else some (false, ()) else some (false, ()) else some (true, ())
def qaw_ (j1 : List QAT3 -> List QAT3 -> Int -> Int -> Option (As [.bool])) (s1 s2 : List QAT3) : Option (As [.bool]) :=
  if nei (Int.ofNat (List.length s1)) (Int.ofNat (List.length s2)) = true then some (false, ()) else j1 s2 s1 (Int.ofNat (List.length s1)) 0
def qb8_ (s2 t15 : List QAT3) (t16 t17 : Int) : Option (As [.bool]) :=
  loopF (fun (self : (List QAT3) × (List QAT3) × (Int) × (Int) -> Option (As [.bool])) (s : (List QAT3) × (List QAT3) × (Int) × (Int)) => qay_ (fun s2 t15 t16 t17 => self (s2, t15, t16, t17)) s.1 s.2.1 s.2.2.1 s.2.2.2) 18446744073709551616 (s2, t15, t16, t17)
def qbz_ (x : As [.sl QAT5, .sl QAT5]) : Option (As [.bool]) := qaw_ qb8_ x.1 x.2.1
def qat_ (self1 : List QAT0 -> List QAT0 -> Int -> Int -> Option (As [.bool])) (s2 t15 : List QAT0) (t16 t17 : Int) : Option (As [.bool]) :=
  if lt t17 t16 = true then Option.bind (at? t15 t17) fun (y : List UInt8 × Int × List QAT3) => Option.bind (at? s2 t17) fun (y_1 : List UInt8 × Int × List QAT3) => if eqs y.1 y_1.1 = true then Option.bind (qbz_ (y.2.2, y_1.2.2, ())) fun (y : Bool × Unit) => if (!y.1) = true then some (false, ()) else self1 s2 t15 t16 (add .i64 t17 1) else some (false, ()) else some (true, ())
def qar_ (j1 : List QAT0 -> List QAT0 -> Int -> Int -> Option (As [.bool])) (s1 s2 : List QAT0) : Option (As [.bool]) :=
  if nei (Int.ofNat (List.length s1)) (Int.ofNat (List.length s2)) = true then some (false, ()) else j1 s2 s1 (Int.ofNat (List.length s1)) 0
def qas_ (s2 t15 : List QAT0) (t16 t17 : Int) : Option (As [.bool]) :=
  loopF (fun (self : (List QAT0) × (List QAT0) × (Int) × (Int) -> Option (As [.bool])) (s : (List QAT0) × (List QAT0) × (Int) × (Int)) => qat_ (fun s2 t15 t16 t17 => self (s2, t15, t16, t17)) s.1 s.2.1 s.2.2.1 s.2.2.2) 18446744073709551616 (s2, t15, t16, t17)
def qbp_ (x : As [.sl QAT2, .sl QAT2]) : Option (As [.bool]) := qar_ qas_ x.1 x.2.1
def qia_ (a b : List UInt8 × List QAT0) : Option (As [.bool]) :=
  if eqs a.1 b.1 = true then Option.bind (qbp_ (a.2, b.2, ())) fun (y : Bool × Unit) => some (y.1, ()) else some (false, ())
def qba_ (x : As [.pr .str (.sl QAT2), .pr .str (.sl QAT2)]) : Option (As [.bool]) := qia_ x.1 x.2.1
@[reducible] def bits_Mul32_s : Sh := ⟨[.d (.int .u32), .d (.int .u32)], [], [.int .u32, .int .u32], [.d (.int .u32), .d (.int .u32)], [], 0, [.int .u32, .int .u32]⟩
def bits_Mul32_m0 (x y : Int) : Option (As [.int .u32, .int .u32]) :=
  some (cvt .u32 (Sx.shr .u64 (mul .u64 (cvt .u64 x) (cvt .u64 y)) 32), cvt .u32 (mul .u64 (cvt .u64 x) (cvt .u64 y)), ())
def bits_Mul32 (x : As [.int .u32, .int .u32]) : Option (As [.int .u32, .int .u32]) := bits_Mul32_m0 x.1 x.2.1
theorem bits_Mul32_ok : CtOk Tryz.prog I0 85 ⟨bits_Mul32_s, bits_Mul32⟩ := ctn q7_ 6 fun J x => by kernel_rfl
@[reducible] def bits_Mul64_s : Sh := ⟨[.d (.int .u64), .d (.int .u64)], [], [.int .u64, .int .u64], [.d (.int .u64), .d (.int .u64)], [], 0, [.int .u64, .int .u64]⟩
def bits_Mul64_m0 (x y : Int) : Option (As [.int .u64, .int .u64]) :=
  some (add .u64 (add .u64 (mul .u64 (Sx.shr .u64 x 32) (Sx.shr .u64 y 32)) (Sx.shr .u64 (add .u64 (mul .u64 (Sx.shr .u64 x 32) (Sx.band .u64 y 4294967295)) (Sx.shr .u64 (mul .u64 (Sx.band .u64 x 4294967295) (Sx.band .u64 y 4294967295)) 32)) 32)) (Sx.shr .u64 (add .u64 (Sx.band .u64 (add .u64 (mul .u64 (Sx.shr .u64 x 32) (Sx.band .u64 y 4294967295)) (Sx.shr .u64 (mul .u64 (Sx.band .u64 x 4294967295) (Sx.band .u64 y 4294967295)) 32)) 4294967295) (mul .u64 (Sx.band .u64 x 4294967295) (Sx.shr .u64 y 32))) 32), mul .u64 x y, ())
def bits_Mul64 (x : As [.int .u64, .int .u64]) : Option (As [.int .u64, .int .u64]) := bits_Mul64_m0 x.1 x.2.1
theorem bits_Mul64_ok : CtOk Tryz.prog I0 86 ⟨bits_Mul64_s, bits_Mul64⟩ := ctn q7_ 6 fun J x => by kernel_rfl
@[reducible] def bits_Mul_s : Sh := ⟨[.d (.int .u64), .d (.int .u64)], [], [.int .u64, .int .u64], [.d (.int .u64), .d (.int .u64)], [], 0, [.int .u64, .int .u64]⟩
def bits_Mul_m0 (x y : Int) : Option (As [.int .u64, .int .u64]) :=
  Option.bind (bits_Mul64 (x, y, ())) fun (y : Int × Int × Unit) => some (y.1, y.2.1, ())
def bits_Mul (x : As [.int .u64, .int .u64]) : Option (As [.int .u64, .int .u64]) := bits_Mul_m0 x.1 x.2.1
theorem bits_Mul_ok : CtOk Tryz.prog I0 59 ⟨bits_Mul_s, bits_Mul⟩ := ctn (q0_ bits_Mul32_ok (q0_ bits_Mul64_ok q7_)) 6 fun J x => by kernel_rfl
@[reducible] def strings_HasPrefix_s : Sh := ⟨[.d (.str), .d (.str)], [], [.str, .str], [.d (.bool)], [], 0, [.bool]⟩
def strings_HasPrefix_m0 (s prefixV : List UInt8) : Option (As [.bool]) :=
  Option.bind (q3v_ (s, prefixV, ())) fun (y : Bool × Unit) => some (y.1, ())
def q3r_ (x : As [.str, .str]) : Option (As [.bool]) := strings_HasPrefix_m0 x.1 x.2.1
theorem strings_HasPrefix_ok : CtOk Tryz.prog I0 60 ⟨strings_HasPrefix_s, q3r_⟩ := ctn (q0_ q8s_ q7_) 6 fun J x => by kernel_rfl
@[reducible] def strings_Repeat_s : Sh := ⟨[.d (.str), .d (.int .i64)], [], [.str, .int .i64], [.d (.str)], [], 0, [.str]⟩
def q1_ : Env := (cts [(59, (⟨bits_Mul_s, bits_Mul⟩ : Ct)), (60, (⟨strings_HasPrefix_s, q3r_⟩ : Ct))])
def q2_ : List (Nat × Hint) := [(7, ⟨[], [0, 1, 32, 33, 53, 54, 62, 63, 71, 72, 80, 81, 89, 90]⟩), (31, ⟨[], [0, 6, 53, 54, 62, 63, 71, 72, 80, 81, 89, 90]⟩), (255, ⟨[], [0, 7]⟩), (1023, ⟨[], [0, 7, 8]⟩), (65532, ⟨[], [7, 8, 9]⟩), (2042, ⟨[], [0, 7, 43, 53, 54, 62, 63, 71, 72, 80, 81, 89, 90]⟩), (16340, ⟨[], [0, 7, 49, 62, 63, 71, 72, 80, 81, 89, 90]⟩), (65363, ⟨[], [0, 7, 58, 71, 72, 80, 81, 89, 90]⟩), (261455, ⟨[], [0, 7, 67, 80, 81, 89, 90]⟩), (1045823, ⟨[], [0, 7, 76, 89, 90]⟩), (4183295, ⟨[], [0, 7, 85]⟩), (62, ⟨[], [0, 6, 34, 53, 54, 62, 63, 71, 72, 80, 81, 89, 90]⟩)]
def q79_ (s : List UInt8) (count : Int) : St := { fr := [(0, .d .str s), (1, .d (.int .i64) count)], nt := 125, up := [], own := [], nx := 0, log := [], ln := 0 }
def q7a_ (s : List UInt8) (lo : Int) (t34 : Bool) : St := { fr := [(0, .d .str s), (6, .d (.int .u64) lo), (34, .d .bool t34)], nt := 125, up := [], own := [], nx := 0, log := [], ln := 0 }
def q7b_ (s : List UInt8) (lo : Int) : St := { fr := [(0, .d .str s), (6, .d (.int .u64) lo)], nt := 125, up := [], own := [], nx := 0, log := [], ln := 0 }
def q7c_ (s : List UInt8) (n : Int) (t43 : Bool) : St := { fr := [(0, .d .str s), (7, .d (.int .i64) n), (43, .d .bool t43)], nt := 125, up := [], own := [], nx := 0, log := [], ln := 0 }
def q7d_ (s : List UInt8) (n : Int) (t49 : Bool) : St := { fr := [(0, .d .str s), (7, .d (.int .i64) n), (49, .d .bool t49)], nt := 125, up := [], own := [], nx := 0, log := [], ln := 0 }
def q4i_ (s : List UInt8) (n : Int) : St := { fr := [(0, .d .str s), (7, .d (.int .i64) n)], nt := 125, up := [], own := [], nx := 0, log := [], ln := 0 }
def q7e_ (s : List UInt8) (n : Int) (t58 : Bool) : St := { fr := [(0, .d .str s), (7, .d (.int .i64) n), (58, .d .bool t58)], nt := 125, up := [], own := [], nx := 0, log := [], ln := 0 }
def q7f_ (s : List UInt8) (n chunkMax : Int) : St := { fr := [(0, .d .str s), (7, .d (.int .i64) n), (8, .d (.int .i64) chunkMax)], nt := 125, up := [], own := [], nx := 0, log := [], ln := 0 }
def q7g_ (s : List UInt8) (n : Int) (t67 : Bool) : St := { fr := [(0, .d .str s), (7, .d (.int .i64) n), (67, .d .bool t67)], nt := 125, up := [], own := [], nx := 0, log := [], ln := 0 }
def q6v_ (s : List UInt8) (n : Int) (t76 : Bool) : St := { fr := [(0, .d .str s), (7, .d (.int .i64) n), (76, .d .bool t76)], nt := 125, up := [], own := [], nx := 0, log := [], ln := 0 }
def q6w_ (s : List UInt8) (n : Int) (t85 : Bool) : St := { fr := [(0, .d .str s), (7, .d (.int .i64) n), (85, .d .bool t85)], nt := 125, up := [], own := [], nx := 0, log := [], ln := 0 }
def strings_Repeat_m1 (j2 : List UInt8 -> Int -> Bool -> Option (As [.str])) (s : List UInt8) (count : Int) : Option (As [.str]) :=
  Option.bind (bits_Mul (cvt .u64 (Int.ofNat (List.length s)), cvt .u64 count, ())) fun (y : Int × Int × Unit) => if gt y.1 0 = true then j2 s y.2.1 true else j2 s y.2.1 (gt y.2.1 9223372036854775807)
def strings_Repeat_m2 (j3 : List UInt8 -> Int -> Option (As [.str])) (s : List UInt8) (lo : Int) (t34 : Bool) : Option (As [.str]) :=
  if t34 = true then Option.none else j3 s lo
def strings_Repeat_m3 (j4 : List UInt8 -> Int -> Bool -> Option (As [.str])) (s : List UInt8) (lo : Int) : Option (As [.str]) :=
  if eqi (Int.ofNat (List.length s)) 0 = true then some ([], ()) else Option.bind (at? s 0) fun (c : UInt8) => if eqi (Int.ofNat (UInt8.toNat c)) 32 = true then j4 s (cvt .i64 lo) true else if eqi (Int.ofNat (UInt8.toNat c)) 45 = true then j4 s (cvt .i64 lo) true else if eqi (Int.ofNat (UInt8.toNat c)) 48 = true then j4 s (cvt .i64 lo) true else if eqi (Int.ofNat (UInt8.toNat c)) 61 = true then j4 s (cvt .i64 lo) true else j4 s (cvt .i64 lo) (eqi (Int.ofNat (UInt8.toNat c)) 9)
def strings_Repeat_m4 (j5 : List UInt8 -> Int -> Bool -> Option (As [.str])) (j6 : List UInt8 -> Int -> Option (As [.str])) (s : List UInt8) (n : Int) (t43 : Bool) : Option (As [.str]) :=
  if t43 = true then if le n 128 = true then Option.bind (q3r_ ([32, 32, 32, 32, 32, 32, 32, 32, 32, 32, 32, 32, 32, 32, 32, 32, 32, 32, 32, 32, 32, 32, 32, 32, 32, 32, 32, 32, 32, 32, 32, 32, 32, 32, 32, 32, 32, 32, 32, 32, 32, 32, 32, 32, 32, 32, 32, 32, 32, 32, 32, 32, 32, 32, 32, 32, 32, 32, 32, 32, 32, 32, 32, 32, 32, 32, 32, 32, 32, 32, 32, 32, 32, 32, 32, 32, 32, 32, 32, 32, 32, 32, 32, 32, 32, 32, 32, 32, 32, 32, 32, 32, 32, 32, 32, 32, 32, 32, 32, 32, 32, 32, 32, 32, 32, 32, 32, 32, 32, 32, 32, 32, 32, 32, 32, 32, 32, 32, 32, 32, 32, 32, 32, 32, 32, 32, 32, 32], s, ())) fun (y : Bool × Unit) => j5 s n y.1 else j5 s n false else j6 s n
def strings_Repeat_m5 (j7 : List UInt8 -> Int -> Bool -> Option (As [.str])) (s : List UInt8) (n : Int) (t49 : Bool) : Option (As [.str]) :=
  if t49 = true then Option.bind (cut [32, 32, 32, 32, 32, 32, 32, 32, 32, 32, 32, 32, 32, 32, 32, 32, 32, 32, 32, 32, 32, 32, 32, 32, 32, 32, 32, 32, 32, 32, 32, 32, 32, 32, 32, 32, 32, 32, 32, 32, 32, 32, 32, 32, 32, 32, 32, 32, 32, 32, 32, 32, 32, 32, 32, 32, 32, 32, 32, 32, 32, 32, 32, 32, 32, 32, 32, 32, 32, 32, 32, 32, 32, 32, 32, 32, 32, 32, 32, 32, 32, 32, 32, 32, 32, 32, 32, 32, 32, 32, 32, 32, 32, 32, 32, 32, 32, 32, 32, 32, 32, 32, 32, 32, 32, 32, 32, 32, 32, 32, 32, 32, 32, 32, 32, 32, 32, 32, 32, 32, 32, 32, 32, 32, 32, 32, 32, 32] 0 n) fun (y : List UInt8) => some (y, ()) else if le n 128 = true then Option.bind (q3r_ ([45, 45, 45, 45, 45, 45, 45, 45, 45, 45, 45, 45, 45, 45, 45, 45, 45, 45, 45, 45, 45, 45, 45, 45, 45, 45, 45, 45, 45, 45, 45, 45, 45, 45, 45, 45, 45, 45, 45, 45, 45, 45, 45, 45, 45, 45, 45, 45, 45, 45, 45, 45, 45, 45, 45, 45, 45, 45, 45, 45, 45, 45, 45, 45, 45, 45, 45, 45, 45, 45, 45, 45, 45, 45, 45, 45, 45, 45, 45, 45, 45, 45, 45, 45, 45, 45, 45, 45, 45, 45, 45, 45, 45, 45, 45, 45, 45, 45, 45, 45, 45, 45, 45, 45, 45, 45, 45, 45, 45, 45, 45, 45, 45, 45, 45, 45, 45, 45, 45, 45, 45, 45, 45, 45, 45, 45, 45, 45], s, ())) fun (y : Bool × Unit) => j7 s n y.1 else j7 s n false
def strings_Repeat_m6 (j8 : List UInt8 -> Int -> Int -> Option (As [.str])) (s : List UInt8) (n : Int) : Option (As [.str]) :=
  if gt n 8192 = true then need (nei (Int.ofNat (List.length s)) 0) (if eqi (mul .i64 (quo .i64 8192 (Int.ofNat (List.length s))) (Int.ofNat (List.length s))) 0 = true then j8 s n (Int.ofNat (List.length s)) else j8 s n (mul .i64 (quo .i64 8192 (Int.ofNat (List.length s))) (Int.ofNat (List.length s)))) else j8 s n n
def strings_Repeat_m7 (j9 : List UInt8 -> Int -> Bool -> Option (As [.str])) (s : List UInt8) (n : Int) (t58 : Bool) : Option (As [.str]) :=
  if t58 = true then Option.bind (cut [45, 45, 45, 45, 45, 45, 45, 45, 45, 45, 45, 45, 45, 45, 45, 45, 45, 45, 45, 45, 45, 45, 45, 45, 45, 45, 45, 45, 45, 45, 45, 45, 45, 45, 45, 45, 45, 45, 45, 45, 45, 45, 45, 45, 45, 45, 45, 45, 45, 45, 45, 45, 45, 45, 45, 45, 45, 45, 45, 45, 45, 45, 45, 45, 45, 45, 45, 45, 45, 45, 45, 45, 45, 45, 45, 45, 45, 45, 45, 45, 45, 45, 45, 45, 45, 45, 45, 45, 45, 45, 45, 45, 45, 45, 45, 45, 45, 45, 45, 45, 45, 45, 45, 45, 45, 45, 45, 45, 45, 45, 45, 45, 45, 45, 45, 45, 45, 45, 45, 45, 45, 45, 45, 45, 45, 45, 45, 45] 0 n) fun (y : List UInt8) => some (y, ()) else if le n 64 = true then Option.bind (q3r_ ([48, 48, 48, 48, 48, 48, 48, 48, 48, 48, 48, 48, 48, 48, 48, 48, 48, 48, 48, 48, 48, 48, 48, 48, 48, 48, 48, 48, 48, 48, 48, 48, 48, 48, 48, 48, 48, 48, 48, 48, 48, 48, 48, 48, 48, 48, 48, 48, 48, 48, 48, 48, 48, 48, 48, 48, 48, 48, 48, 48, 48, 48, 48, 48], s, ())) fun (y : Bool × Unit) => j9 s n y.1 else j9 s n false
def strings_Repeat_m8 (s : List UInt8) (n chunkMax : Int) : Option (As [.str]) :=
  if lt n 0 = true then Option.none else Option.none
def strings_Repeat_m9 (j10 : List UInt8 -> Int -> Bool -> Option (As [.str])) (s : List UInt8) (n : Int) (t67 : Bool) : Option (As [.str]) :=
  if t67 = true then Option.bind (cut [48, 48, 48, 48, 48, 48, 48, 48, 48, 48, 48, 48, 48, 48, 48, 48, 48, 48, 48, 48, 48, 48, 48, 48, 48, 48, 48, 48, 48, 48, 48, 48, 48, 48, 48, 48, 48, 48, 48, 48, 48, 48, 48, 48, 48, 48, 48, 48, 48, 48, 48, 48, 48, 48, 48, 48, 48, 48, 48, 48, 48, 48, 48, 48] 0 n) fun (y : List UInt8) => some (y, ()) else if le n 128 = true then Option.bind (q3r_ ([61, 61, 61, 61, 61, 61, 61, 61, 61, 61, 61, 61, 61, 61, 61, 61, 61, 61, 61, 61, 61, 61, 61, 61, 61, 61, 61, 61, 61, 61, 61, 61, 61, 61, 61, 61, 61, 61, 61, 61, 61, 61, 61, 61, 61, 61, 61, 61, 61, 61, 61, 61, 61, 61, 61, 61, 61, 61, 61, 61, 61, 61, 61, 61, 61, 61, 61, 61, 61, 61, 61, 61, 61, 61, 61, 61, 61, 61, 61, 61, 61, 61, 61, 61, 61, 61, 61, 61, 61, 61, 61, 61, 61, 61, 61, 61, 61, 61, 61, 61, 61, 61, 61, 61, 61, 61, 61, 61, 61, 61, 61, 61, 61, 61, 61, 61, 61, 61, 61, 61, 61, 61, 61, 61, 61, 61, 61, 61], s, ())) fun (y : Bool × Unit) => j10 s n y.1 else j10 s n false
def strings_Repeat_m10 (j11 : List UInt8 -> Int -> Bool -> Option (As [.str])) (s : List UInt8) (n : Int) (t76 : Bool) : Option (As [.str]) :=
  if t76 = true then Option.bind (cut [61, 61, 61, 61, 61, 61, 61, 61, 61, 61, 61, 61, 61, 61, 61, 61, 61, 61, 61, 61, 61, 61, 61, 61, 61, 61, 61, 61, 61, 61, 61, 61, 61, 61, 61, 61, 61, 61, 61, 61, 61, 61, 61, 61, 61, 61, 61, 61, 61, 61, 61, 61, 61, 61, 61, 61, 61, 61, 61, 61, 61, 61, 61, 61, 61, 61, 61, 61, 61, 61, 61, 61, 61, 61, 61, 61, 61, 61, 61, 61, 61, 61, 61, 61, 61, 61, 61, 61, 61, 61, 61, 61, 61, 61, 61, 61, 61, 61, 61, 61, 61, 61, 61, 61, 61, 61, 61, 61, 61, 61, 61, 61, 61, 61, 61, 61, 61, 61, 61, 61, 61, 61, 61, 61, 61, 61, 61, 61] 0 n) fun (y : List UInt8) => some (y, ()) else if le n 64 = true then Option.bind (q3r_ ([9, 9, 9, 9, 9, 9, 9, 9, 9, 9, 9, 9, 9, 9, 9, 9, 9, 9, 9, 9, 9, 9, 9, 9, 9, 9, 9, 9, 9, 9, 9, 9, 9, 9, 9, 9, 9, 9, 9, 9, 9, 9, 9, 9, 9, 9, 9, 9, 9, 9, 9, 9, 9, 9, 9, 9, 9, 9, 9, 9, 9, 9, 9, 9], s, ())) fun (y : Bool × Unit) => j11 s n y.1 else j11 s n false
def strings_Repeat_m11 (j6 : List UInt8 -> Int -> Option (As [.str])) (s : List UInt8) (n : Int) (t85 : Bool) : Option (As [.str]) :=
  if t85 = true then Option.bind (cut [9, 9, 9, 9, 9, 9, 9, 9, 9, 9, 9, 9, 9, 9, 9, 9, 9, 9, 9, 9, 9, 9, 9, 9, 9, 9, 9, 9, 9, 9, 9, 9, 9, 9, 9, 9, 9, 9, 9, 9, 9, 9, 9, 9, 9, 9, 9, 9, 9, 9, 9, 9, 9, 9, 9, 9, 9, 9, 9, 9, 9, 9, 9, 9] 0 n) fun (y : List UInt8) => some (y, ()) else j6 s n
def strings_Repeat_m0 (j1 : List UInt8 -> Int -> Option (As [.str])) (s : List UInt8) (count : Int) : Option (As [.str]) :=
  if eqi count 0 = true then some ([], ()) else if eqi count 1 = true then some (s, ()) else if lt count 0 = true then Option.none else j1 s count
def strings_Repeat_K8 (s : List UInt8) (n chunkMax : Int) : Option (As [.str]) := strings_Repeat_m8 s n chunkMax
def q5f_ (s : List UInt8) (n : Int) : Option (As [.str]) := strings_Repeat_m6 (strings_Repeat_K8) s n
def strings_Repeat_K11 (s : List UInt8) (n : Int) (t85 : Bool) : Option (As [.str]) := strings_Repeat_m11 (q5f_) s n t85
def strings_Repeat_K10 (s : List UInt8) (n : Int) (t76 : Bool) : Option (As [.str]) := strings_Repeat_m10 (strings_Repeat_K11) s n t76
def strings_Repeat_K9 (s : List UInt8) (n : Int) (t67 : Bool) : Option (As [.str]) := strings_Repeat_m9 (strings_Repeat_K10) s n t67
def strings_Repeat_K7 (s : List UInt8) (n : Int) (t58 : Bool) : Option (As [.str]) := strings_Repeat_m7 (strings_Repeat_K9) s n t58
def strings_Repeat_K5 (s : List UInt8) (n : Int) (t49 : Bool) : Option (As [.str]) := strings_Repeat_m5 (strings_Repeat_K7) s n t49
def strings_Repeat_K4 (s : List UInt8) (n : Int) (t43 : Bool) : Option (As [.str]) := strings_Repeat_m4 (strings_Repeat_K5) (q5f_) s n t43
def strings_Repeat_K3 (s : List UInt8) (lo : Int) : Option (As [.str]) := strings_Repeat_m3 (strings_Repeat_K4) s lo
def strings_Repeat_K2 (s : List UInt8) (lo : Int) (t34 : Bool) : Option (As [.str]) := strings_Repeat_m2 (strings_Repeat_K3) s lo t34
def strings_Repeat_K1 (s : List UInt8) (count : Int) : Option (As [.str]) := strings_Repeat_m1 (strings_Repeat_K2) s count
def strings_Repeat (x : As [.str, .int .i64]) : Option (As [.str]) := strings_Repeat_m0 strings_Repeat_K1 x.1 x.2.1
theorem strings_Repeat_c8  (J s n chunkMax) : pfn Tryz.prog q1_ 6 18446744073709551616 (Ev.get q2_) 27 strings_Repeat_s J 1023 [] (q7f_ s n chunkMax) = strings_Repeat_m8 s n chunkMax := by kernel_rfl
theorem strings_Repeat_c6  (J s n) : pfn Tryz.prog q1_ 6 18446744073709551616 (Ev.get q2_) 27 strings_Repeat_s J 255 [] (q4i_ s n) = strings_Repeat_m6 (fun s n chunkMax => J 1023 [] (q7f_ s n chunkMax)) s n := by kernel_rfl
theorem strings_Repeat_c11  (J s n t85) : pfn Tryz.prog q1_ 6 18446744073709551616 (Ev.get q2_) 27 strings_Repeat_s J 4183295 [] (q6w_ s n t85) = strings_Repeat_m11 (fun s n => J 255 [] (q4i_ s n)) s n t85 := by kernel_rfl
theorem strings_Repeat_c10  (J s n t76) : pfn Tryz.prog q1_ 6 18446744073709551616 (Ev.get q2_) 27 strings_Repeat_s J 1045823 [] (q6v_ s n t76) = strings_Repeat_m10 (fun s n t85 => J 4183295 [] (q6w_ s n t85)) s n t76 := by kernel_rfl
theorem strings_Repeat_c9  (J s n t67) : pfn Tryz.prog q1_ 6 18446744073709551616 (Ev.get q2_) 27 strings_Repeat_s J 261455 [] (q7g_ s n t67) = strings_Repeat_m9 (fun s n t76 => J 1045823 [] (q6v_ s n t76)) s n t67 := by kernel_rfl
theorem strings_Repeat_c7  (J s n t58) : pfn Tryz.prog q1_ 6 18446744073709551616 (Ev.get q2_) 27 strings_Repeat_s J 65363 [] (q7e_ s n t58) = strings_Repeat_m7 (fun s n t67 => J 261455 [] (q7g_ s n t67)) s n t58 := by kernel_rfl
theorem strings_Repeat_c5  (J s n t49) : pfn Tryz.prog q1_ 6 18446744073709551616 (Ev.get q2_) 27 strings_Repeat_s J 16340 [] (q7d_ s n t49) = strings_Repeat_m5 (fun s n t58 => J 65363 [] (q7e_ s n t58)) s n t49 := by kernel_rfl
theorem strings_Repeat_c4  (J s n t43) : pfn Tryz.prog q1_ 6 18446744073709551616 (Ev.get q2_) 27 strings_Repeat_s J 2042 [] (q7c_ s n t43) = strings_Repeat_m4 (fun s n t49 => J 16340 [] (q7d_ s n t49)) (fun s n => J 255 [] (q4i_ s n)) s n t43 := by kernel_rfl
theorem strings_Repeat_c3  (J s lo) : pfn Tryz.prog q1_ 6 18446744073709551616 (Ev.get q2_) 27 strings_Repeat_s J 31 [] (q7b_ s lo) = strings_Repeat_m3 (fun s n t43 => J 2042 [] (q7c_ s n t43)) s lo := by kernel_rfl
theorem strings_Repeat_c2  (J s lo t34) : pfn Tryz.prog q1_ 6 18446744073709551616 (Ev.get q2_) 27 strings_Repeat_s J 62 [] (q7a_ s lo t34) = strings_Repeat_m2 (fun s lo => J 31 [] (q7b_ s lo)) s lo t34 := by kernel_rfl
theorem strings_Repeat_c1  (J s count) : pfn Tryz.prog q1_ 6 18446744073709551616 (Ev.get q2_) 27 strings_Repeat_s J 7 [] (q79_ s count) = strings_Repeat_m1 (fun s lo t34 => J 62 [] (q7a_ s lo t34)) s count := by kernel_rfl
theorem strings_Repeat_c0 (J : Orc (As [.str])) (x : As [.str, .int .i64]) : rfn Tryz.prog q1_ 6 18446744073709551616 (Ev.get q2_) 27 strings_Repeat_s J x = strings_Repeat_m0 (fun s count => J 7 [] (q79_ s count)) x.1 x.2.1 := by kernel_rfl
theorem strings_Repeat_g8  (s n chunkMax) : jfn Tryz.prog q1_ 6 18446744073709551616 (Ev.get q2_) 27 strings_Repeat_s 1023 [] (q7f_ s n chunkMax) = strings_Repeat_K8 s n chunkMax := by
  rw [q4_ (by decide)]
  rw [strings_Repeat_c8]
  rfl
theorem strings_Repeat_g6  (s n) : jfn Tryz.prog q1_ 6 18446744073709551616 (Ev.get q2_) 27 strings_Repeat_s 255 [] (q4i_ s n) = q5f_ s n := by
  rw [q4_ (by decide)]
  have e8 : (fun s n chunkMax => (jfn Tryz.prog q1_ 6 18446744073709551616 (Ev.get q2_) 27 strings_Repeat_s) 1023 [] (q7f_ s n chunkMax)) = strings_Repeat_K8 := by funext s n chunkMax; exact strings_Repeat_g8 s n chunkMax
  rw [strings_Repeat_c6, e8]
  rfl
theorem strings_Repeat_g11  (s n t85) : jfn Tryz.prog q1_ 6 18446744073709551616 (Ev.get q2_) 27 strings_Repeat_s 4183295 [] (q6w_ s n t85) = strings_Repeat_K11 s n t85 := by
  rw [q4_ (by decide)]
  have e6 : (fun s n => (jfn Tryz.prog q1_ 6 18446744073709551616 (Ev.get q2_) 27 strings_Repeat_s) 255 [] (q4i_ s n)) = q5f_ := by funext s n; exact strings_Repeat_g6 s n
  rw [strings_Repeat_c11, e6]
  rfl
theorem strings_Repeat_g10  (s n t76) : jfn Tryz.prog q1_ 6 18446744073709551616 (Ev.get q2_) 27 strings_Repeat_s 1045823 [] (q6v_ s n t76) = strings_Repeat_K10 s n t76 := by
  rw [q4_ (by decide)]
  have e11 : (fun s n t85 => (jfn Tryz.prog q1_ 6 18446744073709551616 (Ev.get q2_) 27 strings_Repeat_s) 4183295 [] (q6w_ s n t85)) = strings_Repeat_K11 := by funext s n t85; exact strings_Repeat_g11 s n t85
  rw [strings_Repeat_c10, e11]
  rfl
theorem strings_Repeat_g9  (s n t67) : jfn Tryz.prog q1_ 6 18446744073709551616 (Ev.get q2_) 27 strings_Repeat_s 261455 [] (q7g_ s n t67) = strings_Repeat_K9 s n t67 := by
  rw [q4_ (by decide)]
  have e10 : (fun s n t76 => (jfn Tryz.prog q1_ 6 18446744073709551616 (Ev.get q2_) 27 strings_Repeat_s) 1045823 [] (q6v_ s n t76)) = strings_Repeat_K10 := by funext s n t76; exact strings_Repeat_g10 s n t76
  rw [strings_Repeat_c9, e10]
  rfl
theorem strings_Repeat_g7  (s n t58) : jfn Tryz.prog q1_ 6 18446744073709551616 (Ev.get q2_) 27 strings_Repeat_s 65363 [] (q7e_ s n t58) = strings_Repeat_K7 s n t58 := by
  rw [q4_ (by decide)]
  have e9 : (fun s n t67 => (jfn Tryz.prog q1_ 6 18446744073709551616 (Ev.get q2_) 27 strings_Repeat_s) 261455 [] (q7g_ s n t67)) = strings_Repeat_K9 := by funext s n t67; exact strings_Repeat_g9 s n t67
  rw [strings_Repeat_c7, e9]
  rfl
theorem strings_Repeat_g5  (s n t49) : jfn Tryz.prog q1_ 6 18446744073709551616 (Ev.get q2_) 27 strings_Repeat_s 16340 [] (q7d_ s n t49) = strings_Repeat_K5 s n t49 := by
  rw [q4_ (by decide)]
  have e7 : (fun s n t58 => (jfn Tryz.prog q1_ 6 18446744073709551616 (Ev.get q2_) 27 strings_Repeat_s) 65363 [] (q7e_ s n t58)) = strings_Repeat_K7 := by funext s n t58; exact strings_Repeat_g7 s n t58
  rw [strings_Repeat_c5, e7]
  rfl
theorem strings_Repeat_g4  (s n t43) : jfn Tryz.prog q1_ 6 18446744073709551616 (Ev.get q2_) 27 strings_Repeat_s 2042 [] (q7c_ s n t43) = strings_Repeat_K4 s n t43 := by
  rw [q4_ (by decide)]
  have e5 : (fun s n t49 => (jfn Tryz.prog q1_ 6 18446744073709551616 (Ev.get q2_) 27 strings_Repeat_s) 16340 [] (q7d_ s n t49)) = strings_Repeat_K5 := by funext s n t49; exact strings_Repeat_g5 s n t49
  have e6 : (fun s n => (jfn Tryz.prog q1_ 6 18446744073709551616 (Ev.get q2_) 27 strings_Repeat_s) 255 [] (q4i_ s n)) = q5f_ := by funext s n; exact strings_Repeat_g6 s n
  rw [strings_Repeat_c4, e5, e6]
  rfl
theorem strings_Repeat_g3  (s lo) : jfn Tryz.prog q1_ 6 18446744073709551616 (Ev.get q2_) 27 strings_Repeat_s 31 [] (q7b_ s lo) = strings_Repeat_K3 s lo := by
  rw [q4_ (by decide)]
  have e4 : (fun s n t43 => (jfn Tryz.prog q1_ 6 18446744073709551616 (Ev.get q2_) 27 strings_Repeat_s) 2042 [] (q7c_ s n t43)) = strings_Repeat_K4 := by funext s n t43; exact strings_Repeat_g4 s n t43
  rw [strings_Repeat_c3, e4]
  rfl
theorem strings_Repeat_g2  (s lo t34) : jfn Tryz.prog q1_ 6 18446744073709551616 (Ev.get q2_) 27 strings_Repeat_s 62 [] (q7a_ s lo t34) = strings_Repeat_K2 s lo t34 := by
  rw [q4_ (by decide)]
  have e3 : (fun s lo => (jfn Tryz.prog q1_ 6 18446744073709551616 (Ev.get q2_) 27 strings_Repeat_s) 31 [] (q7b_ s lo)) = strings_Repeat_K3 := by funext s lo; exact strings_Repeat_g3 s lo
  rw [strings_Repeat_c2, e3]
  rfl
theorem strings_Repeat_g1  (s count) : jfn Tryz.prog q1_ 6 18446744073709551616 (Ev.get q2_) 27 strings_Repeat_s 7 [] (q79_ s count) = strings_Repeat_K1 s count := by
  rw [q4_ (by decide)]
  have e2 : (fun s lo t34 => (jfn Tryz.prog q1_ 6 18446744073709551616 (Ev.get q2_) 27 strings_Repeat_s) 62 [] (q7a_ s lo t34)) = strings_Repeat_K2 := by funext s lo t34; exact strings_Repeat_g2 s lo t34
  rw [strings_Repeat_c1, e2]
  rfl
theorem strings_Repeat_t (x : As [.str, .int .i64]) : evT Tryz.prog q1_ 6 18446744073709551616 (Ev.get q2_) 27 strings_Repeat_s x = strings_Repeat x := by
  have e1 : (fun s count => (jfn Tryz.prog q1_ 6 18446744073709551616 (Ev.get q2_) 27 strings_Repeat_s) 7 [] (q79_ s count)) = strings_Repeat_K1 := by funext s count; exact strings_Repeat_g1 s count
  rw [q27_, strings_Repeat_c0, e1]
  rfl
theorem strings_Repeat_ok : CtOk Tryz.prog I0 27 ⟨strings_Repeat_s, strings_Repeat⟩ := qx_ (q0_ bits_Mul_ok (q0_ strings_HasPrefix_ok q7_)) strings_Repeat_t
@[reducible] def q5a_ : Sh := ⟨[.d (.int .i64)], [], [.int .i64], [.d (.int .i64)], [], 0, [.int .i64]⟩
def q88_ : Env := (cts [])
def q89_ : List (Nat × Hint) := [(58, ⟨[], [3, 4, 5]⟩)]
def q5s_ (p t4 t5 : Int) : St := { fr := [(3, .d (.int .i64) p), (4, .d (.int .i64) t4), (5, .d (.int .i64) t5)], nt := 11, up := [], own := [], nx := 0, log := [], ln := 0 }
def qcv_ (self1 : Int -> Int -> Int -> Option (As [.int .i64])) (p t4 t5 : Int) : Option (As [.int .i64]) :=
  if lt t5 t4 = true then self1 (mul .i64 p 10) t4 (add .i64 t5 1) else some (p, ())
def qcr_ (j1 : Int -> Int -> Int -> Option (As [.int .i64])) (n : Int) : Option (As [.int .i64]) :=
  j1 1 n 0
def qb1_ (p t4 t5 : Int) : Option (As [.int .i64]) :=
  loopF (fun (self : (Int) × (Int) × (Int) -> Option (As [.int .i64])) (s : (Int) × (Int) × (Int)) => qcv_ (fun p t4 t5 => self (p, t4, t5)) s.1 s.2.1 s.2.2) 18446744073709551616 (p, t4, t5)
def q9p_ (x : As [.int .i64]) : Option (As [.int .i64]) := qcr_ qb1_ x.1
theorem qj5_  (J w1 p t4 t5) : pfn Tryz.prog q88_ 6 18446744073709551616 (Ev.get q89_) 68 q5a_ J 58 [w1] (q5s_ p t4 t5) = qcv_ (fun p t4 t5 => w1 (q5s_ p t4 t5)) p t4 t5 := by kernel_rfl
theorem qjq_ (J : Orc (As [.int .i64])) (x : As [.int .i64]) : rfn Tryz.prog q88_ 6 18446744073709551616 (Ev.get q89_) 68 q5a_ J x = qcr_ (fun p t4 t5 => J 58 [] (q5s_ p t4 t5)) x.1 := by kernel_rfl
theorem qjf_  (p t4 t5) : jfn Tryz.prog q88_ 6 18446744073709551616 (Ev.get q89_) 68 q5a_ 58 [] (q5s_ p t4 t5) = qb1_ p t4 t5 := by
  rw [q4_ (by decide)]
  rw [q16_ (by kernel_rfl)]
  refine qk_ (σ := (Int) × (Int) × (Int)) (mk := fun s => q5s_ s.1 s.2.1 s.2.2) (fun w1 s => ?_) 18446744073709551616 (p, t4, t5)
  refine (qj5_ _ w1 s.1 s.2.1 s.2.2).trans ?_
  rfl
theorem qkk_ (x : As [.int .i64]) : evT Tryz.prog q88_ 6 18446744073709551616 (Ev.get q89_) 68 q5a_ x = q9p_ x := by
  have e1 : (fun p t4 t5 => (jfn Tryz.prog q88_ 6 18446744073709551616 (Ev.get q89_) 68 q5a_) 58 [] (q5s_ p t4 t5)) = qb1_ := by funext p t4 t5; exact qjf_ p t4 t5
  rw [q27_, qjq_, e1]
  rfl
theorem qjk_ : CtOk Tryz.prog I0 68 ⟨q5a_, q9p_⟩ := qx_ q7_ qkk_
@[reducible] def strconv_FormatInt_s : Sh := ⟨[.d (.int .i64), .d (.int .i64)], [], [.int .i64, .int .i64], [.d (.str)], [], 0, [.str]⟩
def strconv_FormatInt_m0 (i base : Int) : Option (As [.str]) :=
  Option.bind (q6u_ (i, base, ())) fun (y : List UInt8 × Unit) => some (y.1, ())
def q5g_ (x : As [.int .i64, .int .i64]) : Option (As [.str]) := strconv_FormatInt_m0 x.1 x.2.1
theorem strconv_FormatInt_ok : CtOk Tryz.prog I0 69 ⟨strconv_FormatInt_s, q5g_⟩ := ctn (q0_ istrconv_FormatInt_ok q7_) 6 fun J x => by kernel_rfl
@[reducible] def q61_ : Sh := ⟨[.d (.pr (.int .i64) (.int .u8))], [], [.pr (.int .i64) (.int .u8)], [.d (.str)], [], 0, [.str]⟩
def q8x_ : Env := (cts [(27, (⟨strings_Repeat_s, strings_Repeat⟩ : Ct)), (52, (⟨qbm_, q73_⟩ : Ct)), (68, (⟨q5a_, q9p_⟩ : Ct)), (69, (⟨strconv_FormatInt_s, q5g_⟩ : Ct))])
def q8z_ : List (Nat × Hint) := [(15, ⟨[], [1, 3, 4]⟩)]
def q9x_ (n : Int) (sign : List UInt8) (d : Int × Int) : St := { fr := [(1, .pb 0 0), (3, .d (.int .i64) n), (4, .d .str sign)], nt := 47, up := [], own := [(0, .box 45 [.d (.int .i64) d.1, .d (.int .u8) d.2])], nx := 1, log := [], ln := 0 }
def qbk_ (n : Int) (sign : List UInt8) (d : Int × Int) : Option (As [.str]) :=
  Option.bind (q9p_ (cvt .i64 d.2, ())) fun (y : Int × Unit) => need (nei y.1 0) (Option.bind (q5g_ (quo .i64 n y.1, 10, ())) fun (y_1 : List UInt8 × Unit) => need (small (List.length sign + List.length y_1.1)) (if eqi d.2 0 = true then some (sign ++ y_1.1, ()) else need (nei y.1 0) (Option.bind (q5g_ (rem n y.1, 10, ())) fun (y : List UInt8 × Unit) => need (small (List.length (sign ++ y_1.1) + 1)) (Option.bind (strings_Repeat ([48], Sx.sub .i64 (cvt .i64 d.2) (Int.ofNat (List.length y.1)), ())) fun (y_2 : List UInt8 × Unit) => need (small (List.length (sign ++ y_1.1 ++ [46]) + List.length y_2.1)) (need (small (List.length (sign ++ y_1.1 ++ [46] ++ y_2.1) + List.length y.1)) (some (sign ++ y_1.1 ++ [46] ++ y_2.1 ++ y.1, ())))))))
def qa0_ (j1 : Int -> List UInt8 -> Int × Int -> Option (As [.str])) (d : Int × Int) : Option (As [.str]) :=
  Option.bind (q73_ (d, ())) fun (y : Bool × Unit) => if (!y.1) = true then some ([], ()) else if lt d.1 0 = true then j1 (Sx.neg .i64 d.1) [45] d else j1 d.1 [] d
def q6i_ (n : Int) (sign : List UInt8) (d : Int × Int) : Option (As [.str]) := qbk_ n sign d
def q85_ (x : As [.pr (.int .i64) (.int .u8)]) : Option (As [.str]) := qa0_ q6i_ x.1
theorem ql4_  (J n sign d) : pfn Tryz.prog q8x_ 6 18446744073709551616 (Ev.get q8z_) 37 q61_ J 15 [] (q9x_ n sign d) = qbk_ n sign d := by kernel_rfl
theorem qkn_ (J : Orc (As [.str])) (x : As [.pr (.int .i64) (.int .u8)]) : rfn Tryz.prog q8x_ 6 18446744073709551616 (Ev.get q8z_) 37 q61_ J x = qa0_ (fun n sign d => J 15 [] (q9x_ n sign d)) x.1 := by kernel_rfl
theorem qlf_  (n sign d) : jfn Tryz.prog q8x_ 6 18446744073709551616 (Ev.get q8z_) 37 q61_ 15 [] (q9x_ n sign d) = q6i_ n sign d := by
  rw [q4_ (by decide)]
  rw [ql4_]
  rfl
theorem qlr_ (x : As [.pr (.int .i64) (.int .u8)]) : evT Tryz.prog q8x_ 6 18446744073709551616 (Ev.get q8z_) 37 q61_ x = q85_ x := by
  have e1 : (fun n sign d => (jfn Tryz.prog q8x_ 6 18446744073709551616 (Ev.get q8z_) 37 q61_) 15 [] (q9x_ n sign d)) = q6i_ := by funext n sign d; exact qlf_ n sign d
  rw [q27_, qkn_, e1]
  rfl
theorem ql2_ : CtOk Tryz.prog I0 37 ⟨q61_, q85_⟩ := qx_ (q0_ strings_Repeat_ok (q0_ qcu_ (q0_ qjk_ (q0_ strconv_FormatInt_ok q7_)))) qlr_
@[reducible] def qr_ : Sh := ⟨[.d (.pr .str (.sl QAT2))], [], [.pr .str (.sl QAT2)], [.d (.str), .d (.bool)], [], 0, [.str, .bool]⟩
def q13_ : Env := (cts [(21, (⟨qj_, q3f_⟩ : Ct)), (25, (⟨strings_Join_s, strings_Join⟩ : Ct)), (37, (⟨q61_, q85_⟩ : Ct))])
def q12_ : List (Nat × Hint) := [(63, ⟨[], [4]⟩), (506, ⟨[], [4, 5, 21, 22, 23]⟩), (64819, ⟨[], [4, 5, 21, 22, 23]⟩), (518554, ⟨[], [4, 5, 21, 22, 23, 33, 34, 35]⟩), (66374963, ⟨[], [4, 5, 10, 21, 22, 23, 33, 34, 35]⟩)]
def q18_ (t21 : List QAT0) (t22 t23 : Int) (o : List Int) : St := { fr := [(4, .pb 0 0), (5, .fn (.func 34) [] [.pb 0 0]), (21, .d (.sl QAT2) t21), (22, .d (.int .i64) t22), (23, .d (.int .i64) t23)], nt := 63, up := [], own := [(0, .box 87 [.pb 0 0, .row 1]), (1, .row (.int .u8) 5 o)], nx := 2, log := [], ln := 0 }
def q34_ (t21 : List QAT0) (t22 t23 : Int) (t33 : List QAT3) (t34 t35 : Int) (o : List Int) : St := { fr := [(4, .pb 0 0), (5, .fn (.func 34) [] [.pb 0 0]), (21, .d (.sl QAT2) t21), (22, .d (.int .i64) t22), (23, .d (.int .i64) t23), (33, .d (.sl QAT5) t33), (34, .d (.int .i64) t34), (35, .d (.int .i64) t35)], nt := 63, up := [], own := [(0, .box 87 [.pb 0 0, .row 1]), (1, .row (.int .u8) 5 o)], nx := 2, log := [], ln := 0 }
def q8o_ (o : List Int) : St := { fr := [(4, .pb 0 0)], nt := 63, up := [], own := [(0, .box 87 [.pb 0 0, .row 1]), (1, .row (.int .u8) 5 o)], nx := 2, log := [], ln := 0 }
def q8m_ (t21 : List QAT0) (t22 t23 : Int) (t33 : List QAT3) (t34 t35 : Int) (o : List Int) (words : List (List UInt8)) : St := { fr := [(4, .pb 0 0), (5, .fn (.func 34) [] [.pb 0 0]), (10, .row 2), (21, .d (.sl QAT2) t21), (22, .d (.int .i64) t22), (23, .d (.int .i64) t23), (33, .d (.sl QAT5) t33), (34, .d (.int .i64) t34), (35, .d (.int .i64) t35)], nt := 63, up := [], own := [(0, .box 87 [.pb 0 0, .row 1]), (1, .row (.int .u8) 5 o), (2, .row .str 9 words)], nx := 3, log := [], ln := 0 }
def q8k_ (t21 : List QAT0) (t22 t23 : Int) (o : List Int) : St := { fr := [(4, .pb 0 0), (5, .fn (.func 34) [] [.pb 0 0]), (21, .d (.sl QAT2) t21), (22, .d (.int .i64) t22), (23, .d (.int .i64) t23)], nt := 63, up := [], own := [(0, .box 87 [.pb 0 0, .row 1]), (1, .row (.int .u8) 5 o)], nx := 2, log := [], ln := 0 }
def q59_ (j2 : List QAT0 -> Int -> Int -> List QAT3 -> Int -> Int -> List Int -> Option (As [.str, .bool])) (j3 : List Int -> Option (As [.str, .bool])) (self1 : List QAT0 -> Int -> Int -> List Int -> Option (As [.str, .bool])) (t21 : List QAT0) (t22 t23 : Int) (o : List Int) : Option (As [.str, .bool]) :=
  if lt t23 t22 = true then Option.bind (at? t21 t23) fun (y : List UInt8 × Int × List QAT3) => Option.bind (strings_Join ([[115, 108, 97, 118, 101], y.1], [32], ())) fun (y_1 : List UInt8 × Unit) => need (small (List.length o + List.length y_1.1)) (need (small (List.length (o ++ List.map (fun (b : UInt8) => Int.ofNat (UInt8.toNat b)) y_1.1) + 1)) (j2 t21 t22 t23 y.2.2 (Int.ofNat (List.length y.2.2)) 0 (o ++ List.map (fun (b : UInt8) => Int.ofNat (UInt8.toNat b)) y_1.1 ++ [10]))) else j3 o
def q54_ (j4 : List QAT0 -> Int -> Int -> List QAT3 -> Int -> Int -> List Int -> List (List UInt8) -> Option (As [.str, .bool])) (j5 self1 : List QAT0 -> Int -> Int -> List Int -> Option (As [.str, .bool])) (self2 : List QAT0 -> Int -> Int -> List QAT3 -> Int -> Int -> List Int -> Option (As [.str, .bool])) (t21 : List QAT0) (t22 t23 : Int) (t33 : List QAT3) (t34 t35 : Int) (o : List Int) : Option (As [.str, .bool]) :=
  if lt t35 t34 = true then Option.bind (at? t33 t35) fun (y : List UInt8 × (Int × Int) × List UInt8 × Int) => need (small (2 + List.length y.1)) (Option.bind (q85_ (y.2.1, ())) fun (y_1 : List UInt8 × Unit) => if nes y.2.2.1 [] = true then need (small (Nat.succ (Nat.succ (Nat.succ 0)) + Nat.succ 0)) (j4 t21 t22 t23 t33 t34 t35 o [32 :: 32 :: y.1, [61], y_1.1, y.2.2.1]) else j4 t21 t22 t23 t33 t34 t35 o [32 :: 32 :: y.1, [61], y_1.1]) else j5 t21 t22 t23 o
def qao_ (o : List Int) : Option (As [.str, .bool]) :=
  need (eqi (Int.ofNat (List.length o)) (Int.ofNat (List.length o))) (need (small (List.length o)) (need (Ev.u8s o) (some (Sx.toS o, true, ()))))
def qad_ (self1 : List QAT0 -> Int -> Int -> List Int -> Option (As [.str, .bool])) (self2 : List QAT0 -> Int -> Int -> List QAT3 -> Int -> Int -> List Int -> Option (As [.str, .bool])) (t21 : List QAT0) (t22 t23 : Int) (t33 : List QAT3) (t34 t35 : Int) (o : List Int) (words : List (List UInt8)) : Option (As [.str, .bool]) :=
  Option.bind (strings_Join (words, [32], ())) fun (y : List UInt8 × Unit) => need (small (List.length o + List.length y.1)) (need (small (List.length (o ++ List.map (fun (b : UInt8) => Int.ofNat (UInt8.toNat b)) y.1) + 1)) (self2 t21 t22 t23 t33 t34 (add .i64 t35 1) (o ++ List.map (fun (b : UInt8) => Int.ofNat (UInt8.toNat b)) y.1 ++ [10])))
def qag_ (self1 : List QAT0 -> Int -> Int -> List Int -> Option (As [.str, .bool])) (t21 : List QAT0) (t22 t23 : Int) (o : List Int) : Option (As [.str, .bool]) :=
  Option.bind (strings_Join ([[101, 110, 100]], [32], ())) fun (y : List UInt8 × Unit) => need (small (List.length o + List.length y.1)) (need (small (List.length (o ++ List.map (fun (b : UInt8) => Int.ofNat (UInt8.toNat b)) y.1) + 1)) (self1 t21 t22 (add .i64 t23 1) (o ++ List.map (fun (b : UInt8) => Int.ofNat (UInt8.toNat b)) y.1 ++ [10])))
def q58_ (j1 : List QAT0 -> Int -> Int -> List Int -> Option (As [.str, .bool])) (r : List UInt8 × List QAT0) : Option (As [.str, .bool]) :=
  Option.bind (q3f_ (r, ())) fun (y : Bool × Unit) => if (!y.1) = true then some ([], false, ()) else Option.bind (strings_Join ([[114, 101, 99, 105, 112, 101], r.1], [32], ())) fun (y : List UInt8 × Unit) => need (small (0 + List.length y.1)) (need (small (List.length (List.map (fun (b : UInt8) => Int.ofNat (UInt8.toNat b)) y.1) + 1)) (j1 r.2 (Int.ofNat (List.length r.2)) 0 (List.map (fun (b : UInt8) => Int.ofNat (UInt8.toNat b)) y.1 ++ [10])))
def q57_ (u1 : List QAT0 -> Int -> Int -> List Int -> Option (As [.str, .bool])) (u2 : List QAT0 -> Int -> Int -> List QAT3 -> Int -> Int -> List Int -> Option (As [.str, .bool])) (t21 : List QAT0) (t22 t23 : Int) (t33 : List QAT3) (t34 t35 : Int) (o : List Int) (words : List (List UInt8)) : Option (As [.str, .bool]) := qad_ u1 u2 t21 t22 t23 t33 t34 t35 o words
def q6l_ (u1 : List QAT0 -> Int -> Int -> List Int -> Option (As [.str, .bool])) (t21 : List QAT0) (t22 t23 : Int) (o : List Int) : Option (As [.str, .bool]) := qag_ u1 t21 t22 t23 o
def q4b_ (u1 : List QAT0 -> Int -> Int -> List Int -> Option (As [.str, .bool])) (t21 : List QAT0) (t22 t23 : Int) (t33 : List QAT3) (t34 t35 : Int) (o : List Int) : Option (As [.str, .bool]) :=
  loopF (fun (self : (List QAT0) × (Int) × (Int) × (List QAT3) × (Int) × (Int) × (List Int) -> Option (As [.str, .bool])) (s : (List QAT0) × (Int) × (Int) × (List QAT3) × (Int) × (Int) × (List Int)) => q54_ (q57_ u1 (fun t21 t22 t23 t33 t34 t35 o => self (t21, t22, t23, t33, t34, t35, o))) (q6l_ u1) u1 (fun t21 t22 t23 t33 t34 t35 o => self (t21, t22, t23, t33, t34, t35, o)) s.1 s.2.1 s.2.2.1 s.2.2.2.1 s.2.2.2.2.1 s.2.2.2.2.2.1 s.2.2.2.2.2.2) 18446744073709551616 (t21, t22, t23, t33, t34, t35, o)
def q6q_ (o : List Int) : Option (As [.str, .bool]) := qao_ o
def q4c_ (t21 : List QAT0) (t22 t23 : Int) (o : List Int) : Option (As [.str, .bool]) :=
  loopF (fun (self : (List QAT0) × (Int) × (Int) × (List Int) -> Option (As [.str, .bool])) (s : (List QAT0) × (Int) × (Int) × (List Int)) => q59_ (q4b_ (fun t21 t22 t23 o => self (t21, t22, t23, o))) (q6q_) (fun t21 t22 t23 o => self (t21, t22, t23, o)) s.1 s.2.1 s.2.2.1 s.2.2.2) 18446744073709551616 (t21, t22, t23, o)
def q2i_ (x : As [.pr .str (.sl QAT2)]) : Option (As [.str, .bool]) := q58_ q4c_ x.1
theorem qgx_  (J w1 w2 t21 t22 t23 t33 t34 t35 o words) : pfn Tryz.prog q13_ 6 18446744073709551616 (Ev.get q12_) 12 qr_ J 66374963 [w1, w2] (q8m_ t21 t22 t23 t33 t34 t35 o words) = qad_ (fun t21 t22 t23 o => w1 (q18_ t21 t22 t23 o)) (fun t21 t22 t23 t33 t34 t35 o => w2 (q34_ t21 t22 t23 t33 t34 t35 o)) t21 t22 t23 t33 t34 t35 o words := by kernel_rfl
theorem qgq_  (J w1 t21 t22 t23 o) : pfn Tryz.prog q13_ 6 18446744073709551616 (Ev.get q12_) 12 qr_ J 64819 [w1] (q8k_ t21 t22 t23 o) = qag_ (fun t21 t22 t23 o => w1 (q18_ t21 t22 t23 o)) t21 t22 t23 o := by kernel_rfl
theorem qgs_  (J w1 w2 t21 t22 t23 t33 t34 t35 o) : pfn Tryz.prog q13_ 6 18446744073709551616 (Ev.get q12_) 12 qr_ J 518554 [w1, w2] (q34_ t21 t22 t23 t33 t34 t35 o) = q54_ (fun t21 t22 t23 t33 t34 t35 o words => J 66374963 [w1, w2] (q8m_ t21 t22 t23 t33 t34 t35 o words)) (fun t21 t22 t23 o => J 64819 [w1] (q8k_ t21 t22 t23 o)) (fun t21 t22 t23 o => w1 (q18_ t21 t22 t23 o)) (fun t21 t22 t23 t33 t34 t35 o => w2 (q34_ t21 t22 t23 t33 t34 t35 o)) t21 t22 t23 t33 t34 t35 o := by kernel_rfl
theorem qgg_  (J o) : pfn Tryz.prog q13_ 6 18446744073709551616 (Ev.get q12_) 12 qr_ J 63 [] (q8o_ o) = qao_ o := by kernel_rfl
theorem qh5_  (J w1 t21 t22 t23 o) : pfn Tryz.prog q13_ 6 18446744073709551616 (Ev.get q12_) 12 qr_ J 506 [w1] (q18_ t21 t22 t23 o) = q59_ (fun t21 t22 t23 t33 t34 t35 o => J 518554 [w1] (q34_ t21 t22 t23 t33 t34 t35 o)) (fun o => J 63 [] (q8o_ o)) (fun t21 t22 t23 o => w1 (q18_ t21 t22 t23 o)) t21 t22 t23 o := by kernel_rfl
theorem qgl_ (J : Orc (As [.str, .bool])) (x : As [.pr .str (.sl QAT2)]) : rfn Tryz.prog q13_ 6 18446744073709551616 (Ev.get q12_) 12 qr_ J x = q58_ (fun t21 t22 t23 o => J 506 [] (q18_ t21 t22 t23 o)) x.1 := by kernel_rfl
theorem qgt_  (w1 w2 t21 t22 t23 t33 t34 t35 o words) : jfn Tryz.prog q13_ 6 18446744073709551616 (Ev.get q12_) 12 qr_ 66374963 [w1, w2] (q8m_ t21 t22 t23 t33 t34 t35 o words) = q57_ (fun t21 t22 t23 o => w1 (q18_ t21 t22 t23 o)) (fun t21 t22 t23 t33 t34 t35 o => w2 (q34_ t21 t22 t23 t33 t34 t35 o)) t21 t22 t23 t33 t34 t35 o words := by
  rw [q4_ (by decide)]
  rw [qgx_]
  rfl
theorem qgp_  (w1 t21 t22 t23 o) : jfn Tryz.prog q13_ 6 18446744073709551616 (Ev.get q12_) 12 qr_ 64819 [w1] (q8k_ t21 t22 t23 o) = q6l_ (fun t21 t22 t23 o => w1 (q18_ t21 t22 t23 o)) t21 t22 t23 o := by
  rw [q4_ (by decide)]
  rw [qgq_]
  rfl
theorem qg6_  (w1 t21 t22 t23 t33 t34 t35 o) : jfn Tryz.prog q13_ 6 18446744073709551616 (Ev.get q12_) 12 qr_ 518554 [w1] (q34_ t21 t22 t23 t33 t34 t35 o) = q4b_ (fun t21 t22 t23 o => w1 (q18_ t21 t22 t23 o)) t21 t22 t23 t33 t34 t35 o := by
  rw [q4_ (by decide)]
  rw [q16_ (by kernel_rfl)]
  refine qk_ (σ := (List QAT0) × (Int) × (Int) × (List QAT3) × (Int) × (Int) × (List Int)) (mk := fun s => q34_ s.1 s.2.1 s.2.2.1 s.2.2.2.1 s.2.2.2.2.1 s.2.2.2.2.2.1 s.2.2.2.2.2.2) (fun w2 s => ?_) 18446744073709551616 (t21, t22, t23, t33, t34, t35, o)
  have e4 : (fun t21 t22 t23 t33 t34 t35 o words => (jfn Tryz.prog q13_ 6 18446744073709551616 (Ev.get q12_) 12 qr_) 66374963 [w1, w2] (q8m_ t21 t22 t23 t33 t34 t35 o words)) = q57_ (fun t21 t22 t23 o => w1 (q18_ t21 t22 t23 o)) (fun t21 t22 t23 t33 t34 t35 o => w2 (q34_ t21 t22 t23 t33 t34 t35 o)) := by funext t21 t22 t23 t33 t34 t35 o words; exact qgt_ w1 w2 t21 t22 t23 t33 t34 t35 o words
  have e5 : (fun t21 t22 t23 o => (jfn Tryz.prog q13_ 6 18446744073709551616 (Ev.get q12_) 12 qr_) 64819 [w1] (q8k_ t21 t22 t23 o)) = q6l_ (fun t21 t22 t23 o => w1 (q18_ t21 t22 t23 o)) := by funext t21 t22 t23 o; exact qgp_ w1 t21 t22 t23 o
  refine (qgs_ _ w1 w2 s.1 s.2.1 s.2.2.1 s.2.2.2.1 s.2.2.2.2.1 s.2.2.2.2.2.1 s.2.2.2.2.2.2).trans ?_
  rw [e4, e5]
theorem qh1_  (o) : jfn Tryz.prog q13_ 6 18446744073709551616 (Ev.get q12_) 12 qr_ 63 [] (q8o_ o) = q6q_ o := by
  rw [q4_ (by decide)]
  rw [qgg_]
  rfl
theorem qgj_  (t21 t22 t23 o) : jfn Tryz.prog q13_ 6 18446744073709551616 (Ev.get q12_) 12 qr_ 506 [] (q18_ t21 t22 t23 o) = q4c_ t21 t22 t23 o := by
  rw [q4_ (by decide)]
  rw [q16_ (by kernel_rfl)]
  refine qk_ (σ := (List QAT0) × (Int) × (Int) × (List Int)) (mk := fun s => q18_ s.1 s.2.1 s.2.2.1 s.2.2.2) (fun w1 s => ?_) 18446744073709551616 (t21, t22, t23, o)
  have e2 : (fun t21 t22 t23 t33 t34 t35 o => (jfn Tryz.prog q13_ 6 18446744073709551616 (Ev.get q12_) 12 qr_) 518554 [w1] (q34_ t21 t22 t23 t33 t34 t35 o)) = q4b_ (fun t21 t22 t23 o => w1 (q18_ t21 t22 t23 o)) := by funext t21 t22 t23 t33 t34 t35 o; exact qg6_ w1 t21 t22 t23 t33 t34 t35 o
  have e3 : (fun o => (jfn Tryz.prog q13_ 6 18446744073709551616 (Ev.get q12_) 12 qr_) 63 [] (q8o_ o)) = q6q_ := funext fun o => qh1_ o
  refine (qh5_ _ w1 s.1 s.2.1 s.2.2.1 s.2.2.2).trans ?_
  rw [e2, e3]
theorem qib_ (x : As [.pr .str (.sl QAT2)]) : evT Tryz.prog q13_ 6 18446744073709551616 (Ev.get q12_) 12 qr_ x = q2i_ x := by
  have e1 : (fun t21 t22 t23 o => (jfn Tryz.prog q13_ 6 18446744073709551616 (Ev.get q12_) 12 qr_) 506 [] (q18_ t21 t22 t23 o)) = q4c_ := by funext t21 t22 t23 o; exact qgj_ t21 t22 t23 o
  rw [q27_, qgl_, e1]
  rfl
theorem qcf_ : CtOk Tryz.prog I0 12 ⟨qr_, q2i_⟩ := qx_ (q0_ qck_ (q0_ strings_Join_ok (q0_ ql2_ q7_))) qib_
def qeg_ (j2 : List UInt8 -> List UInt8 -> Int × Int -> Option (As [.str])) (n : Int) (sign : List UInt8) (d : Int × Int) : Option (As [.str]) :=
  Option.bind (qf0_ (n, ())) fun (y : List UInt8 × Unit) => if eqi d.2 0 = true then need (small (List.length sign + List.length y.1)) (some (sign ++ y.1, ())) else j2 sign y.1 d
def q8d_ (j3 self2 : List UInt8 -> List UInt8 -> Int × Int -> Option (As [.str])) (sign s : List UInt8) (d : Int × Int) : Option (As [.str]) :=
  if le (Int.ofNat (List.length s)) (cvt .i64 d.2) = true then need (small (1 + List.length s)) (self2 sign (48 :: s) d) else j3 sign s d
def qeh_ (sign s : List UInt8) (d : Int × Int) : Option (As [.str]) :=
  Option.bind (cut s 0 (Sx.sub .i64 (Int.ofNat (List.length s)) (cvt .i64 d.2))) fun (y : List UInt8) => need (small (List.length sign + List.length y)) (need (small (List.length (sign ++ y) + 1)) (Option.bind (cut s (Sx.sub .i64 (Int.ofNat (List.length s)) (cvt .i64 d.2)) (Int.ofNat (List.length s))) fun (y_1 : List UInt8) => need (small (List.length (sign ++ y ++ [46]) + List.length y_1)) (some (sign ++ y ++ [46] ++ y_1, ()))))
def q9s_ (j1 : Int -> List UInt8 -> Int × Int -> Option (As [.str])) (d : Int × Int) : Option (As [.str]) :=
  if lt d.1 0 = true then j1 (Sx.neg .i64 d.1) [45] d else j1 d.1 [] d
def q6h_ (sign s : List UInt8) (d : Int × Int) : Option (As [.str]) := qeh_ sign s d
def qed_ (sign s : List UInt8) (d : Int × Int) : Option (As [.str]) :=
  loopF (fun (self : (List UInt8) × (List UInt8) × (Int × Int) -> Option (As [.str])) (s : (List UInt8) × (List UInt8) × (Int × Int)) => q8d_ (q6h_) (fun sign s d => self (sign, s, d)) s.1 s.2.1 s.2.2) 18446744073709551616 (sign, s, d)
def q8e_ (n : Int) (sign : List UInt8) (d : Int × Int) : Option (As [.str]) := qeg_ (qed_) n sign d
def qde_ (x : As [.pr (.int .i64) (.int .u8)]) : Option (As [.str]) := q9s_ q8e_ x.1
def qj3_ (j2 : List UInt8 -> Int -> Int -> List UInt8 × List QAT0 -> List UInt8 × Int × List QAT3 -> Option (As [.str])) (self1 : List UInt8 -> Int -> List UInt8 × List QAT0 -> Option (As [.str])) (s : List UInt8) (i : Int) (r : List UInt8 × List QAT0) : Option (As [.str]) :=
  if lt i (Int.ofNat (List.length r.2)) = true then Option.bind (at? r.2 i) fun (y : List UInt8 × Int × List QAT3) => need (small (List.length s + 6)) (need (small (List.length (s ++ [115, 108, 97, 118, 101, 32]) + List.length y.1)) (need (small (List.length (s ++ [115, 108, 97, 118, 101, 32] ++ y.1) + 1)) (j2 (s ++ [115, 108, 97, 118, 101, 32] ++ y.1 ++ [10]) i 0 r y))) else some (s, ())
def qjz_ (j3 : List UInt8 -> Int -> Int -> List UInt8 × List QAT0 -> List UInt8 × Int × List QAT3 -> Option (As [.str])) (j4 self1 : List UInt8 -> Int -> List UInt8 × List QAT0 -> Option (As [.str])) (self2 : List UInt8 -> Int -> Int -> List UInt8 × List QAT0 -> List UInt8 × Int × List QAT3 -> Option (As [.str])) (s : List UInt8) (i k : Int) (r : List UInt8 × List QAT0) (p : List UInt8 × Int × List QAT3) : Option (As [.str]) :=
  if lt k (Int.ofNat (List.length p.2.2)) = true then Option.bind (at? p.2.2 k) fun (y : List UInt8 × (Int × Int) × List UInt8 × Int) => need (small (List.length s + 2)) (need (small (List.length (s ++ [32, 32]) + List.length y.1)) (need (small (List.length (s ++ [32, 32] ++ y.1) + 3)) (Option.bind (qde_ (y.2.1, ())) fun (y_1 : List UInt8 × Unit) => need (small (List.length (s ++ [32, 32] ++ y.1 ++ [32, 61, 32]) + List.length y_1.1)) (if nes y.2.2.1 [] = true then need (small (List.length (s ++ [32, 32] ++ y.1 ++ [32, 61, 32] ++ y_1.1) + 1)) (need (small (List.length (s ++ [32, 32] ++ y.1 ++ [32, 61, 32] ++ y_1.1 ++ [32]) + List.length y.2.2.1)) (j3 (s ++ [32, 32] ++ y.1 ++ [32, 61, 32] ++ y_1.1 ++ [32] ++ y.2.2.1) i k r p)) else j3 (s ++ [32, 32] ++ y.1 ++ [32, 61, 32] ++ y_1.1) i k r p)))) else j4 s i r
def qih_ (self1 : List UInt8 -> Int -> List UInt8 × List QAT0 -> Option (As [.str])) (self2 : List UInt8 -> Int -> Int -> List UInt8 × List QAT0 -> List UInt8 × Int × List QAT3 -> Option (As [.str])) (s : List UInt8) (i k : Int) (r : List UInt8 × List QAT0) (p : List UInt8 × Int × List QAT3) : Option (As [.str]) :=
  need (small (List.length s + 1)) (self2 (s ++ [10]) i (add .i64 k 1) r p)
def qjd_ (j5 self1 : List UInt8 -> Int -> List UInt8 × List QAT0 -> Option (As [.str])) (s : List UInt8) (i : Int) (r : List UInt8 × List QAT0) : Option (As [.str]) :=
  need (small (List.length s + 4)) (j5 (s ++ [101, 110, 100, 10]) i r)
def qil_ (self1 : List UInt8 -> Int -> List UInt8 × List QAT0 -> Option (As [.str])) (s : List UInt8) (i : Int) (r : List UInt8 × List QAT0) : Option (As [.str]) :=
  self1 s (add .i64 i 1) r
def qi1_ (j1 : List UInt8 -> Int -> List UInt8 × List QAT0 -> Option (As [.str])) (r : List UInt8 × List QAT0) : Option (As [.str]) :=
  need (small (7 + List.length r.1)) (need (small (Nat.succ (Nat.succ (Nat.succ (Nat.succ (Nat.succ (Nat.succ (Nat.succ (List.length r.1))))))) + 1)) (j1 (114 :: 101 :: 99 :: 105 :: 112 :: 101 :: 32 :: (r.1 ++ [10])) 0 r))
def qhk_ (u1 : List UInt8 -> Int -> List UInt8 × List QAT0 -> Option (As [.str])) (u2 : List UInt8 -> Int -> Int -> List UInt8 × List QAT0 -> List UInt8 × Int × List QAT3 -> Option (As [.str])) (s : List UInt8) (i k : Int) (r : List UInt8 × List QAT0) (p : List UInt8 × Int × List QAT3) : Option (As [.str]) := qih_ u1 u2 s i k r p
def qh8_ (u1 : List UInt8 -> Int -> List UInt8 × List QAT0 -> Option (As [.str])) (s : List UInt8) (i : Int) (r : List UInt8 × List QAT0) : Option (As [.str]) := qil_ u1 s i r
def qhx_ (u1 : List UInt8 -> Int -> List UInt8 × List QAT0 -> Option (As [.str])) (s : List UInt8) (i : Int) (r : List UInt8 × List QAT0) : Option (As [.str]) := qjd_ (qh8_ u1) u1 s i r
def qiy_ (u1 : List UInt8 -> Int -> List UInt8 × List QAT0 -> Option (As [.str])) (s : List UInt8) (i k : Int) (r : List UInt8 × List QAT0) (p : List UInt8 × Int × List QAT3) : Option (As [.str]) :=
  loopF (fun (self : (List UInt8) × (Int) × (Int) × (List UInt8 × List QAT0) × QAT0 -> Option (As [.str])) (s : (List UInt8) × (Int) × (Int) × (List UInt8 × List QAT0) × QAT0) => qjz_ (qhk_ u1 (fun s i k r p => self (s, i, k, r, p))) (qhx_ u1) u1 (fun s i k r p => self (s, i, k, r, p)) s.1 s.2.1 s.2.2.1 s.2.2.2.1 s.2.2.2.2) 18446744073709551616 (s, i, k, r, p)
def qhp_ (s : List UInt8) (i : Int) (r : List UInt8 × List QAT0) : Option (As [.str]) :=
  loopF (fun (self : (List UInt8) × (Int) × (List UInt8 × List QAT0) -> Option (As [.str])) (s : (List UInt8) × (Int) × (List UInt8 × List QAT0)) => qj3_ (qiy_ (fun s i r => self (s, i, r))) (fun s i r => self (s, i, r)) s.1 s.2.1 s.2.2) 18446744073709551616 (s, i, r)
def qn0_ (x : As [.pr .str (.sl QAT2)]) : Option (As [.str]) := qi1_ qhp_ x.1
@[reducible] def q9_ : Sh := ⟨[.d (.pr .str (.sl QAT2)), .d (.pr .str (.sl QAT2))], [], [.pr .str (.sl QAT2), .pr .str (.sl QAT2)], [.d (.bool)], [], 0, [.bool]⟩
def qf_ : Env := (cts [])
def qe_ : List (Nat × Hint) := [(58, ⟨[], [2, 3, 5, 48, 49, 50, 51, 52, 53, 54, 79, 80, 81, 82, 83, 86, 87, 88, 89, 90]⟩), (233, ⟨[], [2, 3, 5, 48, 49, 50, 51, 52, 53, 54, 79, 80, 81, 82, 83, 86, 87, 88, 89, 90]⟩), (932, ⟨[], [2, 3, 5, 6, 7, 48, 49, 50, 51, 52, 53, 54, 79, 80, 81, 82, 83, 86, 87, 88, 89, 90]⟩), (14926, ⟨[], [2, 3, 5, 6, 7, 8, 48, 49, 50, 51, 52, 53, 54, 79, 80, 81, 82, 83, 86, 87, 88, 89, 90]⟩), (238820, ⟨[], [2, 3, 5, 6, 7, 8, 9, 10, 48, 49, 50, 51, 52, 53, 54, 79, 80, 81, 82, 83, 86, 87, 88, 89, 90]⟩), (477641, ⟨[.agd 80 (.pr (.int .i64) (.int .u8)), .agd 82 (.pr (.int .i64) (.int .u8)), .agd 83 .bool, .agd 87 .str, .agd 89 .str, .agd 90 .bool], [2, 3, 5, 6, 7, 8, 91]⟩), (3730, ⟨[.agd 49 (.sl QAT5), .agd 50 (.int .i64), .agd 52 (.sl QAT5), .agd 53 (.int .i64), .agd 54 .bool], [2, 3, 5, 6, 7, 55]⟩), (6, ⟨[], [2, 3, 24, 48, 49, 50, 51, 52, 53, 54, 79, 80, 81, 82, 83, 86, 87, 88, 89, 90]⟩)]
def q9y_ (t24 : Bool) (a b : List UInt8 × List QAT0) : St := { fr := [(2, .pb 0 0), (3, .pb 1 0), (24, .d .bool t24)], nt := 92, up := [], own := [(0, .box 26 [.d .str a.1, .d (.sl QAT2) a.2]), (1, .box 26 [.d .str b.1, .d (.sl QAT2) b.2])], nx := 2, log := [], ln := 0 }
def qd_ (i : Int) (a b : List UInt8 × List QAT0) : St := { fr := [(2, .pb 0 0), (3, .pb 1 0), (5, .d (.int .i64) i)], nt := 92, up := [], own := [(0, .box 26 [.d .str a.1, .d (.sl QAT2) a.2]), (1, .box 26 [.d .str b.1, .d (.sl QAT2) b.2])], nx := 2, log := [], ln := 0 }
def q9t_ (i : Int) (a b : List UInt8 × List QAT0) (p q : List UInt8 × Int × List QAT3) : St := { fr := [(2, .pb 0 0), (3, .pb 1 0), (5, .d (.int .i64) i), (6, .pb 2 0), (7, .pb 3 0)], nt := 92, up := [], own := [(0, .box 26 [.d .str a.1, .d (.sl QAT2) a.2]), (1, .box 26 [.d .str b.1, .d (.sl QAT2) b.2]), (2, .box 43 [.d .str p.1, .d (.int .i64) p.2.1, .d (.sl QAT5) p.2.2]), (3, .box 43 [.d .str q.1, .d (.int .i64) q.2.1, .d (.sl QAT5) q.2.2])], nx := 4, log := [], ln := 0 }
def q9u_ (i : Int) (t55 : Bool) (a b : List UInt8 × List QAT0) (p q : List UInt8 × Int × List QAT3) : St := { fr := [(2, .pb 0 0), (3, .pb 1 0), (5, .d (.int .i64) i), (6, .pb 2 0), (7, .pb 3 0), (55, .d .bool t55)], nt := 92, up := [], own := [(0, .box 26 [.d .str a.1, .d (.sl QAT2) a.2]), (1, .box 26 [.d .str b.1, .d (.sl QAT2) b.2]), (2, .box 43 [.d .str p.1, .d (.int .i64) p.2.1, .d (.sl QAT5) p.2.2]), (3, .box 43 [.d .str q.1, .d (.int .i64) q.2.1, .d (.sl QAT5) q.2.2])], nx := 4, log := [], ln := 0 }
def q2h_ (i k : Int) (a b : List UInt8 × List QAT0) (p q : List UInt8 × Int × List QAT3) : St := { fr := [(2, .pb 0 0), (3, .pb 1 0), (5, .d (.int .i64) i), (6, .pb 2 0), (7, .pb 3 0), (8, .d (.int .i64) k)], nt := 92, up := [], own := [(0, .box 26 [.d .str a.1, .d (.sl QAT2) a.2]), (1, .box 26 [.d .str b.1, .d (.sl QAT2) b.2]), (2, .box 43 [.d .str p.1, .d (.int .i64) p.2.1, .d (.sl QAT5) p.2.2]), (3, .box 43 [.d .str q.1, .d (.int .i64) q.2.1, .d (.sl QAT5) q.2.2])], nx := 4, log := [], ln := 0 }
def q9w_ (i k : Int) (a b : List UInt8 × List QAT0) (p q : List UInt8 × Int × List QAT3) (x y : List UInt8 × (Int × Int) × List UInt8 × Int) : St := { fr := [(2, .pb 0 0), (3, .pb 1 0), (5, .d (.int .i64) i), (6, .pb 2 0), (7, .pb 3 0), (8, .d (.int .i64) k), (9, .pb 4 0), (10, .pb 5 0)], nt := 92, up := [], own := [(0, .box 26 [.d .str a.1, .d (.sl QAT2) a.2]), (1, .box 26 [.d .str b.1, .d (.sl QAT2) b.2]), (2, .box 43 [.d .str p.1, .d (.int .i64) p.2.1, .d (.sl QAT5) p.2.2]), (3, .box 43 [.d .str q.1, .d (.int .i64) q.2.1, .d (.sl QAT5) q.2.2]), (4, .box 47 [.d .str x.1, .d (.int .i64) x.2.1.1, .d (.int .u8) x.2.1.2, .d .str x.2.2.1, .d (.int .i64) x.2.2.2]), (5, .box 47 [.d .str y.1, .d (.int .i64) y.2.1.1, .d (.int .u8) y.2.1.2, .d .str y.2.2.1, .d (.int .i64) y.2.2.2])], nx := 6, log := [], ln := 0 }
def q9z_ (i : Int) (a b : List UInt8 × List QAT0) : St := { fr := [(2, .pb 0 0), (3, .pb 1 0), (5, .d (.int .i64) i)], nt := 92, up := [], own := [(0, .box 26 [.d .str a.1, .d (.sl QAT2) a.2]), (1, .box 26 [.d .str b.1, .d (.sl QAT2) b.2])], nx := 2, log := [], ln := 0 }
def q9v_ (i k : Int) (t91 : Bool) (a b : List UInt8 × List QAT0) (p q : List UInt8 × Int × List QAT3) : St := { fr := [(2, .pb 0 0), (3, .pb 1 0), (5, .d (.int .i64) i), (6, .pb 2 0), (7, .pb 3 0), (8, .d (.int .i64) k), (91, .d .bool t91)], nt := 92, up := [], own := [(0, .box 26 [.d .str a.1, .d (.sl QAT2) a.2]), (1, .box 26 [.d .str b.1, .d (.sl QAT2) b.2]), (2, .box 43 [.d .str p.1, .d (.int .i64) p.2.1, .d (.sl QAT5) p.2.2]), (3, .box 43 [.d .str q.1, .d (.int .i64) q.2.1, .d (.sl QAT5) q.2.2])], nx := 4, log := [], ln := 0 }
def qe1_ (j2 : Int -> List UInt8 × List QAT0 -> List UInt8 × List QAT0 -> Option (As [.bool])) (t24 : Bool) (a b : List UInt8 × List QAT0) : Option (As [.bool]) :=
  if t24 = true then some (false, ()) else j2 0 a b
def qeb_ (j3 : Int -> List UInt8 × List QAT0 -> List UInt8 × List QAT0 -> List UInt8 × Int × List QAT3 -> List UInt8 × Int × List QAT3 -> Option (As [.bool])) (self2 : Int -> List UInt8 × List QAT0 -> List UInt8 × List QAT0 -> Option (As [.bool])) (i : Int) (a b : List UInt8 × List QAT0) : Option (As [.bool]) :=
  if lt i (Int.ofNat (List.length a.2)) = true then Option.bind (at? a.2 i) fun (y : List UInt8 × Int × List QAT3) => Option.bind (at? b.2 i) fun (y_1 : List UInt8 × Int × List QAT3) => amb (eqAs q9_.rs) [j3 i a b y y_1, j3 i a b y y_1] else some (true, ())
def qe0_ (j4 : Int -> Bool -> List UInt8 × List QAT0 -> List UInt8 × List QAT0 -> List UInt8 × Int × List QAT3 -> List UInt8 × Int × List QAT3 -> Option (As [.bool])) (self2 : Int -> List UInt8 × List QAT0 -> List UInt8 × List QAT0 -> Option (As [.bool])) (i : Int) (a b : List UInt8 × List QAT0) (p q : List UInt8 × Int × List QAT3) : Option (As [.bool]) :=
  if nes p.1 q.1 = true then j4 i true a b p q else j4 i (nei (Int.ofNat (List.length p.2.2)) (Int.ofNat (List.length q.2.2))) a b p q
def qec_ (j5 : Int -> Int -> List UInt8 × List QAT0 -> List UInt8 × List QAT0 -> List UInt8 × Int × List QAT3 -> List UInt8 × Int × List QAT3 -> Option (As [.bool])) (self2 : Int -> List UInt8 × List QAT0 -> List UInt8 × List QAT0 -> Option (As [.bool])) (i : Int) (t55 : Bool) (a b : List UInt8 × List QAT0) (p q : List UInt8 × Int × List QAT3) : Option (As [.bool]) :=
  if t55 = true then some (false, ()) else j5 i 0 a b p q
def qe5_ (j6 : Int -> Int -> List UInt8 × List QAT0 -> List UInt8 × List QAT0 -> List UInt8 × Int × List QAT3 -> List UInt8 × Int × List QAT3 -> List UInt8 × (Int × Int) × List UInt8 × Int -> List UInt8 × (Int × Int) × List UInt8 × Int -> Option (As [.bool])) (j7 self2 : Int -> List UInt8 × List QAT0 -> List UInt8 × List QAT0 -> Option (As [.bool])) (self5 : Int -> Int -> List UInt8 × List QAT0 -> List UInt8 × List QAT0 -> List UInt8 × Int × List QAT3 -> List UInt8 × Int × List QAT3 -> Option (As [.bool])) (i k : Int) (a b : List UInt8 × List QAT0) (p q : List UInt8 × Int × List QAT3) : Option (As [.bool]) :=
  if lt k (Int.ofNat (List.length p.2.2)) = true then Option.bind (at? p.2.2 k) fun (y : List UInt8 × (Int × Int) × List UInt8 × Int) => Option.bind (at? q.2.2 k) fun (y_1 : List UInt8 × (Int × Int) × List UInt8 × Int) => amb (eqAs q9_.rs) [j6 i k a b p q y y_1, j6 i k a b p q y y_1] else j7 i a b
def qe2_ (j8 : Int -> Int -> Bool -> List UInt8 × List QAT0 -> List UInt8 × List QAT0 -> List UInt8 × Int × List QAT3 -> List UInt8 × Int × List QAT3 -> Option (As [.bool])) (self2 : Int -> List UInt8 × List QAT0 -> List UInt8 × List QAT0 -> Option (As [.bool])) (self5 : Int -> Int -> List UInt8 × List QAT0 -> List UInt8 × List QAT0 -> List UInt8 × Int × List QAT3 -> List UInt8 × Int × List QAT3 -> Option (As [.bool])) (i k : Int) (a b : List UInt8 × List QAT0) (p q : List UInt8 × Int × List QAT3) (x y : List UInt8 × (Int × Int) × List UInt8 × Int) : Option (As [.bool]) :=
  if nes x.1 y.1 = true then j8 i k true a b p q else if (!(eqi x.2.1.1 y.2.1.1 && (eqi x.2.1.2 y.2.1.2 && true))) = true then j8 i k true a b p q else j8 i k (nes x.2.2.1 y.2.2.1) a b p q
def qef_ (self2 : Int -> List UInt8 × List QAT0 -> List UInt8 × List QAT0 -> Option (As [.bool])) (i : Int) (a b : List UInt8 × List QAT0) : Option (As [.bool]) :=
  self2 (add .i64 i 1) a b
def qe3_ (self2 : Int -> List UInt8 × List QAT0 -> List UInt8 × List QAT0 -> Option (As [.bool])) (self5 : Int -> Int -> List UInt8 × List QAT0 -> List UInt8 × List QAT0 -> List UInt8 × Int × List QAT3 -> List UInt8 × Int × List QAT3 -> Option (As [.bool])) (i k : Int) (t91 : Bool) (a b : List UInt8 × List QAT0) (p q : List UInt8 × Int × List QAT3) : Option (As [.bool]) :=
  if t91 = true then some (false, ()) else self5 i (add .i64 k 1) a b p q
def qe6_ (j1 : Bool -> List UInt8 × List QAT0 -> List UInt8 × List QAT0 -> Option (As [.bool])) (a b : List UInt8 × List QAT0) : Option (As [.bool]) :=
  if nes a.1 b.1 = true then j1 true a b else j1 (nei (Int.ofNat (List.length a.2)) (Int.ofNat (List.length b.2))) a b
def qbq_ (u2 : Int -> List UInt8 × List QAT0 -> List UInt8 × List QAT0 -> Option (As [.bool])) (u5 : Int -> Int -> List UInt8 × List QAT0 -> List UInt8 × List QAT0 -> List UInt8 × Int × List QAT3 -> List UInt8 × Int × List QAT3 -> Option (As [.bool])) (i k : Int) (t91 : Bool) (a b : List UInt8 × List QAT0) (p q : List UInt8 × Int × List QAT3) : Option (As [.bool]) := qe3_ u2 u5 i k t91 a b p q
def qbo_ (u2 : Int -> List UInt8 × List QAT0 -> List UInt8 × List QAT0 -> Option (As [.bool])) (u5 : Int -> Int -> List UInt8 × List QAT0 -> List UInt8 × List QAT0 -> List UInt8 × Int × List QAT3 -> List UInt8 × Int × List QAT3 -> Option (As [.bool])) (i k : Int) (a b : List UInt8 × List QAT0) (p q : List UInt8 × Int × List QAT3) (x y : List UInt8 × (Int × Int) × List UInt8 × Int) : Option (As [.bool]) := qe2_ (qbq_ u2 u5) u2 u5 i k a b p q x y
def qbl_ (u2 : Int -> List UInt8 × List QAT0 -> List UInt8 × List QAT0 -> Option (As [.bool])) (i : Int) (a b : List UInt8 × List QAT0) : Option (As [.bool]) := qef_ u2 i a b
def qbr_ (u2 : Int -> List UInt8 × List QAT0 -> List UInt8 × List QAT0 -> Option (As [.bool])) (i k : Int) (a b : List UInt8 × List QAT0) (p q : List UInt8 × Int × List QAT3) : Option (As [.bool]) :=
  loopF (fun (self : (Int) × (Int) × (List UInt8 × List QAT0) × (List UInt8 × List QAT0) × QAT0 × QAT0 -> Option (As [.bool])) (s : (Int) × (Int) × (List UInt8 × List QAT0) × (List UInt8 × List QAT0) × QAT0 × QAT0) => qe5_ (qbo_ u2 (fun i k a b p q => self (i, k, a, b, p, q))) (qbl_ u2) u2 (fun i k a b p q => self (i, k, a, b, p, q)) s.1 s.2.1 s.2.2.1 s.2.2.2.1 s.2.2.2.2.1 s.2.2.2.2.2) 18446744073709551616 (i, k, a, b, p, q)
def qbn_ (u2 : Int -> List UInt8 × List QAT0 -> List UInt8 × List QAT0 -> Option (As [.bool])) (i : Int) (t55 : Bool) (a b : List UInt8 × List QAT0) (p q : List UInt8 × Int × List QAT3) : Option (As [.bool]) := qec_ (qbr_ u2) u2 i t55 a b p q
def qbs_ (u2 : Int -> List UInt8 × List QAT0 -> List UInt8 × List QAT0 -> Option (As [.bool])) (i : Int) (a b : List UInt8 × List QAT0) (p q : List UInt8 × Int × List QAT3) : Option (As [.bool]) := qe0_ (qbn_ u2) u2 i a b p q
def qbi_ (i : Int) (a b : List UInt8 × List QAT0) : Option (As [.bool]) :=
  loopF (fun (self : (Int) × (List UInt8 × List QAT0) × (List UInt8 × List QAT0) -> Option (As [.bool])) (s : (Int) × (List UInt8 × List QAT0) × (List UInt8 × List QAT0)) => qeb_ (qbs_ (fun i a b => self (i, a, b))) (fun i a b => self (i, a, b)) s.1 s.2.1 s.2.2) 18446744073709551616 (i, a, b)
def qbj_ (t24 : Bool) (a b : List UInt8 × List QAT0) : Option (As [.bool]) := qe1_ (qbi_) t24 a b
def qae_ (x : As [.pr .str (.sl QAT2), .pr .str (.sl QAT2)]) : Option (As [.bool]) := qe6_ qbj_ x.1 x.2.1
theorem qk7_  (J w2 w5 i k t91 a b p q) : pfn Tryz.prog qf_ 6 18446744073709551616 (Ev.get qe_) 20 q9_ J 477641 [w2, w5] (q9v_ i k t91 a b p q) = qe3_ (fun i a b => w2 (qd_ i a b)) (fun i k a b p q => w5 (q2h_ i k a b p q)) i k t91 a b p q := by kernel_rfl
theorem qkw_  (J w2 w5 i k a b p q x y) : pfn Tryz.prog qf_ 6 18446744073709551616 (Ev.get qe_) 20 q9_ J 238820 [w2, w5] (q9w_ i k a b p q x y) = qe2_ (fun i k t91 a b p q => J 477641 [w2, w5] (q9v_ i k t91 a b p q)) (fun i a b => w2 (qd_ i a b)) (fun i k a b p q => w5 (q2h_ i k a b p q)) i k a b p q x y := by kernel_rfl
theorem ql3_  (J w2 i a b) : pfn Tryz.prog qf_ 6 18446744073709551616 (Ev.get qe_) 20 q9_ J 233 [w2] (q9z_ i a b) = qef_ (fun i a b => w2 (qd_ i a b)) i a b := by kernel_rfl
theorem qlj_  (J w2 w5 i k a b p q) : pfn Tryz.prog qf_ 6 18446744073709551616 (Ev.get qe_) 20 q9_ J 14926 [w2, w5] (q2h_ i k a b p q) = qe5_ (fun i k a b p q x y => J 238820 [w2, w5] (q9w_ i k a b p q x y)) (fun i a b => J 233 [w2] (q9z_ i a b)) (fun i a b => w2 (qd_ i a b)) (fun i k a b p q => w5 (q2h_ i k a b p q)) i k a b p q := by kernel_rfl
theorem qku_  (J w2 i t55 a b p q) : pfn Tryz.prog qf_ 6 18446744073709551616 (Ev.get qe_) 20 q9_ J 3730 [w2] (q9u_ i t55 a b p q) = qec_ (fun i k a b p q => J 14926 [w2] (q2h_ i k a b p q)) (fun i a b => w2 (qd_ i a b)) i t55 a b p q := by kernel_rfl
theorem qlb_  (J w2 i a b p q) : pfn Tryz.prog qf_ 6 18446744073709551616 (Ev.get qe_) 20 q9_ J 932 [w2] (q9t_ i a b p q) = qe0_ (fun i t55 a b p q => J 3730 [w2] (q9u_ i t55 a b p q)) (fun i a b => w2 (qd_ i a b)) i a b p q := by kernel_rfl
theorem qlg_  (J w2 i a b) : pfn Tryz.prog qf_ 6 18446744073709551616 (Ev.get qe_) 20 q9_ J 58 [w2] (qd_ i a b) = qeb_ (fun i a b p q => J 932 [w2] (q9t_ i a b p q)) (fun i a b => w2 (qd_ i a b)) i a b := by kernel_rfl
theorem qkm_  (J t24 a b) : pfn Tryz.prog qf_ 6 18446744073709551616 (Ev.get qe_) 20 q9_ J 6 [] (q9y_ t24 a b) = qe1_ (fun i a b => J 58 [] (qd_ i a b)) t24 a b := by kernel_rfl
theorem qkr_ (J : Orc (As [.bool])) (x : As [.pr .str (.sl QAT2), .pr .str (.sl QAT2)]) : rfn Tryz.prog qf_ 6 18446744073709551616 (Ev.get qe_) 20 q9_ J x = qe6_ (fun t24 a b => J 6 [] (q9y_ t24 a b)) x.1 x.2.1 := by kernel_rfl
theorem qk8_  (w2 w5 i k t91 a b p q) : jfn Tryz.prog qf_ 6 18446744073709551616 (Ev.get qe_) 20 q9_ 477641 [w2, w5] (q9v_ i k t91 a b p q) = qbq_ (fun i a b => w2 (qd_ i a b)) (fun i k a b p q => w5 (q2h_ i k a b p q)) i k t91 a b p q := by
  rw [q4_ (by decide)]
  rw [qk7_]
  rfl
theorem qkj_  (w2 w5 i k a b p q x y) : jfn Tryz.prog qf_ 6 18446744073709551616 (Ev.get qe_) 20 q9_ 238820 [w2, w5] (q9w_ i k a b p q x y) = qbo_ (fun i a b => w2 (qd_ i a b)) (fun i k a b p q => w5 (q2h_ i k a b p q)) i k a b p q x y := by
  rw [q4_ (by decide)]
  have e8 : (fun i k t91 a b p q => (jfn Tryz.prog qf_ 6 18446744073709551616 (Ev.get qe_) 20 q9_) 477641 [w2, w5] (q9v_ i k t91 a b p q)) = qbq_ (fun i a b => w2 (qd_ i a b)) (fun i k a b p q => w5 (q2h_ i k a b p q)) := by funext i k t91 a b p q; exact qk8_ w2 w5 i k t91 a b p q
  rw [qkw_, e8]
  rfl
theorem qkc_  (w2 i a b) : jfn Tryz.prog qf_ 6 18446744073709551616 (Ev.get qe_) 20 q9_ 233 [w2] (q9z_ i a b) = qbl_ (fun i a b => w2 (qd_ i a b)) i a b := by
  rw [q4_ (by decide)]
  rw [ql3_]
  rfl
theorem qle_  (w2 i k a b p q) : jfn Tryz.prog qf_ 6 18446744073709551616 (Ev.get qe_) 20 q9_ 14926 [w2] (q2h_ i k a b p q) = qbr_ (fun i a b => w2 (qd_ i a b)) i k a b p q := by
  rw [q4_ (by decide)]
  rw [q16_ (by kernel_rfl)]
  refine qk_ (σ := (Int) × (Int) × (List UInt8 × List QAT0) × (List UInt8 × List QAT0) × QAT0 × QAT0) (mk := fun s => q2h_ s.1 s.2.1 s.2.2.1 s.2.2.2.1 s.2.2.2.2.1 s.2.2.2.2.2) (fun w5 s => ?_) 18446744073709551616 (i, k, a, b, p, q)
  have e6 : (fun i k a b p q x y => (jfn Tryz.prog qf_ 6 18446744073709551616 (Ev.get qe_) 20 q9_) 238820 [w2, w5] (q9w_ i k a b p q x y)) = qbo_ (fun i a b => w2 (qd_ i a b)) (fun i k a b p q => w5 (q2h_ i k a b p q)) := by funext i k a b p q x y; exact qkj_ w2 w5 i k a b p q x y
  have e7 : (fun i a b => (jfn Tryz.prog qf_ 6 18446744073709551616 (Ev.get qe_) 20 q9_) 233 [w2] (q9z_ i a b)) = qbl_ (fun i a b => w2 (qd_ i a b)) := by funext i a b; exact qkc_ w2 i a b
  refine (qlj_ _ w2 w5 s.1 s.2.1 s.2.2.1 s.2.2.2.1 s.2.2.2.2.1 s.2.2.2.2.2).trans ?_
  rw [e6, e7]
theorem qk5_  (w2 i t55 a b p q) : jfn Tryz.prog qf_ 6 18446744073709551616 (Ev.get qe_) 20 q9_ 3730 [w2] (q9u_ i t55 a b p q) = qbn_ (fun i a b => w2 (qd_ i a b)) i t55 a b p q := by
  rw [q4_ (by decide)]
  have e5 : (fun i k a b p q => (jfn Tryz.prog qf_ 6 18446744073709551616 (Ev.get qe_) 20 q9_) 14926 [w2] (q2h_ i k a b p q)) = qbr_ (fun i a b => w2 (qd_ i a b)) := by funext i k a b p q; exact qle_ w2 i k a b p q
  rw [qku_, e5]
  rfl
theorem qli_  (w2 i a b p q) : jfn Tryz.prog qf_ 6 18446744073709551616 (Ev.get qe_) 20 q9_ 932 [w2] (q9t_ i a b p q) = qbs_ (fun i a b => w2 (qd_ i a b)) i a b p q := by
  rw [q4_ (by decide)]
  have e4 : (fun i t55 a b p q => (jfn Tryz.prog qf_ 6 18446744073709551616 (Ev.get qe_) 20 q9_) 3730 [w2] (q9u_ i t55 a b p q)) = qbn_ (fun i a b => w2 (qd_ i a b)) := by funext i t55 a b p q; exact qk5_ w2 i t55 a b p q
  rw [qlb_, e4]
  rfl
theorem qkv_  (i a b) : jfn Tryz.prog qf_ 6 18446744073709551616 (Ev.get qe_) 20 q9_ 58 [] (qd_ i a b) = qbi_ i a b := by
  rw [q4_ (by decide)]
  rw [q16_ (by kernel_rfl)]
  refine qk_ (σ := (Int) × (List UInt8 × List QAT0) × (List UInt8 × List QAT0)) (mk := fun s => qd_ s.1 s.2.1 s.2.2) (fun w2 s => ?_) 18446744073709551616 (i, a, b)
  have e3 : (fun i a b p q => (jfn Tryz.prog qf_ 6 18446744073709551616 (Ev.get qe_) 20 q9_) 932 [w2] (q9t_ i a b p q)) = qbs_ (fun i a b => w2 (qd_ i a b)) := by funext i a b p q; exact qli_ w2 i a b p q
  refine (qlg_ _ w2 s.1 s.2.1 s.2.2).trans ?_
  rw [e3]
theorem qko_  (t24 a b) : jfn Tryz.prog qf_ 6 18446744073709551616 (Ev.get qe_) 20 q9_ 6 [] (q9y_ t24 a b) = qbj_ t24 a b := by
  rw [q4_ (by decide)]
  have e2 : (fun i a b => (jfn Tryz.prog qf_ 6 18446744073709551616 (Ev.get qe_) 20 q9_) 58 [] (qd_ i a b)) = qbi_ := by funext i a b; exact qkv_ i a b
  rw [qkm_, e2]
  rfl
theorem qlq_ (x : As [.pr .str (.sl QAT2), .pr .str (.sl QAT2)]) : evT Tryz.prog qf_ 6 18446744073709551616 (Ev.get qe_) 20 q9_ x = qae_ x := by
  have e1 : (fun t24 a b => (jfn Tryz.prog qf_ 6 18446744073709551616 (Ev.get qe_) 20 q9_) 6 [] (q9y_ t24 a b)) = qbj_ := by funext t24 a b; exact qko_ t24 a b
  rw [q27_, qkr_, e1]
  rfl
theorem qkb_ : CtOk Tryz.prog I0 20 ⟨q9_, qae_⟩ := qx_ q7_ qlq_
def ql7_ (l : List QAT4) (word : List UInt8) : Option (As [.bool]) :=
  if eqi (Int.ofNat (List.length l)) 2 = true then Option.bind (at? l 0) fun (y : Int × List UInt8 × (Int × Int) × Int) => if eqi y.1 1 = true then Option.bind (at? l 0) fun (y : Int × List UInt8 × (Int × Int) × Int) => if eqs y.2.1 word = true then Option.bind (at? l 1) fun (y : Int × List UInt8 × (Int × Int) × Int) => if eqi y.1 1 = true then Option.bind (at? l 1) fun (y : Int × List UInt8 × (Int × Int) × Int) => Option.bind (qaj_ (y.2.1, ())) fun (y : Bool × Unit) => some (y.1, ()) else some (false, ()) else some (false, ()) else some (false, ()) else some (false, ())
def qh6_ (x : As [.sl QAT1, .str]) : Option (As [.bool]) := ql7_ x.1 x.2.1
def qlm_ (j2 self1 : List QAT4 -> Int -> Int -> List (List QAT4) -> Option (As [.sl (.sl QAT1)])) (l : List QAT4) (from' i : Int) (out : List (List QAT4)) : Option (As [.sl (.sl QAT1)]) :=
  if lt i (Int.ofNat (List.length l)) = true then Option.bind (at? l i) fun (y : Int × List UInt8 × (Int × Int) × Int) => if eqi y.1 4 = true then Option.bind (cut l from' i) fun (y : List QAT4) => need (small (List.length out + Nat.succ 0)) (j2 l (add .i64 i 1) i (out ++ [y])) else j2 l from' i out else some (out, ())
def qks_ (self1 : List QAT4 -> Int -> Int -> List (List QAT4) -> Option (As [.sl (.sl QAT1)])) (l : List QAT4) (from' i : Int) (out : List (List QAT4)) : Option (As [.sl (.sl QAT1)]) :=
  self1 l from' (add .i64 i 1) out
def qkp_ (j1 : List QAT4 -> Int -> Int -> List (List QAT4) -> Option (As [.sl (.sl QAT1)])) (l : List QAT4) : Option (As [.sl (.sl QAT1)]) :=
  j1 l 0 0 []
def qld_ (u1 : List QAT4 -> Int -> Int -> List (List QAT4) -> Option (As [.sl (.sl QAT1)])) (l : List QAT4) (from' i : Int) (out : List (List QAT4)) : Option (As [.sl (.sl QAT1)]) := qks_ u1 l from' i out
def qkf_ (l : List QAT4) (from' i : Int) (out : List (List QAT4)) : Option (As [.sl (.sl QAT1)]) :=
  loopF (fun (self : (List QAT4) × (Int) × (Int) × (List (List QAT4)) -> Option (As [.sl (.sl QAT1)])) (s : (List QAT4) × (Int) × (Int) × (List (List QAT4))) => qlm_ (qld_ (fun l from' i out => self (l, from', i, out))) (fun l from' i out => self (l, from', i, out)) s.1 s.2.1 s.2.2.1 s.2.2.2) 18446744073709551616 (l, from', i, out)
def qnb_ (x : As [.sl QAT1]) : Option (As [.sl (.sl QAT1)]) := qkp_ qkf_ x.1
@[reducible] def q1e_ : Sh := ⟨[.d (.pr .str (.sl QAT2))], [], [.pr .str (.sl QAT2)], [.d (.bool)], [], 0, [.bool]⟩
def q1s_ : Env := (cts [])
def q1r_ : List (Nat × Hint) := [(58, ⟨[], [18, 19, 20, 29, 30, 31, 32, 46, 47, 48, 49]⟩), (29902, ⟨[], [18, 19, 20, 29, 30, 31, 32, 35, 36, 37, 46, 47, 48, 49]⟩), (1913753, ⟨[.agd 47 .str, .agd 48 (.int .i64), .agd 49 .bool], [18, 19, 20, 35, 36, 37, 50]⟩), (7474, ⟨[.agd 30 .str, .agd 31 (.int .i64), .agd 32 .bool], [4, 18, 19, 20, 33]⟩), (6, ⟨[], [1, 16, 29, 30, 31, 32, 46, 47, 48, 49]⟩)]
def qam_ (t16 : Bool) (r : List UInt8 × List QAT0) : St := { fr := [(1, .pb 0 0), (16, .d .bool t16)], nt := 53, up := [], own := [(0, .box 26 [.d .str r.1, .d (.sl QAT2) r.2])], nx := 1, log := [], ln := 0 }
def q23_ (t18 : List QAT0) (t19 t20 : Int) : St := { fr := [(18, .d (.sl QAT2) t18), (19, .d (.int .i64) t19), (20, .d (.int .i64) t20)], nt := 53, up := [], own := [], nx := 0, log := [], ln := 0 }
def qaq_ (t18 : List QAT0) (t19 t20 : Int) (t33 : Bool) (p : List UInt8 × Int × List QAT3) : St := { fr := [(4, .pb 0 0), (18, .d (.sl QAT2) t18), (19, .d (.int .i64) t19), (20, .d (.int .i64) t20), (33, .d .bool t33)], nt := 53, up := [], own := [(0, .box 43 [.d .str p.1, .d (.int .i64) p.2.1, .d (.sl QAT5) p.2.2])], nx := 1, log := [], ln := 0 }
def q48_ (t18 : List QAT0) (t19 t20 : Int) (t35 : List QAT3) (t36 t37 : Int) : St := { fr := [(18, .d (.sl QAT2) t18), (19, .d (.int .i64) t19), (20, .d (.int .i64) t20), (35, .d (.sl QAT5) t35), (36, .d (.int .i64) t36), (37, .d (.int .i64) t37)], nt := 53, up := [], own := [], nx := 0, log := [], ln := 0 }
def qan_ (t18 : List QAT0) (t19 t20 : Int) (t35 : List QAT3) (t36 t37 : Int) (t50 : Bool) : St := { fr := [(18, .d (.sl QAT2) t18), (19, .d (.int .i64) t19), (20, .d (.int .i64) t20), (35, .d (.sl QAT5) t35), (36, .d (.int .i64) t36), (37, .d (.int .i64) t37), (50, .d .bool t50)], nt := 53, up := [], own := [], nx := 0, log := [], ln := 0 }
def qew_ (j2 : List QAT0 -> Int -> Int -> Option (As [.bool])) (t16 : Bool) (r : List UInt8 × List QAT0) : Option (As [.bool]) :=
  if t16 = true then some (false, ()) else j2 r.2 (Int.ofNat (List.length r.2)) 0
def q7p_ (j3 : List QAT0 -> Int -> Int -> Bool -> List UInt8 × Int × List QAT3 -> Option (As [.bool])) (self2 : List QAT0 -> Int -> Int -> Option (As [.bool])) (t18 : List QAT0) (t19 t20 : Int) : Option (As [.bool]) :=
  if lt t20 t19 = true then Option.bind (at? t18 t20) fun (y : List UInt8 × Int × List QAT3) => if gt (Int.ofNat (List.length y.2.2)) 70 = true then j3 t18 t19 t20 true y else j3 t18 t19 t20 (gt (Int.ofNat (List.length y.1)) 40) y else some (true, ())
def qez_ (j4 : List QAT0 -> Int -> Int -> List QAT3 -> Int -> Int -> Option (As [.bool])) (self2 : List QAT0 -> Int -> Int -> Option (As [.bool])) (t18 : List QAT0) (t19 t20 : Int) (t33 : Bool) (p : List UInt8 × Int × List QAT3) : Option (As [.bool]) :=
  if t33 = true then some (false, ()) else j4 t18 t19 t20 p.2.2 (Int.ofNat (List.length p.2.2)) 0
def q7h_ (j5 : List QAT0 -> Int -> Int -> List QAT3 -> Int -> Int -> Bool -> Option (As [.bool])) (self2 : List QAT0 -> Int -> Int -> Option (As [.bool])) (self4 : List QAT0 -> Int -> Int -> List QAT3 -> Int -> Int -> Option (As [.bool])) (t18 : List QAT0) (t19 t20 : Int) (t35 : List QAT3) (t36 t37 : Int) : Option (As [.bool]) :=
  if lt t37 t36 = true then Option.bind (at? t35 t37) fun (y : List UInt8 × (Int × Int) × List UInt8 × Int) => if gt (Int.ofNat (List.length y.1)) 40 = true then j5 t18 t19 t20 t35 t36 t37 true else j5 t18 t19 t20 t35 t36 t37 (gt (Int.ofNat (List.length y.2.2.1)) 40) else self2 t18 t19 (add .i64 t20 1)
def qac_ (self2 : List QAT0 -> Int -> Int -> Option (As [.bool])) (self4 : List QAT0 -> Int -> Int -> List QAT3 -> Int -> Int -> Option (As [.bool])) (t18 : List QAT0) (t19 t20 : Int) (t35 : List QAT3) (t36 t37 : Int) (t50 : Bool) : Option (As [.bool]) :=
  if t50 = true then some (false, ()) else self4 t18 t19 t20 t35 t36 (add .i64 t37 1)
def qaf_ (j1 : Bool -> List UInt8 × List QAT0 -> Option (As [.bool])) (r : List UInt8 × List QAT0) : Option (As [.bool]) :=
  if gt (Int.ofNat (List.length r.2)) 12 = true then j1 true r else j1 (gt (Int.ofNat (List.length r.1)) 40) r
def q8v_ (u2 : List QAT0 -> Int -> Int -> Option (As [.bool])) (u4 : List QAT0 -> Int -> Int -> List QAT3 -> Int -> Int -> Option (As [.bool])) (t18 : List QAT0) (t19 t20 : Int) (t35 : List QAT3) (t36 t37 : Int) (t50 : Bool) : Option (As [.bool]) := qac_ u2 u4 t18 t19 t20 t35 t36 t37 t50
def q7o_ (u2 : List QAT0 -> Int -> Int -> Option (As [.bool])) (t18 : List QAT0) (t19 t20 : Int) (t35 : List QAT3) (t36 t37 : Int) : Option (As [.bool]) :=
  loopF (fun (self : (List QAT0) × (Int) × (Int) × (List QAT3) × (Int) × (Int) -> Option (As [.bool])) (s : (List QAT0) × (Int) × (Int) × (List QAT3) × (Int) × (Int)) => q7h_ (q8v_ u2 (fun t18 t19 t20 t35 t36 t37 => self (t18, t19, t20, t35, t36, t37))) u2 (fun t18 t19 t20 t35 t36 t37 => self (t18, t19, t20, t35, t36, t37)) s.1 s.2.1 s.2.2.1 s.2.2.2.1 s.2.2.2.2.1 s.2.2.2.2.2) 18446744073709551616 (t18, t19, t20, t35, t36, t37)
def q8w_ (u2 : List QAT0 -> Int -> Int -> Option (As [.bool])) (t18 : List QAT0) (t19 t20 : Int) (t33 : Bool) (p : List UInt8 × Int × List QAT3) : Option (As [.bool]) := qez_ (q7o_ u2) u2 t18 t19 t20 t33 p
def q7r_ (t18 : List QAT0) (t19 t20 : Int) : Option (As [.bool]) :=
  loopF (fun (self : (List QAT0) × (Int) × (Int) -> Option (As [.bool])) (s : (List QAT0) × (Int) × (Int)) => q7p_ (q8w_ (fun t18 t19 t20 => self (t18, t19, t20))) (fun t18 t19 t20 => self (t18, t19, t20)) s.1 s.2.1 s.2.2) 18446744073709551616 (t18, t19, t20)
def q91_ (t16 : Bool) (r : List UInt8 × List QAT0) : Option (As [.bool]) := qew_ (q7r_) t16 r
def q6n_ (x : As [.pr .str (.sl QAT2)]) : Option (As [.bool]) := qaf_ q91_ x.1
theorem qlv_  (J w2 w4 t18 t19 t20 t35 t36 t37 t50) : pfn Tryz.prog q1s_ 6 18446744073709551616 (Ev.get q1r_) 9 q1e_ J 1913753 [w2, w4] (qan_ t18 t19 t20 t35 t36 t37 t50) = qac_ (fun t18 t19 t20 => w2 (q23_ t18 t19 t20)) (fun t18 t19 t20 t35 t36 t37 => w4 (q48_ t18 t19 t20 t35 t36 t37)) t18 t19 t20 t35 t36 t37 t50 := by kernel_rfl
theorem qlo_  (J w2 w4 t18 t19 t20 t35 t36 t37) : pfn Tryz.prog q1s_ 6 18446744073709551616 (Ev.get q1r_) 9 q1e_ J 29902 [w2, w4] (q48_ t18 t19 t20 t35 t36 t37) = q7h_ (fun t18 t19 t20 t35 t36 t37 t50 => J 1913753 [w2, w4] (qan_ t18 t19 t20 t35 t36 t37 t50)) (fun t18 t19 t20 => w2 (q23_ t18 t19 t20)) (fun t18 t19 t20 t35 t36 t37 => w4 (q48_ t18 t19 t20 t35 t36 t37)) t18 t19 t20 t35 t36 t37 := by kernel_rfl
theorem qmb_  (J w2 t18 t19 t20 t33 p) : pfn Tryz.prog q1s_ 6 18446744073709551616 (Ev.get q1r_) 9 q1e_ J 7474 [w2] (qaq_ t18 t19 t20 t33 p) = qez_ (fun t18 t19 t20 t35 t36 t37 => J 29902 [w2] (q48_ t18 t19 t20 t35 t36 t37)) (fun t18 t19 t20 => w2 (q23_ t18 t19 t20)) t18 t19 t20 t33 p := by kernel_rfl
theorem qm7_  (J w2 t18 t19 t20) : pfn Tryz.prog q1s_ 6 18446744073709551616 (Ev.get q1r_) 9 q1e_ J 58 [w2] (q23_ t18 t19 t20) = q7p_ (fun t18 t19 t20 t33 p => J 7474 [w2] (qaq_ t18 t19 t20 t33 p)) (fun t18 t19 t20 => w2 (q23_ t18 t19 t20)) t18 t19 t20 := by kernel_rfl
theorem qlu_  (J t16 r) : pfn Tryz.prog q1s_ 6 18446744073709551616 (Ev.get q1r_) 9 q1e_ J 6 [] (qam_ t16 r) = qew_ (fun t18 t19 t20 => J 58 [] (q23_ t18 t19 t20)) t16 r := by kernel_rfl
theorem qm6_ (J : Orc (As [.bool])) (x : As [.pr .str (.sl QAT2)]) : rfn Tryz.prog q1s_ 6 18446744073709551616 (Ev.get q1r_) 9 q1e_ J x = qaf_ (fun t16 r => J 6 [] (qam_ t16 r)) x.1 := by kernel_rfl
theorem qmk_  (w2 w4 t18 t19 t20 t35 t36 t37 t50) : jfn Tryz.prog q1s_ 6 18446744073709551616 (Ev.get q1r_) 9 q1e_ 1913753 [w2, w4] (qan_ t18 t19 t20 t35 t36 t37 t50) = q8v_ (fun t18 t19 t20 => w2 (q23_ t18 t19 t20)) (fun t18 t19 t20 t35 t36 t37 => w4 (q48_ t18 t19 t20 t35 t36 t37)) t18 t19 t20 t35 t36 t37 t50 := by
  rw [q4_ (by decide)]
  rw [qlv_]
  rfl
theorem qlz_  (w2 t18 t19 t20 t35 t36 t37) : jfn Tryz.prog q1s_ 6 18446744073709551616 (Ev.get q1r_) 9 q1e_ 29902 [w2] (q48_ t18 t19 t20 t35 t36 t37) = q7o_ (fun t18 t19 t20 => w2 (q23_ t18 t19 t20)) t18 t19 t20 t35 t36 t37 := by
  rw [q4_ (by decide)]
  rw [q16_ (by kernel_rfl)]
  refine qk_ (σ := (List QAT0) × (Int) × (Int) × (List QAT3) × (Int) × (Int)) (mk := fun s => q48_ s.1 s.2.1 s.2.2.1 s.2.2.2.1 s.2.2.2.2.1 s.2.2.2.2.2) (fun w4 s => ?_) 18446744073709551616 (t18, t19, t20, t35, t36, t37)
  have e5 : (fun t18 t19 t20 t35 t36 t37 t50 => (jfn Tryz.prog q1s_ 6 18446744073709551616 (Ev.get q1r_) 9 q1e_) 1913753 [w2, w4] (qan_ t18 t19 t20 t35 t36 t37 t50)) = q8v_ (fun t18 t19 t20 => w2 (q23_ t18 t19 t20)) (fun t18 t19 t20 t35 t36 t37 => w4 (q48_ t18 t19 t20 t35 t36 t37)) := by funext t18 t19 t20 t35 t36 t37 t50; exact qmk_ w2 w4 t18 t19 t20 t35 t36 t37 t50
  refine (qlo_ _ w2 w4 s.1 s.2.1 s.2.2.1 s.2.2.2.1 s.2.2.2.2.1 s.2.2.2.2.2).trans ?_
  rw [e5]
theorem qmg_  (w2 t18 t19 t20 t33 p) : jfn Tryz.prog q1s_ 6 18446744073709551616 (Ev.get q1r_) 9 q1e_ 7474 [w2] (qaq_ t18 t19 t20 t33 p) = q8w_ (fun t18 t19 t20 => w2 (q23_ t18 t19 t20)) t18 t19 t20 t33 p := by
  rw [q4_ (by decide)]
  have e4 : (fun t18 t19 t20 t35 t36 t37 => (jfn Tryz.prog q1s_ 6 18446744073709551616 (Ev.get q1r_) 9 q1e_) 29902 [w2] (q48_ t18 t19 t20 t35 t36 t37)) = q7o_ (fun t18 t19 t20 => w2 (q23_ t18 t19 t20)) := by funext t18 t19 t20 t35 t36 t37; exact qlz_ w2 t18 t19 t20 t35 t36 t37
  rw [qmb_, e4]
  rfl
theorem qm0_  (t18 t19 t20) : jfn Tryz.prog q1s_ 6 18446744073709551616 (Ev.get q1r_) 9 q1e_ 58 [] (q23_ t18 t19 t20) = q7r_ t18 t19 t20 := by
  rw [q4_ (by decide)]
  rw [q16_ (by kernel_rfl)]
  refine qk_ (σ := (List QAT0) × (Int) × (Int)) (mk := fun s => q23_ s.1 s.2.1 s.2.2) (fun w2 s => ?_) 18446744073709551616 (t18, t19, t20)
  have e3 : (fun t18 t19 t20 t33 p => (jfn Tryz.prog q1s_ 6 18446744073709551616 (Ev.get q1r_) 9 q1e_) 7474 [w2] (qaq_ t18 t19 t20 t33 p)) = q8w_ (fun t18 t19 t20 => w2 (q23_ t18 t19 t20)) := by funext t18 t19 t20 t33 p; exact qmg_ w2 t18 t19 t20 t33 p
  refine (qm7_ _ w2 s.1 s.2.1 s.2.2).trans ?_
  rw [e3]
theorem qm3_  (t16 r) : jfn Tryz.prog q1s_ 6 18446744073709551616 (Ev.get q1r_) 9 q1e_ 6 [] (qam_ t16 r) = q91_ t16 r := by
  rw [q4_ (by decide)]
  have e2 : (fun t18 t19 t20 => (jfn Tryz.prog q1s_ 6 18446744073709551616 (Ev.get q1r_) 9 q1e_) 58 [] (q23_ t18 t19 t20)) = q7r_ := by funext t18 t19 t20; exact qm0_ t18 t19 t20
  rw [qlu_, e2]
  rfl
theorem qn6_ (x : As [.pr .str (.sl QAT2)]) : evT Tryz.prog q1s_ 6 18446744073709551616 (Ev.get q1r_) 9 q1e_ x = q6n_ x := by
  have e1 : (fun t16 r => (jfn Tryz.prog q1s_ 6 18446744073709551616 (Ev.get q1r_) 9 q1e_) 6 [] (qam_ t16 r)) = q91_ := by funext t16 r; exact qm3_ t16 r
  rw [q27_, qm6_, e1]
  rfl
theorem qme_ : CtOk Tryz.prog I0 9 ⟨q1e_, q6n_⟩ := qx_ q7_ qn6_
end Go.Proofs.Lx
end
