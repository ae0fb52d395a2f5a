/- Proved in the last of these 12 parts (this is part 7): the law RecipeTells of chapter 14 returns true at every text and every two recipes. Conditions: those of the given statement, and no others. -/
import Derived.Test.YtnamnibaedolaaaGreatDoorParte
import Derived.Test.YtnamnibaedolaaaGreatDoorPartf
import Derived.Test.YtnamnibaedolaaaGreatDoorProg
set_option linter.unusedVariables false
set_option linter.unusedSimpArgs false
set_option linter.unusedSectionVars false
section
open Go Go.Proofs Ev Sx
set_option maxRecDepth 100000
namespace Go.Proofs.Lx
@[reducible] def qd_ : Sh := ⟨[.d (.str)], [], [.str], [.d (.pr (.int .i64) (.int .u8)), .d (.bool)], [], 0, [.pr (.int .i64) (.int .u8), .bool]⟩
def qf_ : Env := (cts [(114, (⟨q38_, qht_⟩ : Ct))])
def qg_ : List (Nat × Hint) := [(3, ⟨[], [0, 2, 4, 32, 33, 36, 37, 44, 45, 46, 47, 50, 51, 52, 53, 54, 55, 56, 57, 58, 59, 60, 82, 83, 84, 85, 86, 89, 90]⟩), (7, ⟨[], [0, 2, 4, 32, 33, 36, 37, 44, 45, 46, 47, 50, 51, 52, 53, 54, 55, 56, 57, 58, 59, 60, 82, 83, 84, 85, 86, 89, 90]⟩), (31, ⟨[], [2, 4, 5, 6, 7, 8, 82, 83, 84, 85, 86, 89, 90]⟩), (127, ⟨[], [2, 5, 7]⟩), (126, ⟨[], [2, 4, 5, 7, 91]⟩), (250, ⟨[], [0, 2, 4, 5, 6, 7, 8, 9, 32, 33, 36, 37, 44, 45, 46, 47, 50, 51, 52, 53, 54, 55, 56, 57, 58, 59, 60, 82, 83, 84, 85, 86, 89, 90]⟩), (1001, ⟨[], [0, 2, 4, 5, 6, 7, 8, 9, 32, 33, 36, 37, 44, 45, 46, 47, 50, 51, 52, 53, 54, 55, 56, 57, 58, 59, 60, 82, 83, 84, 85, 86, 89, 90]⟩), (16018, ⟨[.agd 44 .str, .agd 45 (.int .i64), .agd 46 (.int .u8), .agd 47 .bool, .agd 50 (.int .i64), .agd 51 .bool, .agd 52 .bool, .agd 53 .str, .agd 54 (.int .u8), .agd 55 .bool, .agd 56 .bool, .agd 57 .bool, .agd 58 .bool, .agd 59 .bool, .agd 60 .bool], [0, 2, 4, 5, 6, 7, 8, 9, 61]⟩), (8008, ⟨[.agd 36 (.int .i64), .agd 37 .bool, .agd 32 .bool, .agd 33 .bool], [0, 2, 4, 5, 6, 7, 8, 9, 38]⟩)]
def qdd_ (s : List UInt8) (below : Bool) (t2 t2_2 : Int) : St := { fr := [(0, .d .str s), (2, .pb 0 0), (4, .d .bool below)], nt := 101, up := [], own := [(0, .box 45 [.d (.int .i64) t2, .d (.int .u8) t2_2])], nx := 1, log := [], ln := 0 }
def qc3_ (s : List UInt8) (below : Bool) (t2 t2_2 : Int) : St := { fr := [(0, .d .str s), (2, .pb 0 0), (4, .d .bool below)], nt := 101, up := [], own := [(0, .box 45 [.d (.int .i64) t2, .d (.int .u8) t2_2])], nx := 1, log := [], ln := 0 }
def q1o_ (s : List UInt8) (below : Bool) (n : Int) (point : Bool) (behind ahead i t2 t2_2 : Int) : St := { fr := [(0, .d .str s), (2, .pb 0 0), (4, .d .bool below), (5, .d (.int .i64) n), (6, .d .bool point), (7, .d (.int .i64) behind), (8, .d (.int .i64) ahead), (9, .d (.int .i64) i)], nt := 101, up := [], own := [(0, .box 45 [.d (.int .i64) t2, .d (.int .u8) t2_2])], nx := 1, log := [], ln := 0 }
def qbw_ (s : List UInt8) (below : Bool) (n : Int) (point : Bool) (behind ahead i : Int) (t38 : Bool) (t2 t2_2 : Int) : St := { fr := [(0, .d .str s), (2, .pb 0 0), (4, .d .bool below), (5, .d (.int .i64) n), (6, .d .bool point), (7, .d (.int .i64) behind), (8, .d (.int .i64) ahead), (9, .d (.int .i64) i), (38, .d .bool t38)], nt := 101, up := [], own := [(0, .box 45 [.d (.int .i64) t2, .d (.int .u8) t2_2])], nx := 1, log := [], ln := 0 }
def qc4_ (below : Bool) (n : Int) (point : Bool) (behind ahead t2 t2_2 : Int) : St := { fr := [(2, .pb 0 0), (4, .d .bool below), (5, .d (.int .i64) n), (6, .d .bool point), (7, .d (.int .i64) behind), (8, .d (.int .i64) ahead)], nt := 101, up := [], own := [(0, .box 45 [.d (.int .i64) t2, .d (.int .u8) t2_2])], nx := 1, log := [], ln := 0 }
def q7h_ (s : List UInt8) (below : Bool) (n : Int) (point : Bool) (behind ahead i t2 t2_2 : Int) : St := { fr := [(0, .d .str s), (2, .pb 0 0), (4, .d .bool below), (5, .d (.int .i64) n), (6, .d .bool point), (7, .d (.int .i64) behind), (8, .d (.int .i64) ahead), (9, .d (.int .i64) i)], nt := 101, up := [], own := [(0, .box 45 [.d (.int .i64) t2, .d (.int .u8) t2_2])], nx := 1, log := [], ln := 0 }
def qd1_ (s : List UInt8) (below : Bool) (n : Int) (point : Bool) (behind ahead i : Int) (t61 : Bool) (t2 t2_2 : Int) : St := { fr := [(0, .d .str s), (2, .pb 0 0), (4, .d .bool below), (5, .d (.int .i64) n), (6, .d .bool point), (7, .d (.int .i64) behind), (8, .d (.int .i64) ahead), (9, .d (.int .i64) i), (61, .d .bool t61)], nt := 101, up := [], own := [(0, .box 45 [.d (.int .i64) t2, .d (.int .u8) t2_2])], nx := 1, log := [], ln := 0 }
def qcu_ (below : Bool) (n behind : Int) (t91 : Bool) (t2 t2_2 : Int) : St := { fr := [(2, .pb 0 0), (4, .d .bool below), (5, .d (.int .i64) n), (7, .d (.int .i64) behind), (91, .d .bool t91)], nt := 101, up := [], own := [(0, .box 45 [.d (.int .i64) t2, .d (.int .u8) t2_2])], nx := 1, log := [], ln := 0 }
def qcf_ (n behind t2 t2_2 : Int) : St := { fr := [(2, .pb 0 0), (5, .d (.int .i64) n), (7, .d (.int .i64) behind)], nt := 101, up := [], own := [(0, .box 45 [.d (.int .i64) t2, .d (.int .u8) t2_2])], nx := 1, log := [], ln := 0 }
def qbt_ (j2 : List UInt8 -> Bool -> Int -> Int -> Option (As [.pr (.int .i64) (.int .u8), .bool])) (s : List UInt8) (below : Bool) (t2 t2_2 : Int) : Option (As [.pr (.int .i64) (.int .u8), .bool]) :=
  if below = true then Option.bind (cut s 1 (Int.ofNat (List.length s))) fun (y : List UInt8) => j2 y below t2 t2_2 else j2 s below t2 t2_2
def qih_ (j3 : List UInt8 -> Bool -> Int -> Bool -> Int -> Int -> Int -> Int -> Int -> Option (As [.pr (.int .i64) (.int .u8), .bool])) (s : List UInt8) (below : Bool) (t2 t2_2 : Int) : Option (As [.pr (.int .i64) (.int .u8), .bool]) :=
  j3 s below 0 false 0 0 0 t2 t2_2
def q9t_ (j4 : List UInt8 -> Bool -> Int -> Bool -> Int -> Int -> Int -> Bool -> Int -> Int -> Option (As [.pr (.int .i64) (.int .u8), .bool])) (j5 : Bool -> Int -> Bool -> Int -> Int -> Int -> Int -> Option (As [.pr (.int .i64) (.int .u8), .bool])) (self3 : List UInt8 -> Bool -> Int -> Bool -> Int -> Int -> Int -> Int -> Int -> Option (As [.pr (.int .i64) (.int .u8), .bool])) (s : List UInt8) (below : Bool) (n : Int) (point : Bool) (behind ahead i t2 t2_2 : Int) : Option (As [.pr (.int .i64) (.int .u8), .bool]) :=
  if lt i (Int.ofNat (List.length s)) = true then Option.bind (at? s i) fun (c : UInt8) => if eqi (Int.ofNat (UInt8.toNat c)) 46 = true then if (!point) = true then j4 s below n point behind ahead i (gt ahead 0) t2 t2_2 else j4 s below n point behind ahead i false t2 t2_2 else j4 s below n point behind ahead i false t2 t2_2 else j5 below n point behind ahead t2 t2_2
def qd5_ (j6 : List UInt8 -> Bool -> Int -> Bool -> Int -> Int -> Int -> Int -> Int -> Option (As [.pr (.int .i64) (.int .u8), .bool])) (j7 : List UInt8 -> Bool -> Int -> Bool -> Int -> Int -> Int -> Bool -> Int -> Int -> Option (As [.pr (.int .i64) (.int .u8), .bool])) (self3 : List UInt8 -> Bool -> Int -> Bool -> Int -> Int -> Int -> Int -> Int -> Option (As [.pr (.int .i64) (.int .u8), .bool])) (s : List UInt8) (below : Bool) (n : Int) (point : Bool) (behind ahead i : Int) (t38 : Bool) (t2 t2_2 : Int) : Option (As [.pr (.int .i64) (.int .u8), .bool]) :=
  if t38 = true then j6 s below n true behind ahead i t2 t2_2 else Option.bind (at? s i) fun (c : UInt8) => if lt (Int.ofNat (UInt8.toNat c)) 48 = true then j7 s below n point behind ahead i true t2 t2_2 else Option.bind (at? s i) fun (c : UInt8) => if gt (Int.ofNat (UInt8.toNat c)) 57 = true then j7 s below n point behind ahead i true t2 t2_2 else if eqi ahead 1 = true then Option.bind (at? s 0) fun (c : UInt8) => if eqi (Int.ofNat (UInt8.toNat c)) 48 = true then j7 s below n point behind ahead i (!point) t2 t2_2 else j7 s below n point behind ahead i false t2 t2_2 else j7 s below n point behind ahead i false t2 t2_2
def qfx_ (j8 : Bool -> Int -> Int -> Bool -> Int -> Int -> Option (As [.pr (.int .i64) (.int .u8), .bool])) (below : Bool) (n : Int) (point : Bool) (behind ahead t2 t2_2 : Int) : Option (As [.pr (.int .i64) (.int .u8), .bool]) :=
  if eqi ahead 0 = true then j8 below n behind true t2 t2_2 else if point = true then if eqi behind 0 = true then j8 below n behind true t2 t2_2 else j8 below n behind (gt behind 6) t2 t2_2 else j8 below n behind (gt behind 6) t2 t2_2
def qce_ (self3 : List UInt8 -> Bool -> Int -> Bool -> Int -> Int -> Int -> Int -> Int -> Option (As [.pr (.int .i64) (.int .u8), .bool])) (s : List UInt8) (below : Bool) (n : Int) (point : Bool) (behind ahead i t2 t2_2 : Int) : Option (As [.pr (.int .i64) (.int .u8), .bool]) :=
  self3 s below n point behind ahead (add .i64 i 1) t2 t2_2
def qfv_ (j6 self3 : List UInt8 -> Bool -> Int -> Bool -> Int -> Int -> Int -> Int -> Int -> Option (As [.pr (.int .i64) (.int .u8), .bool])) (s : List UInt8) (below : Bool) (n : Int) (point : Bool) (behind ahead i : Int) (t61 : Bool) (t2 t2_2 : Int) : Option (As [.pr (.int .i64) (.int .u8), .bool]) :=
  if t61 = true then some ((0, 0), false, ()) else if gt n 100000000000000000 = true then some ((0, 0), false, ()) else Option.bind (at? s i) fun (c : UInt8) => if point = true then j6 s below (add .i64 (mul .i64 n 10) (cvt .i64 (Sx.sub .u8 (Int.ofNat (UInt8.toNat c)) 48))) point (add .i64 behind 1) ahead i t2 t2_2 else j6 s below (add .i64 (mul .i64 n 10) (cvt .i64 (Sx.sub .u8 (Int.ofNat (UInt8.toNat c)) 48))) point behind (add .i64 ahead 1) i t2 t2_2
def qc8_ (j9 : Int -> Int -> Int -> Int -> Option (As [.pr (.int .i64) (.int .u8), .bool])) (below : Bool) (n behind : Int) (t91 : Bool) (t2 t2_2 : Int) : Option (As [.pr (.int .i64) (.int .u8), .bool]) :=
  if t91 = true then some ((0, 0), false, ()) else if below = true then j9 (Sx.neg .i64 n) behind t2 t2_2 else j9 n behind t2 t2_2
def qcw_ (n behind t2 t2_2 : Int) : Option (As [.pr (.int .i64) (.int .u8), .bool]) :=
  Option.bind (qht_ (n, behind, ())) fun (y : (Int × Int) × Bool × Unit) => some (y.1, y.2.1, ())
def qct_ (j1 : List UInt8 -> Bool -> Int -> Int -> Option (As [.pr (.int .i64) (.int .u8), .bool])) (s : List UInt8) : Option (As [.pr (.int .i64) (.int .u8), .bool]) :=
  if gt (Int.ofNat (List.length s)) 0 = true then Option.bind (at? s 0) fun (c : UInt8) => j1 s (eqi (Int.ofNat (UInt8.toNat c)) 45) 0 0 else j1 s false 0 0
def q5x_ (u3 : List UInt8 -> Bool -> Int -> Bool -> Int -> Int -> Int -> Int -> Int -> Option (As [.pr (.int .i64) (.int .u8), .bool])) (s : List UInt8) (below : Bool) (n : Int) (point : Bool) (behind ahead i t2 t2_2 : Int) : Option (As [.pr (.int .i64) (.int .u8), .bool]) := qce_ u3 s below n point behind ahead i t2 t2_2
def q56_ (u3 : List UInt8 -> Bool -> Int -> Bool -> Int -> Int -> Int -> Int -> Int -> Option (As [.pr (.int .i64) (.int .u8), .bool])) (s : List UInt8) (below : Bool) (n : Int) (point : Bool) (behind ahead i : Int) (t61 : Bool) (t2 t2_2 : Int) : Option (As [.pr (.int .i64) (.int .u8), .bool]) := qfv_ (q5x_ u3) u3 s below n point behind ahead i t61 t2 t2_2
def q5y_ (u3 : List UInt8 -> Bool -> Int -> Bool -> Int -> Int -> Int -> Int -> Int -> Option (As [.pr (.int .i64) (.int .u8), .bool])) (s : List UInt8) (below : Bool) (n : Int) (point : Bool) (behind ahead i : Int) (t38 : Bool) (t2 t2_2 : Int) : Option (As [.pr (.int .i64) (.int .u8), .bool]) := qd5_ (q5x_ u3) (q56_ u3) u3 s below n point behind ahead i t38 t2 t2_2
def q7n_ (n behind t2 t2_2 : Int) : Option (As [.pr (.int .i64) (.int .u8), .bool]) := qcw_ n behind t2 t2_2
def q9e_ (below : Bool) (n behind : Int) (t91 : Bool) (t2 t2_2 : Int) : Option (As [.pr (.int .i64) (.int .u8), .bool]) := qc8_ (q7n_) below n behind t91 t2 t2_2
def q9j_ (below : Bool) (n : Int) (point : Bool) (behind ahead t2 t2_2 : Int) : Option (As [.pr (.int .i64) (.int .u8), .bool]) := qfx_ (q9e_) below n point behind ahead t2 t2_2
def qg6_ (s : List UInt8) (below : Bool) (n : Int) (point : Bool) (behind ahead i t2 t2_2 : Int) : Option (As [.pr (.int .i64) (.int .u8), .bool]) :=
  loopF (fun (self : (List UInt8) × (Bool) × (Int) × (Bool) × (Int) × (Int) × (Int) × (Int) × (Int) -> Option (As [.pr (.int .i64) (.int .u8), .bool])) (s : (List UInt8) × (Bool) × (Int) × (Bool) × (Int) × (Int) × (Int) × (Int) × (Int)) => q9t_ (q5y_ (fun s below n point behind ahead i t2 t2_2 => self (s, below, n, point, behind, ahead, i, t2, t2_2))) (q9j_) (fun s below n point behind ahead i t2 t2_2 => self (s, below, n, point, behind, ahead, i, t2, t2_2)) s.1 s.2.1 s.2.2.1 s.2.2.2.1 s.2.2.2.2.1 s.2.2.2.2.2.1 s.2.2.2.2.2.2.1 s.2.2.2.2.2.2.2.1 s.2.2.2.2.2.2.2.2) 18446744073709551616 (s, below, n, point, behind, ahead, i, t2, t2_2)
def qcv_ (s : List UInt8) (below : Bool) (t2 t2_2 : Int) : Option (As [.pr (.int .i64) (.int .u8), .bool]) := qih_ (qg6_) s below t2 t2_2
def q7j_ (s : List UInt8) (below : Bool) (t2 t2_2 : Int) : Option (As [.pr (.int .i64) (.int .u8), .bool]) := qbt_ (qcv_) s below t2 t2_2
def qdj_ (x : As [.str]) : Option (As [.pr (.int .i64) (.int .u8), .bool]) := qct_ q7j_ x.1
theorem qnp_  (J w3 s below n point behind ahead i t2 t2_2) : pfn Tryz.prog qf_ 6 18446744073709551616 (Ev.get qg_) 77 qd_ J 1001 [w3] (q7h_ s below n point behind ahead i t2 t2_2) = qce_ (fun s below n point behind ahead i t2 t2_2 => w3 (q1o_ s below n point behind ahead i t2 t2_2)) s below n point behind ahead i t2 t2_2 := by kernel_rfl
theorem qoi_  (J w3 s below n point behind ahead i t61 t2 t2_2) : pfn Tryz.prog qf_ 6 18446744073709551616 (Ev.get qg_) 77 qd_ J 16018 [w3] (qd1_ s below n point behind ahead i t61 t2 t2_2) = qfv_ (fun s below n point behind ahead i t2 t2_2 => J 1001 [w3] (q7h_ s below n point behind ahead i t2 t2_2)) (fun s below n point behind ahead i t2 t2_2 => w3 (q1o_ s below n point behind ahead i t2 t2_2)) s below n point behind ahead i t61 t2 t2_2 := by kernel_rfl
theorem qn8_  (J w3 s below n point behind ahead i t38 t2 t2_2) : pfn Tryz.prog qf_ 6 18446744073709551616 (Ev.get qg_) 77 qd_ J 8008 [w3] (qbw_ s below n point behind ahead i t38 t2 t2_2) = qd5_ (fun s below n point behind ahead i t2 t2_2 => J 1001 [w3] (q7h_ s below n point behind ahead i t2 t2_2)) (fun s below n point behind ahead i t61 t2 t2_2 => J 16018 [w3] (qd1_ s below n point behind ahead i t61 t2 t2_2)) (fun s below n point behind ahead i t2 t2_2 => w3 (q1o_ s below n point behind ahead i t2 t2_2)) s below n point behind ahead i t38 t2 t2_2 := by kernel_rfl
theorem qol_  (J n behind t2 t2_2) : pfn Tryz.prog qf_ 6 18446744073709551616 (Ev.get qg_) 77 qd_ J 127 [] (qcf_ n behind t2 t2_2) = qcw_ n behind t2 t2_2 := by kernel_rfl
theorem qm0_  (J below n behind t91 t2 t2_2) : pfn Tryz.prog qf_ 6 18446744073709551616 (Ev.get qg_) 77 qd_ J 126 [] (qcu_ below n behind t91 t2 t2_2) = qc8_ (fun n behind t2 t2_2 => J 127 [] (qcf_ n behind t2 t2_2)) below n behind t91 t2 t2_2 := by kernel_rfl
theorem qmy_  (J below n point behind ahead t2 t2_2) : pfn Tryz.prog qf_ 6 18446744073709551616 (Ev.get qg_) 77 qd_ J 31 [] (qc4_ below n point behind ahead t2 t2_2) = qfx_ (fun below n behind t91 t2 t2_2 => J 126 [] (qcu_ below n behind t91 t2 t2_2)) below n point behind ahead t2 t2_2 := by kernel_rfl
theorem qnk_  (J w3 s below n point behind ahead i t2 t2_2) : pfn Tryz.prog qf_ 6 18446744073709551616 (Ev.get qg_) 77 qd_ J 250 [w3] (q1o_ s below n point behind ahead i t2 t2_2) = q9t_ (fun s below n point behind ahead i t38 t2 t2_2 => J 8008 [w3] (qbw_ s below n point behind ahead i t38 t2 t2_2)) (fun below n point behind ahead t2 t2_2 => J 31 [] (qc4_ below n point behind ahead t2 t2_2)) (fun s below n point behind ahead i t2 t2_2 => w3 (q1o_ s below n point behind ahead i t2 t2_2)) s below n point behind ahead i t2 t2_2 := by kernel_rfl
theorem qmx_  (J s below t2 t2_2) : pfn Tryz.prog qf_ 6 18446744073709551616 (Ev.get qg_) 77 qd_ J 7 [] (qc3_ s below t2 t2_2) = qih_ (fun s below n point behind ahead i t2 t2_2 => J 250 [] (q1o_ s below n point behind ahead i t2 t2_2)) s below t2 t2_2 := by kernel_rfl
theorem qo1_  (J s below t2 t2_2) : pfn Tryz.prog qf_ 6 18446744073709551616 (Ev.get qg_) 77 qd_ J 3 [] (qdd_ s below t2 t2_2) = qbt_ (fun s below t2 t2_2 => J 7 [] (qc3_ s below t2 t2_2)) s below t2 t2_2 := by kernel_rfl
theorem qlo_ (J : Orc (As [.pr (.int .i64) (.int .u8), .bool])) (x : As [.str]) : rfn Tryz.prog qf_ 6 18446744073709551616 (Ev.get qg_) 77 qd_ J x = qct_ (fun s below t2 t2_2 => J 3 [] (qdd_ s below t2 t2_2)) x.1 := by kernel_rfl
theorem qie_  (w3 s below n point behind ahead i t2 t2_2) : jfn Tryz.prog qf_ 6 18446744073709551616 (Ev.get qg_) 77 qd_ 1001 [w3] (q7h_ s below n point behind ahead i t2 t2_2) = q5x_ (fun s below n point behind ahead i t2 t2_2 => w3 (q1o_ s below n point behind ahead i t2 t2_2)) s below n point behind ahead i t2 t2_2 := by
  rw [q2_ (by decide)]
  rw [qnp_]
  rfl
theorem qn3_  (w3 s below n point behind ahead i t61 t2 t2_2) : jfn Tryz.prog qf_ 6 18446744073709551616 (Ev.get qg_) 77 qd_ 16018 [w3] (qd1_ s below n point behind ahead i t61 t2 t2_2) = q56_ (fun s below n point behind ahead i t2 t2_2 => w3 (q1o_ s below n point behind ahead i t2 t2_2)) s below n point behind ahead i t61 t2 t2_2 := by
  rw [q2_ (by decide)]
  have e6 : (fun s below n point behind ahead i t2 t2_2 => (jfn Tryz.prog qf_ 6 18446744073709551616 (Ev.get qg_) 77 qd_) 1001 [w3] (q7h_ s below n point behind ahead i t2 t2_2)) = q5x_ (fun s below n point behind ahead i t2 t2_2 => w3 (q1o_ s below n point behind ahead i t2 t2_2)) := by funext s below n point behind ahead i t2 t2_2; exact qie_ w3 s below n point behind ahead i t2 t2_2
  rw [qoi_, e6]
  rfl
theorem qn6_  (w3 s below n point behind ahead i t38 t2 t2_2) : jfn Tryz.prog qf_ 6 18446744073709551616 (Ev.get qg_) 77 qd_ 8008 [w3] (qbw_ s below n point behind ahead i t38 t2 t2_2) = q5y_ (fun s below n point behind ahead i t2 t2_2 => w3 (q1o_ s below n point behind ahead i t2 t2_2)) s below n point behind ahead i t38 t2 t2_2 := by
  rw [q2_ (by decide)]
  have e6 : (fun s below n point behind ahead i t2 t2_2 => (jfn Tryz.prog qf_ 6 18446744073709551616 (Ev.get qg_) 77 qd_) 1001 [w3] (q7h_ s below n point behind ahead i t2 t2_2)) = q5x_ (fun s below n point behind ahead i t2 t2_2 => w3 (q1o_ s below n point behind ahead i t2 t2_2)) := by funext s below n point behind ahead i t2 t2_2; exact qie_ w3 s below n point behind ahead i t2 t2_2
  have e7 : (fun s below n point behind ahead i t61 t2 t2_2 => (jfn Tryz.prog qf_ 6 18446744073709551616 (Ev.get qg_) 77 qd_) 16018 [w3] (qd1_ s below n point behind ahead i t61 t2 t2_2)) = q56_ (fun s below n point behind ahead i t2 t2_2 => w3 (q1o_ s below n point behind ahead i t2 t2_2)) := by funext s below n point behind ahead i t61 t2 t2_2; exact qn3_ w3 s below n point behind ahead i t61 t2 t2_2
  rw [qn8_, e6, e7]
  rfl
theorem qmm_  (n behind t2 t2_2) : jfn Tryz.prog qf_ 6 18446744073709551616 (Ev.get qg_) 77 qd_ 127 [] (qcf_ n behind t2 t2_2) = q7n_ n behind t2 t2_2 := by
  rw [q2_ (by decide)]
  rw [qol_]
  rfl
theorem qno_  (below n behind t91 t2 t2_2) : jfn Tryz.prog qf_ 6 18446744073709551616 (Ev.get qg_) 77 qd_ 126 [] (qcu_ below n behind t91 t2 t2_2) = q9e_ below n behind t91 t2 t2_2 := by
  rw [q2_ (by decide)]
  have e9 : (fun n behind t2 t2_2 => (jfn Tryz.prog qf_ 6 18446744073709551616 (Ev.get qg_) 77 qd_) 127 [] (qcf_ n behind t2 t2_2)) = q7n_ := by funext n behind t2 t2_2; exact qmm_ n behind t2 t2_2
  rw [qm0_, e9]
  rfl
theorem qm6_  (below n point behind ahead t2 t2_2) : jfn Tryz.prog qf_ 6 18446744073709551616 (Ev.get qg_) 77 qd_ 31 [] (qc4_ below n point behind ahead t2 t2_2) = q9j_ below n point behind ahead t2 t2_2 := by
  rw [q2_ (by decide)]
  have e8 : (fun below n behind t91 t2 t2_2 => (jfn Tryz.prog qf_ 6 18446744073709551616 (Ev.get qg_) 77 qd_) 126 [] (qcu_ below n behind t91 t2 t2_2)) = q9e_ := by funext below n behind t91 t2 t2_2; exact qno_ below n behind t91 t2 t2_2
  rw [qmy_, e8]
  rfl
theorem qoc_  (s below n point behind ahead i t2 t2_2) : jfn Tryz.prog qf_ 6 18446744073709551616 (Ev.get qg_) 77 qd_ 250 [] (q1o_ s below n point behind ahead i t2 t2_2) = qg6_ s below n point behind ahead i t2 t2_2 := by
  rw [q2_ (by decide)]
  rw [qm_ (by kernel_rfl)]
  refine qj_ (σ := (List UInt8) × (Bool) × (Int) × (Bool) × (Int) × (Int) × (Int) × (Int) × (Int)) (mk := fun s => q1o_ s.1 s.2.1 s.2.2.1 s.2.2.2.1 s.2.2.2.2.1 s.2.2.2.2.2.1 s.2.2.2.2.2.2.1 s.2.2.2.2.2.2.2.1 s.2.2.2.2.2.2.2.2) (fun w3 s => ?_) 18446744073709551616 (s, below, n, point, behind, ahead, i, t2, t2_2)
  have e4 : (fun s below n point behind ahead i t38 t2 t2_2 => (jfn Tryz.prog qf_ 6 18446744073709551616 (Ev.get qg_) 77 qd_) 8008 [w3] (qbw_ s below n point behind ahead i t38 t2 t2_2)) = q5y_ (fun s below n point behind ahead i t2 t2_2 => w3 (q1o_ s below n point behind ahead i t2 t2_2)) := by funext s below n point behind ahead i t38 t2 t2_2; exact qn6_ w3 s below n point behind ahead i t38 t2 t2_2
  have e5 : (fun below n point behind ahead t2 t2_2 => (jfn Tryz.prog qf_ 6 18446744073709551616 (Ev.get qg_) 77 qd_) 31 [] (qc4_ below n point behind ahead t2 t2_2)) = q9j_ := by funext below n point behind ahead t2 t2_2; exact qm6_ below n point behind ahead t2 t2_2
  refine (qnk_ _ w3 s.1 s.2.1 s.2.2.1 s.2.2.2.1 s.2.2.2.2.1 s.2.2.2.2.2.1 s.2.2.2.2.2.2.1 s.2.2.2.2.2.2.2.1 s.2.2.2.2.2.2.2.2).trans ?_
  rw [e4, e5]
theorem qo7_  (s below t2 t2_2) : jfn Tryz.prog qf_ 6 18446744073709551616 (Ev.get qg_) 77 qd_ 7 [] (qc3_ s below t2 t2_2) = qcv_ s below t2 t2_2 := by
  rw [q2_ (by decide)]
  have e3 : (fun s below n point behind ahead i t2 t2_2 => (jfn Tryz.prog qf_ 6 18446744073709551616 (Ev.get qg_) 77 qd_) 250 [] (q1o_ s below n point behind ahead i t2 t2_2)) = qg6_ := by funext s below n point behind ahead i t2 t2_2; exact qoc_ s below n point behind ahead i t2 t2_2
  rw [qmx_, e3]
  rfl
theorem qoj_  (s below t2 t2_2) : jfn Tryz.prog qf_ 6 18446744073709551616 (Ev.get qg_) 77 qd_ 3 [] (qdd_ s below t2 t2_2) = q7j_ s below t2 t2_2 := by
  rw [q2_ (by decide)]
  have e2 : (fun s below t2 t2_2 => (jfn Tryz.prog qf_ 6 18446744073709551616 (Ev.get qg_) 77 qd_) 7 [] (qc3_ s below t2 t2_2)) = qcv_ := by funext s below t2 t2_2; exact qo7_ s below t2 t2_2
  rw [qo1_, e2]
  rfl
theorem qps_ (x : As [.str]) : evT Tryz.prog qf_ 6 18446744073709551616 (Ev.get qg_) 77 qd_ x = qdj_ x := by
  have e1 : (fun s below t2 t2_2 => (jfn Tryz.prog qf_ 6 18446744073709551616 (Ev.get qg_) 77 qd_) 3 [] (qdd_ s below t2 t2_2)) = q7j_ := by funext s below t2 t2_2; exact qoj_ s below t2 t2_2
  rw [q1v_, qlo_, e1]
  rfl
theorem qmu_ : CtOk Tryz.prog I0 77 ⟨qd_, qdj_⟩ := qu_ (q1_ qru_ qa_) qps_
@[reducible] def q4_ : Sh := ⟨[.d (.str)], [], [.str], [.d (.sl QAT1), .d (.pr (.int .i64) (.int .i64))], [], 0, [.sl QAT1, .pr (.int .i64) (.int .i64)]⟩
def q5_ : Env := (cts [(74, (⟨qig_, q9y_⟩ : Ct)), (75, (⟨qj3_, q90_⟩ : Ct)), (76, (⟨qjg_, q8k_⟩ : Ct)), (77, (⟨qd_, qdj_⟩ : Ct))])
def q6_ : List (Nat × Hint) := [(63, ⟨[], [3, 4]⟩), (506, ⟨[.row 4 106], [0, 3, 4, 5, 6, 7]⟩), (2025, ⟨[], [0, 3, 4, 5, 6, 7, 27, 28, 29, 30, 51, 52, 53, 54, 55, 62, 63, 66, 67, 77, 78, 96, 97, 98, 99, 100, 103, 104, 105, 106, 107, 108, 109, 126, 127, 128, 129]⟩), (32403, ⟨[], [0, 3, 4, 5, 6, 7, 8, 27, 28, 29, 30, 51, 52, 53, 54, 55, 62, 63, 66, 67, 77, 78, 96, 97, 98, 99, 100, 103, 104, 105, 106, 107, 108, 109, 126, 127, 128, 129]⟩), (259231, ⟨[], [0, 3, 4, 5, 7, 9, 27, 28, 29, 30, 51, 52, 53, 54, 55, 62, 63, 66, 67, 77, 78, 96, 97, 98, 99, 100, 103, 104, 105, 106, 107, 108, 109, 126, 127, 128, 129]⟩), (1036927, ⟨[], [0, 3, 4, 5, 7, 9, 27, 28, 29, 30, 51, 52, 53, 54, 55, 62, 63, 66, 67, 77, 78, 96, 97, 98, 99, 100, 103, 104, 105, 106, 107, 108, 109, 126, 127, 128, 129]⟩), (4147711, ⟨[], [0, 3, 4, 5, 7, 9, 27, 28, 29, 30, 51, 52, 53, 54, 55, 62, 63, 66, 67, 77, 78, 96, 97, 98, 99, 100, 103, 104, 105, 106, 107, 108, 109, 126, 127, 128, 129]⟩), (4147710, ⟨[.agd 127 .str, .agd 128 (.int .i64), .agd 129 .bool], [0, 3, 4, 5, 7, 9, 130]⟩), (4147708, ⟨[], [0, 3, 4, 5, 7, 9, 27, 28, 29, 30, 51, 52, 53, 54, 55, 62, 63, 66, 67, 77, 78, 96, 97, 98, 99, 100, 103, 104, 105, 106, 107, 108, 109, 126, 127, 128, 129]⟩), (16590832, ⟨[.agd 104 (.int .u8), .agd 105 .str, .agd 106 (.int .i64), .agd 107 (.int .i64), .agd 108 (.int .u8), .agd 109 .bool, .agd 96 (.int .i64), .agd 97 (.int .i64), .agd 98 .str, .agd 99 (.int .i64), .agd 100 .bool], [0, 3, 4, 5, 7, 9, 110]⟩), (2073851, ⟨[.agd 77 (.int .u8), .agd 78 .bool], [0, 3, 4, 5, 7, 8, 9, 79]⟩), (129614, ⟨[.agd 62 (.int .u8), .agd 63 .bool, .agd 66 (.int .u8), .agd 67 .bool], [0, 3, 4, 5, 6, 7, 8, 68]⟩), (1036904, ⟨[], [0, 3, 4, 5, 6, 7, 27, 28, 29, 30, 51, 52, 53, 54, 55, 62, 63, 66, 67, 77, 78, 96, 97, 98, 99, 100, 103, 104, 105, 106, 107, 108, 109, 126, 127, 128, 129]⟩), (4147616, ⟨[.agd 51 .str, .agd 52 (.int .i64), .agd 53 (.int .i64), .agd 54 (.int .u8), .agd 55 .bool], [0, 3, 4, 5, 6, 7, 56]⟩), (16200, ⟨[.agd 27 .str, .agd 28 (.int .i64), .agd 29 (.int .u8), .agd 30 .bool], [0, 3, 4, 5, 6, 7, 31]⟩), (64802, ⟨[.row 4 106], [0, 3, 4, 5, 7]⟩)]
def q3_ (text : List UInt8) (line : Int) (some' : Bool) (i t3 t3_2 : Int) (out : List QAT4) : St := { fr := [(0, .d .str text), (3, .pb 0 0), (4, .row 1), (5, .d (.int .i64) line), (6, .d .bool some'), (7, .d (.int .i64) i)], nt := 154, up := [], own := [(0, .box 33 [.d (.int .i64) t3, .d (.int .i64) t3_2]), (1, .row QAT1 106 out)], nx := 2, log := [], ln := 0 }
def qfa_ (text : List UInt8) (line : Int) (some' : Bool) (i : Int) (t31 : Bool) (t3 t3_2 : Int) (out : List QAT4) : St := { fr := [(0, .d .str text), (3, .pb 0 0), (4, .row 1), (5, .d (.int .i64) line), (6, .d .bool some'), (7, .d (.int .i64) i), (31, .d .bool t31)], nt := 154, up := [], own := [(0, .box 33 [.d (.int .i64) t3, .d (.int .i64) t3_2]), (1, .row QAT1 106 out)], nx := 2, log := [], ln := 0 }
def qf1_ (t3 t3_2 : Int) (out : List QAT4) : St := { fr := [(3, .pb 0 0), (4, .row 1)], nt := 154, up := [], own := [(0, .box 33 [.d (.int .i64) t3, .d (.int .i64) t3_2]), (1, .row QAT1 106 out)], nx := 2, log := [], ln := 0 }
def qf0_ (text : List UInt8) (line i t3 t3_2 : Int) (out : List QAT4) : St := { fr := [(0, .d .str text), (3, .pb 0 0), (4, .row 1), (5, .d (.int .i64) line), (7, .d (.int .i64) i)], nt := 154, up := [], own := [(0, .box 33 [.d (.int .i64) t3, .d (.int .i64) t3_2]), (1, .row QAT1 106 out)], nx := 2, log := [], ln := 0 }
def q5e_ (text : List UInt8) (line : Int) (some' : Bool) (i t3 t3_2 : Int) (out : List QAT4) : St := { fr := [(0, .d .str text), (3, .pb 0 0), (4, .row 1), (5, .d (.int .i64) line), (6, .d .bool some'), (7, .d (.int .i64) i)], nt := 154, up := [], own := [(0, .box 33 [.d (.int .i64) t3, .d (.int .i64) t3_2]), (1, .row QAT1 106 out)], nx := 2, log := [], ln := 0 }
def qfk_ (text : List UInt8) (line : Int) (some' : Bool) (i c t3 t3_2 : Int) (out : List QAT4) : St := { fr := [(0, .d .str text), (3, .pb 0 0), (4, .row 1), (5, .d (.int .i64) line), (6, .d .bool some'), (7, .d (.int .i64) i), (8, .d (.int .u8) c)], nt := 154, up := [], own := [(0, .box 33 [.d (.int .i64) t3, .d (.int .i64) t3_2]), (1, .row QAT1 106 out)], nx := 2, log := [], ln := 0 }
def q4r_ (text : List UInt8) (line : Int) (some' : Bool) (i t3 t3_2 : Int) (out : List QAT4) : St := { fr := [(0, .d .str text), (3, .pb 0 0), (4, .row 1), (5, .d (.int .i64) line), (6, .d .bool some'), (7, .d (.int .i64) i)], nt := 154, up := [], own := [(0, .box 33 [.d (.int .i64) t3, .d (.int .i64) t3_2]), (1, .row QAT1 106 out)], nx := 2, log := [], ln := 0 }
def qfl_ (text : List UInt8) (line : Int) (some' : Bool) (i : Int) (t56 : Bool) (t3 t3_2 : Int) (out : List QAT4) : St := { fr := [(0, .d .str text), (3, .pb 0 0), (4, .row 1), (5, .d (.int .i64) line), (6, .d .bool some'), (7, .d (.int .i64) i), (56, .d .bool t56)], nt := 154, up := [], own := [(0, .box 33 [.d (.int .i64) t3, .d (.int .i64) t3_2]), (1, .row QAT1 106 out)], nx := 2, log := [], ln := 0 }
def qfj_ (text : List UInt8) (line : Int) (some' : Bool) (i c : Int) (t68 : Bool) (t3 t3_2 : Int) (out : List QAT4) : St := { fr := [(0, .d .str text), (3, .pb 0 0), (4, .row 1), (5, .d (.int .i64) line), (6, .d .bool some'), (7, .d (.int .i64) i), (8, .d (.int .u8) c), (68, .d .bool t68)], nt := 154, up := [], own := [(0, .box 33 [.d (.int .i64) t3, .d (.int .i64) t3_2]), (1, .row QAT1 106 out)], nx := 2, log := [], ln := 0 }
def q8g_ (text : List UInt8) (line i t3 t3_2 : Int) (out : List QAT4) (t : Int) (t_2 : List UInt8) (t_3 t_4 t_5 : Int) : St := { fr := [(0, .d .str text), (3, .pb 0 0), (4, .row 1), (5, .d (.int .i64) line), (7, .d (.int .i64) i), (9, .pb 2 0)], nt := 154, up := [], own := [(0, .box 33 [.d (.int .i64) t3, .d (.int .i64) t3_2]), (1, .row QAT1 106 out), (2, .box 106 [.d (.int .u8) t, .d .str t_2, .d (.int .i64) t_3, .d (.int .u8) t_4, .d (.int .i64) t_5])], nx := 3, log := [], ln := 0 }
def qe7_ (text : List UInt8) (line i c : Int) (t79 : Bool) (t3 t3_2 : Int) (out : List QAT4) (t : Int) (t_2 : List UInt8) (t_3 t_4 t_5 : Int) : St := { fr := [(0, .d .str text), (3, .pb 0 0), (4, .row 1), (5, .d (.int .i64) line), (7, .d (.int .i64) i), (8, .d (.int .u8) c), (9, .pb 2 0), (79, .d .bool t79)], nt := 154, up := [], own := [(0, .box 33 [.d (.int .i64) t3, .d (.int .i64) t3_2]), (1, .row QAT1 106 out), (2, .box 106 [.d (.int .u8) t, .d .str t_2, .d (.int .i64) t_3, .d (.int .u8) t_4, .d (.int .i64) t_5])], nx := 3, log := [], ln := 0 }
def q4x_ (text : List UInt8) (line i t3 t3_2 : Int) (out : List QAT4) (t : Int) (t_2 : List UInt8) (t_3 t_4 t_5 : Int) : St := { fr := [(0, .d .str text), (3, .pb 0 0), (4, .row 1), (5, .d (.int .i64) line), (7, .d (.int .i64) i), (9, .pb 2 0)], nt := 154, up := [], own := [(0, .box 33 [.d (.int .i64) t3, .d (.int .i64) t3_2]), (1, .row QAT1 106 out), (2, .box 106 [.d (.int .u8) t, .d .str t_2, .d (.int .i64) t_3, .d (.int .u8) t_4, .d (.int .i64) t_5])], nx := 3, log := [], ln := 0 }
def qe3_ (text : List UInt8) (line i : Int) (t110 : Bool) (t3 t3_2 : Int) (out : List QAT4) (t : Int) (t_2 : List UInt8) (t_3 t_4 t_5 : Int) : St := { fr := [(0, .d .str text), (3, .pb 0 0), (4, .row 1), (5, .d (.int .i64) line), (7, .d (.int .i64) i), (9, .pb 2 0), (110, .d .bool t110)], nt := 154, up := [], own := [(0, .box 33 [.d (.int .i64) t3, .d (.int .i64) t3_2]), (1, .row QAT1 106 out), (2, .box 106 [.d (.int .u8) t, .d .str t_2, .d (.int .i64) t_3, .d (.int .u8) t_4, .d (.int .i64) t_5])], nx := 3, log := [], ln := 0 }
def qed_ (text : List UInt8) (line i t3 t3_2 : Int) (out : List QAT4) (t : Int) (t_2 : List UInt8) (t_3 t_4 t_5 : Int) : St := { fr := [(0, .d .str text), (3, .pb 0 0), (4, .row 1), (5, .d (.int .i64) line), (7, .d (.int .i64) i), (9, .pb 2 0)], nt := 154, up := [], own := [(0, .box 33 [.d (.int .i64) t3, .d (.int .i64) t3_2]), (1, .row QAT1 106 out), (2, .box 106 [.d (.int .u8) t, .d .str t_2, .d (.int .i64) t_3, .d (.int .u8) t_4, .d (.int .i64) t_5])], nx := 3, log := [], ln := 0 }
def qdy_ (text : List UInt8) (line i : Int) (t130 : Bool) (t3 t3_2 : Int) (out : List QAT4) (t : Int) (t_2 : List UInt8) (t_3 t_4 t_5 : Int) : St := { fr := [(0, .d .str text), (3, .pb 0 0), (4, .row 1), (5, .d (.int .i64) line), (7, .d (.int .i64) i), (9, .pb 2 0), (130, .d .bool t130)], nt := 154, up := [], own := [(0, .box 33 [.d (.int .i64) t3, .d (.int .i64) t3_2]), (1, .row QAT1 106 out), (2, .box 106 [.d (.int .u8) t, .d .str t_2, .d (.int .i64) t_3, .d (.int .u8) t_4, .d (.int .i64) t_5])], nx := 3, log := [], ln := 0 }
def qe5_ (text : List UInt8) (line i t3 t3_2 : Int) (out : List QAT4) (t : Int) (t_2 : List UInt8) (t_3 t_4 t_5 : Int) : St := { fr := [(0, .d .str text), (3, .pb 0 0), (4, .row 1), (5, .d (.int .i64) line), (7, .d (.int .i64) i), (9, .pb 2 0)], nt := 154, up := [], own := [(0, .box 33 [.d (.int .i64) t3, .d (.int .i64) t3_2]), (1, .row QAT1 106 out), (2, .box 106 [.d (.int .u8) t, .d .str t_2, .d (.int .i64) t_3, .d (.int .u8) t_4, .d (.int .i64) t_5])], nx := 3, log := [], ln := 0 }
def qbn_ (j2 : List UInt8 -> Int -> Bool -> Int -> Bool -> Int -> Int -> List QAT4 -> Option (As [.sl QAT1, .pr (.int .i64) (.int .i64)])) (j3 : Int -> Int -> List QAT4 -> Option (As [.sl QAT1, .pr (.int .i64) (.int .i64)])) (self1 : List UInt8 -> Int -> Bool -> Int -> Int -> Int -> List QAT4 -> Option (As [.sl QAT1, .pr (.int .i64) (.int .i64)])) (text : List UInt8) (line : Int) (some' : Bool) (i t3 t3_2 : Int) (out : List QAT4) : Option (As [.sl QAT1, .pr (.int .i64) (.int .i64)]) :=
  if le i (Int.ofNat (List.length text)) = true then if eqi i (Int.ofNat (List.length text)) = true then j2 text line some' i true t3 t3_2 out else Option.bind (at? text i) fun (c : UInt8) => j2 text line some' i (eqi (Int.ofNat (UInt8.toNat c)) 10) t3 t3_2 out else j3 t3 t3_2 out
def qf5_ (j4 : List UInt8 -> Int -> Int -> Int -> Int -> List QAT4 -> Option (As [.sl QAT1, .pr (.int .i64) (.int .i64)])) (j5 : List UInt8 -> Int -> Bool -> Int -> Int -> Int -> List QAT4 -> Option (As [.sl QAT1, .pr (.int .i64) (.int .i64)])) (j6 : List UInt8 -> Int -> Bool -> Int -> Int -> Int -> Int -> List QAT4 -> Option (As [.sl QAT1, .pr (.int .i64) (.int .i64)])) (self1 : List UInt8 -> Int -> Bool -> Int -> Int -> Int -> List QAT4 -> Option (As [.sl QAT1, .pr (.int .i64) (.int .i64)])) (text : List UInt8) (line : Int) (some' : Bool) (i : Int) (t31 : Bool) (t3 t3_2 : Int) (out : List QAT4) : Option (As [.sl QAT1, .pr (.int .i64) (.int .i64)]) :=
  if t31 = true then if some' = true then need (small (List.length out + Nat.succ 0)) (j4 text line i t3 t3_2 (out ++ [(4, [], (0, 0), line)])) else j4 text line i t3 t3_2 out else Option.bind (at? text i) fun (c : UInt8) => if eqi (Int.ofNat (UInt8.toNat c)) 35 = true then j5 text line some' i t3 t3_2 out else j6 text line some' i (Int.ofNat (UInt8.toNat c)) t3 t3_2 out
def qj9_ (t3 t3_2 : Int) (out : List QAT4) : Option (As [.sl QAT1, .pr (.int .i64) (.int .i64)]) :=
  some (out, (0, 0), ())
def qhq_ (j7 self1 : List UInt8 -> Int -> Bool -> Int -> Int -> Int -> List QAT4 -> Option (As [.sl QAT1, .pr (.int .i64) (.int .i64)])) (text : List UInt8) (line i t3 t3_2 : Int) (out : List QAT4) : Option (As [.sl QAT1, .pr (.int .i64) (.int .i64)]) :=
  j7 text (add .i64 line 1) false i t3 t3_2 out
def qfb_ (j8 : List UInt8 -> Int -> Bool -> Int -> Bool -> Int -> Int -> List QAT4 -> Option (As [.sl QAT1, .pr (.int .i64) (.int .i64)])) (self1 self5 : List UInt8 -> Int -> Bool -> Int -> Int -> Int -> List QAT4 -> Option (As [.sl QAT1, .pr (.int .i64) (.int .i64)])) (text : List UInt8) (line : Int) (some' : Bool) (i t3 t3_2 : Int) (out : List QAT4) : Option (As [.sl QAT1, .pr (.int .i64) (.int .i64)]) :=
  if lt (add .i64 i 1) (Int.ofNat (List.length text)) = true then Option.bind (at? text (add .i64 i 1)) fun (c : UInt8) => j8 text line some' i (nei (Int.ofNat (UInt8.toNat c)) 10) t3 t3_2 out else j8 text line some' i false t3 t3_2 out
def qhk_ (j9 : List UInt8 -> Int -> Bool -> Int -> Int -> Bool -> Int -> Int -> List QAT4 -> Option (As [.sl QAT1, .pr (.int .i64) (.int .i64)])) (self1 : List UInt8 -> Int -> Bool -> Int -> Int -> Int -> List QAT4 -> Option (As [.sl QAT1, .pr (.int .i64) (.int .i64)])) (text : List UInt8) (line : Int) (some' : Bool) (i c t3 t3_2 : Int) (out : List QAT4) : Option (As [.sl QAT1, .pr (.int .i64) (.int .i64)]) :=
  if eqi c 9 = true then j9 text line some' i c true t3 t3_2 out else if eqi c 13 = true then j9 text line some' i c true t3 t3_2 out else j9 text line some' i c (eqi c 32) t3 t3_2 out
def q9d_ (self1 : List UInt8 -> Int -> Bool -> Int -> Int -> Int -> List QAT4 -> Option (As [.sl QAT1, .pr (.int .i64) (.int .i64)])) (text : List UInt8) (line : Int) (some' : Bool) (i t3 t3_2 : Int) (out : List QAT4) : Option (As [.sl QAT1, .pr (.int .i64) (.int .i64)]) :=
  self1 text line some' (add .i64 i 1) t3 t3_2 out
def qfh_ (j7 self1 self5 : List UInt8 -> Int -> Bool -> Int -> Int -> Int -> List QAT4 -> Option (As [.sl QAT1, .pr (.int .i64) (.int .i64)])) (text : List UInt8) (line : Int) (some' : Bool) (i : Int) (t56 : Bool) (t3 t3_2 : Int) (out : List QAT4) : Option (As [.sl QAT1, .pr (.int .i64) (.int .i64)]) :=
  if t56 = true then self5 text line some' (add .i64 i 1) t3 t3_2 out else j7 text line some' i t3 t3_2 out
def qfn_ (j7 : List UInt8 -> Int -> Bool -> Int -> Int -> Int -> List QAT4 -> Option (As [.sl QAT1, .pr (.int .i64) (.int .i64)])) (j10 : List UInt8 -> Int -> Int -> Int -> Int -> List QAT4 -> Int -> List UInt8 -> Int -> Int -> Int -> Option (As [.sl QAT1, .pr (.int .i64) (.int .i64)])) (j11 : List UInt8 -> Int -> Int -> Int -> Bool -> Int -> Int -> List QAT4 -> Int -> List UInt8 -> Int -> Int -> Int -> Option (As [.sl QAT1, .pr (.int .i64) (.int .i64)])) (self1 : List UInt8 -> Int -> Bool -> Int -> Int -> Int -> List QAT4 -> Option (As [.sl QAT1, .pr (.int .i64) (.int .i64)])) (text : List UInt8) (line : Int) (some' : Bool) (i c : Int) (t68 : Bool) (t3 t3_2 : Int) (out : List QAT4) : Option (As [.sl QAT1, .pr (.int .i64) (.int .i64)]) :=
  if t68 = true then j7 text line some' i t3 t3_2 out else Option.bind (q9y_ (c, ())) fun (y : Bool × Unit) => if y.1 = true then j10 text line i t3 t3_2 out 1 [] 0 0 line else Option.bind (q90_ (c, ())) fun (y : Bool × Unit) => if y.1 = true then j11 text line i c true t3 t3_2 out 0 [] 0 0 line else j11 text line i c (eqi c 45) t3 t3_2 out 0 [] 0 0 line
def qgw_ (j12 : List UInt8 -> Int -> Int -> Int -> Int -> List QAT4 -> Int -> List UInt8 -> Int -> Int -> Int -> Option (As [.sl QAT1, .pr (.int .i64) (.int .i64)])) (self1 : List UInt8 -> Int -> Bool -> Int -> Int -> Int -> List QAT4 -> Option (As [.sl QAT1, .pr (.int .i64) (.int .i64)])) (text : List UInt8) (line i t3 t3_2 : Int) (out : List QAT4) (t : Int) (t_2 : List UInt8) (t_3 t_4 t_5 : Int) : Option (As [.sl QAT1, .pr (.int .i64) (.int .i64)]) :=
  Option.bind (cut text i (add .i64 i 1)) fun (y : List UInt8) => j12 text line i t3 t3_2 out t y t_3 t_4 t_5
def qe8_ (j10 : List UInt8 -> Int -> Int -> Int -> Int -> List QAT4 -> Int -> List UInt8 -> Int -> Int -> Int -> Option (As [.sl QAT1, .pr (.int .i64) (.int .i64)])) (self1 : List UInt8 -> Int -> Bool -> Int -> Int -> Int -> List QAT4 -> Option (As [.sl QAT1, .pr (.int .i64) (.int .i64)])) (text : List UInt8) (line i c : Int) (t79 : Bool) (t3 t3_2 : Int) (out : List QAT4) (t : Int) (t_2 : List UInt8) (t_3 t_4 t_5 : Int) : Option (As [.sl QAT1, .pr (.int .i64) (.int .i64)]) :=
  if t79 = true then j10 text line i t3 t3_2 out 2 t_2 t_3 t_4 t_5 else if eqi c 61 = true then j10 text line i t3 t3_2 out 3 t_2 t_3 t_4 t_5 else some ([], (131, line), ())
def qea_ (j13 : List UInt8 -> Int -> Int -> Bool -> Int -> Int -> List QAT4 -> Int -> List UInt8 -> Int -> Int -> Int -> Option (As [.sl QAT1, .pr (.int .i64) (.int .i64)])) (self1 : List UInt8 -> Int -> Bool -> Int -> Int -> Int -> List QAT4 -> Option (As [.sl QAT1, .pr (.int .i64) (.int .i64)])) (self12 : List UInt8 -> Int -> Int -> Int -> Int -> List QAT4 -> Int -> List UInt8 -> Int -> Int -> Int -> Option (As [.sl QAT1, .pr (.int .i64) (.int .i64)])) (text : List UInt8) (line i t3 t3_2 : Int) (out : List QAT4) (t : Int) (t_2 : List UInt8) (t_3 t_4 t_5 : Int) : Option (As [.sl QAT1, .pr (.int .i64) (.int .i64)]) :=
  if nei t 3 = true then if lt (add .i64 i 1) (Int.ofNat (List.length text)) = true then Option.bind (at? text (add .i64 i 1)) fun (c : UInt8) => Option.bind (q8k_ (t, Int.ofNat (UInt8.toNat c), ())) fun (y : Bool × Unit) => j13 text line i y.1 t3 t3_2 out t t_2 t_3 t_4 t_5 else j13 text line i false t3 t3_2 out t t_2 t_3 t_4 t_5 else j13 text line i false t3 t3_2 out t t_2 t_3 t_4 t_5
def qdt_ (j14 : List UInt8 -> Int -> Int -> Int -> Int -> List QAT4 -> Int -> List UInt8 -> Int -> Int -> Int -> Option (As [.sl QAT1, .pr (.int .i64) (.int .i64)])) (self1 : List UInt8 -> Int -> Bool -> Int -> Int -> Int -> List QAT4 -> Option (As [.sl QAT1, .pr (.int .i64) (.int .i64)])) (self12 : List UInt8 -> Int -> Int -> Int -> Int -> List QAT4 -> Int -> List UInt8 -> Int -> Int -> Int -> Option (As [.sl QAT1, .pr (.int .i64) (.int .i64)])) (text : List UInt8) (line i : Int) (t110 : Bool) (t3 t3_2 : Int) (out : List QAT4) (t : Int) (t_2 : List UInt8) (t_3 t_4 t_5 : Int) : Option (As [.sl QAT1, .pr (.int .i64) (.int .i64)]) :=
  if t110 = true then Option.bind (cut text (add .i64 i 1) (add .i64 (add .i64 i 1) 1)) fun (y : List UInt8) => need (small (List.length t_2 + List.length y)) (self12 text line (add .i64 i 1) t3 t3_2 out t (t_2 ++ y) t_3 t_4 t_5) else j14 text line i t3 t3_2 out t t_2 t_3 t_4 t_5
def qao_ (j15 : List UInt8 -> Int -> Int -> Bool -> Int -> Int -> List QAT4 -> Int -> List UInt8 -> Int -> Int -> Int -> Option (As [.sl QAT1, .pr (.int .i64) (.int .i64)])) (self1 : List UInt8 -> Int -> Bool -> Int -> Int -> Int -> List QAT4 -> Option (As [.sl QAT1, .pr (.int .i64) (.int .i64)])) (text : List UInt8) (line i t3 t3_2 : Int) (out : List QAT4) (t : Int) (t_2 : List UInt8) (t_3 t_4 t_5 : Int) : Option (As [.sl QAT1, .pr (.int .i64) (.int .i64)]) :=
  if eqi t 1 = true then j15 text line i (gt (Int.ofNat (List.length t_2)) 20) t3 t3_2 out t t_2 t_3 t_4 t_5 else j15 text line i false t3 t3_2 out t t_2 t_3 t_4 t_5
def qau_ (j16 : List UInt8 -> Int -> Int -> Int -> Int -> List QAT4 -> Int -> List UInt8 -> Int -> Int -> Int -> Option (As [.sl QAT1, .pr (.int .i64) (.int .i64)])) (self1 : List UInt8 -> Int -> Bool -> Int -> Int -> Int -> List QAT4 -> Option (As [.sl QAT1, .pr (.int .i64) (.int .i64)])) (text : List UInt8) (line i : Int) (t130 : Bool) (t3 t3_2 : Int) (out : List QAT4) (t : Int) (t_2 : List UInt8) (t_3 t_4 t_5 : Int) : Option (As [.sl QAT1, .pr (.int .i64) (.int .i64)]) :=
  if t130 = true then some ([], (133, line), ()) else if eqi t 2 = true then Option.bind (qdj_ (t_2, ())) fun (y : (Int × Int) × Bool × Unit) => if (!y.2.1) = true then some ([], (132, line), ()) else j16 text line i t3 t3_2 out t t_2 y.1.1 y.1.2 t_5 else j16 text line i t3 t3_2 out t t_2 t_3 t_4 t_5
def qh5_ (j7 self1 : List UInt8 -> Int -> Bool -> Int -> Int -> Int -> List QAT4 -> Option (As [.sl QAT1, .pr (.int .i64) (.int .i64)])) (text : List UInt8) (line i t3 t3_2 : Int) (out : List QAT4) (t : Int) (t_2 : List UInt8) (t_3 t_4 t_5 : Int) : Option (As [.sl QAT1, .pr (.int .i64) (.int .i64)]) :=
  need (small (List.length out + Nat.succ 0)) (j7 text line true i t3 t3_2 (out ++ [(t, t_2, (t_3, t_4), t_5)]))
def qfi_ (j1 : List UInt8 -> Int -> Bool -> Int -> Int -> Int -> List QAT4 -> Option (As [.sl QAT1, .pr (.int .i64) (.int .i64)])) (text : List UInt8) : Option (As [.sl QAT1, .pr (.int .i64) (.int .i64)]) :=
  if gt (Int.ofNat (List.length text)) 8192 = true then some ([], (130, 0), ()) else j1 text 1 false 0 0 0 []
def q3c_ (u1 : List UInt8 -> Int -> Bool -> Int -> Int -> Int -> List QAT4 -> Option (As [.sl QAT1, .pr (.int .i64) (.int .i64)])) (text : List UInt8) (line : Int) (some' : Bool) (i t3 t3_2 : Int) (out : List QAT4) : Option (As [.sl QAT1, .pr (.int .i64) (.int .i64)]) := q9d_ u1 text line some' i t3 t3_2 out
def qbk_ (u1 : List UInt8 -> Int -> Bool -> Int -> Int -> Int -> List QAT4 -> Option (As [.sl QAT1, .pr (.int .i64) (.int .i64)])) (text : List UInt8) (line i t3 t3_2 : Int) (out : List QAT4) : Option (As [.sl QAT1, .pr (.int .i64) (.int .i64)]) := qhq_ (q3c_ u1) u1 text line i t3 t3_2 out
def q7w_ (u1 u5 : List UInt8 -> Int -> Bool -> Int -> Int -> Int -> List QAT4 -> Option (As [.sl QAT1, .pr (.int .i64) (.int .i64)])) (text : List UInt8) (line : Int) (some' : Bool) (i : Int) (t56 : Bool) (t3 t3_2 : Int) (out : List QAT4) : Option (As [.sl QAT1, .pr (.int .i64) (.int .i64)]) := qfh_ (q3c_ u1) u1 u5 text line some' i t56 t3 t3_2 out
def qhr_ (u1 : List UInt8 -> Int -> Bool -> Int -> Int -> Int -> List QAT4 -> Option (As [.sl QAT1, .pr (.int .i64) (.int .i64)])) (text : List UInt8) (line : Int) (some' : Bool) (i t3 t3_2 : Int) (out : List QAT4) : Option (As [.sl QAT1, .pr (.int .i64) (.int .i64)]) :=
  loopF (fun (self : (List UInt8) × (Int) × (Bool) × (Int) × (Int) × (Int) × (List QAT4) -> Option (As [.sl QAT1, .pr (.int .i64) (.int .i64)])) (s : (List UInt8) × (Int) × (Bool) × (Int) × (Int) × (Int) × (List QAT4)) => qfb_ (q7w_ u1 (fun text line some' i t3 t3_2 out => self (text, line, some', i, t3, t3_2, out))) u1 (fun text line some' i t3 t3_2 out => self (text, line, some', i, t3, t3_2, out)) s.1 s.2.1 s.2.2.1 s.2.2.2.1 s.2.2.2.2.1 s.2.2.2.2.2.1 s.2.2.2.2.2.2) 18446744073709551616 (text, line, some', i, t3, t3_2, out)
def qan_ (u1 : List UInt8 -> Int -> Bool -> Int -> Int -> Int -> List QAT4 -> Option (As [.sl QAT1, .pr (.int .i64) (.int .i64)])) (text : List UInt8) (line i t3 t3_2 : Int) (out : List QAT4) (t : Int) (t_2 : List UInt8) (t_3 t_4 t_5 : Int) : Option (As [.sl QAT1, .pr (.int .i64) (.int .i64)]) := qh5_ (q3c_ u1) u1 text line i t3 t3_2 out t t_2 t_3 t_4 t_5
def q8h_ (u1 : List UInt8 -> Int -> Bool -> Int -> Int -> Int -> List QAT4 -> Option (As [.sl QAT1, .pr (.int .i64) (.int .i64)])) (text : List UInt8) (line i : Int) (t130 : Bool) (t3 t3_2 : Int) (out : List QAT4) (t : Int) (t_2 : List UInt8) (t_3 t_4 t_5 : Int) : Option (As [.sl QAT1, .pr (.int .i64) (.int .i64)]) := qau_ (qan_ u1) u1 text line i t130 t3 t3_2 out t t_2 t_3 t_4 t_5
def q4d_ (u1 : List UInt8 -> Int -> Bool -> Int -> Int -> Int -> List QAT4 -> Option (As [.sl QAT1, .pr (.int .i64) (.int .i64)])) (text : List UInt8) (line i t3 t3_2 : Int) (out : List QAT4) (t : Int) (t_2 : List UInt8) (t_3 t_4 t_5 : Int) : Option (As [.sl QAT1, .pr (.int .i64) (.int .i64)]) := qao_ (q8h_ u1) u1 text line i t3 t3_2 out t t_2 t_3 t_4 t_5
def q6j_ (u1 : List UInt8 -> Int -> Bool -> Int -> Int -> Int -> List QAT4 -> Option (As [.sl QAT1, .pr (.int .i64) (.int .i64)])) (u12 : List UInt8 -> Int -> Int -> Int -> Int -> List QAT4 -> Int -> List UInt8 -> Int -> Int -> Int -> Option (As [.sl QAT1, .pr (.int .i64) (.int .i64)])) (text : List UInt8) (line i : Int) (t110 : Bool) (t3 t3_2 : Int) (out : List QAT4) (t : Int) (t_2 : List UInt8) (t_3 t_4 t_5 : Int) : Option (As [.sl QAT1, .pr (.int .i64) (.int .i64)]) := qdt_ (q4d_ u1) u1 u12 text line i t110 t3 t3_2 out t t_2 t_3 t_4 t_5
def qh4_ (u1 : List UInt8 -> Int -> Bool -> Int -> Int -> Int -> List QAT4 -> Option (As [.sl QAT1, .pr (.int .i64) (.int .i64)])) (text : List UInt8) (line i t3 t3_2 : Int) (out : List QAT4) (t : Int) (t_2 : List UInt8) (t_3 t_4 t_5 : Int) : Option (As [.sl QAT1, .pr (.int .i64) (.int .i64)]) :=
  loopF (fun (self : (List UInt8) × (Int) × (Int) × (Int) × (Int) × (List QAT4) × (Int) × (List UInt8) × (Int) × (Int) × (Int) -> Option (As [.sl QAT1, .pr (.int .i64) (.int .i64)])) (s : (List UInt8) × (Int) × (Int) × (Int) × (Int) × (List QAT4) × (Int) × (List UInt8) × (Int) × (Int) × (Int)) => qea_ (q6j_ u1 (fun text line i t3 t3_2 out t t_2 t_3 t_4 t_5 => self (text, line, i, t3, t3_2, out, t, t_2, t_3, t_4, t_5))) u1 (fun text line i t3 t3_2 out t t_2 t_3 t_4 t_5 => self (text, line, i, t3, t3_2, out, t, t_2, t_3, t_4, t_5)) s.1 s.2.1 s.2.2.1 s.2.2.2.1 s.2.2.2.2.1 s.2.2.2.2.2.1 s.2.2.2.2.2.2.1 s.2.2.2.2.2.2.2.1 s.2.2.2.2.2.2.2.2.1 s.2.2.2.2.2.2.2.2.2.1 s.2.2.2.2.2.2.2.2.2.2) 18446744073709551616 (text, line, i, t3, t3_2, out, t, t_2, t_3, t_4, t_5)
def q6o_ (u1 : List UInt8 -> Int -> Bool -> Int -> Int -> Int -> List QAT4 -> Option (As [.sl QAT1, .pr (.int .i64) (.int .i64)])) (text : List UInt8) (line i t3 t3_2 : Int) (out : List QAT4) (t : Int) (t_2 : List UInt8) (t_3 t_4 t_5 : Int) : Option (As [.sl QAT1, .pr (.int .i64) (.int .i64)]) := qgw_ (qh4_ u1) u1 text line i t3 t3_2 out t t_2 t_3 t_4 t_5
def q6m_ (u1 : List UInt8 -> Int -> Bool -> Int -> Int -> Int -> List QAT4 -> Option (As [.sl QAT1, .pr (.int .i64) (.int .i64)])) (text : List UInt8) (line i c : Int) (t79 : Bool) (t3 t3_2 : Int) (out : List QAT4) (t : Int) (t_2 : List UInt8) (t_3 t_4 t_5 : Int) : Option (As [.sl QAT1, .pr (.int .i64) (.int .i64)]) := qe8_ (q6o_ u1) u1 text line i c t79 t3 t3_2 out t t_2 t_3 t_4 t_5
def q9b_ (u1 : List UInt8 -> Int -> Bool -> Int -> Int -> Int -> List QAT4 -> Option (As [.sl QAT1, .pr (.int .i64) (.int .i64)])) (text : List UInt8) (line : Int) (some' : Bool) (i c : Int) (t68 : Bool) (t3 t3_2 : Int) (out : List QAT4) : Option (As [.sl QAT1, .pr (.int .i64) (.int .i64)]) := qfn_ (q3c_ u1) (q6o_ u1) (q6m_ u1) u1 text line some' i c t68 t3 t3_2 out
def qf4_ (u1 : List UInt8 -> Int -> Bool -> Int -> Int -> Int -> List QAT4 -> Option (As [.sl QAT1, .pr (.int .i64) (.int .i64)])) (text : List UInt8) (line : Int) (some' : Bool) (i c t3 t3_2 : Int) (out : List QAT4) : Option (As [.sl QAT1, .pr (.int .i64) (.int .i64)]) := qhk_ (q9b_ u1) u1 text line some' i c t3 t3_2 out
def q7r_ (u1 : List UInt8 -> Int -> Bool -> Int -> Int -> Int -> List QAT4 -> Option (As [.sl QAT1, .pr (.int .i64) (.int .i64)])) (text : List UInt8) (line : Int) (some' : Bool) (i : Int) (t31 : Bool) (t3 t3_2 : Int) (out : List QAT4) : Option (As [.sl QAT1, .pr (.int .i64) (.int .i64)]) := qf5_ (qbk_ u1) (qhr_ u1) (qf4_ u1) u1 text line some' i t31 t3 t3_2 out
def qfd_ (t3 t3_2 : Int) (out : List QAT4) : Option (As [.sl QAT1, .pr (.int .i64) (.int .i64)]) := qj9_ t3 t3_2 out
def qfc_ (text : List UInt8) (line : Int) (some' : Bool) (i t3 t3_2 : Int) (out : List QAT4) : Option (As [.sl QAT1, .pr (.int .i64) (.int .i64)]) :=
  loopF (fun (self : (List UInt8) × (Int) × (Bool) × (Int) × (Int) × (Int) × (List QAT4) -> Option (As [.sl QAT1, .pr (.int .i64) (.int .i64)])) (s : (List UInt8) × (Int) × (Bool) × (Int) × (Int) × (Int) × (List QAT4)) => qbn_ (q7r_ (fun text line some' i t3 t3_2 out => self (text, line, some', i, t3, t3_2, out))) (qfd_) (fun text line some' i t3 t3_2 out => self (text, line, some', i, t3, t3_2, out)) s.1 s.2.1 s.2.2.1 s.2.2.2.1 s.2.2.2.2.1 s.2.2.2.2.2.1 s.2.2.2.2.2.2) 18446744073709551616 (text, line, some', i, t3, t3_2, out)
def qeu_ (x : As [.str]) : Option (As [.sl QAT1, .pr (.int .i64) (.int .i64)]) := qfi_ qfc_ x.1
theorem qqo_  (J w1 text line some' i t3 t3_2 out) : pfn Tryz.prog q5_ 6 18446744073709551616 (Ev.get q6_) 43 q4_ J 2025 [w1] (q4r_ text line some' i t3 t3_2 out) = q9d_ (fun text line some' i t3 t3_2 out => w1 (q3_ text line some' i t3 t3_2 out)) text line some' i t3 t3_2 out := by kernel_rfl
theorem qrb_  (J w1 text line i t3 t3_2 out) : pfn Tryz.prog q5_ 6 18446744073709551616 (Ev.get q6_) 43 q4_ J 64802 [w1] (qf0_ text line i t3 t3_2 out) = qhq_ (fun text line some' i t3 t3_2 out => J 2025 [w1] (q4r_ text line some' i t3 t3_2 out)) (fun text line some' i t3 t3_2 out => w1 (q3_ text line some' i t3 t3_2 out)) text line i t3 t3_2 out := by kernel_rfl
theorem qrl_  (J w1 w5 text line some' i t56 t3 t3_2 out) : pfn Tryz.prog q5_ 6 18446744073709551616 (Ev.get q6_) 43 q4_ J 4147616 [w1, w5] (qfl_ text line some' i t56 t3 t3_2 out) = qfh_ (fun text line some' i t3 t3_2 out => J 2025 [w1] (q4r_ text line some' i t3 t3_2 out)) (fun text line some' i t3 t3_2 out => w1 (q3_ text line some' i t3 t3_2 out)) (fun text line some' i t3 t3_2 out => w5 (q5e_ text line some' i t3 t3_2 out)) text line some' i t56 t3 t3_2 out := by kernel_rfl
theorem qqq_  (J w1 w5 text line some' i t3 t3_2 out) : pfn Tryz.prog q5_ 6 18446744073709551616 (Ev.get q6_) 43 q4_ J 1036904 [w1, w5] (q5e_ text line some' i t3 t3_2 out) = qfb_ (fun text line some' i t56 t3 t3_2 out => J 4147616 [w1, w5] (qfl_ text line some' i t56 t3 t3_2 out)) (fun text line some' i t3 t3_2 out => w1 (q3_ text line some' i t3 t3_2 out)) (fun text line some' i t3 t3_2 out => w5 (q5e_ text line some' i t3 t3_2 out)) text line some' i t3 t3_2 out := by kernel_rfl
theorem qpe_  (J w1 text line i t3 t3_2 out t t_2 t_3 t_4 t_5) : pfn Tryz.prog q5_ 6 18446744073709551616 (Ev.get q6_) 43 q4_ J 4147711 [w1] (qe5_ text line i t3 t3_2 out t t_2 t_3 t_4 t_5) = qh5_ (fun text line some' i t3 t3_2 out => J 2025 [w1] (q4r_ text line some' i t3 t3_2 out)) (fun text line some' i t3 t3_2 out => w1 (q3_ text line some' i t3 t3_2 out)) text line i t3 t3_2 out t t_2 t_3 t_4 t_5 := by kernel_rfl
theorem qow_  (J w1 text line i t130 t3 t3_2 out t t_2 t_3 t_4 t_5) : pfn Tryz.prog q5_ 6 18446744073709551616 (Ev.get q6_) 43 q4_ J 4147710 [w1] (qdy_ text line i t130 t3 t3_2 out t t_2 t_3 t_4 t_5) = qau_ (fun text line i t3 t3_2 out t t_2 t_3 t_4 t_5 => J 4147711 [w1] (qe5_ text line i t3 t3_2 out t t_2 t_3 t_4 t_5)) (fun text line some' i t3 t3_2 out => w1 (q3_ text line some' i t3 t3_2 out)) text line i t130 t3 t3_2 out t t_2 t_3 t_4 t_5 := by kernel_rfl
theorem qpl_  (J w1 text line i t3 t3_2 out t t_2 t_3 t_4 t_5) : pfn Tryz.prog q5_ 6 18446744073709551616 (Ev.get q6_) 43 q4_ J 1036927 [w1] (qed_ text line i t3 t3_2 out t t_2 t_3 t_4 t_5) = qao_ (fun text line i t130 t3 t3_2 out t t_2 t_3 t_4 t_5 => J 4147710 [w1] (qdy_ text line i t130 t3 t3_2 out t t_2 t_3 t_4 t_5)) (fun text line some' i t3 t3_2 out => w1 (q3_ text line some' i t3 t3_2 out)) text line i t3 t3_2 out t t_2 t_3 t_4 t_5 := by kernel_rfl
theorem qqi_  (J w1 w12 text line i t110 t3 t3_2 out t t_2 t_3 t_4 t_5) : pfn Tryz.prog q5_ 6 18446744073709551616 (Ev.get q6_) 43 q4_ J 16590832 [w1, w12] (qe3_ text line i t110 t3 t3_2 out t t_2 t_3 t_4 t_5) = qdt_ (fun text line i t3 t3_2 out t t_2 t_3 t_4 t_5 => J 1036927 [w1] (qed_ text line i t3 t3_2 out t t_2 t_3 t_4 t_5)) (fun text line some' i t3 t3_2 out => w1 (q3_ text line some' i t3 t3_2 out)) (fun text line i t3 t3_2 out t t_2 t_3 t_4 t_5 => w12 (q4x_ text line i t3 t3_2 out t t_2 t_3 t_4 t_5)) text line i t110 t3 t3_2 out t t_2 t_3 t_4 t_5 := by kernel_rfl
theorem qp4_  (J w1 w12 text line i t3 t3_2 out t t_2 t_3 t_4 t_5) : pfn Tryz.prog q5_ 6 18446744073709551616 (Ev.get q6_) 43 q4_ J 4147708 [w1, w12] (q4x_ text line i t3 t3_2 out t t_2 t_3 t_4 t_5) = qea_ (fun text line i t110 t3 t3_2 out t t_2 t_3 t_4 t_5 => J 16590832 [w1, w12] (qe3_ text line i t110 t3 t3_2 out t t_2 t_3 t_4 t_5)) (fun text line some' i t3 t3_2 out => w1 (q3_ text line some' i t3 t3_2 out)) (fun text line i t3 t3_2 out t t_2 t_3 t_4 t_5 => w12 (q4x_ text line i t3 t3_2 out t t_2 t_3 t_4 t_5)) text line i t3 t3_2 out t t_2 t_3 t_4 t_5 := by kernel_rfl
theorem qp6_  (J w1 text line i t3 t3_2 out t t_2 t_3 t_4 t_5) : pfn Tryz.prog q5_ 6 18446744073709551616 (Ev.get q6_) 43 q4_ J 259231 [w1] (q8g_ text line i t3 t3_2 out t t_2 t_3 t_4 t_5) = qgw_ (fun text line i t3 t3_2 out t t_2 t_3 t_4 t_5 => J 4147708 [w1] (q4x_ text line i t3 t3_2 out t t_2 t_3 t_4 t_5)) (fun text line some' i t3 t3_2 out => w1 (q3_ text line some' i t3 t3_2 out)) text line i t3 t3_2 out t t_2 t_3 t_4 t_5 := by kernel_rfl
theorem qpa_  (J w1 text line i c t79 t3 t3_2 out t t_2 t_3 t_4 t_5) : pfn Tryz.prog q5_ 6 18446744073709551616 (Ev.get q6_) 43 q4_ J 2073851 [w1] (qe7_ text line i c t79 t3 t3_2 out t t_2 t_3 t_4 t_5) = qe8_ (fun text line i t3 t3_2 out t t_2 t_3 t_4 t_5 => J 259231 [w1] (q8g_ text line i t3 t3_2 out t t_2 t_3 t_4 t_5)) (fun text line some' i t3 t3_2 out => w1 (q3_ text line some' i t3 t3_2 out)) text line i c t79 t3 t3_2 out t t_2 t_3 t_4 t_5 := by kernel_rfl
theorem qr2_  (J w1 text line some' i c t68 t3 t3_2 out) : pfn Tryz.prog q5_ 6 18446744073709551616 (Ev.get q6_) 43 q4_ J 129614 [w1] (qfj_ text line some' i c t68 t3 t3_2 out) = qfn_ (fun text line some' i t3 t3_2 out => J 2025 [w1] (q4r_ text line some' i t3 t3_2 out)) (fun text line i t3 t3_2 out t t_2 t_3 t_4 t_5 => J 259231 [w1] (q8g_ text line i t3 t3_2 out t t_2 t_3 t_4 t_5)) (fun text line i c t79 t3 t3_2 out t t_2 t_3 t_4 t_5 => J 2073851 [w1] (qe7_ text line i c t79 t3 t3_2 out t t_2 t_3 t_4 t_5)) (fun text line some' i t3 t3_2 out => w1 (q3_ text line some' i t3 t3_2 out)) text line some' i c t68 t3 t3_2 out := by kernel_rfl
theorem qqy_  (J w1 text line some' i c t3 t3_2 out) : pfn Tryz.prog q5_ 6 18446744073709551616 (Ev.get q6_) 43 q4_ J 32403 [w1] (qfk_ text line some' i c t3 t3_2 out) = qhk_ (fun text line some' i c t68 t3 t3_2 out => J 129614 [w1] (qfj_ text line some' i c t68 t3 t3_2 out)) (fun text line some' i t3 t3_2 out => w1 (q3_ text line some' i t3 t3_2 out)) text line some' i c t3 t3_2 out := by kernel_rfl
theorem qrd_  (J w1 text line some' i t31 t3 t3_2 out) : pfn Tryz.prog q5_ 6 18446744073709551616 (Ev.get q6_) 43 q4_ J 16200 [w1] (qfa_ text line some' i t31 t3 t3_2 out) = qf5_ (fun text line i t3 t3_2 out => J 64802 [w1] (qf0_ text line i t3 t3_2 out)) (fun text line some' i t3 t3_2 out => J 1036904 [w1] (q5e_ text line some' i t3 t3_2 out)) (fun text line some' i c t3 t3_2 out => J 32403 [w1] (qfk_ text line some' i c t3 t3_2 out)) (fun text line some' i t3 t3_2 out => w1 (q3_ text line some' i t3 t3_2 out)) text line some' i t31 t3 t3_2 out := by kernel_rfl
theorem qqp_  (J t3 t3_2 out) : pfn Tryz.prog q5_ 6 18446744073709551616 (Ev.get q6_) 43 q4_ J 63 [] (qf1_ t3 t3_2 out) = qj9_ t3 t3_2 out := by kernel_rfl
theorem qqm_  (J w1 text line some' i t3 t3_2 out) : pfn Tryz.prog q5_ 6 18446744073709551616 (Ev.get q6_) 43 q4_ J 506 [w1] (q3_ text line some' i t3 t3_2 out) = qbn_ (fun text line some' i t31 t3 t3_2 out => J 16200 [w1] (qfa_ text line some' i t31 t3 t3_2 out)) (fun t3 t3_2 out => J 63 [] (qf1_ t3 t3_2 out)) (fun text line some' i t3 t3_2 out => w1 (q3_ text line some' i t3 t3_2 out)) text line some' i t3 t3_2 out := by kernel_rfl
theorem qqz_ (J : Orc (As [.sl QAT1, .pr (.int .i64) (.int .i64)])) (x : As [.str]) : rfn Tryz.prog q5_ 6 18446744073709551616 (Ev.get q6_) 43 q4_ J x = qfi_ (fun text line some' i t3 t3_2 out => J 506 [] (q3_ text line some' i t3 t3_2 out)) x.1 := by kernel_rfl
theorem qey_  (w1 text line some' i t3 t3_2 out) : jfn Tryz.prog q5_ 6 18446744073709551616 (Ev.get q6_) 43 q4_ 2025 [w1] (q4r_ text line some' i t3 t3_2 out) = q3c_ (fun text line some' i t3 t3_2 out => w1 (q3_ text line some' i t3 t3_2 out)) text line some' i t3 t3_2 out := by
  rw [q2_ (by decide)]
  rw [qqo_]
  rfl
theorem qql_  (w1 text line i t3 t3_2 out) : jfn Tryz.prog q5_ 6 18446744073709551616 (Ev.get q6_) 43 q4_ 64802 [w1] (qf0_ text line i t3 t3_2 out) = qbk_ (fun text line some' i t3 t3_2 out => w1 (q3_ text line some' i t3 t3_2 out)) text line i t3 t3_2 out := by
  rw [q2_ (by decide)]
  have e7 : (fun text line some' i t3 t3_2 out => (jfn Tryz.prog q5_ 6 18446744073709551616 (Ev.get q6_) 43 q4_) 2025 [w1] (q4r_ text line some' i t3 t3_2 out)) = q3c_ (fun text line some' i t3 t3_2 out => w1 (q3_ text line some' i t3 t3_2 out)) := by funext text line some' i t3 t3_2 out; exact qey_ w1 text line some' i t3 t3_2 out
  rw [qrb_, e7]
  rfl
theorem qr3_  (w1 w5 text line some' i t56 t3 t3_2 out) : jfn Tryz.prog q5_ 6 18446744073709551616 (Ev.get q6_) 43 q4_ 4147616 [w1, w5] (qfl_ text line some' i t56 t3 t3_2 out) = q7w_ (fun text line some' i t3 t3_2 out => w1 (q3_ text line some' i t3 t3_2 out)) (fun text line some' i t3 t3_2 out => w5 (q5e_ text line some' i t3 t3_2 out)) text line some' i t56 t3 t3_2 out := by
  rw [q2_ (by decide)]
  have e7 : (fun text line some' i t3 t3_2 out => (jfn Tryz.prog q5_ 6 18446744073709551616 (Ev.get q6_) 43 q4_) 2025 [w1] (q4r_ text line some' i t3 t3_2 out)) = q3c_ (fun text line some' i t3 t3_2 out => w1 (q3_ text line some' i t3 t3_2 out)) := by funext text line some' i t3 t3_2 out; exact qey_ w1 text line some' i t3 t3_2 out
  rw [qrl_, e7]
  rfl
theorem qr0_  (w1 text line some' i t3 t3_2 out) : jfn Tryz.prog q5_ 6 18446744073709551616 (Ev.get q6_) 43 q4_ 1036904 [w1] (q5e_ text line some' i t3 t3_2 out) = qhr_ (fun text line some' i t3 t3_2 out => w1 (q3_ text line some' i t3 t3_2 out)) text line some' i t3 t3_2 out := by
  rw [q2_ (by decide)]
  rw [qm_ (by kernel_rfl)]
  refine qj_ (σ := (List UInt8) × (Int) × (Bool) × (Int) × (Int) × (Int) × (List QAT4)) (mk := fun s => q5e_ s.1 s.2.1 s.2.2.1 s.2.2.2.1 s.2.2.2.2.1 s.2.2.2.2.2.1 s.2.2.2.2.2.2) (fun w5 s => ?_) 18446744073709551616 (text, line, some', i, t3, t3_2, out)
  have e8 : (fun text line some' i t56 t3 t3_2 out => (jfn Tryz.prog q5_ 6 18446744073709551616 (Ev.get q6_) 43 q4_) 4147616 [w1, w5] (qfl_ text line some' i t56 t3 t3_2 out)) = q7w_ (fun text line some' i t3 t3_2 out => w1 (q3_ text line some' i t3 t3_2 out)) (fun text line some' i t3 t3_2 out => w5 (q5e_ text line some' i t3 t3_2 out)) := by funext text line some' i t56 t3 t3_2 out; exact qr3_ w1 w5 text line some' i t56 t3 t3_2 out
  refine (qqq_ _ w1 w5 s.1 s.2.1 s.2.2.1 s.2.2.2.1 s.2.2.2.2.1 s.2.2.2.2.2.1 s.2.2.2.2.2.2).trans ?_
  rw [e8]
theorem qph_  (w1 text line i t3 t3_2 out t t_2 t_3 t_4 t_5) : jfn Tryz.prog q5_ 6 18446744073709551616 (Ev.get q6_) 43 q4_ 4147711 [w1] (qe5_ text line i t3 t3_2 out t t_2 t_3 t_4 t_5) = qan_ (fun text line some' i t3 t3_2 out => w1 (q3_ text line some' i t3 t3_2 out)) text line i t3 t3_2 out t t_2 t_3 t_4 t_5 := by
  rw [q2_ (by decide)]
  have e7 : (fun text line some' i t3 t3_2 out => (jfn Tryz.prog q5_ 6 18446744073709551616 (Ev.get q6_) 43 q4_) 2025 [w1] (q4r_ text line some' i t3 t3_2 out)) = q3c_ (fun text line some' i t3 t3_2 out => w1 (q3_ text line some' i t3 t3_2 out)) := by funext text line some' i t3 t3_2 out; exact qey_ w1 text line some' i t3 t3_2 out
  rw [qpe_, e7]
  rfl
theorem qpn_  (w1 text line i t130 t3 t3_2 out t t_2 t_3 t_4 t_5) : jfn Tryz.prog q5_ 6 18446744073709551616 (Ev.get q6_) 43 q4_ 4147710 [w1] (qdy_ text line i t130 t3 t3_2 out t t_2 t_3 t_4 t_5) = q8h_ (fun text line some' i t3 t3_2 out => w1 (q3_ text line some' i t3 t3_2 out)) text line i t130 t3 t3_2 out t t_2 t_3 t_4 t_5 := by
  rw [q2_ (by decide)]
  have e16 : (fun text line i t3 t3_2 out t t_2 t_3 t_4 t_5 => (jfn Tryz.prog q5_ 6 18446744073709551616 (Ev.get q6_) 43 q4_) 4147711 [w1] (qe5_ text line i t3 t3_2 out t t_2 t_3 t_4 t_5)) = qan_ (fun text line some' i t3 t3_2 out => w1 (q3_ text line some' i t3 t3_2 out)) := by funext text line i t3 t3_2 out t t_2 t_3 t_4 t_5; exact qph_ w1 text line i t3 t3_2 out t t_2 t_3 t_4 t_5
  rw [qow_, e16]
  rfl
theorem qp3_  (w1 text line i t3 t3_2 out t t_2 t_3 t_4 t_5) : jfn Tryz.prog q5_ 6 18446744073709551616 (Ev.get q6_) 43 q4_ 1036927 [w1] (qed_ text line i t3 t3_2 out t t_2 t_3 t_4 t_5) = q4d_ (fun text line some' i t3 t3_2 out => w1 (q3_ text line some' i t3 t3_2 out)) text line i t3 t3_2 out t t_2 t_3 t_4 t_5 := by
  rw [q2_ (by decide)]
  have e15 : (fun text line i t130 t3 t3_2 out t t_2 t_3 t_4 t_5 => (jfn Tryz.prog q5_ 6 18446744073709551616 (Ev.get q6_) 43 q4_) 4147710 [w1] (qdy_ text line i t130 t3 t3_2 out t t_2 t_3 t_4 t_5)) = q8h_ (fun text line some' i t3 t3_2 out => w1 (q3_ text line some' i t3 t3_2 out)) := by funext text line i t130 t3 t3_2 out t t_2 t_3 t_4 t_5; exact qpn_ w1 text line i t130 t3 t3_2 out t t_2 t_3 t_4 t_5
  rw [qpl_, e15]
  rfl
theorem qpb_  (w1 w12 text line i t110 t3 t3_2 out t t_2 t_3 t_4 t_5) : jfn Tryz.prog q5_ 6 18446744073709551616 (Ev.get q6_) 43 q4_ 16590832 [w1, w12] (qe3_ text line i t110 t3 t3_2 out t t_2 t_3 t_4 t_5) = q6j_ (fun text line some' i t3 t3_2 out => w1 (q3_ text line some' i t3 t3_2 out)) (fun text line i t3 t3_2 out t t_2 t_3 t_4 t_5 => w12 (q4x_ text line i t3 t3_2 out t t_2 t_3 t_4 t_5)) text line i t110 t3 t3_2 out t t_2 t_3 t_4 t_5 := by
  rw [q2_ (by decide)]
  have e14 : (fun text line i t3 t3_2 out t t_2 t_3 t_4 t_5 => (jfn Tryz.prog q5_ 6 18446744073709551616 (Ev.get q6_) 43 q4_) 1036927 [w1] (qed_ text line i t3 t3_2 out t t_2 t_3 t_4 t_5)) = q4d_ (fun text line some' i t3 t3_2 out => w1 (q3_ text line some' i t3 t3_2 out)) := by funext text line i t3 t3_2 out t t_2 t_3 t_4 t_5; exact qp3_ w1 text line i t3 t3_2 out t t_2 t_3 t_4 t_5
  rw [qqi_, e14]
  rfl
theorem qp1_  (w1 text line i t3 t3_2 out t t_2 t_3 t_4 t_5) : jfn Tryz.prog q5_ 6 18446744073709551616 (Ev.get q6_) 43 q4_ 4147708 [w1] (q4x_ text line i t3 t3_2 out t t_2 t_3 t_4 t_5) = qh4_ (fun text line some' i t3 t3_2 out => w1 (q3_ text line some' i t3 t3_2 out)) text line i t3 t3_2 out t t_2 t_3 t_4 t_5 := by
  rw [q2_ (by decide)]
  rw [qm_ (by kernel_rfl)]
  refine qj_ (σ := (List UInt8) × (Int) × (Int) × (Int) × (Int) × (List QAT4) × (Int) × (List UInt8) × (Int) × (Int) × (Int)) (mk := fun s => q4x_ s.1 s.2.1 s.2.2.1 s.2.2.2.1 s.2.2.2.2.1 s.2.2.2.2.2.1 s.2.2.2.2.2.2.1 s.2.2.2.2.2.2.2.1 s.2.2.2.2.2.2.2.2.1 s.2.2.2.2.2.2.2.2.2.1 s.2.2.2.2.2.2.2.2.2.2) (fun w12 s => ?_) 18446744073709551616 (text, line, i, t3, t3_2, out, t, t_2, t_3, t_4, t_5)
  have e13 : (fun text line i t110 t3 t3_2 out t t_2 t_3 t_4 t_5 => (jfn Tryz.prog q5_ 6 18446744073709551616 (Ev.get q6_) 43 q4_) 16590832 [w1, w12] (qe3_ text line i t110 t3 t3_2 out t t_2 t_3 t_4 t_5)) = q6j_ (fun text line some' i t3 t3_2 out => w1 (q3_ text line some' i t3 t3_2 out)) (fun text line i t3 t3_2 out t t_2 t_3 t_4 t_5 => w12 (q4x_ text line i t3 t3_2 out t t_2 t_3 t_4 t_5)) := by funext text line i t110 t3 t3_2 out t t_2 t_3 t_4 t_5; exact qpb_ w1 w12 text line i t110 t3 t3_2 out t t_2 t_3 t_4 t_5
  refine (qp4_ _ w1 w12 s.1 s.2.1 s.2.2.1 s.2.2.2.1 s.2.2.2.2.1 s.2.2.2.2.2.1 s.2.2.2.2.2.2.1 s.2.2.2.2.2.2.2.1 s.2.2.2.2.2.2.2.2.1 s.2.2.2.2.2.2.2.2.2.1 s.2.2.2.2.2.2.2.2.2.2).trans ?_
  rw [e13]
theorem qiy_  (w1 text line i t3 t3_2 out t t_2 t_3 t_4 t_5) : jfn Tryz.prog q5_ 6 18446744073709551616 (Ev.get q6_) 43 q4_ 259231 [w1] (q8g_ text line i t3 t3_2 out t t_2 t_3 t_4 t_5) = q6o_ (fun text line some' i t3 t3_2 out => w1 (q3_ text line some' i t3 t3_2 out)) text line i t3 t3_2 out t t_2 t_3 t_4 t_5 := by
  rw [q2_ (by decide)]
  have e12 : (fun text line i t3 t3_2 out t t_2 t_3 t_4 t_5 => (jfn Tryz.prog q5_ 6 18446744073709551616 (Ev.get q6_) 43 q4_) 4147708 [w1] (q4x_ text line i t3 t3_2 out t t_2 t_3 t_4 t_5)) = qh4_ (fun text line some' i t3 t3_2 out => w1 (q3_ text line some' i t3 t3_2 out)) := by funext text line i t3 t3_2 out t t_2 t_3 t_4 t_5; exact qp1_ w1 text line i t3 t3_2 out t t_2 t_3 t_4 t_5
  rw [qp6_, e12]
  rfl
theorem qq8_  (w1 text line i c t79 t3 t3_2 out t t_2 t_3 t_4 t_5) : jfn Tryz.prog q5_ 6 18446744073709551616 (Ev.get q6_) 43 q4_ 2073851 [w1] (qe7_ text line i c t79 t3 t3_2 out t t_2 t_3 t_4 t_5) = q6m_ (fun text line some' i t3 t3_2 out => w1 (q3_ text line some' i t3 t3_2 out)) text line i c t79 t3 t3_2 out t t_2 t_3 t_4 t_5 := by
  rw [q2_ (by decide)]
  have e10 : (fun text line i t3 t3_2 out t t_2 t_3 t_4 t_5 => (jfn Tryz.prog q5_ 6 18446744073709551616 (Ev.get q6_) 43 q4_) 259231 [w1] (q8g_ text line i t3 t3_2 out t t_2 t_3 t_4 t_5)) = q6o_ (fun text line some' i t3 t3_2 out => w1 (q3_ text line some' i t3 t3_2 out)) := by funext text line i t3 t3_2 out t t_2 t_3 t_4 t_5; exact qiy_ w1 text line i t3 t3_2 out t t_2 t_3 t_4 t_5
  rw [qpa_, e10]
  rfl
theorem qqn_  (w1 text line some' i c t68 t3 t3_2 out) : jfn Tryz.prog q5_ 6 18446744073709551616 (Ev.get q6_) 43 q4_ 129614 [w1] (qfj_ text line some' i c t68 t3 t3_2 out) = q9b_ (fun text line some' i t3 t3_2 out => w1 (q3_ text line some' i t3 t3_2 out)) text line some' i c t68 t3 t3_2 out := by
  rw [q2_ (by decide)]
  have e7 : (fun text line some' i t3 t3_2 out => (jfn Tryz.prog q5_ 6 18446744073709551616 (Ev.get q6_) 43 q4_) 2025 [w1] (q4r_ text line some' i t3 t3_2 out)) = q3c_ (fun text line some' i t3 t3_2 out => w1 (q3_ text line some' i t3 t3_2 out)) := by funext text line some' i t3 t3_2 out; exact qey_ w1 text line some' i t3 t3_2 out
  have e10 : (fun text line i t3 t3_2 out t t_2 t_3 t_4 t_5 => (jfn Tryz.prog q5_ 6 18446744073709551616 (Ev.get q6_) 43 q4_) 259231 [w1] (q8g_ text line i t3 t3_2 out t t_2 t_3 t_4 t_5)) = q6o_ (fun text line some' i t3 t3_2 out => w1 (q3_ text line some' i t3 t3_2 out)) := by funext text line i t3 t3_2 out t t_2 t_3 t_4 t_5; exact qiy_ w1 text line i t3 t3_2 out t t_2 t_3 t_4 t_5
  have e11 : (fun text line i c t79 t3 t3_2 out t t_2 t_3 t_4 t_5 => (jfn Tryz.prog q5_ 6 18446744073709551616 (Ev.get q6_) 43 q4_) 2073851 [w1] (qe7_ text line i c t79 t3 t3_2 out t t_2 t_3 t_4 t_5)) = q6m_ (fun text line some' i t3 t3_2 out => w1 (q3_ text line some' i t3 t3_2 out)) := by funext text line i c t79 t3 t3_2 out t t_2 t_3 t_4 t_5; exact qq8_ w1 text line i c t79 t3 t3_2 out t t_2 t_3 t_4 t_5
  rw [qr2_, e7, e10, e11]
  rfl
theorem qr1_  (w1 text line some' i c t3 t3_2 out) : jfn Tryz.prog q5_ 6 18446744073709551616 (Ev.get q6_) 43 q4_ 32403 [w1] (qfk_ text line some' i c t3 t3_2 out) = qf4_ (fun text line some' i t3 t3_2 out => w1 (q3_ text line some' i t3 t3_2 out)) text line some' i c t3 t3_2 out := by
  rw [q2_ (by decide)]
  have e9 : (fun text line some' i c t68 t3 t3_2 out => (jfn Tryz.prog q5_ 6 18446744073709551616 (Ev.get q6_) 43 q4_) 129614 [w1] (qfj_ text line some' i c t68 t3 t3_2 out)) = q9b_ (fun text line some' i t3 t3_2 out => w1 (q3_ text line some' i t3 t3_2 out)) := by funext text line some' i c t68 t3 t3_2 out; exact qqn_ w1 text line some' i c t68 t3 t3_2 out
  rw [qqy_, e9]
  rfl
theorem qr4_  (w1 text line some' i t31 t3 t3_2 out) : jfn Tryz.prog q5_ 6 18446744073709551616 (Ev.get q6_) 43 q4_ 16200 [w1] (qfa_ text line some' i t31 t3 t3_2 out) = q7r_ (fun text line some' i t3 t3_2 out => w1 (q3_ text line some' i t3 t3_2 out)) text line some' i t31 t3 t3_2 out := by
  rw [q2_ (by decide)]
  have e4 : (fun text line i t3 t3_2 out => (jfn Tryz.prog q5_ 6 18446744073709551616 (Ev.get q6_) 43 q4_) 64802 [w1] (qf0_ text line i t3 t3_2 out)) = qbk_ (fun text line some' i t3 t3_2 out => w1 (q3_ text line some' i t3 t3_2 out)) := by funext text line i t3 t3_2 out; exact qql_ w1 text line i t3 t3_2 out
  have e5 : (fun text line some' i t3 t3_2 out => (jfn Tryz.prog q5_ 6 18446744073709551616 (Ev.get q6_) 43 q4_) 1036904 [w1] (q5e_ text line some' i t3 t3_2 out)) = qhr_ (fun text line some' i t3 t3_2 out => w1 (q3_ text line some' i t3 t3_2 out)) := by funext text line some' i t3 t3_2 out; exact qr0_ w1 text line some' i t3 t3_2 out
  have e6 : (fun text line some' i c t3 t3_2 out => (jfn Tryz.prog q5_ 6 18446744073709551616 (Ev.get q6_) 43 q4_) 32403 [w1] (qfk_ text line some' i c t3 t3_2 out)) = qf4_ (fun text line some' i t3 t3_2 out => w1 (q3_ text line some' i t3 t3_2 out)) := by funext text line some' i c t3 t3_2 out; exact qr1_ w1 text line some' i c t3 t3_2 out
  rw [qrd_, e4, e5, e6]
  rfl
theorem qrf_  (t3 t3_2 out) : jfn Tryz.prog q5_ 6 18446744073709551616 (Ev.get q6_) 43 q4_ 63 [] (qf1_ t3 t3_2 out) = qfd_ t3 t3_2 out := by
  rw [q2_ (by decide)]
  rw [qqp_]
  rfl
theorem qri_  (text line some' i t3 t3_2 out) : jfn Tryz.prog q5_ 6 18446744073709551616 (Ev.get q6_) 43 q4_ 506 [] (q3_ text line some' i t3 t3_2 out) = qfc_ text line some' i t3 t3_2 out := by
  rw [q2_ (by decide)]
  rw [qm_ (by kernel_rfl)]
  refine qj_ (σ := (List UInt8) × (Int) × (Bool) × (Int) × (Int) × (Int) × (List QAT4)) (mk := fun s => q3_ s.1 s.2.1 s.2.2.1 s.2.2.2.1 s.2.2.2.2.1 s.2.2.2.2.2.1 s.2.2.2.2.2.2) (fun w1 s => ?_) 18446744073709551616 (text, line, some', i, t3, t3_2, out)
  have e2 : (fun text line some' i t31 t3 t3_2 out => (jfn Tryz.prog q5_ 6 18446744073709551616 (Ev.get q6_) 43 q4_) 16200 [w1] (qfa_ text line some' i t31 t3 t3_2 out)) = q7r_ (fun text line some' i t3 t3_2 out => w1 (q3_ text line some' i t3 t3_2 out)) := by funext text line some' i t31 t3 t3_2 out; exact qr4_ w1 text line some' i t31 t3 t3_2 out
  have e3 : (fun t3 t3_2 out => (jfn Tryz.prog q5_ 6 18446744073709551616 (Ev.get q6_) 43 q4_) 63 [] (qf1_ t3 t3_2 out)) = qfd_ := by funext t3 t3_2 out; exact qrf_ t3 t3_2 out
  refine (qqm_ _ w1 s.1 s.2.1 s.2.2.1 s.2.2.2.1 s.2.2.2.2.1 s.2.2.2.2.2.1 s.2.2.2.2.2.2).trans ?_
  rw [e2, e3]
theorem qrv_ (x : As [.str]) : evT Tryz.prog q5_ 6 18446744073709551616 (Ev.get q6_) 43 q4_ x = qeu_ x := by
  have e1 : (fun text line some' i t3 t3_2 out => (jfn Tryz.prog q5_ 6 18446744073709551616 (Ev.get q6_) 43 q4_) 506 [] (q3_ text line some' i t3 t3_2 out)) = qfc_ := by funext text line some' i t3 t3_2 out; exact qri_ text line some' i t3 t3_2 out
  rw [q1v_, qqz_, e1]
  rfl
theorem qje_ : CtOk Tryz.prog I0 43 ⟨q4_, qeu_⟩ := qu_ (q1_ qi0_ (q1_ qij_ (q1_ qos_ (q1_ qmu_ qa_)))) qrv_
@[reducible] def qg5_ : Sh := ⟨[.d (.int .u8)], [], [.int .u8], [.d (.bool)], [], 0, [.bool]⟩
def qkp_ (c : Int) : Option (As [.bool]) :=
  if ge c 97 = true then some (le c 122, ()) else some (false, ())
def q67_ (x : As [.int .u8]) : Option (As [.bool]) := qkp_ x.1
theorem qi1_ : CtOk Tryz.prog I0 78 ⟨qg5_, q67_⟩ := ctn qa_ 6 fun J x => by kernel_rfl
@[reducible] def qg3_ : Sh := ⟨[.d (.int .u8)], [], [.int .u8], [.d (.bool)], [], 0, [.bool]⟩
def qli_ (c : Int) : Option (As [.bool]) :=
  if ge c 48 = true then some (le c 57, ()) else some (false, ())
def q7x_ (x : As [.int .u8]) : Option (As [.bool]) := qli_ x.1
theorem qhw_ : CtOk Tryz.prog I0 79 ⟨qg3_, q7x_⟩ := ctn qa_ 6 fun J x => by kernel_rfl
@[reducible] def q1s_ : Sh := ⟨[.d (.str)], [], [.str], [.d (.bool)], [], 0, [.bool]⟩
def q2m_ : Env := (cts [(78, (⟨qg5_, q67_⟩ : Ct)), (79, (⟨qg3_, q7x_⟩ : Ct))])
def q2k_ : List (Nat × Hint) := [(7, ⟨[], [0, 44, 45, 48, 49]⟩), (58, ⟨[], [0, 18, 19, 28, 29, 30, 31, 32, 35, 36, 37, 38, 44, 45, 48, 49]⟩), (3737, ⟨[.agd 35 .str, .agd 36 (.int .i64), .agd 37 (.int .u8), .agd 38 .bool, .agd 28 .str, .agd 29 (.int .i64), .agd 30 (.int .u8), .agd 31 .bool, .agd 32 .bool], [0, 18, 19, 39]⟩), (6, ⟨[], [0, 16, 28, 29, 30, 31, 32, 35, 36, 37, 38, 44, 45, 48, 49]⟩)]
def qc1_ (s : List UInt8) (t16 : Bool) : St := { fr := [(0, .d .str s), (16, .d .bool t16)], nt := 51, up := [], own := [], nx := 0, log := [], ln := 0 }
def q4i_ (s : List UInt8) (t18 t19 : Int) : St := { fr := [(0, .d .str s), (18, .d (.int .i64) t18), (19, .d (.int .i64) t19)], nt := 51, up := [], own := [], nx := 0, log := [], ln := 0 }
def qcx_ (s : List UInt8) (t18 t19 : Int) (t39 : Bool) : St := { fr := [(0, .d .str s), (18, .d (.int .i64) t18), (19, .d (.int .i64) t19), (39, .d .bool t39)], nt := 51, up := [], own := [], nx := 0, log := [], ln := 0 }
def qcs_ (s : List UInt8) : St := { fr := [(0, .d .str s)], nt := 51, up := [], own := [], nx := 0, log := [], ln := 0 }
def qi8_ (j2 : List UInt8 -> Int -> Int -> Option (As [.bool])) (s : List UInt8) (t16 : Bool) : Option (As [.bool]) :=
  if t16 = true then some (false, ()) else j2 s (Int.ofNat (List.length s)) 0
def q77_ (j3 : List UInt8 -> Int -> Int -> Bool -> Option (As [.bool])) (j4 : List UInt8 -> Option (As [.bool])) (self2 : List UInt8 -> Int -> Int -> Option (As [.bool])) (s : List UInt8) (t18 t19 : Int) : Option (As [.bool]) :=
  if lt t19 t18 = true then Option.bind (at? s t19) fun (c : UInt8) => Option.bind (q67_ (Int.ofNat (UInt8.toNat c), ())) fun (y : Bool × Unit) => if (!y.1) = true then Option.bind (at? s t19) fun (c : UInt8) => Option.bind (q7x_ (Int.ofNat (UInt8.toNat c), ())) fun (y : Bool × Unit) => if (!y.1) = true then Option.bind (at? s t19) fun (c : UInt8) => j3 s t18 t19 (nei (Int.ofNat (UInt8.toNat c)) 95) else j3 s t18 t19 false else j3 s t18 t19 false else j4 s
def qcm_ (self2 : List UInt8 -> Int -> Int -> Option (As [.bool])) (s : List UInt8) (t18 t19 : Int) (t39 : Bool) : Option (As [.bool]) :=
  if t39 = true then some (false, ()) else self2 s t18 (add .i64 t19 1)
def qbs_ (s : List UInt8) : Option (As [.bool]) :=
  if nes s [114, 101, 99, 105, 112, 101] = true then if nes s [115, 108, 97, 118, 101] = true then some (nes s [101, 110, 100], ()) else some (false, ()) else some (false, ())
def qbr_ (j1 : List UInt8 -> Bool -> Option (As [.bool])) (s : List UInt8) : Option (As [.bool]) :=
  if eqs s [] = true then j1 s true else if gt (Int.ofNat (List.length s)) 20 = true then j1 s true else Option.bind (at? s 0) fun (c : UInt8) => Option.bind (q67_ (Int.ofNat (UInt8.toNat c), ())) fun (y : Bool × Unit) => j1 s !y.1
def q78_ (u2 : List UInt8 -> Int -> Int -> Option (As [.bool])) (s : List UInt8) (t18 t19 : Int) (t39 : Bool) : Option (As [.bool]) := qcm_ u2 s t18 t19 t39
def q7g_ (s : List UInt8) : Option (As [.bool]) := qbs_ s
def q9s_ (s : List UInt8) (t18 t19 : Int) : Option (As [.bool]) :=
  loopF (fun (self : (List UInt8) × (Int) × (Int) -> Option (As [.bool])) (s : (List UInt8) × (Int) × (Int)) => q77_ (q78_ (fun s t18 t19 => self (s, t18, t19))) (q7g_) (fun s t18 t19 => self (s, t18, t19)) s.1 s.2.1 s.2.2) 18446744073709551616 (s, t18, t19)
def q9f_ (s : List UInt8) (t16 : Bool) : Option (As [.bool]) := qi8_ (q9s_) s t16
def q2c_ (x : As [.str]) : Option (As [.bool]) := qbr_ q9f_ x.1
theorem qmg_  (J w2 s t18 t19 t39) : pfn Tryz.prog q2m_ 6 18446744073709551616 (Ev.get q2k_) 51 q1s_ J 3737 [w2] (qcx_ s t18 t19 t39) = qcm_ (fun s t18 t19 => w2 (q4i_ s t18 t19)) s t18 t19 t39 := by kernel_rfl
theorem qom_  (J s) : pfn Tryz.prog q2m_ 6 18446744073709551616 (Ev.get q2k_) 51 q1s_ J 7 [] (qcs_ s) = qbs_ s := by kernel_rfl
theorem qnq_  (J w2 s t18 t19) : pfn Tryz.prog q2m_ 6 18446744073709551616 (Ev.get q2k_) 51 q1s_ J 58 [w2] (q4i_ s t18 t19) = q77_ (fun s t18 t19 t39 => J 3737 [w2] (qcx_ s t18 t19 t39)) (fun s => J 7 [] (qcs_ s)) (fun s t18 t19 => w2 (q4i_ s t18 t19)) s t18 t19 := by kernel_rfl
theorem qlt_  (J s t16) : pfn Tryz.prog q2m_ 6 18446744073709551616 (Ev.get q2k_) 51 q1s_ J 6 [] (qc1_ s t16) = qi8_ (fun s t18 t19 => J 58 [] (q4i_ s t18 t19)) s t16 := by kernel_rfl
theorem qm2_ (J : Orc (As [.bool])) (x : As [.str]) : rfn Tryz.prog q2m_ 6 18446744073709551616 (Ev.get q2k_) 51 q1s_ J x = qbr_ (fun s t16 => J 6 [] (qc1_ s t16)) x.1 := by kernel_rfl
theorem qmw_  (w2 s t18 t19 t39) : jfn Tryz.prog q2m_ 6 18446744073709551616 (Ev.get q2k_) 51 q1s_ 3737 [w2] (qcx_ s t18 t19 t39) = q78_ (fun s t18 t19 => w2 (q4i_ s t18 t19)) s t18 t19 t39 := by
  rw [q2_ (by decide)]
  rw [qmg_]
  rfl
theorem qlx_  (s) : jfn Tryz.prog q2m_ 6 18446744073709551616 (Ev.get q2k_) 51 q1s_ 7 [] (qcs_ s) = q7g_ s := by
  rw [q2_ (by decide)]
  rw [qom_]
  rfl
theorem qnb_  (s t18 t19) : jfn Tryz.prog q2m_ 6 18446744073709551616 (Ev.get q2k_) 51 q1s_ 58 [] (q4i_ s t18 t19) = q9s_ s t18 t19 := by
  rw [q2_ (by decide)]
  rw [qm_ (by kernel_rfl)]
  refine qj_ (σ := (List UInt8) × (Int) × (Int)) (mk := fun s => q4i_ s.1 s.2.1 s.2.2) (fun w2 s => ?_) 18446744073709551616 (s, t18, t19)
  have e3 : (fun s t18 t19 t39 => (jfn Tryz.prog q2m_ 6 18446744073709551616 (Ev.get q2k_) 51 q1s_) 3737 [w2] (qcx_ s t18 t19 t39)) = q78_ (fun s t18 t19 => w2 (q4i_ s t18 t19)) := by funext s t18 t19 t39; exact qmw_ w2 s t18 t19 t39
  have e4 : (fun s => (jfn Tryz.prog q2m_ 6 18446744073709551616 (Ev.get q2k_) 51 q1s_) 7 [] (qcs_ s)) = q7g_ := funext fun s => qlx_ s
  refine (qnq_ _ w2 s.1 s.2.1 s.2.2).trans ?_
  rw [e3, e4]
theorem qni_  (s t16) : jfn Tryz.prog q2m_ 6 18446744073709551616 (Ev.get q2k_) 51 q1s_ 6 [] (qc1_ s t16) = q9f_ s t16 := by
  rw [q2_ (by decide)]
  have e2 : (fun s t18 t19 => (jfn Tryz.prog q2m_ 6 18446744073709551616 (Ev.get q2k_) 51 q1s_) 58 [] (q4i_ s t18 t19)) = q9s_ := by funext s t18 t19; exact qnb_ s t18 t19
  rw [qlt_, e2]
  rfl
theorem qqg_ (x : As [.str]) : evT Tryz.prog q2m_ 6 18446744073709551616 (Ev.get q2k_) 51 q1s_ x = q2c_ x := by
  have e1 : (fun s t16 => (jfn Tryz.prog q2m_ 6 18446744073709551616 (Ev.get q2k_) 51 q1s_) 6 [] (qc1_ s t16)) = q9f_ := by funext s t16; exact qni_ s t16
  rw [q1v_, qm2_, e1]
  rfl
theorem qg4_ : CtOk Tryz.prog I0 51 ⟨q1s_, q2c_⟩ := qu_ (q1_ qi1_ (q1_ qhw_ qa_)) qqg_
@[reducible] def qgx_ : Sh := ⟨[.d (.pr (.int .i64) (.int .u8))], [], [.pr (.int .i64) (.int .u8)], [.d (.bool)], [], 0, [.bool]⟩
def q9q_ (d : Int × Int) : Option (As [.bool]) :=
  if ge d.1 (-1000000000000) = true then if le d.1 1000000000000 = true then if le d.2 6 = true then if eqi d.2 0 = true then some (true, ()) else some (nei (rem d.1 10) 0, ()) else some (false, ()) else some (false, ()) else some (false, ())
def q8y_ (x : As [.pr (.int .i64) (.int .u8)]) : Option (As [.bool]) := q9q_ x.1
theorem qi9_ : CtOk Tryz.prog I0 52 ⟨qgx_, q8y_⟩ := ctn qa_ 6 fun J x => by kernel_rfl
@[reducible] def q2r_ : Sh := ⟨[.d (.str)], [], [.str], [.d (.bool)], [], 0, [.bool]⟩
def q3r_ : Env := (cts [(78, (⟨qg5_, q67_⟩ : Ct)), (79, (⟨qg3_, q7x_⟩ : Ct))])
def q3s_ : List (Nat × Hint) := [(58, ⟨[], [0, 10, 11, 20, 21, 22, 23, 24, 25, 28, 29, 34, 35, 36, 37, 38, 39, 40, 41, 42, 43, 44]⟩), (7475, ⟨[.agd 20 (.int .u8), .agd 21 .bool, .agd 22 .bool, .agd 23 (.int .u8), .agd 24 .bool, .agd 25 .bool, .agd 28 (.int .u8), .agd 29 .bool], [0, 3, 4, 5, 10, 11]⟩), (14951, ⟨[.agd 37 (.int .u8), .agd 38 .bool, .agd 39 .bool, .agd 40 .bool, .agd 41 (.int .u8), .agd 42 .bool, .agd 43 .bool, .agd 34 (.int .i64), .agd 35 .bool, .agd 36 .bool, .agd 44 .bool], [0, 10, 11, 45]⟩)]
def q2s_ (s : List UInt8) (t10 t11 : Int) : St := { fr := [(0, .d .str s), (10, .d (.int .i64) t10), (11, .d (.int .i64) t11)], nt := 47, up := [], own := [], nx := 0, log := [], ln := 0 }
def qc2_ (s : List UInt8) (i c : Int) (letter : Bool) (t10 t11 : Int) : St := { fr := [(0, .d .str s), (3, .d (.int .i64) i), (4, .d (.int .u8) c), (5, .d .bool letter), (10, .d (.int .i64) t10), (11, .d (.int .i64) t11)], nt := 47, up := [], own := [], nx := 0, log := [], ln := 0 }
def qci_ (s : List UInt8) (t10 t11 : Int) (t45 : Bool) : St := { fr := [(0, .d .str s), (10, .d (.int .i64) t10), (11, .d (.int .i64) t11), (45, .d .bool t45)], nt := 47, up := [], own := [], nx := 0, log := [], ln := 0 }
def q79_ (j2 : List UInt8 -> Int -> Int -> Bool -> Int -> Int -> Option (As [.bool])) (self1 : List UInt8 -> Int -> Int -> Option (As [.bool])) (s : List UInt8) (t10 t11 : Int) : Option (As [.bool]) :=
  if lt t11 t10 = true then Option.bind (at? s t11) fun (c : UInt8) => Option.bind (q67_ (Int.ofNat (UInt8.toNat c), ())) fun (y : Bool × Unit) => if y.1 = true then j2 s t11 (Int.ofNat (UInt8.toNat c)) true t10 t11 else if ge (Int.ofNat (UInt8.toNat c)) 65 = true then if le (Int.ofNat (UInt8.toNat c)) 90 = true then j2 s t11 (Int.ofNat (UInt8.toNat c)) true t10 t11 else j2 s t11 (Int.ofNat (UInt8.toNat c)) (eqi (Int.ofNat (UInt8.toNat c)) 37) t10 t11 else j2 s t11 (Int.ofNat (UInt8.toNat c)) (eqi (Int.ofNat (UInt8.toNat c)) 37) t10 t11 else some (true, ())
def qcj_ (j3 : List UInt8 -> Int -> Int -> Bool -> Option (As [.bool])) (self1 : List UInt8 -> Int -> Int -> Option (As [.bool])) (s : List UInt8) (i c : Int) (letter : Bool) (t10 t11 : Int) : Option (As [.bool]) :=
  if (!letter) = true then if eqi i 0 = true then j3 s t10 t11 true else Option.bind (q7x_ (c, ())) fun (y : Bool × Unit) => if (!y.1) = true then j3 s t10 t11 (nei c 95) else j3 s t10 t11 false else j3 s t10 t11 false
def qc7_ (self1 : List UInt8 -> Int -> Int -> Option (As [.bool])) (s : List UInt8) (t10 t11 : Int) (t45 : Bool) : Option (As [.bool]) :=
  if t45 = true then some (false, ()) else self1 s t10 (add .i64 t11 1)
def qc5_ (j1 : List UInt8 -> Int -> Int -> Option (As [.bool])) (s : List UInt8) : Option (As [.bool]) :=
  if gt (Int.ofNat (List.length s)) 20 = true then some (false, ()) else j1 s (Int.ofNat (List.length s)) 0
def q9l_ (u1 : List UInt8 -> Int -> Int -> Option (As [.bool])) (s : List UInt8) (t10 t11 : Int) (t45 : Bool) : Option (As [.bool]) := qc7_ u1 s t10 t11 t45
def q74_ (u1 : List UInt8 -> Int -> Int -> Option (As [.bool])) (s : List UInt8) (i c : Int) (letter : Bool) (t10 t11 : Int) : Option (As [.bool]) := qcj_ (q9l_ u1) u1 s i c letter t10 t11
def q7k_ (s : List UInt8) (t10 t11 : Int) : Option (As [.bool]) :=
  loopF (fun (self : (List UInt8) × (Int) × (Int) -> Option (As [.bool])) (s : (List UInt8) × (Int) × (Int)) => q79_ (q74_ (fun s t10 t11 => self (s, t10, t11))) (fun s t10 t11 => self (s, t10, t11)) s.1 s.2.1 s.2.2) 18446744073709551616 (s, t10, t11)
def qdg_ (x : As [.str]) : Option (As [.bool]) := qc5_ q7k_ x.1
theorem qnw_  (J w1 s t10 t11 t45) : pfn Tryz.prog q3r_ 6 18446744073709551616 (Ev.get q3s_) 53 q2r_ J 14951 [w1] (qci_ s t10 t11 t45) = qc7_ (fun s t10 t11 => w1 (q2s_ s t10 t11)) s t10 t11 t45 := by kernel_rfl
theorem qm7_  (J w1 s i c letter t10 t11) : pfn Tryz.prog q3r_ 6 18446744073709551616 (Ev.get q3s_) 53 q2r_ J 7475 [w1] (qc2_ s i c letter t10 t11) = qcj_ (fun s t10 t11 t45 => J 14951 [w1] (qci_ s t10 t11 t45)) (fun s t10 t11 => w1 (q2s_ s t10 t11)) s i c letter t10 t11 := by kernel_rfl
theorem qnx_  (J w1 s t10 t11) : pfn Tryz.prog q3r_ 6 18446744073709551616 (Ev.get q3s_) 53 q2r_ J 58 [w1] (q2s_ s t10 t11) = q79_ (fun s i c letter t10 t11 => J 7475 [w1] (qc2_ s i c letter t10 t11)) (fun s t10 t11 => w1 (q2s_ s t10 t11)) s t10 t11 := by kernel_rfl
theorem qn4_ (J : Orc (As [.bool])) (x : As [.str]) : rfn Tryz.prog q3r_ 6 18446744073709551616 (Ev.get q3s_) 53 q2r_ J x = qc5_ (fun s t10 t11 => J 58 [] (q2s_ s t10 t11)) x.1 := by kernel_rfl
theorem qng_  (w1 s t10 t11 t45) : jfn Tryz.prog q3r_ 6 18446744073709551616 (Ev.get q3s_) 53 q2r_ 14951 [w1] (qci_ s t10 t11 t45) = q9l_ (fun s t10 t11 => w1 (q2s_ s t10 t11)) s t10 t11 t45 := by
  rw [q2_ (by decide)]
  rw [qnw_]
  rfl
theorem qln_  (w1 s i c letter t10 t11) : jfn Tryz.prog q3r_ 6 18446744073709551616 (Ev.get q3s_) 53 q2r_ 7475 [w1] (qc2_ s i c letter t10 t11) = q74_ (fun s t10 t11 => w1 (q2s_ s t10 t11)) s i c letter t10 t11 := by
  rw [q2_ (by decide)]
  have e3 : (fun s t10 t11 t45 => (jfn Tryz.prog q3r_ 6 18446744073709551616 (Ev.get q3s_) 53 q2r_) 14951 [w1] (qci_ s t10 t11 t45)) = q9l_ (fun s t10 t11 => w1 (q2s_ s t10 t11)) := by funext s t10 t11 t45; exact qng_ w1 s t10 t11 t45
  rw [qm7_, e3]
  rfl
theorem qn0_  (s t10 t11) : jfn Tryz.prog q3r_ 6 18446744073709551616 (Ev.get q3s_) 53 q2r_ 58 [] (q2s_ s t10 t11) = q7k_ s t10 t11 := by
  rw [q2_ (by decide)]
  rw [qm_ (by kernel_rfl)]
  refine qj_ (σ := (List UInt8) × (Int) × (Int)) (mk := fun s => q2s_ s.1 s.2.1 s.2.2) (fun w1 s => ?_) 18446744073709551616 (s, t10, t11)
  have e2 : (fun s i c letter t10 t11 => (jfn Tryz.prog q3r_ 6 18446744073709551616 (Ev.get q3s_) 53 q2r_) 7475 [w1] (qc2_ s i c letter t10 t11)) = q74_ (fun s t10 t11 => w1 (q2s_ s t10 t11)) := by funext s i c letter t10 t11; exact qln_ w1 s i c letter t10 t11
  refine (qnx_ _ w1 s.1 s.2.1 s.2.2).trans ?_
  rw [e2]
theorem qqf_ (x : As [.str]) : evT Tryz.prog q3r_ 6 18446744073709551616 (Ev.get q3s_) 53 q2r_ x = qdg_ x := by
  have e1 : (fun s t10 t11 => (jfn Tryz.prog q3r_ 6 18446744073709551616 (Ev.get q3s_) 53 q2r_) 58 [] (q2s_ s t10 t11)) = q7k_ := by funext s t10 t11; exact qn0_ s t10 t11
  rw [q1v_, qn4_, e1]
  rfl
theorem qmh_ : CtOk Tryz.prog I0 53 ⟨q2r_, qdg_⟩ := qu_ (q1_ qi1_ (q1_ qhw_ qa_)) qqf_
@[reducible] def q10_ : Sh := ⟨[.d (.pr .str (.sl QAT2))], [], [.pr .str (.sl QAT2)], [.d (.bool)], [], 0, [.bool]⟩
def q1f_ : Env := (cts [(51, (⟨q1s_, q2c_⟩ : Ct)), (52, (⟨qgx_, q8y_⟩ : Ct)), (53, (⟨q2r_, qdg_⟩ : Ct))])
def q1j_ : List (Nat × Hint) := [(58, ⟨[], [18, 19, 20, 29, 30, 31, 32, 46, 47, 48, 49, 52, 53, 54, 55]⟩), (29902, ⟨[], [18, 19, 20, 29, 30, 31, 32, 35, 36, 37, 46, 47, 48, 49, 52, 53, 54, 55]⟩), (1913753, ⟨[.agd 47 (.pr (.int .i64) (.int .u8)), .agd 48 .bool, .agd 49 .bool, .agd 53 .str, .agd 54 .bool, .agd 55 .bool], [18, 19, 20, 35, 36, 37, 56]⟩), (7474, ⟨[.agd 30 (.sl QAT5), .agd 31 (.int .i64), .agd 32 .bool], [4, 18, 19, 20, 33]⟩), (6, ⟨[], [1, 16, 29, 30, 31, 32, 46, 47, 48, 49, 52, 53, 54, 55]⟩)]
def qbe_ (t16 : Bool) (r : List UInt8 × List QAT0) : St := { fr := [(1, .pb 0 0), (16, .d .bool t16)], nt := 59, up := [], own := [(0, .box 26 [.d .str r.1, .d (.sl QAT2) r.2])], nx := 1, log := [], ln := 0 }
def q1m_ (t18 : List QAT0) (t19 t20 : Int) : St := { fr := [(18, .d (.sl QAT2) t18), (19, .d (.int .i64) t19), (20, .d (.int .i64) t20)], nt := 59, up := [], own := [], nx := 0, log := [], ln := 0 }
def qb8_ (t18 : List QAT0) (t19 t20 : Int) (t33 : Bool) (part : List UInt8 × Int × List QAT3) : St := { fr := [(4, .pb 0 0), (18, .d (.sl QAT2) t18), (19, .d (.int .i64) t19), (20, .d (.int .i64) t20), (33, .d .bool t33)], nt := 59, up := [], own := [(0, .box 43 [.d .str part.1, .d (.int .i64) part.2.1, .d (.sl QAT5) part.2.2])], nx := 1, log := [], ln := 0 }
def q3y_ (t18 : List QAT0) (t19 t20 : Int) (t35 : List QAT3) (t36 t37 : Int) : St := { fr := [(18, .d (.sl QAT2) t18), (19, .d (.int .i64) t19), (20, .d (.int .i64) t20), (35, .d (.sl QAT5) t35), (36, .d (.int .i64) t36), (37, .d (.int .i64) t37)], nt := 59, up := [], own := [], nx := 0, log := [], ln := 0 }
def qbd_ (t18 : List QAT0) (t19 t20 : Int) (t35 : List QAT3) (t36 t37 : Int) (t56 : Bool) : St := { fr := [(18, .d (.sl QAT2) t18), (19, .d (.int .i64) t19), (20, .d (.int .i64) t20), (35, .d (.sl QAT5) t35), (36, .d (.int .i64) t36), (37, .d (.int .i64) t37), (56, .d .bool t56)], nt := 59, up := [], own := [], nx := 0, log := [], ln := 0 }
def qhz_ (j2 : List QAT0 -> Int -> Int -> Option (As [.bool])) (t16 : Bool) (r : List UInt8 × List QAT0) : Option (As [.bool]) :=
  if t16 = true then some (false, ()) else j2 r.2 (Int.ofNat (List.length r.2)) 0
def q6a_ (j3 : List QAT0 -> Int -> Int -> Bool -> List UInt8 × Int × List QAT3 -> Option (As [.bool])) (self2 : List QAT0 -> Int -> Int -> Option (As [.bool])) (t18 : List QAT0) (t19 t20 : Int) : Option (As [.bool]) :=
  if lt t20 t19 = true then Option.bind (at? t18 t20) fun (y : List UInt8 × Int × List QAT3) => Option.bind (q2c_ (y.1, ())) fun (y_1 : Bool × Unit) => if (!y_1.1) = true then j3 t18 t19 t20 true y else j3 t18 t19 t20 (gt (Int.ofNat (List.length y.2.2)) 64) y else some (true, ())
def qbb_ (j4 : List QAT0 -> Int -> Int -> List QAT3 -> Int -> Int -> Option (As [.bool])) (self2 : List QAT0 -> Int -> Int -> Option (As [.bool])) (t18 : List QAT0) (t19 t20 : Int) (t33 : Bool) (part : List UInt8 × Int × List QAT3) : Option (As [.bool]) :=
  if t33 = true then some (false, ()) else j4 t18 t19 t20 part.2.2 (Int.ofNat (List.length part.2.2)) 0
def q6c_ (j5 : List QAT0 -> Int -> Int -> List QAT3 -> Int -> Int -> Bool -> Option (As [.bool])) (self2 : List QAT0 -> Int -> Int -> Option (As [.bool])) (self4 : List QAT0 -> Int -> Int -> List QAT3 -> Int -> Int -> Option (As [.bool])) (t18 : List QAT0) (t19 t20 : Int) (t35 : List QAT3) (t36 t37 : Int) : Option (As [.bool]) :=
  if lt t37 t36 = true then Option.bind (at? t35 t37) fun (y : List UInt8 × (Int × Int) × List UInt8 × Int) => Option.bind (q2c_ (y.1, ())) fun (y_1 : Bool × Unit) => if (!y_1.1) = true then j5 t18 t19 t20 t35 t36 t37 true else Option.bind (q8y_ (y.2.1, ())) fun (y_2 : Bool × Unit) => if (!y_2.1) = true then j5 t18 t19 t20 t35 t36 t37 true else Option.bind (qdg_ (y.2.2.1, ())) fun (y : Bool × Unit) => j5 t18 t19 t20 t35 t36 t37 !y.1 else self2 t18 t19 (add .i64 t20 1)
def qb9_ (self2 : List QAT0 -> Int -> Int -> Option (As [.bool])) (self4 : List QAT0 -> Int -> Int -> List QAT3 -> Int -> Int -> Option (As [.bool])) (t18 : List QAT0) (t19 t20 : Int) (t35 : List QAT3) (t36 t37 : Int) (t56 : Bool) : Option (As [.bool]) :=
  if t56 = true then some (false, ()) else self4 t18 t19 t20 t35 t36 (add .i64 t37 1)
def qba_ (j1 : Bool -> List UInt8 × List QAT0 -> Option (As [.bool])) (r : List UInt8 × List QAT0) : Option (As [.bool]) :=
  Option.bind (q2c_ (r.1, ())) fun (y : Bool × Unit) => if (!y.1) = true then j1 true r else j1 (gt (Int.ofNat (List.length r.2)) 8) r
def q8m_ (u2 : List QAT0 -> Int -> Int -> Option (As [.bool])) (u4 : List QAT0 -> Int -> Int -> List QAT3 -> Int -> Int -> Option (As [.bool])) (t18 : List QAT0) (t19 t20 : Int) (t35 : List QAT3) (t36 t37 : Int) (t56 : Bool) : Option (As [.bool]) := qb9_ u2 u4 t18 t19 t20 t35 t36 t37 t56
def q6e_ (u2 : List QAT0 -> Int -> Int -> Option (As [.bool])) (t18 : List QAT0) (t19 t20 : Int) (t35 : List QAT3) (t36 t37 : Int) : Option (As [.bool]) :=
  loopF (fun (self : (List QAT0) × (Int) × (Int) × (List QAT3) × (Int) × (Int) -> Option (As [.bool])) (s : (List QAT0) × (Int) × (Int) × (List QAT3) × (Int) × (Int)) => q6c_ (q8m_ u2 (fun t18 t19 t20 t35 t36 t37 => self (t18, t19, t20, t35, t36, t37))) u2 (fun t18 t19 t20 t35 t36 t37 => self (t18, t19, t20, t35, t36, t37)) s.1 s.2.1 s.2.2.1 s.2.2.2.1 s.2.2.2.2.1 s.2.2.2.2.2) 18446744073709551616 (t18, t19, t20, t35, t36, t37)
def q8n_ (u2 : List QAT0 -> Int -> Int -> Option (As [.bool])) (t18 : List QAT0) (t19 t20 : Int) (t33 : Bool) (part : List UInt8 × Int × List QAT3) : Option (As [.bool]) := qbb_ (q6e_ u2) u2 t18 t19 t20 t33 part
def q6i_ (t18 : List QAT0) (t19 t20 : Int) : Option (As [.bool]) :=
  loopF (fun (self : (List QAT0) × (Int) × (Int) -> Option (As [.bool])) (s : (List QAT0) × (Int) × (Int)) => q6a_ (q8n_ (fun t18 t19 t20 => self (t18, t19, t20))) (fun t18 t19 t20 => self (t18, t19, t20)) s.1 s.2.1 s.2.2) 18446744073709551616 (t18, t19, t20)
def q8o_ (t16 : Bool) (r : List UInt8 × List QAT0) : Option (As [.bool]) := qhz_ (q6i_) t16 r
def q7q_ (x : As [.pr .str (.sl QAT2)]) : Option (As [.bool]) := qba_ q8o_ x.1
theorem qkr_  (J w2 w4 t18 t19 t20 t35 t36 t37 t56) : pfn Tryz.prog q1f_ 6 18446744073709551616 (Ev.get q1j_) 21 q10_ J 1913753 [w2, w4] (qbd_ t18 t19 t20 t35 t36 t37 t56) = qb9_ (fun t18 t19 t20 => w2 (q1m_ t18 t19 t20)) (fun t18 t19 t20 t35 t36 t37 => w4 (q3y_ t18 t19 t20 t35 t36 t37)) t18 t19 t20 t35 t36 t37 t56 := by kernel_rfl
theorem ql9_  (J w2 w4 t18 t19 t20 t35 t36 t37) : pfn Tryz.prog q1f_ 6 18446744073709551616 (Ev.get q1j_) 21 q10_ J 29902 [w2, w4] (q3y_ t18 t19 t20 t35 t36 t37) = q6c_ (fun t18 t19 t20 t35 t36 t37 t56 => J 1913753 [w2, w4] (qbd_ t18 t19 t20 t35 t36 t37 t56)) (fun t18 t19 t20 => w2 (q1m_ t18 t19 t20)) (fun t18 t19 t20 t35 t36 t37 => w4 (q3y_ t18 t19 t20 t35 t36 t37)) t18 t19 t20 t35 t36 t37 := by kernel_rfl
theorem qko_  (J w2 t18 t19 t20 t33 part) : pfn Tryz.prog q1f_ 6 18446744073709551616 (Ev.get q1j_) 21 q10_ J 7474 [w2] (qb8_ t18 t19 t20 t33 part) = qbb_ (fun t18 t19 t20 t35 t36 t37 => J 29902 [w2] (q3y_ t18 t19 t20 t35 t36 t37)) (fun t18 t19 t20 => w2 (q1m_ t18 t19 t20)) t18 t19 t20 t33 part := by kernel_rfl
theorem ql0_  (J w2 t18 t19 t20) : pfn Tryz.prog q1f_ 6 18446744073709551616 (Ev.get q1j_) 21 q10_ J 58 [w2] (q1m_ t18 t19 t20) = q6a_ (fun t18 t19 t20 t33 part => J 7474 [w2] (qb8_ t18 t19 t20 t33 part)) (fun t18 t19 t20 => w2 (q1m_ t18 t19 t20)) t18 t19 t20 := by kernel_rfl
theorem ql6_  (J t16 r) : pfn Tryz.prog q1f_ 6 18446744073709551616 (Ev.get q1j_) 21 q10_ J 6 [] (qbe_ t16 r) = qhz_ (fun t18 t19 t20 => J 58 [] (q1m_ t18 t19 t20)) t16 r := by kernel_rfl
theorem qkw_ (J : Orc (As [.bool])) (x : As [.pr .str (.sl QAT2)]) : rfn Tryz.prog q1f_ 6 18446744073709551616 (Ev.get q1j_) 21 q10_ J x = qba_ (fun t16 r => J 6 [] (qbe_ t16 r)) x.1 := by kernel_rfl
theorem qkm_  (w2 w4 t18 t19 t20 t35 t36 t37 t56) : jfn Tryz.prog q1f_ 6 18446744073709551616 (Ev.get q1j_) 21 q10_ 1913753 [w2, w4] (qbd_ t18 t19 t20 t35 t36 t37 t56) = q8m_ (fun t18 t19 t20 => w2 (q1m_ t18 t19 t20)) (fun t18 t19 t20 t35 t36 t37 => w4 (q3y_ t18 t19 t20 t35 t36 t37)) t18 t19 t20 t35 t36 t37 t56 := by
  rw [q2_ (by decide)]
  rw [qkr_]
  rfl
theorem qkn_  (w2 t18 t19 t20 t35 t36 t37) : jfn Tryz.prog q1f_ 6 18446744073709551616 (Ev.get q1j_) 21 q10_ 29902 [w2] (q3y_ t18 t19 t20 t35 t36 t37) = q6e_ (fun t18 t19 t20 => w2 (q1m_ t18 t19 t20)) t18 t19 t20 t35 t36 t37 := by
  rw [q2_ (by decide)]
  rw [qm_ (by kernel_rfl)]
  refine qj_ (σ := (List QAT0) × (Int) × (Int) × (List QAT3) × (Int) × (Int)) (mk := fun s => q3y_ s.1 s.2.1 s.2.2.1 s.2.2.2.1 s.2.2.2.2.1 s.2.2.2.2.2) (fun w4 s => ?_) 18446744073709551616 (t18, t19, t20, t35, t36, t37)
  have e5 : (fun t18 t19 t20 t35 t36 t37 t56 => (jfn Tryz.prog q1f_ 6 18446744073709551616 (Ev.get q1j_) 21 q10_) 1913753 [w2, w4] (qbd_ t18 t19 t20 t35 t36 t37 t56)) = q8m_ (fun t18 t19 t20 => w2 (q1m_ t18 t19 t20)) (fun t18 t19 t20 t35 t36 t37 => w4 (q3y_ t18 t19 t20 t35 t36 t37)) := by funext t18 t19 t20 t35 t36 t37 t56; exact qkm_ w2 w4 t18 t19 t20 t35 t36 t37 t56
  refine (ql9_ _ w2 w4 s.1 s.2.1 s.2.2.1 s.2.2.2.1 s.2.2.2.2.1 s.2.2.2.2.2).trans ?_
  rw [e5]
theorem qkq_  (w2 t18 t19 t20 t33 part) : jfn Tryz.prog q1f_ 6 18446744073709551616 (Ev.get q1j_) 21 q10_ 7474 [w2] (qb8_ t18 t19 t20 t33 part) = q8n_ (fun t18 t19 t20 => w2 (q1m_ t18 t19 t20)) t18 t19 t20 t33 part := by
  rw [q2_ (by decide)]
  have e4 : (fun t18 t19 t20 t35 t36 t37 => (jfn Tryz.prog q1f_ 6 18446744073709551616 (Ev.get q1j_) 21 q10_) 29902 [w2] (q3y_ t18 t19 t20 t35 t36 t37)) = q6e_ (fun t18 t19 t20 => w2 (q1m_ t18 t19 t20)) := by funext t18 t19 t20 t35 t36 t37; exact qkn_ w2 t18 t19 t20 t35 t36 t37
  rw [qko_, e4]
  rfl
theorem qla_  (t18 t19 t20) : jfn Tryz.prog q1f_ 6 18446744073709551616 (Ev.get q1j_) 21 q10_ 58 [] (q1m_ t18 t19 t20) = q6i_ t18 t19 t20 := by
  rw [q2_ (by decide)]
  rw [qm_ (by kernel_rfl)]
  refine qj_ (σ := (List QAT0) × (Int) × (Int)) (mk := fun s => q1m_ s.1 s.2.1 s.2.2) (fun w2 s => ?_) 18446744073709551616 (t18, t19, t20)
  have e3 : (fun t18 t19 t20 t33 part => (jfn Tryz.prog q1f_ 6 18446744073709551616 (Ev.get q1j_) 21 q10_) 7474 [w2] (qb8_ t18 t19 t20 t33 part)) = q8n_ (fun t18 t19 t20 => w2 (q1m_ t18 t19 t20)) := by funext t18 t19 t20 t33 part; exact qkq_ w2 t18 t19 t20 t33 part
  refine (ql0_ _ w2 s.1 s.2.1 s.2.2).trans ?_
  rw [e3]
theorem ql4_  (t16 r) : jfn Tryz.prog q1f_ 6 18446744073709551616 (Ev.get q1j_) 21 q10_ 6 [] (qbe_ t16 r) = q8o_ t16 r := by
  rw [q2_ (by decide)]
  have e2 : (fun t18 t19 t20 => (jfn Tryz.prog q1f_ 6 18446744073709551616 (Ev.get q1j_) 21 q10_) 58 [] (q1m_ t18 t19 t20)) = q6i_ := by funext t18 t19 t20; exact qla_ t18 t19 t20
  rw [ql6_, e2]
  rfl
theorem qmi_ (x : As [.pr .str (.sl QAT2)]) : evT Tryz.prog q1f_ 6 18446744073709551616 (Ev.get q1j_) 21 q10_ x = q7q_ x := by
  have e1 : (fun t16 r => (jfn Tryz.prog q1f_ 6 18446744073709551616 (Ev.get q1j_) 21 q10_) 6 [] (qbe_ t16 r)) = q8o_ := by funext t16 r; exact ql4_ t16 r
  rw [q1v_, qkw_, e1]
  rfl
theorem qhx_ : CtOk Tryz.prog I0 21 ⟨q10_, q7q_⟩ := qu_ (q1_ qg4_ (q1_ qi9_ (q1_ qmh_ qa_))) qmi_
@[reducible] def q2u_ : Sh := ⟨[.d (.str)], [], [.str], [.d (.bool)], [], 0, [.bool]⟩
def q47_ : Env := (cts [])
def q49_ : List (Nat × Hint) := [(58, ⟨[], [0, 3, 47, 48, 52, 53, 54, 55, 56, 57, 58, 61, 62]⟩), (1865, ⟨[.agd 61 (.int .u8), .agd 62 .bool, .agd 55 (.int .u8), .agd 56 .bool, .agd 52 (.int .u8), .agd 53 .bool, .agd 54 .bool, .agd 57 .bool, .agd 58 .bool, .agd 47 (.int .u8), .agd 48 .bool], [0, 3, 63]⟩), (6, ⟨[], [0, 34, 47, 48, 52, 53, 54, 55, 56, 57, 58, 61, 62]⟩)]
def qdv_ (s : List UInt8) (t34 : Bool) : St := { fr := [(0, .d .str s), (34, .d .bool t34)], nt := 64, up := [], own := [], nx := 0, log := [], ln := 0 }
def q4w_ (s : List UInt8) (i : Int) : St := { fr := [(0, .d .str s), (3, .d (.int .i64) i)], nt := 64, up := [], own := [], nx := 0, log := [], ln := 0 }
def qdn_ (s : List UInt8) (i : Int) (t63 : Bool) : St := { fr := [(0, .d .str s), (3, .d (.int .i64) i), (63, .d .bool t63)], nt := 64, up := [], own := [], nx := 0, log := [], ln := 0 }
def qiw_ (j2 : List UInt8 -> Int -> Option (As [.bool])) (s : List UInt8) (t34 : Bool) : Option (As [.bool]) :=
  if t34 = true then some (false, ()) else j2 s 0
def q88_ (j3 : List UInt8 -> Int -> Bool -> Option (As [.bool])) (self2 : List UInt8 -> Int -> Option (As [.bool])) (s : List UInt8) (i : Int) : Option (As [.bool]) :=
  if lt i (Int.ofNat (List.length s)) = true then Option.bind (at? s i) fun (c : UInt8) => if ge (Int.ofNat (UInt8.toNat c)) 97 = true then if (!le (Int.ofNat (UInt8.toNat c)) 122) = true then if ge (Int.ofNat (UInt8.toNat c)) 48 = true then if (!le (Int.ofNat (UInt8.toNat c)) 57) = true then j3 s i (nei (Int.ofNat (UInt8.toNat c)) 95) else j3 s i false else j3 s i (nei (Int.ofNat (UInt8.toNat c)) 95) else j3 s i false else if ge (Int.ofNat (UInt8.toNat c)) 48 = true then if (!le (Int.ofNat (UInt8.toNat c)) 57) = true then j3 s i (nei (Int.ofNat (UInt8.toNat c)) 95) else j3 s i false else j3 s i (nei (Int.ofNat (UInt8.toNat c)) 95) else some (true, ())
def qdx_ (self2 : List UInt8 -> Int -> Option (As [.bool])) (s : List UInt8) (i : Int) (t63 : Bool) : Option (As [.bool]) :=
  if t63 = true then some (false, ()) else self2 s (add .i64 i 1)
def qe1_ (j1 : List UInt8 -> Bool -> Option (As [.bool])) (s : List UInt8) : Option (As [.bool]) :=
  if lt (Int.ofNat (List.length s)) 1 = true then j1 s true else if gt (Int.ofNat (List.length s)) 20 = true then j1 s true else if eqs s [114, 101, 99, 105, 112, 101] = true then j1 s true else if eqs s [115, 108, 97, 118, 101] = true then j1 s true else if eqs s [101, 110, 100] = true then j1 s true else Option.bind (at? s 0) fun (c : UInt8) => if lt (Int.ofNat (UInt8.toNat c)) 97 = true then j1 s true else Option.bind (at? s 0) fun (c : UInt8) => j1 s (gt (Int.ofNat (UInt8.toNat c)) 122)
def q5n_ (u2 : List UInt8 -> Int -> Option (As [.bool])) (s : List UInt8) (i : Int) (t63 : Bool) : Option (As [.bool]) := qdx_ u2 s i t63
def qap_ (s : List UInt8) (i : Int) : Option (As [.bool]) :=
  loopF (fun (self : (List UInt8) × (Int) -> Option (As [.bool])) (s : (List UInt8) × (Int)) => q88_ (q5n_ (fun s i => self (s, i))) (fun s i => self (s, i)) s.1 s.2) 18446744073709551616 (s, i)
def q8a_ (s : List UInt8) (t34 : Bool) : Option (As [.bool]) := qiw_ (qap_) s t34
def q61_ (x : As [.str]) : Option (As [.bool]) := qe1_ q8a_ x.1
theorem qpo_  (J w2 s i t63) : pfn Tryz.prog q47_ 6 18446744073709551616 (Ev.get q49_) 46 q2u_ J 1865 [w2] (qdn_ s i t63) = qdx_ (fun s i => w2 (q4w_ s i)) s i t63 := by kernel_rfl
theorem qpi_  (J w2 s i) : pfn Tryz.prog q47_ 6 18446744073709551616 (Ev.get q49_) 46 q2u_ J 58 [w2] (q4w_ s i) = q88_ (fun s i t63 => J 1865 [w2] (qdn_ s i t63)) (fun s i => w2 (q4w_ s i)) s i := by kernel_rfl
theorem qpd_  (J s t34) : pfn Tryz.prog q47_ 6 18446744073709551616 (Ev.get q49_) 46 q2u_ J 6 [] (qdv_ s t34) = qiw_ (fun s i => J 58 [] (q4w_ s i)) s t34 := by kernel_rfl
theorem qp5_ (J : Orc (As [.bool])) (x : As [.str]) : rfn Tryz.prog q47_ 6 18446744073709551616 (Ev.get q49_) 46 q2u_ J x = qe1_ (fun s t34 => J 6 [] (qdv_ s t34)) x.1 := by kernel_rfl
theorem qpk_  (w2 s i t63) : jfn Tryz.prog q47_ 6 18446744073709551616 (Ev.get q49_) 46 q2u_ 1865 [w2] (qdn_ s i t63) = q5n_ (fun s i => w2 (q4w_ s i)) s i t63 := by
  rw [q2_ (by decide)]
  rw [qpo_]
  rfl
theorem qp8_  (s i) : jfn Tryz.prog q47_ 6 18446744073709551616 (Ev.get q49_) 46 q2u_ 58 [] (q4w_ s i) = qap_ s i := by
  rw [q2_ (by decide)]
  rw [qm_ (by kernel_rfl)]
  refine qj_ (σ := (List UInt8) × (Int)) (mk := fun s => q4w_ s.1 s.2) (fun w2 s => ?_) 18446744073709551616 (s, i)
  have e3 : (fun s i t63 => (jfn Tryz.prog q47_ 6 18446744073709551616 (Ev.get q49_) 46 q2u_) 1865 [w2] (qdn_ s i t63)) = q5n_ (fun s i => w2 (q4w_ s i)) := by funext s i t63; exact qpk_ w2 s i t63
  refine (qpi_ _ w2 s.1 s.2).trans ?_
  rw [e3]
theorem qp0_  (s t34) : jfn Tryz.prog q47_ 6 18446744073709551616 (Ev.get q49_) 46 q2u_ 6 [] (qdv_ s t34) = q8a_ s t34 := by
  rw [q2_ (by decide)]
  have e2 : (fun s i => (jfn Tryz.prog q47_ 6 18446744073709551616 (Ev.get q49_) 46 q2u_) 58 [] (q4w_ s i)) = qap_ := by funext s i; exact qp8_ s i
  rw [qpd_, e2]
  rfl
theorem qr5_ (x : As [.str]) : evT Tryz.prog q47_ 6 18446744073709551616 (Ev.get q49_) 46 q2u_ x = q61_ x := by
  have e1 : (fun s t34 => (jfn Tryz.prog q47_ 6 18446744073709551616 (Ev.get q49_) 46 q2u_) 6 [] (qdv_ s t34)) = q8a_ := by funext s t34; exact qp0_ s t34
  rw [q1v_, qp5_, e1]
  rfl
theorem qh0_ : CtOk Tryz.prog I0 46 ⟨q2u_, q61_⟩ := qu_ qa_ qr5_
@[reducible] def qj2_ : Sh := ⟨[.d (.pr (.int .i64) (.int .u8))], [], [.pr (.int .i64) (.int .u8)], [.d (.bool)], [], 0, [.bool]⟩
def qna_ (d : Int × Int) : Option (As [.bool]) :=
  if ge d.1 (-1000000000000) = true then if le d.1 1000000000000 = true then if le d.2 6 = true then if eqi d.2 0 = true then some (true, ()) else some (nei (rem d.1 10) 0, ()) else some (false, ()) else some (false, ()) else some (false, ())
def qgs_ (x : As [.pr (.int .i64) (.int .u8)]) : Option (As [.bool]) := qna_ x.1
theorem qn7_ : CtOk Tryz.prog I0 54 ⟨qj2_, qgs_⟩ := ctn qa_ 6 fun J x => by kernel_rfl
@[reducible] def qj7_ : Sh := ⟨[.d (.str)], [], [.str], [.d (.bool)], [], 0, [.bool]⟩
def qh2_ (s : List UInt8) : Option (As [.bool]) :=
  Option.bind (qeu_ (s, ())) fun (y : List QAT4 × (Int × Int) × Unit) => if eqi y.2.1.1 0 = true then if eqi (Int.ofNat (List.length y.1)) 2 = true then Option.bind (at? y.1 0) fun (y_1 : Int × List UInt8 × (Int × Int) × Int) => if eqi y_1.1 1 = true then Option.bind (at? y.1 0) fun (y : Int × List UInt8 × (Int × Int) × Int) => some (eqs y.2.1 s, ()) else some (false, ()) else some (false, ()) else some (false, ())
def qhg_ (x : As [.str]) : Option (As [.bool]) := qh2_ x.1
theorem qp7_ : CtOk Tryz.prog I0 55 ⟨qj7_, qhg_⟩ := ctn (q1_ qje_ qa_) 6 fun J x => by kernel_rfl
end Go.Proofs.Lx
end
