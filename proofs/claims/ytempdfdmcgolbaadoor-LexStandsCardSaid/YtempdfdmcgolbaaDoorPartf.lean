/- Proved in the last of these 8 parts (this is part 6): tokens stand in the text as their Text is, in their lines, in order, with ends behind, and nothing else does but comments and blanks. Conditions: those of the given statement, and no others. -/
import Derived.Test.YtempdfdmcgolbaaDoorPartd
import Derived.Test.YtempdfdmcgolbaaDoorParte
import Derived.Test.YtempdfdmcgolbaaDoorProg
set_option linter.unusedVariables false
set_option linter.unusedSimpArgs false
set_option linter.unusedSectionVars false
section
/- Contracts, made by a program. -/
open Go Go.Proofs Ev Sx
set_option maxRecDepth 100000
namespace Go.Proofs.Lx
/-! ref12_Parse -/
@[reducible] def ref12_Parse_s : Sh := ⟨[.d (.str)], [], [.str], [.d (.pr (.int .i64) (.int .u8)), .d (.bool)], [], 0, [.pr (.int .i64) (.int .u8), .bool]⟩
def ref12_Parse_e : Env := (cts [(77, (⟨ref12_Of_s, ref12_Of⟩ : Ct))])
def ref12_Parse_h : List (Nat × Hint) := [(3, ⟨[], [0, 2, 4, 32, 33, 36, 37, 44, 45, 46, 47, 50, 51, 52, 53, 54, 55, 56, 57, 58, 59, 60, 82, 83, 84, 85, 86, 89, 90]⟩), (7, ⟨[], [0, 2, 4, 32, 33, 36, 37, 44, 45, 46, 47, 50, 51, 52, 53, 54, 55, 56, 57, 58, 59, 60, 82, 83, 84, 85, 86, 89, 90]⟩), (31, ⟨[], [2, 4, 5, 6, 7, 8, 82, 83, 84, 85, 86, 89, 90]⟩), (127, ⟨[], [2, 5, 7]⟩), (126, ⟨[], [2, 4, 5, 7, 91]⟩), (250, ⟨[], [0, 2, 4, 5, 6, 7, 8, 9, 32, 33, 36, 37, 44, 45, 46, 47, 50, 51, 52, 53, 54, 55, 56, 57, 58, 59, 60, 82, 83, 84, 85, 86, 89, 90]⟩), (1001, ⟨[], [0, 2, 4, 5, 6, 7, 8, 9, 32, 33, 36, 37, 44, 45, 46, 47, 50, 51, 52, 53, 54, 55, 56, 57, 58, 59, 60, 82, 83, 84, 85, 86, 89, 90]⟩), (16018, ⟨[], [0, 2, 4, 5, 6, 7, 8, 9, 61]⟩), (8008, ⟨[], [0, 2, 4, 5, 6, 7, 8, 9, 38]⟩)]
def ref12_Parse_k1 (s : List UInt8) (below : Bool) (t2 : Int) (t2_2 : Int) : St := { fr := [(0, .d .str s), (2, .pb 0 0), (4, .d .bool below)], nt := 101, up := [], own := [(0, .box 33 [.d (.int .i64) t2, .d (.int .u8) t2_2])], nx := 1, log := [], ln := 0 }
def ref12_Parse_k2 (s : List UInt8) (below : Bool) (t2 : Int) (t2_2 : Int) : St := { fr := [(0, .d .str s), (2, .pb 0 0), (4, .d .bool below)], nt := 101, up := [], own := [(0, .box 33 [.d (.int .i64) t2, .d (.int .u8) t2_2])], nx := 1, log := [], ln := 0 }
def ref12_Parse_k3 (s : List UInt8) (below : Bool) (n : Int) (point : Bool) (behind : Int) (ahead : Int) (i : Int) (t2 : Int) (t2_2 : Int) : St := { fr := [(0, .d .str s), (2, .pb 0 0), (4, .d .bool below), (5, .d (.int .i64) n), (6, .d .bool point), (7, .d (.int .i64) behind), (8, .d (.int .i64) ahead), (9, .d (.int .i64) i)], nt := 101, up := [], own := [(0, .box 33 [.d (.int .i64) t2, .d (.int .u8) t2_2])], nx := 1, log := [], ln := 0 }
def ref12_Parse_k4 (s : List UInt8) (below : Bool) (n : Int) (point : Bool) (behind : Int) (ahead : Int) (i : Int) (t38 : Bool) (t2 : Int) (t2_2 : Int) : St := { fr := [(0, .d .str s), (2, .pb 0 0), (4, .d .bool below), (5, .d (.int .i64) n), (6, .d .bool point), (7, .d (.int .i64) behind), (8, .d (.int .i64) ahead), (9, .d (.int .i64) i), (38, .d .bool t38)], nt := 101, up := [], own := [(0, .box 33 [.d (.int .i64) t2, .d (.int .u8) t2_2])], nx := 1, log := [], ln := 0 }
def ref12_Parse_k5 (below : Bool) (n : Int) (point : Bool) (behind : Int) (ahead : Int) (t2 : Int) (t2_2 : Int) : St := { fr := [(2, .pb 0 0), (4, .d .bool below), (5, .d (.int .i64) n), (6, .d .bool point), (7, .d (.int .i64) behind), (8, .d (.int .i64) ahead)], nt := 101, up := [], own := [(0, .box 33 [.d (.int .i64) t2, .d (.int .u8) t2_2])], nx := 1, log := [], ln := 0 }
def ref12_Parse_k6 (s : List UInt8) (below : Bool) (n : Int) (point : Bool) (behind : Int) (ahead : Int) (i : Int) (t2 : Int) (t2_2 : Int) : St := { fr := [(0, .d .str s), (2, .pb 0 0), (4, .d .bool below), (5, .d (.int .i64) n), (6, .d .bool point), (7, .d (.int .i64) behind), (8, .d (.int .i64) ahead), (9, .d (.int .i64) i)], nt := 101, up := [], own := [(0, .box 33 [.d (.int .i64) t2, .d (.int .u8) t2_2])], nx := 1, log := [], ln := 0 }
def ref12_Parse_k7 (s : List UInt8) (below : Bool) (n : Int) (point : Bool) (behind : Int) (ahead : Int) (i : Int) (t61 : Bool) (t2 : Int) (t2_2 : Int) : St := { fr := [(0, .d .str s), (2, .pb 0 0), (4, .d .bool below), (5, .d (.int .i64) n), (6, .d .bool point), (7, .d (.int .i64) behind), (8, .d (.int .i64) ahead), (9, .d (.int .i64) i), (61, .d .bool t61)], nt := 101, up := [], own := [(0, .box 33 [.d (.int .i64) t2, .d (.int .u8) t2_2])], nx := 1, log := [], ln := 0 }
def ref12_Parse_k8 (below : Bool) (n : Int) (behind : Int) (t91 : Bool) (t2 : Int) (t2_2 : Int) : St := { fr := [(2, .pb 0 0), (4, .d .bool below), (5, .d (.int .i64) n), (7, .d (.int .i64) behind), (91, .d .bool t91)], nt := 101, up := [], own := [(0, .box 33 [.d (.int .i64) t2, .d (.int .u8) t2_2])], nx := 1, log := [], ln := 0 }
def ref12_Parse_k9 (n : Int) (behind : Int) (t2 : Int) (t2_2 : Int) : St := { fr := [(2, .pb 0 0), (5, .d (.int .i64) n), (7, .d (.int .i64) behind)], nt := 101, up := [], own := [(0, .box 33 [.d (.int .i64) t2, .d (.int .u8) t2_2])], nx := 1, log := [], ln := 0 }
def ref12_Parse_m1 (j2 : List UInt8 → Bool → Int → Int → Option (As [.pr (.int .i64) (.int .u8), .bool])) (s : List UInt8) (below : Bool) (t2 : Int) (t2_2 : Int) : Option (As [.pr (.int .i64) (.int .u8), .bool]) :=
  if below = true then Option.bind (cut s 1 (Int.ofNat (List.length s))) fun (y : List UInt8) => j2 y below t2 t2_2 else j2 s below t2 t2_2
def ref12_Parse_m2 (j3 : List UInt8 → Bool → Int → Bool → Int → Int → Int → Int → Int → Option (As [.pr (.int .i64) (.int .u8), .bool])) (s : List UInt8) (below : Bool) (t2 : Int) (t2_2 : Int) : Option (As [.pr (.int .i64) (.int .u8), .bool]) :=
  j3 s below 0 false 0 0 0 t2 t2_2
def ref12_Parse_m3 (j4 : List UInt8 → Bool → Int → Bool → Int → Int → Int → Bool → Int → Int → Option (As [.pr (.int .i64) (.int .u8), .bool])) (j5 : Bool → Int → Bool → Int → Int → Int → Int → Option (As [.pr (.int .i64) (.int .u8), .bool])) (self3 : List UInt8 → Bool → Int → Bool → Int → Int → Int → Int → Int → Option (As [.pr (.int .i64) (.int .u8), .bool])) (s : List UInt8) (below : Bool) (n : Int) (point : Bool) (behind : Int) (ahead : Int) (i : Int) (t2 : Int) (t2_2 : Int) : Option (As [.pr (.int .i64) (.int .u8), .bool]) :=
  if lt i (Int.ofNat (List.length s)) = true then Option.bind (at? s i) fun (c : UInt8) => if eqi (Int.ofNat (UInt8.toNat c)) 46 = true then if (!point) = true then j4 s below n point behind ahead i (gt ahead 0) t2 t2_2 else j4 s below n point behind ahead i false t2 t2_2 else j4 s below n point behind ahead i false t2 t2_2 else j5 below n point behind ahead t2 t2_2
def ref12_Parse_m4 (j6 : List UInt8 → Bool → Int → Bool → Int → Int → Int → Int → Int → Option (As [.pr (.int .i64) (.int .u8), .bool])) (j7 : List UInt8 → Bool → Int → Bool → Int → Int → Int → Bool → Int → Int → Option (As [.pr (.int .i64) (.int .u8), .bool])) (self3 : List UInt8 → Bool → Int → Bool → Int → Int → Int → Int → Int → Option (As [.pr (.int .i64) (.int .u8), .bool])) (s : List UInt8) (below : Bool) (n : Int) (point : Bool) (behind : Int) (ahead : Int) (i : Int) (t38 : Bool) (t2 : Int) (t2_2 : Int) : Option (As [.pr (.int .i64) (.int .u8), .bool]) :=
  if t38 = true then j6 s below n true behind ahead i t2 t2_2 else Option.bind (at? s i) fun (c : UInt8) => if lt (Int.ofNat (UInt8.toNat c)) 48 = true then j7 s below n point behind ahead i true t2 t2_2 else Option.bind (at? s i) fun (c : UInt8) => if gt (Int.ofNat (UInt8.toNat c)) 57 = true then j7 s below n point behind ahead i true t2 t2_2 else if eqi ahead 1 = true then Option.bind (at? s 0) fun (c : UInt8) => if eqi (Int.ofNat (UInt8.toNat c)) 48 = true then j7 s below n point behind ahead i (!point) t2 t2_2 else j7 s below n point behind ahead i false t2 t2_2 else j7 s below n point behind ahead i false t2 t2_2
def ref12_Parse_m5 (j8 : Bool → Int → Int → Bool → Int → Int → Option (As [.pr (.int .i64) (.int .u8), .bool])) (below : Bool) (n : Int) (point : Bool) (behind : Int) (ahead : Int) (t2 : Int) (t2_2 : Int) : Option (As [.pr (.int .i64) (.int .u8), .bool]) :=
  if eqi ahead 0 = true then j8 below n behind true t2 t2_2 else if point = true then if eqi behind 0 = true then j8 below n behind true t2 t2_2 else j8 below n behind (gt behind 6) t2 t2_2 else j8 below n behind (gt behind 6) t2 t2_2
def ref12_Parse_m6 (self3 : List UInt8 → Bool → Int → Bool → Int → Int → Int → Int → Int → Option (As [.pr (.int .i64) (.int .u8), .bool])) (s : List UInt8) (below : Bool) (n : Int) (point : Bool) (behind : Int) (ahead : Int) (i : Int) (t2 : Int) (t2_2 : Int) : Option (As [.pr (.int .i64) (.int .u8), .bool]) :=
  self3 s below n point behind ahead (add .i64 i 1) t2 t2_2
def ref12_Parse_m7 (j6 : List UInt8 → Bool → Int → Bool → Int → Int → Int → Int → Int → Option (As [.pr (.int .i64) (.int .u8), .bool])) (self3 : List UInt8 → Bool → Int → Bool → Int → Int → Int → Int → Int → Option (As [.pr (.int .i64) (.int .u8), .bool])) (s : List UInt8) (below : Bool) (n : Int) (point : Bool) (behind : Int) (ahead : Int) (i : Int) (t61 : Bool) (t2 : Int) (t2_2 : Int) : Option (As [.pr (.int .i64) (.int .u8), .bool]) :=
  if t61 = true then some ((0, 0), false, ()) else if gt n 100000000000000000 = true then some ((0, 0), false, ()) else Option.bind (at? s i) fun (c : UInt8) => if point = true then j6 s below (add .i64 (mul .i64 n 10) (cvt .i64 (Sx.sub .u8 (Int.ofNat (UInt8.toNat c)) 48))) point (add .i64 behind 1) ahead i t2 t2_2 else j6 s below (add .i64 (mul .i64 n 10) (cvt .i64 (Sx.sub .u8 (Int.ofNat (UInt8.toNat c)) 48))) point behind (add .i64 ahead 1) i t2 t2_2
def ref12_Parse_m8 (j9 : Int → Int → Int → Int → Option (As [.pr (.int .i64) (.int .u8), .bool])) (below : Bool) (n : Int) (behind : Int) (t91 : Bool) (t2 : Int) (t2_2 : Int) : Option (As [.pr (.int .i64) (.int .u8), .bool]) :=
  if t91 = true then some ((0, 0), false, ()) else if below = true then j9 (Sx.neg .i64 n) behind t2 t2_2 else j9 n behind t2 t2_2
def ref12_Parse_m9 (n : Int) (behind : Int) (t2 : Int) (t2_2 : Int) : Option (As [.pr (.int .i64) (.int .u8), .bool]) :=
  Option.bind (ref12_Of (n, behind, ())) fun (y : (Int × Int) × Bool × Unit) => some ((y.fst.fst, y.fst.snd), y.snd.fst, ())
def ref12_Parse_m0 (j1 : List UInt8 → Bool → Int → Int → Option (As [.pr (.int .i64) (.int .u8), .bool])) (s : List UInt8) : Option (As [.pr (.int .i64) (.int .u8), .bool]) :=
  if gt (Int.ofNat (List.length s)) 0 = true then Option.bind (at? s 0) fun (c : UInt8) => j1 s (eqi (Int.ofNat (UInt8.toNat c)) 45) 0 0 else j1 s false 0 0
def ref12_Parse_K6 (u3 : List UInt8 → Bool → Int → Bool → Int → Int → Int → Int → Int → Option (As [.pr (.int .i64) (.int .u8), .bool])) (s : List UInt8) (below : Bool) (n : Int) (point : Bool) (behind : Int) (ahead : Int) (i : Int) (t2 : Int) (t2_2 : Int) : Option (As [.pr (.int .i64) (.int .u8), .bool]) := ref12_Parse_m6 u3 s below n point behind ahead i t2 t2_2
def ref12_Parse_K7 (u3 : List UInt8 → Bool → Int → Bool → Int → Int → Int → Int → Int → Option (As [.pr (.int .i64) (.int .u8), .bool])) (s : List UInt8) (below : Bool) (n : Int) (point : Bool) (behind : Int) (ahead : Int) (i : Int) (t61 : Bool) (t2 : Int) (t2_2 : Int) : Option (As [.pr (.int .i64) (.int .u8), .bool]) := ref12_Parse_m7 (ref12_Parse_K6 u3) u3 s below n point behind ahead i t61 t2 t2_2
def ref12_Parse_K4 (u3 : List UInt8 → Bool → Int → Bool → Int → Int → Int → Int → Int → Option (As [.pr (.int .i64) (.int .u8), .bool])) (s : List UInt8) (below : Bool) (n : Int) (point : Bool) (behind : Int) (ahead : Int) (i : Int) (t38 : Bool) (t2 : Int) (t2_2 : Int) : Option (As [.pr (.int .i64) (.int .u8), .bool]) := ref12_Parse_m4 (ref12_Parse_K6 u3) (ref12_Parse_K7 u3) u3 s below n point behind ahead i t38 t2 t2_2
def ref12_Parse_K9 (n : Int) (behind : Int) (t2 : Int) (t2_2 : Int) : Option (As [.pr (.int .i64) (.int .u8), .bool]) := ref12_Parse_m9 n behind t2 t2_2
def ref12_Parse_K8 (below : Bool) (n : Int) (behind : Int) (t91 : Bool) (t2 : Int) (t2_2 : Int) : Option (As [.pr (.int .i64) (.int .u8), .bool]) := ref12_Parse_m8 (ref12_Parse_K9) below n behind t91 t2 t2_2
def ref12_Parse_K5 (below : Bool) (n : Int) (point : Bool) (behind : Int) (ahead : Int) (t2 : Int) (t2_2 : Int) : Option (As [.pr (.int .i64) (.int .u8), .bool]) := ref12_Parse_m5 (ref12_Parse_K8) below n point behind ahead t2 t2_2
def ref12_Parse_K3 (s : List UInt8) (below : Bool) (n : Int) (point : Bool) (behind : Int) (ahead : Int) (i : Int) (t2 : Int) (t2_2 : Int) : Option (As [.pr (.int .i64) (.int .u8), .bool]) :=
  loopF (fun (self : (List UInt8) × (Bool) × (Int) × (Bool) × (Int) × (Int) × (Int) × (Int) × (Int) → Option (As [.pr (.int .i64) (.int .u8), .bool])) (s : (List UInt8) × (Bool) × (Int) × (Bool) × (Int) × (Int) × (Int) × (Int) × (Int)) => ref12_Parse_m3 (ref12_Parse_K4 (fun s below n point behind ahead i t2 t2_2 => self (s, below, n, point, behind, ahead, i, t2, t2_2))) (ref12_Parse_K5) (fun s below n point behind ahead i t2 t2_2 => self (s, below, n, point, behind, ahead, i, t2, t2_2)) s.1 s.2.1 s.2.2.1 s.2.2.2.1 s.2.2.2.2.1 s.2.2.2.2.2.1 s.2.2.2.2.2.2.1 s.2.2.2.2.2.2.2.1 s.2.2.2.2.2.2.2.2) 18446744073709551616 (s, below, n, point, behind, ahead, i, t2, t2_2)
def ref12_Parse_K2 (s : List UInt8) (below : Bool) (t2 : Int) (t2_2 : Int) : Option (As [.pr (.int .i64) (.int .u8), .bool]) := ref12_Parse_m2 (ref12_Parse_K3) s below t2 t2_2
def ref12_Parse_K1 (s : List UInt8) (below : Bool) (t2 : Int) (t2_2 : Int) : Option (As [.pr (.int .i64) (.int .u8), .bool]) := ref12_Parse_m1 (ref12_Parse_K2) s below t2 t2_2
def ref12_Parse (x : As [.str]) : Option (As [.pr (.int .i64) (.int .u8), .bool]) := ref12_Parse_m0 ref12_Parse_K1 x.1
theorem ref12_Parse_c6 (J : Orc (As [.pr (.int .i64) (.int .u8), .bool])) (w3 : St → Option (As [.pr (.int .i64) (.int .u8), .bool])) (s : List UInt8) (below : Bool) (n : Int) (point : Bool) (behind : Int) (ahead : Int) (i : Int) (t2 : Int) (t2_2 : Int) : pfn Tryd.prog ref12_Parse_e 6 18446744073709551616 (Ev.get ref12_Parse_h) 29 ref12_Parse_s J 1001 [w3] (ref12_Parse_k6 s below n point behind ahead i t2 t2_2) = ref12_Parse_m6 (fun s below n point behind ahead i t2 t2_2 => w3 (ref12_Parse_k3 s below n point behind ahead i t2 t2_2)) s below n point behind ahead i t2 t2_2 := by kernel_rfl
theorem ref12_Parse_c7 (J : Orc (As [.pr (.int .i64) (.int .u8), .bool])) (w3 : St → Option (As [.pr (.int .i64) (.int .u8), .bool])) (s : List UInt8) (below : Bool) (n : Int) (point : Bool) (behind : Int) (ahead : Int) (i : Int) (t61 : Bool) (t2 : Int) (t2_2 : Int) : pfn Tryd.prog ref12_Parse_e 6 18446744073709551616 (Ev.get ref12_Parse_h) 29 ref12_Parse_s J 16018 [w3] (ref12_Parse_k7 s below n point behind ahead i t61 t2 t2_2) = ref12_Parse_m7 (fun s below n point behind ahead i t2 t2_2 => J 1001 [w3] (ref12_Parse_k6 s below n point behind ahead i t2 t2_2)) (fun s below n point behind ahead i t2 t2_2 => w3 (ref12_Parse_k3 s below n point behind ahead i t2 t2_2)) s below n point behind ahead i t61 t2 t2_2 := by kernel_rfl
theorem ref12_Parse_c4 (J : Orc (As [.pr (.int .i64) (.int .u8), .bool])) (w3 : St → Option (As [.pr (.int .i64) (.int .u8), .bool])) (s : List UInt8) (below : Bool) (n : Int) (point : Bool) (behind : Int) (ahead : Int) (i : Int) (t38 : Bool) (t2 : Int) (t2_2 : Int) : pfn Tryd.prog ref12_Parse_e 6 18446744073709551616 (Ev.get ref12_Parse_h) 29 ref12_Parse_s J 8008 [w3] (ref12_Parse_k4 s below n point behind ahead i t38 t2 t2_2) = ref12_Parse_m4 (fun s below n point behind ahead i t2 t2_2 => J 1001 [w3] (ref12_Parse_k6 s below n point behind ahead i t2 t2_2)) (fun s below n point behind ahead i t61 t2 t2_2 => J 16018 [w3] (ref12_Parse_k7 s below n point behind ahead i t61 t2 t2_2)) (fun s below n point behind ahead i t2 t2_2 => w3 (ref12_Parse_k3 s below n point behind ahead i t2 t2_2)) s below n point behind ahead i t38 t2 t2_2 := by kernel_rfl
theorem ref12_Parse_c9 (J : Orc (As [.pr (.int .i64) (.int .u8), .bool])) (n : Int) (behind : Int) (t2 : Int) (t2_2 : Int) : pfn Tryd.prog ref12_Parse_e 6 18446744073709551616 (Ev.get ref12_Parse_h) 29 ref12_Parse_s J 127 [] (ref12_Parse_k9 n behind t2 t2_2) = ref12_Parse_m9 n behind t2 t2_2 := by kernel_rfl
theorem ref12_Parse_c8 (J : Orc (As [.pr (.int .i64) (.int .u8), .bool])) (below : Bool) (n : Int) (behind : Int) (t91 : Bool) (t2 : Int) (t2_2 : Int) : pfn Tryd.prog ref12_Parse_e 6 18446744073709551616 (Ev.get ref12_Parse_h) 29 ref12_Parse_s J 126 [] (ref12_Parse_k8 below n behind t91 t2 t2_2) = ref12_Parse_m8 (fun n behind t2 t2_2 => J 127 [] (ref12_Parse_k9 n behind t2 t2_2)) below n behind t91 t2 t2_2 := by kernel_rfl
theorem ref12_Parse_c5 (J : Orc (As [.pr (.int .i64) (.int .u8), .bool])) (below : Bool) (n : Int) (point : Bool) (behind : Int) (ahead : Int) (t2 : Int) (t2_2 : Int) : pfn Tryd.prog ref12_Parse_e 6 18446744073709551616 (Ev.get ref12_Parse_h) 29 ref12_Parse_s J 31 [] (ref12_Parse_k5 below n point behind ahead t2 t2_2) = ref12_Parse_m5 (fun below n behind t91 t2 t2_2 => J 126 [] (ref12_Parse_k8 below n behind t91 t2 t2_2)) below n point behind ahead t2 t2_2 := by kernel_rfl
theorem ref12_Parse_c3 (J : Orc (As [.pr (.int .i64) (.int .u8), .bool])) (w3 : St → Option (As [.pr (.int .i64) (.int .u8), .bool])) (s : List UInt8) (below : Bool) (n : Int) (point : Bool) (behind : Int) (ahead : Int) (i : Int) (t2 : Int) (t2_2 : Int) : pfn Tryd.prog ref12_Parse_e 6 18446744073709551616 (Ev.get ref12_Parse_h) 29 ref12_Parse_s J 250 [w3] (ref12_Parse_k3 s below n point behind ahead i t2 t2_2) = ref12_Parse_m3 (fun s below n point behind ahead i t38 t2 t2_2 => J 8008 [w3] (ref12_Parse_k4 s below n point behind ahead i t38 t2 t2_2)) (fun below n point behind ahead t2 t2_2 => J 31 [] (ref12_Parse_k5 below n point behind ahead t2 t2_2)) (fun s below n point behind ahead i t2 t2_2 => w3 (ref12_Parse_k3 s below n point behind ahead i t2 t2_2)) s below n point behind ahead i t2 t2_2 := by kernel_rfl
theorem ref12_Parse_c2 (J : Orc (As [.pr (.int .i64) (.int .u8), .bool])) (s : List UInt8) (below : Bool) (t2 : Int) (t2_2 : Int) : pfn Tryd.prog ref12_Parse_e 6 18446744073709551616 (Ev.get ref12_Parse_h) 29 ref12_Parse_s J 7 [] (ref12_Parse_k2 s below t2 t2_2) = ref12_Parse_m2 (fun s below n point behind ahead i t2 t2_2 => J 250 [] (ref12_Parse_k3 s below n point behind ahead i t2 t2_2)) s below t2 t2_2 := by kernel_rfl
theorem ref12_Parse_c1 (J : Orc (As [.pr (.int .i64) (.int .u8), .bool])) (s : List UInt8) (below : Bool) (t2 : Int) (t2_2 : Int) : pfn Tryd.prog ref12_Parse_e 6 18446744073709551616 (Ev.get ref12_Parse_h) 29 ref12_Parse_s J 3 [] (ref12_Parse_k1 s below t2 t2_2) = ref12_Parse_m1 (fun s below t2 t2_2 => J 7 [] (ref12_Parse_k2 s below t2 t2_2)) s below t2 t2_2 := by kernel_rfl
theorem ref12_Parse_c0 (J : Orc (As [.pr (.int .i64) (.int .u8), .bool])) (x : As [.str]) : rfn Tryd.prog ref12_Parse_e 6 18446744073709551616 (Ev.get ref12_Parse_h) 29 ref12_Parse_s J x = ref12_Parse_m0 (fun s below t2 t2_2 => J 3 [] (ref12_Parse_k1 s below t2 t2_2)) x.1 := by kernel_rfl
theorem ref12_Parse_g6 (w3 : St → Option (As [.pr (.int .i64) (.int .u8), .bool])) (s : List UInt8) (below : Bool) (n : Int) (point : Bool) (behind : Int) (ahead : Int) (i : Int) (t2 : Int) (t2_2 : Int) : jfn Tryd.prog ref12_Parse_e 6 18446744073709551616 (Ev.get ref12_Parse_h) 29 ref12_Parse_s 1001 [w3] (ref12_Parse_k6 s below n point behind ahead i t2 t2_2) = ref12_Parse_K6 (fun s below n point behind ahead i t2 t2_2 => w3 (ref12_Parse_k3 s below n point behind ahead i t2 t2_2)) s below n point behind ahead i t2 t2_2 := by
  rw [pfn_eq (by decide)]
  rw [ref12_Parse_c6]
  rfl
theorem ref12_Parse_g7 (w3 : St → Option (As [.pr (.int .i64) (.int .u8), .bool])) (s : List UInt8) (below : Bool) (n : Int) (point : Bool) (behind : Int) (ahead : Int) (i : Int) (t61 : Bool) (t2 : Int) (t2_2 : Int) : jfn Tryd.prog ref12_Parse_e 6 18446744073709551616 (Ev.get ref12_Parse_h) 29 ref12_Parse_s 16018 [w3] (ref12_Parse_k7 s below n point behind ahead i t61 t2 t2_2) = ref12_Parse_K7 (fun s below n point behind ahead i t2 t2_2 => w3 (ref12_Parse_k3 s below n point behind ahead i t2 t2_2)) s below n point behind ahead i t61 t2 t2_2 := by
  rw [pfn_eq (by decide)]
  have e6 : (fun s below n point behind ahead i t2 t2_2 => (jfn Tryd.prog ref12_Parse_e 6 18446744073709551616 (Ev.get ref12_Parse_h) 29 ref12_Parse_s) 1001 [w3] (ref12_Parse_k6 s below n point behind ahead i t2 t2_2)) = ref12_Parse_K6 (fun s below n point behind ahead i t2 t2_2 => w3 (ref12_Parse_k3 s below n point behind ahead i t2 t2_2)) := funext fun s => funext fun below => funext fun n => funext fun point => funext fun behind => funext fun ahead => funext fun i => funext fun t2 => funext fun t2_2 => ref12_Parse_g6 w3 s below n point behind ahead i t2 t2_2
  rw [ref12_Parse_c7, e6]
  rfl
theorem ref12_Parse_g4 (w3 : St → Option (As [.pr (.int .i64) (.int .u8), .bool])) (s : List UInt8) (below : Bool) (n : Int) (point : Bool) (behind : Int) (ahead : Int) (i : Int) (t38 : Bool) (t2 : Int) (t2_2 : Int) : jfn Tryd.prog ref12_Parse_e 6 18446744073709551616 (Ev.get ref12_Parse_h) 29 ref12_Parse_s 8008 [w3] (ref12_Parse_k4 s below n point behind ahead i t38 t2 t2_2) = ref12_Parse_K4 (fun s below n point behind ahead i t2 t2_2 => w3 (ref12_Parse_k3 s below n point behind ahead i t2 t2_2)) s below n point behind ahead i t38 t2 t2_2 := by
  rw [pfn_eq (by decide)]
  have e6 : (fun s below n point behind ahead i t2 t2_2 => (jfn Tryd.prog ref12_Parse_e 6 18446744073709551616 (Ev.get ref12_Parse_h) 29 ref12_Parse_s) 1001 [w3] (ref12_Parse_k6 s below n point behind ahead i t2 t2_2)) = ref12_Parse_K6 (fun s below n point behind ahead i t2 t2_2 => w3 (ref12_Parse_k3 s below n point behind ahead i t2 t2_2)) := funext fun s => funext fun below => funext fun n => funext fun point => funext fun behind => funext fun ahead => funext fun i => funext fun t2 => funext fun t2_2 => ref12_Parse_g6 w3 s below n point behind ahead i t2 t2_2
  have e7 : (fun s below n point behind ahead i t61 t2 t2_2 => (jfn Tryd.prog ref12_Parse_e 6 18446744073709551616 (Ev.get ref12_Parse_h) 29 ref12_Parse_s) 16018 [w3] (ref12_Parse_k7 s below n point behind ahead i t61 t2 t2_2)) = ref12_Parse_K7 (fun s below n point behind ahead i t2 t2_2 => w3 (ref12_Parse_k3 s below n point behind ahead i t2 t2_2)) := funext fun s => funext fun below => funext fun n => funext fun point => funext fun behind => funext fun ahead => funext fun i => funext fun t61 => funext fun t2 => funext fun t2_2 => ref12_Parse_g7 w3 s below n point behind ahead i t61 t2 t2_2
  rw [ref12_Parse_c4, e6, e7]
  rfl
theorem ref12_Parse_g9 (n : Int) (behind : Int) (t2 : Int) (t2_2 : Int) : jfn Tryd.prog ref12_Parse_e 6 18446744073709551616 (Ev.get ref12_Parse_h) 29 ref12_Parse_s 127 [] (ref12_Parse_k9 n behind t2 t2_2) = ref12_Parse_K9 n behind t2 t2_2 := by
  rw [pfn_eq (by decide)]
  rw [ref12_Parse_c9]
  rfl
theorem ref12_Parse_g8 (below : Bool) (n : Int) (behind : Int) (t91 : Bool) (t2 : Int) (t2_2 : Int) : jfn Tryd.prog ref12_Parse_e 6 18446744073709551616 (Ev.get ref12_Parse_h) 29 ref12_Parse_s 126 [] (ref12_Parse_k8 below n behind t91 t2 t2_2) = ref12_Parse_K8 below n behind t91 t2 t2_2 := by
  rw [pfn_eq (by decide)]
  have e9 : (fun n behind t2 t2_2 => (jfn Tryd.prog ref12_Parse_e 6 18446744073709551616 (Ev.get ref12_Parse_h) 29 ref12_Parse_s) 127 [] (ref12_Parse_k9 n behind t2 t2_2)) = ref12_Parse_K9 := funext fun n => funext fun behind => funext fun t2 => funext fun t2_2 => ref12_Parse_g9 n behind t2 t2_2
  rw [ref12_Parse_c8, e9]
  rfl
theorem ref12_Parse_g5 (below : Bool) (n : Int) (point : Bool) (behind : Int) (ahead : Int) (t2 : Int) (t2_2 : Int) : jfn Tryd.prog ref12_Parse_e 6 18446744073709551616 (Ev.get ref12_Parse_h) 29 ref12_Parse_s 31 [] (ref12_Parse_k5 below n point behind ahead t2 t2_2) = ref12_Parse_K5 below n point behind ahead t2 t2_2 := by
  rw [pfn_eq (by decide)]
  have e8 : (fun below n behind t91 t2 t2_2 => (jfn Tryd.prog ref12_Parse_e 6 18446744073709551616 (Ev.get ref12_Parse_h) 29 ref12_Parse_s) 126 [] (ref12_Parse_k8 below n behind t91 t2 t2_2)) = ref12_Parse_K8 := funext fun below => funext fun n => funext fun behind => funext fun t91 => funext fun t2 => funext fun t2_2 => ref12_Parse_g8 below n behind t91 t2 t2_2
  rw [ref12_Parse_c5, e8]
  rfl
theorem ref12_Parse_g3 (s : List UInt8) (below : Bool) (n : Int) (point : Bool) (behind : Int) (ahead : Int) (i : Int) (t2 : Int) (t2_2 : Int) : jfn Tryd.prog ref12_Parse_e 6 18446744073709551616 (Ev.get ref12_Parse_h) 29 ref12_Parse_s 250 [] (ref12_Parse_k3 s below n point behind ahead i t2 t2_2) = ref12_Parse_K3 s below n point behind ahead i t2 t2_2 := by
  rw [pfn_eq (by decide)]
  rw [pfn_loop (by kernel_rfl)]
  refine loopF_sim (σ := (List UInt8) × (Bool) × (Int) × (Bool) × (Int) × (Int) × (Int) × (Int) × (Int)) (mk := fun s => ref12_Parse_k3 s.1 s.2.1 s.2.2.1 s.2.2.2.1 s.2.2.2.2.1 s.2.2.2.2.2.1 s.2.2.2.2.2.2.1 s.2.2.2.2.2.2.2.1 s.2.2.2.2.2.2.2.2) (fun w3 s => ?_) 18446744073709551616 (s, below, n, point, behind, ahead, i, t2, t2_2)
  have e4 : (fun s below n point behind ahead i t38 t2 t2_2 => (jfn Tryd.prog ref12_Parse_e 6 18446744073709551616 (Ev.get ref12_Parse_h) 29 ref12_Parse_s) 8008 [w3] (ref12_Parse_k4 s below n point behind ahead i t38 t2 t2_2)) = ref12_Parse_K4 (fun s below n point behind ahead i t2 t2_2 => w3 (ref12_Parse_k3 s below n point behind ahead i t2 t2_2)) := funext fun s => funext fun below => funext fun n => funext fun point => funext fun behind => funext fun ahead => funext fun i => funext fun t38 => funext fun t2 => funext fun t2_2 => ref12_Parse_g4 w3 s below n point behind ahead i t38 t2 t2_2
  have e5 : (fun below n point behind ahead t2 t2_2 => (jfn Tryd.prog ref12_Parse_e 6 18446744073709551616 (Ev.get ref12_Parse_h) 29 ref12_Parse_s) 31 [] (ref12_Parse_k5 below n point behind ahead t2 t2_2)) = ref12_Parse_K5 := funext fun below => funext fun n => funext fun point => funext fun behind => funext fun ahead => funext fun t2 => funext fun t2_2 => ref12_Parse_g5 below n point behind ahead t2 t2_2
  refine (ref12_Parse_c3 _ w3 s.1 s.2.1 s.2.2.1 s.2.2.2.1 s.2.2.2.2.1 s.2.2.2.2.2.1 s.2.2.2.2.2.2.1 s.2.2.2.2.2.2.2.1 s.2.2.2.2.2.2.2.2).trans ?_
  rw [e4, e5]
theorem ref12_Parse_g2 (s : List UInt8) (below : Bool) (t2 : Int) (t2_2 : Int) : jfn Tryd.prog ref12_Parse_e 6 18446744073709551616 (Ev.get ref12_Parse_h) 29 ref12_Parse_s 7 [] (ref12_Parse_k2 s below t2 t2_2) = ref12_Parse_K2 s below t2 t2_2 := by
  rw [pfn_eq (by decide)]
  have e3 : (fun s below n point behind ahead i t2 t2_2 => (jfn Tryd.prog ref12_Parse_e 6 18446744073709551616 (Ev.get ref12_Parse_h) 29 ref12_Parse_s) 250 [] (ref12_Parse_k3 s below n point behind ahead i t2 t2_2)) = ref12_Parse_K3 := funext fun s => funext fun below => funext fun n => funext fun point => funext fun behind => funext fun ahead => funext fun i => funext fun t2 => funext fun t2_2 => ref12_Parse_g3 s below n point behind ahead i t2 t2_2
  rw [ref12_Parse_c2, e3]
  rfl
theorem ref12_Parse_g1 (s : List UInt8) (below : Bool) (t2 : Int) (t2_2 : Int) : jfn Tryd.prog ref12_Parse_e 6 18446744073709551616 (Ev.get ref12_Parse_h) 29 ref12_Parse_s 3 [] (ref12_Parse_k1 s below t2 t2_2) = ref12_Parse_K1 s below t2 t2_2 := by
  rw [pfn_eq (by decide)]
  have e2 : (fun s below t2 t2_2 => (jfn Tryd.prog ref12_Parse_e 6 18446744073709551616 (Ev.get ref12_Parse_h) 29 ref12_Parse_s) 7 [] (ref12_Parse_k2 s below t2 t2_2)) = ref12_Parse_K2 := funext fun s => funext fun below => funext fun t2 => funext fun t2_2 => ref12_Parse_g2 s below t2 t2_2
  rw [ref12_Parse_c1, e2]
  rfl
theorem ref12_Parse_t (x : As [.str]) : evT Tryd.prog ref12_Parse_e 6 18446744073709551616 (Ev.get ref12_Parse_h) 29 ref12_Parse_s x = ref12_Parse x := by
  have e1 : (fun s below t2 t2_2 => (jfn Tryd.prog ref12_Parse_e 6 18446744073709551616 (Ev.get ref12_Parse_h) 29 ref12_Parse_s) 3 [] (ref12_Parse_k1 s below t2 t2_2)) = ref12_Parse_K1 := funext fun s => funext fun below => funext fun t2 => funext fun t2_2 => ref12_Parse_g1 s below t2 t2_2
  rw [rfn_eq, ref12_Parse_c0, e1]
  rfl
theorem ref12_Parse_ok : CtOk Tryd.prog (fun _ => True) 29 ⟨ref12_Parse_s, ref12_Parse⟩ := ct_of_ev (env_cons ref12_Of_ok env_nil) ref12_Parse_t
/-! ref13_letter -/
@[reducible] def ref13_letter_s : Sh := ⟨[.d (.int .u8)], [], [.int .u8], [.d (.bool)], [], 0, [.bool]⟩
def ref13_letter_e : Env := (cts [])
def ref13_letter_h : List (Nat × Hint) := []
def ref13_letter_m0 (c : Int) : Option (As [.bool]) :=
  if ge c 97 = true then if le c 122 = true then some (true, ()) else if ge c 65 = true then if le c 90 = true then some (true, ()) else some (eqi c 37, ()) else some (eqi c 37, ()) else if ge c 65 = true then if le c 90 = true then some (true, ()) else some (eqi c 37, ()) else some (eqi c 37, ())
def ref13_letter (x : As [.int .u8]) : Option (As [.bool]) := ref13_letter_m0 x.1
theorem ref13_letter_c0 (J : Orc (As [.bool])) (x : As [.int .u8]) : rfn Tryd.prog ref13_letter_e 6 18446744073709551616 (Ev.get ref13_letter_h) 53 ref13_letter_s J x = ref13_letter_m0 x.1 := by kernel_rfl
theorem ref13_letter_t (x : As [.int .u8]) : evT Tryd.prog ref13_letter_e 6 18446744073709551616 (Ev.get ref13_letter_h) 53 ref13_letter_s x = ref13_letter x := by
  rw [rfn_eq, ref13_letter_c0]
  rfl
theorem ref13_letter_ok : CtOk Tryd.prog (fun _ => True) 53 ⟨ref13_letter_s, ref13_letter⟩ := ct_of_ev env_nil ref13_letter_t
/-! ref13_digit -/
@[reducible] def ref13_digit_s : Sh := ⟨[.d (.int .u8)], [], [.int .u8], [.d (.bool)], [], 0, [.bool]⟩
def ref13_digit_e : Env := (cts [])
def ref13_digit_h : List (Nat × Hint) := []
def ref13_digit_m0 (c : Int) : Option (As [.bool]) :=
  if ge c 48 = true then some (le c 57, ()) else some (false, ())
def ref13_digit (x : As [.int .u8]) : Option (As [.bool]) := ref13_digit_m0 x.1
theorem ref13_digit_c0 (J : Orc (As [.bool])) (x : As [.int .u8]) : rfn Tryd.prog ref13_digit_e 6 18446744073709551616 (Ev.get ref13_digit_h) 54 ref13_digit_s J x = ref13_digit_m0 x.1 := by kernel_rfl
theorem ref13_digit_t (x : As [.int .u8]) : evT Tryd.prog ref13_digit_e 6 18446744073709551616 (Ev.get ref13_digit_h) 54 ref13_digit_s x = ref13_digit x := by
  rw [rfn_eq, ref13_digit_c0]
  rfl
theorem ref13_digit_ok : CtOk Tryd.prog (fun _ => True) 54 ⟨ref13_digit_s, ref13_digit⟩ := ct_of_ev env_nil ref13_digit_t
/-! ref13_goes -/
@[reducible] def ref13_goes_s : Sh := ⟨[.d (.int .u8), .d (.int .u8)], [], [.int .u8, .int .u8], [.d (.bool)], [], 0, [.bool]⟩
def ref13_goes_e : Env := (cts [(53, (⟨ref13_letter_s, ref13_letter⟩ : Ct)), (54, (⟨ref13_digit_s, ref13_digit⟩ : Ct))])
def ref13_goes_h : List (Nat × Hint) := []
def ref13_goes_m0 (kind : Int) (c : Int) : Option (As [.bool]) :=
  if eqi kind 1 = true then Option.bind (ref13_letter (c, ())) fun (y : Bool × Unit) => if y.fst = true then some (true, ()) else Option.bind (ref13_digit (c, ())) fun (y : Bool × Unit) => if y.fst = true then some (true, ()) else some (eqi c 95, ()) else Option.bind (ref13_digit (c, ())) fun (y : Bool × Unit) => if y.fst = true then some (true, ()) else if eqi c 46 = true then some (true, ()) else some (eqi c 45, ())
def ref13_goes (x : As [.int .u8, .int .u8]) : Option (As [.bool]) := ref13_goes_m0 x.1 x.2.1
theorem ref13_goes_c0 (J : Orc (As [.bool])) (x : As [.int .u8, .int .u8]) : rfn Tryd.prog ref13_goes_e 6 18446744073709551616 (Ev.get ref13_goes_h) 55 ref13_goes_s J x = ref13_goes_m0 x.1 x.2.1 := by kernel_rfl
theorem ref13_goes_t (x : As [.int .u8, .int .u8]) : evT Tryd.prog ref13_goes_e 6 18446744073709551616 (Ev.get ref13_goes_h) 55 ref13_goes_s x = ref13_goes x := by
  rw [rfn_eq, ref13_goes_c0]
  rfl
theorem ref13_goes_ok : CtOk Tryd.prog (fun _ => True) 55 ⟨ref13_goes_s, ref13_goes⟩ := ct_of_ev (env_cons ref13_letter_ok (env_cons ref13_digit_ok env_nil)) ref13_goes_t
/-! ref13_Lex -/
@[reducible] def ref13_Lex_s : Sh := ⟨[.d (.str)], [], [.str], [.d (.sl LAT0), .d (.pr (.int .i64) (.int .i64))], [], 0, [.sl LAT0, .pr (.int .i64) (.int .i64)]⟩
def ref13_Lex_e : Env := (cts [(29, (⟨ref12_Parse_s, ref12_Parse⟩ : Ct)), (53, (⟨ref13_letter_s, ref13_letter⟩ : Ct)), (54, (⟨ref13_digit_s, ref13_digit⟩ : Ct)), (55, (⟨ref13_goes_s, ref13_goes⟩ : Ct))])
def ref13_Lex_h : List (Nat × Hint) := [(63, ⟨[], [3, 4]⟩), (506, ⟨[.row 4 35], [0, 3, 4, 5, 6, 7]⟩), (2025, ⟨[], [0, 3, 4, 5, 6, 7, 27, 28, 29, 30, 51, 52, 53, 54, 55, 62, 63, 66, 67, 77, 78, 96, 97, 98, 99, 100, 103, 104, 105, 106, 107, 108, 109, 126, 127, 128, 129]⟩), (32403, ⟨[], [0, 3, 4, 5, 6, 7, 8, 27, 28, 29, 30, 51, 52, 53, 54, 55, 62, 63, 66, 67, 77, 78, 96, 97, 98, 99, 100, 103, 104, 105, 106, 107, 108, 109, 126, 127, 128, 129]⟩), (259231, ⟨[], [0, 3, 4, 5, 7, 9, 27, 28, 29, 30, 51, 52, 53, 54, 55, 62, 63, 66, 67, 77, 78, 96, 97, 98, 99, 100, 103, 104, 105, 106, 107, 108, 109, 126, 127, 128, 129]⟩), (1036927, ⟨[], [0, 3, 4, 5, 7, 9, 27, 28, 29, 30, 51, 52, 53, 54, 55, 62, 63, 66, 67, 77, 78, 96, 97, 98, 99, 100, 103, 104, 105, 106, 107, 108, 109, 126, 127, 128, 129]⟩), (4147711, ⟨[], [0, 3, 4, 5, 7, 9, 27, 28, 29, 30, 51, 52, 53, 54, 55, 62, 63, 66, 67, 77, 78, 96, 97, 98, 99, 100, 103, 104, 105, 106, 107, 108, 109, 126, 127, 128, 129]⟩), (4147710, ⟨[], [0, 3, 4, 5, 7, 9, 130]⟩), (4147708, ⟨[], [0, 3, 4, 5, 7, 9, 27, 28, 29, 30, 51, 52, 53, 54, 55, 62, 63, 66, 67, 77, 78, 96, 97, 98, 99, 100, 103, 104, 105, 106, 107, 108, 109, 126, 127, 128, 129]⟩), (16590832, ⟨[], [0, 3, 4, 5, 7, 9, 110]⟩), (2073851, ⟨[], [0, 3, 4, 5, 7, 8, 9, 79]⟩), (129614, ⟨[], [0, 3, 4, 5, 6, 7, 8, 68]⟩), (1036904, ⟨[], [0, 3, 4, 5, 6, 7, 27, 28, 29, 30, 51, 52, 53, 54, 55, 62, 63, 66, 67, 77, 78, 96, 97, 98, 99, 100, 103, 104, 105, 106, 107, 108, 109, 126, 127, 128, 129]⟩), (4147616, ⟨[], [0, 3, 4, 5, 6, 7, 56]⟩), (16200, ⟨[], [0, 3, 4, 5, 6, 7, 31]⟩), (64802, ⟨[.row 4 35], [0, 3, 4, 5, 7]⟩)]
def ref13_Lex_k1 (text : List UInt8) (line : Int) (some' : Bool) (i : Int) (t3 : Int) (t3_2 : Int) (out : List LAT1) : St := { fr := [(0, .d .str text), (3, .pb 0 0), (4, .row 1), (5, .d (.int .i64) line), (6, .d .bool some'), (7, .d (.int .i64) i)], nt := 154, up := [], own := [(0, .box 26 [.d (.int .i64) t3, .d (.int .i64) t3_2]), (1, .row LAT0 35 out)], nx := 2, log := [], ln := 0 }
def ref13_Lex_k2 (text : List UInt8) (line : Int) (some' : Bool) (i : Int) (t31 : Bool) (t3 : Int) (t3_2 : Int) (out : List LAT1) : St := { fr := [(0, .d .str text), (3, .pb 0 0), (4, .row 1), (5, .d (.int .i64) line), (6, .d .bool some'), (7, .d (.int .i64) i), (31, .d .bool t31)], nt := 154, up := [], own := [(0, .box 26 [.d (.int .i64) t3, .d (.int .i64) t3_2]), (1, .row LAT0 35 out)], nx := 2, log := [], ln := 0 }
def ref13_Lex_k3 (t3 : Int) (t3_2 : Int) (out : List LAT1) : St := { fr := [(3, .pb 0 0), (4, .row 1)], nt := 154, up := [], own := [(0, .box 26 [.d (.int .i64) t3, .d (.int .i64) t3_2]), (1, .row LAT0 35 out)], nx := 2, log := [], ln := 0 }
def ref13_Lex_k4 (text : List UInt8) (line : Int) (i : Int) (t3 : Int) (t3_2 : Int) (out : List LAT1) : St := { fr := [(0, .d .str text), (3, .pb 0 0), (4, .row 1), (5, .d (.int .i64) line), (7, .d (.int .i64) i)], nt := 154, up := [], own := [(0, .box 26 [.d (.int .i64) t3, .d (.int .i64) t3_2]), (1, .row LAT0 35 out)], nx := 2, log := [], ln := 0 }
def ref13_Lex_k5 (text : List UInt8) (line : Int) (some' : Bool) (i : Int) (t3 : Int) (t3_2 : Int) (out : List LAT1) : St := { fr := [(0, .d .str text), (3, .pb 0 0), (4, .row 1), (5, .d (.int .i64) line), (6, .d .bool some'), (7, .d (.int .i64) i)], nt := 154, up := [], own := [(0, .box 26 [.d (.int .i64) t3, .d (.int .i64) t3_2]), (1, .row LAT0 35 out)], nx := 2, log := [], ln := 0 }
def ref13_Lex_k6 (text : List UInt8) (line : Int) (some' : Bool) (i : Int) (c : Int) (t3 : Int) (t3_2 : Int) (out : List LAT1) : St := { fr := [(0, .d .str text), (3, .pb 0 0), (4, .row 1), (5, .d (.int .i64) line), (6, .d .bool some'), (7, .d (.int .i64) i), (8, .d (.int .u8) c)], nt := 154, up := [], own := [(0, .box 26 [.d (.int .i64) t3, .d (.int .i64) t3_2]), (1, .row LAT0 35 out)], nx := 2, log := [], ln := 0 }
def ref13_Lex_k7 (text : List UInt8) (line : Int) (some' : Bool) (i : Int) (t3 : Int) (t3_2 : Int) (out : List LAT1) : St := { fr := [(0, .d .str text), (3, .pb 0 0), (4, .row 1), (5, .d (.int .i64) line), (6, .d .bool some'), (7, .d (.int .i64) i)], nt := 154, up := [], own := [(0, .box 26 [.d (.int .i64) t3, .d (.int .i64) t3_2]), (1, .row LAT0 35 out)], nx := 2, log := [], ln := 0 }
def ref13_Lex_k8 (text : List UInt8) (line : Int) (some' : Bool) (i : Int) (t56 : Bool) (t3 : Int) (t3_2 : Int) (out : List LAT1) : St := { fr := [(0, .d .str text), (3, .pb 0 0), (4, .row 1), (5, .d (.int .i64) line), (6, .d .bool some'), (7, .d (.int .i64) i), (56, .d .bool t56)], nt := 154, up := [], own := [(0, .box 26 [.d (.int .i64) t3, .d (.int .i64) t3_2]), (1, .row LAT0 35 out)], nx := 2, log := [], ln := 0 }
def ref13_Lex_k9 (text : List UInt8) (line : Int) (some' : Bool) (i : Int) (c : Int) (t68 : Bool) (t3 : Int) (t3_2 : Int) (out : List LAT1) : St := { fr := [(0, .d .str text), (3, .pb 0 0), (4, .row 1), (5, .d (.int .i64) line), (6, .d .bool some'), (7, .d (.int .i64) i), (8, .d (.int .u8) c), (68, .d .bool t68)], nt := 154, up := [], own := [(0, .box 26 [.d (.int .i64) t3, .d (.int .i64) t3_2]), (1, .row LAT0 35 out)], nx := 2, log := [], ln := 0 }
def ref13_Lex_k10 (text : List UInt8) (line : Int) (i : Int) (t3 : Int) (t3_2 : Int) (out : List LAT1) (t : Int) (t_2 : List UInt8) (t_3 : Int) (t_4 : Int) (t_5 : Int) : St := { fr := [(0, .d .str text), (3, .pb 0 0), (4, .row 1), (5, .d (.int .i64) line), (7, .d (.int .i64) i), (9, .pb 2 0)], nt := 154, up := [], own := [(0, .box 26 [.d (.int .i64) t3, .d (.int .i64) t3_2]), (1, .row LAT0 35 out), (2, .box 35 [.d (.int .u8) t, .d .str t_2, .d (.int .i64) t_3, .d (.int .u8) t_4, .d (.int .i64) t_5])], nx := 3, log := [], ln := 0 }
def ref13_Lex_k11 (text : List UInt8) (line : Int) (i : Int) (c : Int) (t79 : Bool) (t3 : Int) (t3_2 : Int) (out : List LAT1) (t : Int) (t_2 : List UInt8) (t_3 : Int) (t_4 : Int) (t_5 : Int) : St := { fr := [(0, .d .str text), (3, .pb 0 0), (4, .row 1), (5, .d (.int .i64) line), (7, .d (.int .i64) i), (8, .d (.int .u8) c), (9, .pb 2 0), (79, .d .bool t79)], nt := 154, up := [], own := [(0, .box 26 [.d (.int .i64) t3, .d (.int .i64) t3_2]), (1, .row LAT0 35 out), (2, .box 35 [.d (.int .u8) t, .d .str t_2, .d (.int .i64) t_3, .d (.int .u8) t_4, .d (.int .i64) t_5])], nx := 3, log := [], ln := 0 }
def ref13_Lex_k12 (text : List UInt8) (line : Int) (i : Int) (t3 : Int) (t3_2 : Int) (out : List LAT1) (t : Int) (t_2 : List UInt8) (t_3 : Int) (t_4 : Int) (t_5 : Int) : St := { fr := [(0, .d .str text), (3, .pb 0 0), (4, .row 1), (5, .d (.int .i64) line), (7, .d (.int .i64) i), (9, .pb 2 0)], nt := 154, up := [], own := [(0, .box 26 [.d (.int .i64) t3, .d (.int .i64) t3_2]), (1, .row LAT0 35 out), (2, .box 35 [.d (.int .u8) t, .d .str t_2, .d (.int .i64) t_3, .d (.int .u8) t_4, .d (.int .i64) t_5])], nx := 3, log := [], ln := 0 }
def ref13_Lex_k13 (text : List UInt8) (line : Int) (i : Int) (t110 : Bool) (t3 : Int) (t3_2 : Int) (out : List LAT1) (t : Int) (t_2 : List UInt8) (t_3 : Int) (t_4 : Int) (t_5 : Int) : St := { fr := [(0, .d .str text), (3, .pb 0 0), (4, .row 1), (5, .d (.int .i64) line), (7, .d (.int .i64) i), (9, .pb 2 0), (110, .d .bool t110)], nt := 154, up := [], own := [(0, .box 26 [.d (.int .i64) t3, .d (.int .i64) t3_2]), (1, .row LAT0 35 out), (2, .box 35 [.d (.int .u8) t, .d .str t_2, .d (.int .i64) t_3, .d (.int .u8) t_4, .d (.int .i64) t_5])], nx := 3, log := [], ln := 0 }
def ref13_Lex_k14 (text : List UInt8) (line : Int) (i : Int) (t3 : Int) (t3_2 : Int) (out : List LAT1) (t : Int) (t_2 : List UInt8) (t_3 : Int) (t_4 : Int) (t_5 : Int) : St := { fr := [(0, .d .str text), (3, .pb 0 0), (4, .row 1), (5, .d (.int .i64) line), (7, .d (.int .i64) i), (9, .pb 2 0)], nt := 154, up := [], own := [(0, .box 26 [.d (.int .i64) t3, .d (.int .i64) t3_2]), (1, .row LAT0 35 out), (2, .box 35 [.d (.int .u8) t, .d .str t_2, .d (.int .i64) t_3, .d (.int .u8) t_4, .d (.int .i64) t_5])], nx := 3, log := [], ln := 0 }
def ref13_Lex_k15 (text : List UInt8) (line : Int) (i : Int) (t130 : Bool) (t3 : Int) (t3_2 : Int) (out : List LAT1) (t : Int) (t_2 : List UInt8) (t_3 : Int) (t_4 : Int) (t_5 : Int) : St := { fr := [(0, .d .str text), (3, .pb 0 0), (4, .row 1), (5, .d (.int .i64) line), (7, .d (.int .i64) i), (9, .pb 2 0), (130, .d .bool t130)], nt := 154, up := [], own := [(0, .box 26 [.d (.int .i64) t3, .d (.int .i64) t3_2]), (1, .row LAT0 35 out), (2, .box 35 [.d (.int .u8) t, .d .str t_2, .d (.int .i64) t_3, .d (.int .u8) t_4, .d (.int .i64) t_5])], nx := 3, log := [], ln := 0 }
def ref13_Lex_k16 (text : List UInt8) (line : Int) (i : Int) (t3 : Int) (t3_2 : Int) (out : List LAT1) (t : Int) (t_2 : List UInt8) (t_3 : Int) (t_4 : Int) (t_5 : Int) : St := { fr := [(0, .d .str text), (3, .pb 0 0), (4, .row 1), (5, .d (.int .i64) line), (7, .d (.int .i64) i), (9, .pb 2 0)], nt := 154, up := [], own := [(0, .box 26 [.d (.int .i64) t3, .d (.int .i64) t3_2]), (1, .row LAT0 35 out), (2, .box 35 [.d (.int .u8) t, .d .str t_2, .d (.int .i64) t_3, .d (.int .u8) t_4, .d (.int .i64) t_5])], nx := 3, log := [], ln := 0 }
def ref13_Lex_m1 (j2 : List UInt8 → Int → Bool → Int → Bool → Int → Int → List LAT1 → Option (As [.sl LAT0, .pr (.int .i64) (.int .i64)])) (j3 : Int → Int → List LAT1 → Option (As [.sl LAT0, .pr (.int .i64) (.int .i64)])) (self1 : List UInt8 → Int → Bool → Int → Int → Int → List LAT1 → Option (As [.sl LAT0, .pr (.int .i64) (.int .i64)])) (text : List UInt8) (line : Int) (some' : Bool) (i : Int) (t3 : Int) (t3_2 : Int) (out : List LAT1) : Option (As [.sl LAT0, .pr (.int .i64) (.int .i64)]) :=
  if le i (Int.ofNat (List.length text)) = true then if eqi i (Int.ofNat (List.length text)) = true then j2 text line some' i true t3 t3_2 out else Option.bind (at? text i) fun (c : UInt8) => j2 text line some' i (eqi (Int.ofNat (UInt8.toNat c)) 10) t3 t3_2 out else j3 t3 t3_2 out
def ref13_Lex_m2 (j4 : List UInt8 → Int → Int → Int → Int → List LAT1 → Option (As [.sl LAT0, .pr (.int .i64) (.int .i64)])) (j5 : List UInt8 → Int → Bool → Int → Int → Int → List LAT1 → Option (As [.sl LAT0, .pr (.int .i64) (.int .i64)])) (j6 : List UInt8 → Int → Bool → Int → Int → Int → Int → List LAT1 → Option (As [.sl LAT0, .pr (.int .i64) (.int .i64)])) (self1 : List UInt8 → Int → Bool → Int → Int → Int → List LAT1 → Option (As [.sl LAT0, .pr (.int .i64) (.int .i64)])) (text : List UInt8) (line : Int) (some' : Bool) (i : Int) (t31 : Bool) (t3 : Int) (t3_2 : Int) (out : List LAT1) : Option (As [.sl LAT0, .pr (.int .i64) (.int .i64)]) :=
  if t31 = true then if some' = true then need (small (List.length out + 1)) (j4 text line i t3 t3_2 (out ++ [(4, [], (0, 0), line)])) else j4 text line i t3 t3_2 out else Option.bind (at? text i) fun (c : UInt8) => if eqi (Int.ofNat (UInt8.toNat c)) 35 = true then j5 text line some' i t3 t3_2 out else j6 text line some' i (Int.ofNat (UInt8.toNat c)) t3 t3_2 out
def ref13_Lex_m3 (t3 : Int) (t3_2 : Int) (out : List LAT1) : Option (As [.sl LAT0, .pr (.int .i64) (.int .i64)]) :=
  some (out, (0, 0), ())
def ref13_Lex_m4 (j7 : List UInt8 → Int → Bool → Int → Int → Int → List LAT1 → Option (As [.sl LAT0, .pr (.int .i64) (.int .i64)])) (self1 : List UInt8 → Int → Bool → Int → Int → Int → List LAT1 → Option (As [.sl LAT0, .pr (.int .i64) (.int .i64)])) (text : List UInt8) (line : Int) (i : Int) (t3 : Int) (t3_2 : Int) (out : List LAT1) : Option (As [.sl LAT0, .pr (.int .i64) (.int .i64)]) :=
  j7 text (add .i64 line 1) false i t3 t3_2 out
def ref13_Lex_m5 (j8 : List UInt8 → Int → Bool → Int → Bool → Int → Int → List LAT1 → Option (As [.sl LAT0, .pr (.int .i64) (.int .i64)])) (self1 : List UInt8 → Int → Bool → Int → Int → Int → List LAT1 → Option (As [.sl LAT0, .pr (.int .i64) (.int .i64)])) (self5 : List UInt8 → Int → Bool → Int → Int → Int → List LAT1 → Option (As [.sl LAT0, .pr (.int .i64) (.int .i64)])) (text : List UInt8) (line : Int) (some' : Bool) (i : Int) (t3 : Int) (t3_2 : Int) (out : List LAT1) : Option (As [.sl LAT0, .pr (.int .i64) (.int .i64)]) :=
  if lt (add .i64 i 1) (Int.ofNat (List.length text)) = true then Option.bind (at? text (add .i64 i 1)) fun (c : UInt8) => j8 text line some' i (nei (Int.ofNat (UInt8.toNat c)) 10) t3 t3_2 out else j8 text line some' i false t3 t3_2 out
def ref13_Lex_m6 (j9 : List UInt8 → Int → Bool → Int → Int → Bool → Int → Int → List LAT1 → Option (As [.sl LAT0, .pr (.int .i64) (.int .i64)])) (self1 : List UInt8 → Int → Bool → Int → Int → Int → List LAT1 → Option (As [.sl LAT0, .pr (.int .i64) (.int .i64)])) (text : List UInt8) (line : Int) (some' : Bool) (i : Int) (c : Int) (t3 : Int) (t3_2 : Int) (out : List LAT1) : Option (As [.sl LAT0, .pr (.int .i64) (.int .i64)]) :=
  if eqi c 9 = true then j9 text line some' i c true t3 t3_2 out else if eqi c 13 = true then j9 text line some' i c true t3 t3_2 out else j9 text line some' i c (eqi c 32) t3 t3_2 out
def ref13_Lex_m7 (self1 : List UInt8 → Int → Bool → Int → Int → Int → List LAT1 → Option (As [.sl LAT0, .pr (.int .i64) (.int .i64)])) (text : List UInt8) (line : Int) (some' : Bool) (i : Int) (t3 : Int) (t3_2 : Int) (out : List LAT1) : Option (As [.sl LAT0, .pr (.int .i64) (.int .i64)]) :=
  self1 text line some' (add .i64 i 1) t3 t3_2 out
def ref13_Lex_m8 (j7 : List UInt8 → Int → Bool → Int → Int → Int → List LAT1 → Option (As [.sl LAT0, .pr (.int .i64) (.int .i64)])) (self1 : List UInt8 → Int → Bool → Int → Int → Int → List LAT1 → Option (As [.sl LAT0, .pr (.int .i64) (.int .i64)])) (self5 : List UInt8 → Int → Bool → Int → Int → Int → List LAT1 → Option (As [.sl LAT0, .pr (.int .i64) (.int .i64)])) (text : List UInt8) (line : Int) (some' : Bool) (i : Int) (t56 : Bool) (t3 : Int) (t3_2 : Int) (out : List LAT1) : Option (As [.sl LAT0, .pr (.int .i64) (.int .i64)]) :=
  if t56 = true then self5 text line some' (add .i64 i 1) t3 t3_2 out else j7 text line some' i t3 t3_2 out
def ref13_Lex_m9 (j7 : List UInt8 → Int → Bool → Int → Int → Int → List LAT1 → Option (As [.sl LAT0, .pr (.int .i64) (.int .i64)])) (j10 : List UInt8 → Int → Int → Int → Int → List LAT1 → Int → List UInt8 → Int → Int → Int → Option (As [.sl LAT0, .pr (.int .i64) (.int .i64)])) (j11 : List UInt8 → Int → Int → Int → Bool → Int → Int → List LAT1 → Int → List UInt8 → Int → Int → Int → Option (As [.sl LAT0, .pr (.int .i64) (.int .i64)])) (self1 : List UInt8 → Int → Bool → Int → Int → Int → List LAT1 → Option (As [.sl LAT0, .pr (.int .i64) (.int .i64)])) (text : List UInt8) (line : Int) (some' : Bool) (i : Int) (c : Int) (t68 : Bool) (t3 : Int) (t3_2 : Int) (out : List LAT1) : Option (As [.sl LAT0, .pr (.int .i64) (.int .i64)]) :=
  if t68 = true then j7 text line some' i t3 t3_2 out else Option.bind (ref13_letter (c, ())) fun (y : Bool × Unit) => if y.fst = true then j10 text line i t3 t3_2 out 1 [] 0 0 line else Option.bind (ref13_digit (c, ())) fun (y : Bool × Unit) => if y.fst = true then j11 text line i c true t3 t3_2 out 0 [] 0 0 line else j11 text line i c (eqi c 45) t3 t3_2 out 0 [] 0 0 line
def ref13_Lex_m10 (j12 : List UInt8 → Int → Int → Int → Int → List LAT1 → Int → List UInt8 → Int → Int → Int → Option (As [.sl LAT0, .pr (.int .i64) (.int .i64)])) (self1 : List UInt8 → Int → Bool → Int → Int → Int → List LAT1 → Option (As [.sl LAT0, .pr (.int .i64) (.int .i64)])) (text : List UInt8) (line : Int) (i : Int) (t3 : Int) (t3_2 : Int) (out : List LAT1) (t : Int) (t_2 : List UInt8) (t_3 : Int) (t_4 : Int) (t_5 : Int) : Option (As [.sl LAT0, .pr (.int .i64) (.int .i64)]) :=
  Option.bind (cut text i (add .i64 i 1)) fun (y : List UInt8) => j12 text line i t3 t3_2 out t y t_3 t_4 t_5
def ref13_Lex_m11 (j10 : List UInt8 → Int → Int → Int → Int → List LAT1 → Int → List UInt8 → Int → Int → Int → Option (As [.sl LAT0, .pr (.int .i64) (.int .i64)])) (self1 : List UInt8 → Int → Bool → Int → Int → Int → List LAT1 → Option (As [.sl LAT0, .pr (.int .i64) (.int .i64)])) (text : List UInt8) (line : Int) (i : Int) (c : Int) (t79 : Bool) (t3 : Int) (t3_2 : Int) (out : List LAT1) (t : Int) (t_2 : List UInt8) (t_3 : Int) (t_4 : Int) (t_5 : Int) : Option (As [.sl LAT0, .pr (.int .i64) (.int .i64)]) :=
  if t79 = true then j10 text line i t3 t3_2 out 2 t_2 t_3 t_4 t_5 else if eqi c 61 = true then j10 text line i t3 t3_2 out 3 t_2 t_3 t_4 t_5 else some ([], (131, line), ())
def ref13_Lex_m12 (j13 : List UInt8 → Int → Int → Bool → Int → Int → List LAT1 → Int → List UInt8 → Int → Int → Int → Option (As [.sl LAT0, .pr (.int .i64) (.int .i64)])) (self1 : List UInt8 → Int → Bool → Int → Int → Int → List LAT1 → Option (As [.sl LAT0, .pr (.int .i64) (.int .i64)])) (self12 : List UInt8 → Int → Int → Int → Int → List LAT1 → Int → List UInt8 → Int → Int → Int → Option (As [.sl LAT0, .pr (.int .i64) (.int .i64)])) (text : List UInt8) (line : Int) (i : Int) (t3 : Int) (t3_2 : Int) (out : List LAT1) (t : Int) (t_2 : List UInt8) (t_3 : Int) (t_4 : Int) (t_5 : Int) : Option (As [.sl LAT0, .pr (.int .i64) (.int .i64)]) :=
  if nei t 3 = true then if lt (add .i64 i 1) (Int.ofNat (List.length text)) = true then Option.bind (at? text (add .i64 i 1)) fun (c : UInt8) => Option.bind (ref13_goes (t, Int.ofNat (UInt8.toNat c), ())) fun (y : Bool × Unit) => j13 text line i y.fst t3 t3_2 out t t_2 t_3 t_4 t_5 else j13 text line i false t3 t3_2 out t t_2 t_3 t_4 t_5 else j13 text line i false t3 t3_2 out t t_2 t_3 t_4 t_5
def ref13_Lex_m13 (j14 : List UInt8 → Int → Int → Int → Int → List LAT1 → Int → List UInt8 → Int → Int → Int → Option (As [.sl LAT0, .pr (.int .i64) (.int .i64)])) (self1 : List UInt8 → Int → Bool → Int → Int → Int → List LAT1 → Option (As [.sl LAT0, .pr (.int .i64) (.int .i64)])) (self12 : List UInt8 → Int → Int → Int → Int → List LAT1 → Int → List UInt8 → Int → Int → Int → Option (As [.sl LAT0, .pr (.int .i64) (.int .i64)])) (text : List UInt8) (line : Int) (i : Int) (t110 : Bool) (t3 : Int) (t3_2 : Int) (out : List LAT1) (t : Int) (t_2 : List UInt8) (t_3 : Int) (t_4 : Int) (t_5 : Int) : Option (As [.sl LAT0, .pr (.int .i64) (.int .i64)]) :=
  if t110 = true then Option.bind (cut text (add .i64 i 1) (add .i64 (add .i64 i 1) 1)) fun (y : List UInt8) => need (small (List.length t_2 + List.length y)) (self12 text line (add .i64 i 1) t3 t3_2 out t (t_2 ++ y) t_3 t_4 t_5) else j14 text line i t3 t3_2 out t t_2 t_3 t_4 t_5
def ref13_Lex_m14 (j15 : List UInt8 → Int → Int → Bool → Int → Int → List LAT1 → Int → List UInt8 → Int → Int → Int → Option (As [.sl LAT0, .pr (.int .i64) (.int .i64)])) (self1 : List UInt8 → Int → Bool → Int → Int → Int → List LAT1 → Option (As [.sl LAT0, .pr (.int .i64) (.int .i64)])) (text : List UInt8) (line : Int) (i : Int) (t3 : Int) (t3_2 : Int) (out : List LAT1) (t : Int) (t_2 : List UInt8) (t_3 : Int) (t_4 : Int) (t_5 : Int) : Option (As [.sl LAT0, .pr (.int .i64) (.int .i64)]) :=
  if eqi t 1 = true then j15 text line i (gt (Int.ofNat (List.length t_2)) 20) t3 t3_2 out t t_2 t_3 t_4 t_5 else j15 text line i false t3 t3_2 out t t_2 t_3 t_4 t_5
def ref13_Lex_m15 (j16 : List UInt8 → Int → Int → Int → Int → List LAT1 → Int → List UInt8 → Int → Int → Int → Option (As [.sl LAT0, .pr (.int .i64) (.int .i64)])) (self1 : List UInt8 → Int → Bool → Int → Int → Int → List LAT1 → Option (As [.sl LAT0, .pr (.int .i64) (.int .i64)])) (text : List UInt8) (line : Int) (i : Int) (t130 : Bool) (t3 : Int) (t3_2 : Int) (out : List LAT1) (t : Int) (t_2 : List UInt8) (t_3 : Int) (t_4 : Int) (t_5 : Int) : Option (As [.sl LAT0, .pr (.int .i64) (.int .i64)]) :=
  if t130 = true then some ([], (133, line), ()) else if eqi t 2 = true then Option.bind (ref12_Parse (t_2, ())) fun (y : (Int × Int) × Bool × Unit) => if (!y.snd.fst) = true then some ([], (132, line), ()) else j16 text line i t3 t3_2 out t t_2 y.fst.fst y.fst.snd t_5 else j16 text line i t3 t3_2 out t t_2 t_3 t_4 t_5
def ref13_Lex_m16 (j7 : List UInt8 → Int → Bool → Int → Int → Int → List LAT1 → Option (As [.sl LAT0, .pr (.int .i64) (.int .i64)])) (self1 : List UInt8 → Int → Bool → Int → Int → Int → List LAT1 → Option (As [.sl LAT0, .pr (.int .i64) (.int .i64)])) (text : List UInt8) (line : Int) (i : Int) (t3 : Int) (t3_2 : Int) (out : List LAT1) (t : Int) (t_2 : List UInt8) (t_3 : Int) (t_4 : Int) (t_5 : Int) : Option (As [.sl LAT0, .pr (.int .i64) (.int .i64)]) :=
  need (small (List.length out + 1)) (j7 text line true i t3 t3_2 (out ++ [(t, t_2, (t_3, t_4), t_5)]))
def ref13_Lex_m0 (j1 : List UInt8 → Int → Bool → Int → Int → Int → List LAT1 → Option (As [.sl LAT0, .pr (.int .i64) (.int .i64)])) (text : List UInt8) : Option (As [.sl LAT0, .pr (.int .i64) (.int .i64)]) :=
  if gt (Int.ofNat (List.length text)) 8192 = true then some ([], (130, 0), ()) else j1 text 1 false 0 0 0 []
def ref13_Lex_K7 (u1 : List UInt8 → Int → Bool → Int → Int → Int → List LAT1 → Option (As [.sl LAT0, .pr (.int .i64) (.int .i64)])) (text : List UInt8) (line : Int) (some' : Bool) (i : Int) (t3 : Int) (t3_2 : Int) (out : List LAT1) : Option (As [.sl LAT0, .pr (.int .i64) (.int .i64)]) := ref13_Lex_m7 u1 text line some' i t3 t3_2 out
def ref13_Lex_K4 (u1 : List UInt8 → Int → Bool → Int → Int → Int → List LAT1 → Option (As [.sl LAT0, .pr (.int .i64) (.int .i64)])) (text : List UInt8) (line : Int) (i : Int) (t3 : Int) (t3_2 : Int) (out : List LAT1) : Option (As [.sl LAT0, .pr (.int .i64) (.int .i64)]) := ref13_Lex_m4 (ref13_Lex_K7 u1) u1 text line i t3 t3_2 out
def ref13_Lex_K8 (u1 : List UInt8 → Int → Bool → Int → Int → Int → List LAT1 → Option (As [.sl LAT0, .pr (.int .i64) (.int .i64)])) (u5 : List UInt8 → Int → Bool → Int → Int → Int → List LAT1 → Option (As [.sl LAT0, .pr (.int .i64) (.int .i64)])) (text : List UInt8) (line : Int) (some' : Bool) (i : Int) (t56 : Bool) (t3 : Int) (t3_2 : Int) (out : List LAT1) : Option (As [.sl LAT0, .pr (.int .i64) (.int .i64)]) := ref13_Lex_m8 (ref13_Lex_K7 u1) u1 u5 text line some' i t56 t3 t3_2 out
def ref13_Lex_K5 (u1 : List UInt8 → Int → Bool → Int → Int → Int → List LAT1 → Option (As [.sl LAT0, .pr (.int .i64) (.int .i64)])) (text : List UInt8) (line : Int) (some' : Bool) (i : Int) (t3 : Int) (t3_2 : Int) (out : List LAT1) : Option (As [.sl LAT0, .pr (.int .i64) (.int .i64)]) :=
  loopF (fun (self : (List UInt8) × (Int) × (Bool) × (Int) × (Int) × (Int) × (List LAT1) → Option (As [.sl LAT0, .pr (.int .i64) (.int .i64)])) (s : (List UInt8) × (Int) × (Bool) × (Int) × (Int) × (Int) × (List LAT1)) => ref13_Lex_m5 (ref13_Lex_K8 u1 (fun text line some' i t3 t3_2 out => self (text, line, some', i, t3, t3_2, out))) u1 (fun text line some' i t3 t3_2 out => self (text, line, some', i, t3, t3_2, out)) s.1 s.2.1 s.2.2.1 s.2.2.2.1 s.2.2.2.2.1 s.2.2.2.2.2.1 s.2.2.2.2.2.2) 18446744073709551616 (text, line, some', i, t3, t3_2, out)
def ref13_Lex_K16 (u1 : List UInt8 → Int → Bool → Int → Int → Int → List LAT1 → Option (As [.sl LAT0, .pr (.int .i64) (.int .i64)])) (text : List UInt8) (line : Int) (i : Int) (t3 : Int) (t3_2 : Int) (out : List LAT1) (t : Int) (t_2 : List UInt8) (t_3 : Int) (t_4 : Int) (t_5 : Int) : Option (As [.sl LAT0, .pr (.int .i64) (.int .i64)]) := ref13_Lex_m16 (ref13_Lex_K7 u1) u1 text line i t3 t3_2 out t t_2 t_3 t_4 t_5
def ref13_Lex_K15 (u1 : List UInt8 → Int → Bool → Int → Int → Int → List LAT1 → Option (As [.sl LAT0, .pr (.int .i64) (.int .i64)])) (text : List UInt8) (line : Int) (i : Int) (t130 : Bool) (t3 : Int) (t3_2 : Int) (out : List LAT1) (t : Int) (t_2 : List UInt8) (t_3 : Int) (t_4 : Int) (t_5 : Int) : Option (As [.sl LAT0, .pr (.int .i64) (.int .i64)]) := ref13_Lex_m15 (ref13_Lex_K16 u1) u1 text line i t130 t3 t3_2 out t t_2 t_3 t_4 t_5
def ref13_Lex_K14 (u1 : List UInt8 → Int → Bool → Int → Int → Int → List LAT1 → Option (As [.sl LAT0, .pr (.int .i64) (.int .i64)])) (text : List UInt8) (line : Int) (i : Int) (t3 : Int) (t3_2 : Int) (out : List LAT1) (t : Int) (t_2 : List UInt8) (t_3 : Int) (t_4 : Int) (t_5 : Int) : Option (As [.sl LAT0, .pr (.int .i64) (.int .i64)]) := ref13_Lex_m14 (ref13_Lex_K15 u1) u1 text line i t3 t3_2 out t t_2 t_3 t_4 t_5
def ref13_Lex_K13 (u1 : List UInt8 → Int → Bool → Int → Int → Int → List LAT1 → Option (As [.sl LAT0, .pr (.int .i64) (.int .i64)])) (u12 : List UInt8 → Int → Int → Int → Int → List LAT1 → Int → List UInt8 → Int → Int → Int → Option (As [.sl LAT0, .pr (.int .i64) (.int .i64)])) (text : List UInt8) (line : Int) (i : Int) (t110 : Bool) (t3 : Int) (t3_2 : Int) (out : List LAT1) (t : Int) (t_2 : List UInt8) (t_3 : Int) (t_4 : Int) (t_5 : Int) : Option (As [.sl LAT0, .pr (.int .i64) (.int .i64)]) := ref13_Lex_m13 (ref13_Lex_K14 u1) u1 u12 text line i t110 t3 t3_2 out t t_2 t_3 t_4 t_5
def ref13_Lex_K12 (u1 : List UInt8 → Int → Bool → Int → Int → Int → List LAT1 → Option (As [.sl LAT0, .pr (.int .i64) (.int .i64)])) (text : List UInt8) (line : Int) (i : Int) (t3 : Int) (t3_2 : Int) (out : List LAT1) (t : Int) (t_2 : List UInt8) (t_3 : Int) (t_4 : Int) (t_5 : Int) : Option (As [.sl LAT0, .pr (.int .i64) (.int .i64)]) :=
  loopF (fun (self : (List UInt8) × (Int) × (Int) × (Int) × (Int) × (List LAT1) × (Int) × (List UInt8) × (Int) × (Int) × (Int) → Option (As [.sl LAT0, .pr (.int .i64) (.int .i64)])) (s : (List UInt8) × (Int) × (Int) × (Int) × (Int) × (List LAT1) × (Int) × (List UInt8) × (Int) × (Int) × (Int)) => ref13_Lex_m12 (ref13_Lex_K13 u1 (fun text line i t3 t3_2 out t t_2 t_3 t_4 t_5 => self (text, line, i, t3, t3_2, out, t, t_2, t_3, t_4, t_5))) u1 (fun text line i t3 t3_2 out t t_2 t_3 t_4 t_5 => self (text, line, i, t3, t3_2, out, t, t_2, t_3, t_4, t_5)) s.1 s.2.1 s.2.2.1 s.2.2.2.1 s.2.2.2.2.1 s.2.2.2.2.2.1 s.2.2.2.2.2.2.1 s.2.2.2.2.2.2.2.1 s.2.2.2.2.2.2.2.2.1 s.2.2.2.2.2.2.2.2.2.1 s.2.2.2.2.2.2.2.2.2.2) 18446744073709551616 (text, line, i, t3, t3_2, out, t, t_2, t_3, t_4, t_5)
def ref13_Lex_K10 (u1 : List UInt8 → Int → Bool → Int → Int → Int → List LAT1 → Option (As [.sl LAT0, .pr (.int .i64) (.int .i64)])) (text : List UInt8) (line : Int) (i : Int) (t3 : Int) (t3_2 : Int) (out : List LAT1) (t : Int) (t_2 : List UInt8) (t_3 : Int) (t_4 : Int) (t_5 : Int) : Option (As [.sl LAT0, .pr (.int .i64) (.int .i64)]) := ref13_Lex_m10 (ref13_Lex_K12 u1) u1 text line i t3 t3_2 out t t_2 t_3 t_4 t_5
def ref13_Lex_K11 (u1 : List UInt8 → Int → Bool → Int → Int → Int → List LAT1 → Option (As [.sl LAT0, .pr (.int .i64) (.int .i64)])) (text : List UInt8) (line : Int) (i : Int) (c : Int) (t79 : Bool) (t3 : Int) (t3_2 : Int) (out : List LAT1) (t : Int) (t_2 : List UInt8) (t_3 : Int) (t_4 : Int) (t_5 : Int) : Option (As [.sl LAT0, .pr (.int .i64) (.int .i64)]) := ref13_Lex_m11 (ref13_Lex_K10 u1) u1 text line i c t79 t3 t3_2 out t t_2 t_3 t_4 t_5
def ref13_Lex_K9 (u1 : List UInt8 → Int → Bool → Int → Int → Int → List LAT1 → Option (As [.sl LAT0, .pr (.int .i64) (.int .i64)])) (text : List UInt8) (line : Int) (some' : Bool) (i : Int) (c : Int) (t68 : Bool) (t3 : Int) (t3_2 : Int) (out : List LAT1) : Option (As [.sl LAT0, .pr (.int .i64) (.int .i64)]) := ref13_Lex_m9 (ref13_Lex_K7 u1) (ref13_Lex_K10 u1) (ref13_Lex_K11 u1) u1 text line some' i c t68 t3 t3_2 out
def ref13_Lex_K6 (u1 : List UInt8 → Int → Bool → Int → Int → Int → List LAT1 → Option (As [.sl LAT0, .pr (.int .i64) (.int .i64)])) (text : List UInt8) (line : Int) (some' : Bool) (i : Int) (c : Int) (t3 : Int) (t3_2 : Int) (out : List LAT1) : Option (As [.sl LAT0, .pr (.int .i64) (.int .i64)]) := ref13_Lex_m6 (ref13_Lex_K9 u1) u1 text line some' i c t3 t3_2 out
def ref13_Lex_K2 (u1 : List UInt8 → Int → Bool → Int → Int → Int → List LAT1 → Option (As [.sl LAT0, .pr (.int .i64) (.int .i64)])) (text : List UInt8) (line : Int) (some' : Bool) (i : Int) (t31 : Bool) (t3 : Int) (t3_2 : Int) (out : List LAT1) : Option (As [.sl LAT0, .pr (.int .i64) (.int .i64)]) := ref13_Lex_m2 (ref13_Lex_K4 u1) (ref13_Lex_K5 u1) (ref13_Lex_K6 u1) u1 text line some' i t31 t3 t3_2 out
def ref13_Lex_K3 (t3 : Int) (t3_2 : Int) (out : List LAT1) : Option (As [.sl LAT0, .pr (.int .i64) (.int .i64)]) := ref13_Lex_m3 t3 t3_2 out
def ref13_Lex_K1 (text : List UInt8) (line : Int) (some' : Bool) (i : Int) (t3 : Int) (t3_2 : Int) (out : List LAT1) : Option (As [.sl LAT0, .pr (.int .i64) (.int .i64)]) :=
  loopF (fun (self : (List UInt8) × (Int) × (Bool) × (Int) × (Int) × (Int) × (List LAT1) → Option (As [.sl LAT0, .pr (.int .i64) (.int .i64)])) (s : (List UInt8) × (Int) × (Bool) × (Int) × (Int) × (Int) × (List LAT1)) => ref13_Lex_m1 (ref13_Lex_K2 (fun text line some' i t3 t3_2 out => self (text, line, some', i, t3, t3_2, out))) (ref13_Lex_K3) (fun text line some' i t3 t3_2 out => self (text, line, some', i, t3, t3_2, out)) s.1 s.2.1 s.2.2.1 s.2.2.2.1 s.2.2.2.2.1 s.2.2.2.2.2.1 s.2.2.2.2.2.2) 18446744073709551616 (text, line, some', i, t3, t3_2, out)
def ref13_Lex (x : As [.str]) : Option (As [.sl LAT0, .pr (.int .i64) (.int .i64)]) := ref13_Lex_m0 ref13_Lex_K1 x.1
theorem ref13_Lex_c7 (J : Orc (As [.sl LAT0, .pr (.int .i64) (.int .i64)])) (w1 : St → Option (As [.sl LAT0, .pr (.int .i64) (.int .i64)])) (text : List UInt8) (line : Int) (some' : Bool) (i : Int) (t3 : Int) (t3_2 : Int) (out : List LAT1) : pfn Tryd.prog ref13_Lex_e 6 18446744073709551616 (Ev.get ref13_Lex_h) 13 ref13_Lex_s J 2025 [w1] (ref13_Lex_k7 text line some' i t3 t3_2 out) = ref13_Lex_m7 (fun text line some' i t3 t3_2 out => w1 (ref13_Lex_k1 text line some' i t3 t3_2 out)) text line some' i t3 t3_2 out := by kernel_rfl
theorem ref13_Lex_c4 (J : Orc (As [.sl LAT0, .pr (.int .i64) (.int .i64)])) (w1 : St → Option (As [.sl LAT0, .pr (.int .i64) (.int .i64)])) (text : List UInt8) (line : Int) (i : Int) (t3 : Int) (t3_2 : Int) (out : List LAT1) : pfn Tryd.prog ref13_Lex_e 6 18446744073709551616 (Ev.get ref13_Lex_h) 13 ref13_Lex_s J 64802 [w1] (ref13_Lex_k4 text line i t3 t3_2 out) = ref13_Lex_m4 (fun text line some' i t3 t3_2 out => J 2025 [w1] (ref13_Lex_k7 text line some' i t3 t3_2 out)) (fun text line some' i t3 t3_2 out => w1 (ref13_Lex_k1 text line some' i t3 t3_2 out)) text line i t3 t3_2 out := by kernel_rfl
theorem ref13_Lex_c8 (J : Orc (As [.sl LAT0, .pr (.int .i64) (.int .i64)])) (w1 : St → Option (As [.sl LAT0, .pr (.int .i64) (.int .i64)])) (w5 : St → Option (As [.sl LAT0, .pr (.int .i64) (.int .i64)])) (text : List UInt8) (line : Int) (some' : Bool) (i : Int) (t56 : Bool) (t3 : Int) (t3_2 : Int) (out : List LAT1) : pfn Tryd.prog ref13_Lex_e 6 18446744073709551616 (Ev.get ref13_Lex_h) 13 ref13_Lex_s J 4147616 [w1, w5] (ref13_Lex_k8 text line some' i t56 t3 t3_2 out) = ref13_Lex_m8 (fun text line some' i t3 t3_2 out => J 2025 [w1] (ref13_Lex_k7 text line some' i t3 t3_2 out)) (fun text line some' i t3 t3_2 out => w1 (ref13_Lex_k1 text line some' i t3 t3_2 out)) (fun text line some' i t3 t3_2 out => w5 (ref13_Lex_k5 text line some' i t3 t3_2 out)) text line some' i t56 t3 t3_2 out := by kernel_rfl
theorem ref13_Lex_c5 (J : Orc (As [.sl LAT0, .pr (.int .i64) (.int .i64)])) (w1 : St → Option (As [.sl LAT0, .pr (.int .i64) (.int .i64)])) (w5 : St → Option (As [.sl LAT0, .pr (.int .i64) (.int .i64)])) (text : List UInt8) (line : Int) (some' : Bool) (i : Int) (t3 : Int) (t3_2 : Int) (out : List LAT1) : pfn Tryd.prog ref13_Lex_e 6 18446744073709551616 (Ev.get ref13_Lex_h) 13 ref13_Lex_s J 1036904 [w1, w5] (ref13_Lex_k5 text line some' i t3 t3_2 out) = ref13_Lex_m5 (fun text line some' i t56 t3 t3_2 out => J 4147616 [w1, w5] (ref13_Lex_k8 text line some' i t56 t3 t3_2 out)) (fun text line some' i t3 t3_2 out => w1 (ref13_Lex_k1 text line some' i t3 t3_2 out)) (fun text line some' i t3 t3_2 out => w5 (ref13_Lex_k5 text line some' i t3 t3_2 out)) text line some' i t3 t3_2 out := by kernel_rfl
theorem ref13_Lex_c16 (J : Orc (As [.sl LAT0, .pr (.int .i64) (.int .i64)])) (w1 : St → Option (As [.sl LAT0, .pr (.int .i64) (.int .i64)])) (text : List UInt8) (line : Int) (i : Int) (t3 : Int) (t3_2 : Int) (out : List LAT1) (t : Int) (t_2 : List UInt8) (t_3 : Int) (t_4 : Int) (t_5 : Int) : pfn Tryd.prog ref13_Lex_e 6 18446744073709551616 (Ev.get ref13_Lex_h) 13 ref13_Lex_s J 4147711 [w1] (ref13_Lex_k16 text line i t3 t3_2 out t t_2 t_3 t_4 t_5) = ref13_Lex_m16 (fun text line some' i t3 t3_2 out => J 2025 [w1] (ref13_Lex_k7 text line some' i t3 t3_2 out)) (fun text line some' i t3 t3_2 out => w1 (ref13_Lex_k1 text line some' i t3 t3_2 out)) text line i t3 t3_2 out t t_2 t_3 t_4 t_5 := by kernel_rfl
theorem ref13_Lex_c15 (J : Orc (As [.sl LAT0, .pr (.int .i64) (.int .i64)])) (w1 : St → Option (As [.sl LAT0, .pr (.int .i64) (.int .i64)])) (text : List UInt8) (line : Int) (i : Int) (t130 : Bool) (t3 : Int) (t3_2 : Int) (out : List LAT1) (t : Int) (t_2 : List UInt8) (t_3 : Int) (t_4 : Int) (t_5 : Int) : pfn Tryd.prog ref13_Lex_e 6 18446744073709551616 (Ev.get ref13_Lex_h) 13 ref13_Lex_s J 4147710 [w1] (ref13_Lex_k15 text line i t130 t3 t3_2 out t t_2 t_3 t_4 t_5) = ref13_Lex_m15 (fun text line i t3 t3_2 out t t_2 t_3 t_4 t_5 => J 4147711 [w1] (ref13_Lex_k16 text line i t3 t3_2 out t t_2 t_3 t_4 t_5)) (fun text line some' i t3 t3_2 out => w1 (ref13_Lex_k1 text line some' i t3 t3_2 out)) text line i t130 t3 t3_2 out t t_2 t_3 t_4 t_5 := by kernel_rfl
theorem ref13_Lex_c14 (J : Orc (As [.sl LAT0, .pr (.int .i64) (.int .i64)])) (w1 : St → Option (As [.sl LAT0, .pr (.int .i64) (.int .i64)])) (text : List UInt8) (line : Int) (i : Int) (t3 : Int) (t3_2 : Int) (out : List LAT1) (t : Int) (t_2 : List UInt8) (t_3 : Int) (t_4 : Int) (t_5 : Int) : pfn Tryd.prog ref13_Lex_e 6 18446744073709551616 (Ev.get ref13_Lex_h) 13 ref13_Lex_s J 1036927 [w1] (ref13_Lex_k14 text line i t3 t3_2 out t t_2 t_3 t_4 t_5) = ref13_Lex_m14 (fun text line i t130 t3 t3_2 out t t_2 t_3 t_4 t_5 => J 4147710 [w1] (ref13_Lex_k15 text line i t130 t3 t3_2 out t t_2 t_3 t_4 t_5)) (fun text line some' i t3 t3_2 out => w1 (ref13_Lex_k1 text line some' i t3 t3_2 out)) text line i t3 t3_2 out t t_2 t_3 t_4 t_5 := by kernel_rfl
theorem ref13_Lex_c13 (J : Orc (As [.sl LAT0, .pr (.int .i64) (.int .i64)])) (w1 : St → Option (As [.sl LAT0, .pr (.int .i64) (.int .i64)])) (w12 : St → Option (As [.sl LAT0, .pr (.int .i64) (.int .i64)])) (text : List UInt8) (line : Int) (i : Int) (t110 : Bool) (t3 : Int) (t3_2 : Int) (out : List LAT1) (t : Int) (t_2 : List UInt8) (t_3 : Int) (t_4 : Int) (t_5 : Int) : pfn Tryd.prog ref13_Lex_e 6 18446744073709551616 (Ev.get ref13_Lex_h) 13 ref13_Lex_s J 16590832 [w1, w12] (ref13_Lex_k13 text line i t110 t3 t3_2 out t t_2 t_3 t_4 t_5) = ref13_Lex_m13 (fun text line i t3 t3_2 out t t_2 t_3 t_4 t_5 => J 1036927 [w1] (ref13_Lex_k14 text line i t3 t3_2 out t t_2 t_3 t_4 t_5)) (fun text line some' i t3 t3_2 out => w1 (ref13_Lex_k1 text line some' i t3 t3_2 out)) (fun text line i t3 t3_2 out t t_2 t_3 t_4 t_5 => w12 (ref13_Lex_k12 text line i t3 t3_2 out t t_2 t_3 t_4 t_5)) text line i t110 t3 t3_2 out t t_2 t_3 t_4 t_5 := by kernel_rfl
theorem ref13_Lex_c12 (J : Orc (As [.sl LAT0, .pr (.int .i64) (.int .i64)])) (w1 : St → Option (As [.sl LAT0, .pr (.int .i64) (.int .i64)])) (w12 : St → Option (As [.sl LAT0, .pr (.int .i64) (.int .i64)])) (text : List UInt8) (line : Int) (i : Int) (t3 : Int) (t3_2 : Int) (out : List LAT1) (t : Int) (t_2 : List UInt8) (t_3 : Int) (t_4 : Int) (t_5 : Int) : pfn Tryd.prog ref13_Lex_e 6 18446744073709551616 (Ev.get ref13_Lex_h) 13 ref13_Lex_s J 4147708 [w1, w12] (ref13_Lex_k12 text line i t3 t3_2 out t t_2 t_3 t_4 t_5) = ref13_Lex_m12 (fun text line i t110 t3 t3_2 out t t_2 t_3 t_4 t_5 => J 16590832 [w1, w12] (ref13_Lex_k13 text line i t110 t3 t3_2 out t t_2 t_3 t_4 t_5)) (fun text line some' i t3 t3_2 out => w1 (ref13_Lex_k1 text line some' i t3 t3_2 out)) (fun text line i t3 t3_2 out t t_2 t_3 t_4 t_5 => w12 (ref13_Lex_k12 text line i t3 t3_2 out t t_2 t_3 t_4 t_5)) text line i t3 t3_2 out t t_2 t_3 t_4 t_5 := by kernel_rfl
theorem ref13_Lex_c10 (J : Orc (As [.sl LAT0, .pr (.int .i64) (.int .i64)])) (w1 : St → Option (As [.sl LAT0, .pr (.int .i64) (.int .i64)])) (text : List UInt8) (line : Int) (i : Int) (t3 : Int) (t3_2 : Int) (out : List LAT1) (t : Int) (t_2 : List UInt8) (t_3 : Int) (t_4 : Int) (t_5 : Int) : pfn Tryd.prog ref13_Lex_e 6 18446744073709551616 (Ev.get ref13_Lex_h) 13 ref13_Lex_s J 259231 [w1] (ref13_Lex_k10 text line i t3 t3_2 out t t_2 t_3 t_4 t_5) = ref13_Lex_m10 (fun text line i t3 t3_2 out t t_2 t_3 t_4 t_5 => J 4147708 [w1] (ref13_Lex_k12 text line i t3 t3_2 out t t_2 t_3 t_4 t_5)) (fun text line some' i t3 t3_2 out => w1 (ref13_Lex_k1 text line some' i t3 t3_2 out)) text line i t3 t3_2 out t t_2 t_3 t_4 t_5 := by kernel_rfl
theorem ref13_Lex_c11 (J : Orc (As [.sl LAT0, .pr (.int .i64) (.int .i64)])) (w1 : St → Option (As [.sl LAT0, .pr (.int .i64) (.int .i64)])) (text : List UInt8) (line : Int) (i : Int) (c : Int) (t79 : Bool) (t3 : Int) (t3_2 : Int) (out : List LAT1) (t : Int) (t_2 : List UInt8) (t_3 : Int) (t_4 : Int) (t_5 : Int) : pfn Tryd.prog ref13_Lex_e 6 18446744073709551616 (Ev.get ref13_Lex_h) 13 ref13_Lex_s J 2073851 [w1] (ref13_Lex_k11 text line i c t79 t3 t3_2 out t t_2 t_3 t_4 t_5) = ref13_Lex_m11 (fun text line i t3 t3_2 out t t_2 t_3 t_4 t_5 => J 259231 [w1] (ref13_Lex_k10 text line i t3 t3_2 out t t_2 t_3 t_4 t_5)) (fun text line some' i t3 t3_2 out => w1 (ref13_Lex_k1 text line some' i t3 t3_2 out)) text line i c t79 t3 t3_2 out t t_2 t_3 t_4 t_5 := by kernel_rfl
theorem ref13_Lex_c9 (J : Orc (As [.sl LAT0, .pr (.int .i64) (.int .i64)])) (w1 : St → Option (As [.sl LAT0, .pr (.int .i64) (.int .i64)])) (text : List UInt8) (line : Int) (some' : Bool) (i : Int) (c : Int) (t68 : Bool) (t3 : Int) (t3_2 : Int) (out : List LAT1) : pfn Tryd.prog ref13_Lex_e 6 18446744073709551616 (Ev.get ref13_Lex_h) 13 ref13_Lex_s J 129614 [w1] (ref13_Lex_k9 text line some' i c t68 t3 t3_2 out) = ref13_Lex_m9 (fun text line some' i t3 t3_2 out => J 2025 [w1] (ref13_Lex_k7 text line some' i t3 t3_2 out)) (fun text line i t3 t3_2 out t t_2 t_3 t_4 t_5 => J 259231 [w1] (ref13_Lex_k10 text line i t3 t3_2 out t t_2 t_3 t_4 t_5)) (fun text line i c t79 t3 t3_2 out t t_2 t_3 t_4 t_5 => J 2073851 [w1] (ref13_Lex_k11 text line i c t79 t3 t3_2 out t t_2 t_3 t_4 t_5)) (fun text line some' i t3 t3_2 out => w1 (ref13_Lex_k1 text line some' i t3 t3_2 out)) text line some' i c t68 t3 t3_2 out := by kernel_rfl
theorem ref13_Lex_c6 (J : Orc (As [.sl LAT0, .pr (.int .i64) (.int .i64)])) (w1 : St → Option (As [.sl LAT0, .pr (.int .i64) (.int .i64)])) (text : List UInt8) (line : Int) (some' : Bool) (i : Int) (c : Int) (t3 : Int) (t3_2 : Int) (out : List LAT1) : pfn Tryd.prog ref13_Lex_e 6 18446744073709551616 (Ev.get ref13_Lex_h) 13 ref13_Lex_s J 32403 [w1] (ref13_Lex_k6 text line some' i c t3 t3_2 out) = ref13_Lex_m6 (fun text line some' i c t68 t3 t3_2 out => J 129614 [w1] (ref13_Lex_k9 text line some' i c t68 t3 t3_2 out)) (fun text line some' i t3 t3_2 out => w1 (ref13_Lex_k1 text line some' i t3 t3_2 out)) text line some' i c t3 t3_2 out := by kernel_rfl
theorem ref13_Lex_c2 (J : Orc (As [.sl LAT0, .pr (.int .i64) (.int .i64)])) (w1 : St → Option (As [.sl LAT0, .pr (.int .i64) (.int .i64)])) (text : List UInt8) (line : Int) (some' : Bool) (i : Int) (t31 : Bool) (t3 : Int) (t3_2 : Int) (out : List LAT1) : pfn Tryd.prog ref13_Lex_e 6 18446744073709551616 (Ev.get ref13_Lex_h) 13 ref13_Lex_s J 16200 [w1] (ref13_Lex_k2 text line some' i t31 t3 t3_2 out) = ref13_Lex_m2 (fun text line i t3 t3_2 out => J 64802 [w1] (ref13_Lex_k4 text line i t3 t3_2 out)) (fun text line some' i t3 t3_2 out => J 1036904 [w1] (ref13_Lex_k5 text line some' i t3 t3_2 out)) (fun text line some' i c t3 t3_2 out => J 32403 [w1] (ref13_Lex_k6 text line some' i c t3 t3_2 out)) (fun text line some' i t3 t3_2 out => w1 (ref13_Lex_k1 text line some' i t3 t3_2 out)) text line some' i t31 t3 t3_2 out := by kernel_rfl
theorem ref13_Lex_c3 (J : Orc (As [.sl LAT0, .pr (.int .i64) (.int .i64)])) (t3 : Int) (t3_2 : Int) (out : List LAT1) : pfn Tryd.prog ref13_Lex_e 6 18446744073709551616 (Ev.get ref13_Lex_h) 13 ref13_Lex_s J 63 [] (ref13_Lex_k3 t3 t3_2 out) = ref13_Lex_m3 t3 t3_2 out := by kernel_rfl
theorem ref13_Lex_c1 (J : Orc (As [.sl LAT0, .pr (.int .i64) (.int .i64)])) (w1 : St → Option (As [.sl LAT0, .pr (.int .i64) (.int .i64)])) (text : List UInt8) (line : Int) (some' : Bool) (i : Int) (t3 : Int) (t3_2 : Int) (out : List LAT1) : pfn Tryd.prog ref13_Lex_e 6 18446744073709551616 (Ev.get ref13_Lex_h) 13 ref13_Lex_s J 506 [w1] (ref13_Lex_k1 text line some' i t3 t3_2 out) = ref13_Lex_m1 (fun text line some' i t31 t3 t3_2 out => J 16200 [w1] (ref13_Lex_k2 text line some' i t31 t3 t3_2 out)) (fun t3 t3_2 out => J 63 [] (ref13_Lex_k3 t3 t3_2 out)) (fun text line some' i t3 t3_2 out => w1 (ref13_Lex_k1 text line some' i t3 t3_2 out)) text line some' i t3 t3_2 out := by kernel_rfl
theorem ref13_Lex_c0 (J : Orc (As [.sl LAT0, .pr (.int .i64) (.int .i64)])) (x : As [.str]) : rfn Tryd.prog ref13_Lex_e 6 18446744073709551616 (Ev.get ref13_Lex_h) 13 ref13_Lex_s J x = ref13_Lex_m0 (fun text line some' i t3 t3_2 out => J 506 [] (ref13_Lex_k1 text line some' i t3 t3_2 out)) x.1 := by kernel_rfl
theorem ref13_Lex_g7 (w1 : St → Option (As [.sl LAT0, .pr (.int .i64) (.int .i64)])) (text : List UInt8) (line : Int) (some' : Bool) (i : Int) (t3 : Int) (t3_2 : Int) (out : List LAT1) : jfn Tryd.prog ref13_Lex_e 6 18446744073709551616 (Ev.get ref13_Lex_h) 13 ref13_Lex_s 2025 [w1] (ref13_Lex_k7 text line some' i t3 t3_2 out) = ref13_Lex_K7 (fun text line some' i t3 t3_2 out => w1 (ref13_Lex_k1 text line some' i t3 t3_2 out)) text line some' i t3 t3_2 out := by
  rw [pfn_eq (by decide)]
  rw [ref13_Lex_c7]
  rfl
theorem ref13_Lex_g4 (w1 : St → Option (As [.sl LAT0, .pr (.int .i64) (.int .i64)])) (text : List UInt8) (line : Int) (i : Int) (t3 : Int) (t3_2 : Int) (out : List LAT1) : jfn Tryd.prog ref13_Lex_e 6 18446744073709551616 (Ev.get ref13_Lex_h) 13 ref13_Lex_s 64802 [w1] (ref13_Lex_k4 text line i t3 t3_2 out) = ref13_Lex_K4 (fun text line some' i t3 t3_2 out => w1 (ref13_Lex_k1 text line some' i t3 t3_2 out)) text line i t3 t3_2 out := by
  rw [pfn_eq (by decide)]
  have e7 : (fun text line some' i t3 t3_2 out => (jfn Tryd.prog ref13_Lex_e 6 18446744073709551616 (Ev.get ref13_Lex_h) 13 ref13_Lex_s) 2025 [w1] (ref13_Lex_k7 text line some' i t3 t3_2 out)) = ref13_Lex_K7 (fun text line some' i t3 t3_2 out => w1 (ref13_Lex_k1 text line some' i t3 t3_2 out)) := funext fun text => funext fun line => funext fun some' => funext fun i => funext fun t3 => funext fun t3_2 => funext fun out => ref13_Lex_g7 w1 text line some' i t3 t3_2 out
  rw [ref13_Lex_c4, e7]
  rfl
theorem ref13_Lex_g8 (w1 : St → Option (As [.sl LAT0, .pr (.int .i64) (.int .i64)])) (w5 : St → Option (As [.sl LAT0, .pr (.int .i64) (.int .i64)])) (text : List UInt8) (line : Int) (some' : Bool) (i : Int) (t56 : Bool) (t3 : Int) (t3_2 : Int) (out : List LAT1) : jfn Tryd.prog ref13_Lex_e 6 18446744073709551616 (Ev.get ref13_Lex_h) 13 ref13_Lex_s 4147616 [w1, w5] (ref13_Lex_k8 text line some' i t56 t3 t3_2 out) = ref13_Lex_K8 (fun text line some' i t3 t3_2 out => w1 (ref13_Lex_k1 text line some' i t3 t3_2 out)) (fun text line some' i t3 t3_2 out => w5 (ref13_Lex_k5 text line some' i t3 t3_2 out)) text line some' i t56 t3 t3_2 out := by
  rw [pfn_eq (by decide)]
  have e7 : (fun text line some' i t3 t3_2 out => (jfn Tryd.prog ref13_Lex_e 6 18446744073709551616 (Ev.get ref13_Lex_h) 13 ref13_Lex_s) 2025 [w1] (ref13_Lex_k7 text line some' i t3 t3_2 out)) = ref13_Lex_K7 (fun text line some' i t3 t3_2 out => w1 (ref13_Lex_k1 text line some' i t3 t3_2 out)) := funext fun text => funext fun line => funext fun some' => funext fun i => funext fun t3 => funext fun t3_2 => funext fun out => ref13_Lex_g7 w1 text line some' i t3 t3_2 out
  rw [ref13_Lex_c8, e7]
  rfl
theorem ref13_Lex_g5 (w1 : St → Option (As [.sl LAT0, .pr (.int .i64) (.int .i64)])) (text : List UInt8) (line : Int) (some' : Bool) (i : Int) (t3 : Int) (t3_2 : Int) (out : List LAT1) : jfn Tryd.prog ref13_Lex_e 6 18446744073709551616 (Ev.get ref13_Lex_h) 13 ref13_Lex_s 1036904 [w1] (ref13_Lex_k5 text line some' i t3 t3_2 out) = ref13_Lex_K5 (fun text line some' i t3 t3_2 out => w1 (ref13_Lex_k1 text line some' i t3 t3_2 out)) text line some' i t3 t3_2 out := by
  rw [pfn_eq (by decide)]
  rw [pfn_loop (by kernel_rfl)]
  refine loopF_sim (σ := (List UInt8) × (Int) × (Bool) × (Int) × (Int) × (Int) × (List LAT1)) (mk := fun s => ref13_Lex_k5 s.1 s.2.1 s.2.2.1 s.2.2.2.1 s.2.2.2.2.1 s.2.2.2.2.2.1 s.2.2.2.2.2.2) (fun w5 s => ?_) 18446744073709551616 (text, line, some', i, t3, t3_2, out)
  have e8 : (fun text line some' i t56 t3 t3_2 out => (jfn Tryd.prog ref13_Lex_e 6 18446744073709551616 (Ev.get ref13_Lex_h) 13 ref13_Lex_s) 4147616 [w1, w5] (ref13_Lex_k8 text line some' i t56 t3 t3_2 out)) = ref13_Lex_K8 (fun text line some' i t3 t3_2 out => w1 (ref13_Lex_k1 text line some' i t3 t3_2 out)) (fun text line some' i t3 t3_2 out => w5 (ref13_Lex_k5 text line some' i t3 t3_2 out)) := funext fun text => funext fun line => funext fun some' => funext fun i => funext fun t56 => funext fun t3 => funext fun t3_2 => funext fun out => ref13_Lex_g8 w1 w5 text line some' i t56 t3 t3_2 out
  refine (ref13_Lex_c5 _ w1 w5 s.1 s.2.1 s.2.2.1 s.2.2.2.1 s.2.2.2.2.1 s.2.2.2.2.2.1 s.2.2.2.2.2.2).trans ?_
  rw [e8]
theorem ref13_Lex_g16 (w1 : St → Option (As [.sl LAT0, .pr (.int .i64) (.int .i64)])) (text : List UInt8) (line : Int) (i : Int) (t3 : Int) (t3_2 : Int) (out : List LAT1) (t : Int) (t_2 : List UInt8) (t_3 : Int) (t_4 : Int) (t_5 : Int) : jfn Tryd.prog ref13_Lex_e 6 18446744073709551616 (Ev.get ref13_Lex_h) 13 ref13_Lex_s 4147711 [w1] (ref13_Lex_k16 text line i t3 t3_2 out t t_2 t_3 t_4 t_5) = ref13_Lex_K16 (fun text line some' i t3 t3_2 out => w1 (ref13_Lex_k1 text line some' i t3 t3_2 out)) text line i t3 t3_2 out t t_2 t_3 t_4 t_5 := by
  rw [pfn_eq (by decide)]
  have e7 : (fun text line some' i t3 t3_2 out => (jfn Tryd.prog ref13_Lex_e 6 18446744073709551616 (Ev.get ref13_Lex_h) 13 ref13_Lex_s) 2025 [w1] (ref13_Lex_k7 text line some' i t3 t3_2 out)) = ref13_Lex_K7 (fun text line some' i t3 t3_2 out => w1 (ref13_Lex_k1 text line some' i t3 t3_2 out)) := funext fun text => funext fun line => funext fun some' => funext fun i => funext fun t3 => funext fun t3_2 => funext fun out => ref13_Lex_g7 w1 text line some' i t3 t3_2 out
  rw [ref13_Lex_c16, e7]
  rfl
theorem ref13_Lex_g15 (w1 : St → Option (As [.sl LAT0, .pr (.int .i64) (.int .i64)])) (text : List UInt8) (line : Int) (i : Int) (t130 : Bool) (t3 : Int) (t3_2 : Int) (out : List LAT1) (t : Int) (t_2 : List UInt8) (t_3 : Int) (t_4 : Int) (t_5 : Int) : jfn Tryd.prog ref13_Lex_e 6 18446744073709551616 (Ev.get ref13_Lex_h) 13 ref13_Lex_s 4147710 [w1] (ref13_Lex_k15 text line i t130 t3 t3_2 out t t_2 t_3 t_4 t_5) = ref13_Lex_K15 (fun text line some' i t3 t3_2 out => w1 (ref13_Lex_k1 text line some' i t3 t3_2 out)) text line i t130 t3 t3_2 out t t_2 t_3 t_4 t_5 := by
  rw [pfn_eq (by decide)]
  have e16 : (fun text line i t3 t3_2 out t t_2 t_3 t_4 t_5 => (jfn Tryd.prog ref13_Lex_e 6 18446744073709551616 (Ev.get ref13_Lex_h) 13 ref13_Lex_s) 4147711 [w1] (ref13_Lex_k16 text line i t3 t3_2 out t t_2 t_3 t_4 t_5)) = ref13_Lex_K16 (fun text line some' i t3 t3_2 out => w1 (ref13_Lex_k1 text line some' i t3 t3_2 out)) := funext fun text => funext fun line => funext fun i => funext fun t3 => funext fun t3_2 => funext fun out => funext fun t => funext fun t_2 => funext fun t_3 => funext fun t_4 => funext fun t_5 => ref13_Lex_g16 w1 text line i t3 t3_2 out t t_2 t_3 t_4 t_5
  rw [ref13_Lex_c15, e16]
  rfl
theorem ref13_Lex_g14 (w1 : St → Option (As [.sl LAT0, .pr (.int .i64) (.int .i64)])) (text : List UInt8) (line : Int) (i : Int) (t3 : Int) (t3_2 : Int) (out : List LAT1) (t : Int) (t_2 : List UInt8) (t_3 : Int) (t_4 : Int) (t_5 : Int) : jfn Tryd.prog ref13_Lex_e 6 18446744073709551616 (Ev.get ref13_Lex_h) 13 ref13_Lex_s 1036927 [w1] (ref13_Lex_k14 text line i t3 t3_2 out t t_2 t_3 t_4 t_5) = ref13_Lex_K14 (fun text line some' i t3 t3_2 out => w1 (ref13_Lex_k1 text line some' i t3 t3_2 out)) text line i t3 t3_2 out t t_2 t_3 t_4 t_5 := by
  rw [pfn_eq (by decide)]
  have e15 : (fun text line i t130 t3 t3_2 out t t_2 t_3 t_4 t_5 => (jfn Tryd.prog ref13_Lex_e 6 18446744073709551616 (Ev.get ref13_Lex_h) 13 ref13_Lex_s) 4147710 [w1] (ref13_Lex_k15 text line i t130 t3 t3_2 out t t_2 t_3 t_4 t_5)) = ref13_Lex_K15 (fun text line some' i t3 t3_2 out => w1 (ref13_Lex_k1 text line some' i t3 t3_2 out)) := funext fun text => funext fun line => funext fun i => funext fun t130 => funext fun t3 => funext fun t3_2 => funext fun out => funext fun t => funext fun t_2 => funext fun t_3 => funext fun t_4 => funext fun t_5 => ref13_Lex_g15 w1 text line i t130 t3 t3_2 out t t_2 t_3 t_4 t_5
  rw [ref13_Lex_c14, e15]
  rfl
theorem ref13_Lex_g13 (w1 : St → Option (As [.sl LAT0, .pr (.int .i64) (.int .i64)])) (w12 : St → Option (As [.sl LAT0, .pr (.int .i64) (.int .i64)])) (text : List UInt8) (line : Int) (i : Int) (t110 : Bool) (t3 : Int) (t3_2 : Int) (out : List LAT1) (t : Int) (t_2 : List UInt8) (t_3 : Int) (t_4 : Int) (t_5 : Int) : jfn Tryd.prog ref13_Lex_e 6 18446744073709551616 (Ev.get ref13_Lex_h) 13 ref13_Lex_s 16590832 [w1, w12] (ref13_Lex_k13 text line i t110 t3 t3_2 out t t_2 t_3 t_4 t_5) = ref13_Lex_K13 (fun text line some' i t3 t3_2 out => w1 (ref13_Lex_k1 text line some' i t3 t3_2 out)) (fun text line i t3 t3_2 out t t_2 t_3 t_4 t_5 => w12 (ref13_Lex_k12 text line i t3 t3_2 out t t_2 t_3 t_4 t_5)) text line i t110 t3 t3_2 out t t_2 t_3 t_4 t_5 := by
  rw [pfn_eq (by decide)]
  have e14 : (fun text line i t3 t3_2 out t t_2 t_3 t_4 t_5 => (jfn Tryd.prog ref13_Lex_e 6 18446744073709551616 (Ev.get ref13_Lex_h) 13 ref13_Lex_s) 1036927 [w1] (ref13_Lex_k14 text line i t3 t3_2 out t t_2 t_3 t_4 t_5)) = ref13_Lex_K14 (fun text line some' i t3 t3_2 out => w1 (ref13_Lex_k1 text line some' i t3 t3_2 out)) := funext fun text => funext fun line => funext fun i => funext fun t3 => funext fun t3_2 => funext fun out => funext fun t => funext fun t_2 => funext fun t_3 => funext fun t_4 => funext fun t_5 => ref13_Lex_g14 w1 text line i t3 t3_2 out t t_2 t_3 t_4 t_5
  rw [ref13_Lex_c13, e14]
  rfl
theorem ref13_Lex_g12 (w1 : St → Option (As [.sl LAT0, .pr (.int .i64) (.int .i64)])) (text : List UInt8) (line : Int) (i : Int) (t3 : Int) (t3_2 : Int) (out : List LAT1) (t : Int) (t_2 : List UInt8) (t_3 : Int) (t_4 : Int) (t_5 : Int) : jfn Tryd.prog ref13_Lex_e 6 18446744073709551616 (Ev.get ref13_Lex_h) 13 ref13_Lex_s 4147708 [w1] (ref13_Lex_k12 text line i t3 t3_2 out t t_2 t_3 t_4 t_5) = ref13_Lex_K12 (fun text line some' i t3 t3_2 out => w1 (ref13_Lex_k1 text line some' i t3 t3_2 out)) text line i t3 t3_2 out t t_2 t_3 t_4 t_5 := by
  rw [pfn_eq (by decide)]
  rw [pfn_loop (by kernel_rfl)]
  refine loopF_sim (σ := (List UInt8) × (Int) × (Int) × (Int) × (Int) × (List LAT1) × (Int) × (List UInt8) × (Int) × (Int) × (Int)) (mk := fun s => ref13_Lex_k12 s.1 s.2.1 s.2.2.1 s.2.2.2.1 s.2.2.2.2.1 s.2.2.2.2.2.1 s.2.2.2.2.2.2.1 s.2.2.2.2.2.2.2.1 s.2.2.2.2.2.2.2.2.1 s.2.2.2.2.2.2.2.2.2.1 s.2.2.2.2.2.2.2.2.2.2) (fun w12 s => ?_) 18446744073709551616 (text, line, i, t3, t3_2, out, t, t_2, t_3, t_4, t_5)
  have e13 : (fun text line i t110 t3 t3_2 out t t_2 t_3 t_4 t_5 => (jfn Tryd.prog ref13_Lex_e 6 18446744073709551616 (Ev.get ref13_Lex_h) 13 ref13_Lex_s) 16590832 [w1, w12] (ref13_Lex_k13 text line i t110 t3 t3_2 out t t_2 t_3 t_4 t_5)) = ref13_Lex_K13 (fun text line some' i t3 t3_2 out => w1 (ref13_Lex_k1 text line some' i t3 t3_2 out)) (fun text line i t3 t3_2 out t t_2 t_3 t_4 t_5 => w12 (ref13_Lex_k12 text line i t3 t3_2 out t t_2 t_3 t_4 t_5)) := funext fun text => funext fun line => funext fun i => funext fun t110 => funext fun t3 => funext fun t3_2 => funext fun out => funext fun t => funext fun t_2 => funext fun t_3 => funext fun t_4 => funext fun t_5 => ref13_Lex_g13 w1 w12 text line i t110 t3 t3_2 out t t_2 t_3 t_4 t_5
  refine (ref13_Lex_c12 _ w1 w12 s.1 s.2.1 s.2.2.1 s.2.2.2.1 s.2.2.2.2.1 s.2.2.2.2.2.1 s.2.2.2.2.2.2.1 s.2.2.2.2.2.2.2.1 s.2.2.2.2.2.2.2.2.1 s.2.2.2.2.2.2.2.2.2.1 s.2.2.2.2.2.2.2.2.2.2).trans ?_
  rw [e13]
theorem ref13_Lex_g10 (w1 : St → Option (As [.sl LAT0, .pr (.int .i64) (.int .i64)])) (text : List UInt8) (line : Int) (i : Int) (t3 : Int) (t3_2 : Int) (out : List LAT1) (t : Int) (t_2 : List UInt8) (t_3 : Int) (t_4 : Int) (t_5 : Int) : jfn Tryd.prog ref13_Lex_e 6 18446744073709551616 (Ev.get ref13_Lex_h) 13 ref13_Lex_s 259231 [w1] (ref13_Lex_k10 text line i t3 t3_2 out t t_2 t_3 t_4 t_5) = ref13_Lex_K10 (fun text line some' i t3 t3_2 out => w1 (ref13_Lex_k1 text line some' i t3 t3_2 out)) text line i t3 t3_2 out t t_2 t_3 t_4 t_5 := by
  rw [pfn_eq (by decide)]
  have e12 : (fun text line i t3 t3_2 out t t_2 t_3 t_4 t_5 => (jfn Tryd.prog ref13_Lex_e 6 18446744073709551616 (Ev.get ref13_Lex_h) 13 ref13_Lex_s) 4147708 [w1] (ref13_Lex_k12 text line i t3 t3_2 out t t_2 t_3 t_4 t_5)) = ref13_Lex_K12 (fun text line some' i t3 t3_2 out => w1 (ref13_Lex_k1 text line some' i t3 t3_2 out)) := funext fun text => funext fun line => funext fun i => funext fun t3 => funext fun t3_2 => funext fun out => funext fun t => funext fun t_2 => funext fun t_3 => funext fun t_4 => funext fun t_5 => ref13_Lex_g12 w1 text line i t3 t3_2 out t t_2 t_3 t_4 t_5
  rw [ref13_Lex_c10, e12]
  rfl
theorem ref13_Lex_g11 (w1 : St → Option (As [.sl LAT0, .pr (.int .i64) (.int .i64)])) (text : List UInt8) (line : Int) (i : Int) (c : Int) (t79 : Bool) (t3 : Int) (t3_2 : Int) (out : List LAT1) (t : Int) (t_2 : List UInt8) (t_3 : Int) (t_4 : Int) (t_5 : Int) : jfn Tryd.prog ref13_Lex_e 6 18446744073709551616 (Ev.get ref13_Lex_h) 13 ref13_Lex_s 2073851 [w1] (ref13_Lex_k11 text line i c t79 t3 t3_2 out t t_2 t_3 t_4 t_5) = ref13_Lex_K11 (fun text line some' i t3 t3_2 out => w1 (ref13_Lex_k1 text line some' i t3 t3_2 out)) text line i c t79 t3 t3_2 out t t_2 t_3 t_4 t_5 := by
  rw [pfn_eq (by decide)]
  have e10 : (fun text line i t3 t3_2 out t t_2 t_3 t_4 t_5 => (jfn Tryd.prog ref13_Lex_e 6 18446744073709551616 (Ev.get ref13_Lex_h) 13 ref13_Lex_s) 259231 [w1] (ref13_Lex_k10 text line i t3 t3_2 out t t_2 t_3 t_4 t_5)) = ref13_Lex_K10 (fun text line some' i t3 t3_2 out => w1 (ref13_Lex_k1 text line some' i t3 t3_2 out)) := funext fun text => funext fun line => funext fun i => funext fun t3 => funext fun t3_2 => funext fun out => funext fun t => funext fun t_2 => funext fun t_3 => funext fun t_4 => funext fun t_5 => ref13_Lex_g10 w1 text line i t3 t3_2 out t t_2 t_3 t_4 t_5
  rw [ref13_Lex_c11, e10]
  rfl
theorem ref13_Lex_g9 (w1 : St → Option (As [.sl LAT0, .pr (.int .i64) (.int .i64)])) (text : List UInt8) (line : Int) (some' : Bool) (i : Int) (c : Int) (t68 : Bool) (t3 : Int) (t3_2 : Int) (out : List LAT1) : jfn Tryd.prog ref13_Lex_e 6 18446744073709551616 (Ev.get ref13_Lex_h) 13 ref13_Lex_s 129614 [w1] (ref13_Lex_k9 text line some' i c t68 t3 t3_2 out) = ref13_Lex_K9 (fun text line some' i t3 t3_2 out => w1 (ref13_Lex_k1 text line some' i t3 t3_2 out)) text line some' i c t68 t3 t3_2 out := by
  rw [pfn_eq (by decide)]
  have e7 : (fun text line some' i t3 t3_2 out => (jfn Tryd.prog ref13_Lex_e 6 18446744073709551616 (Ev.get ref13_Lex_h) 13 ref13_Lex_s) 2025 [w1] (ref13_Lex_k7 text line some' i t3 t3_2 out)) = ref13_Lex_K7 (fun text line some' i t3 t3_2 out => w1 (ref13_Lex_k1 text line some' i t3 t3_2 out)) := funext fun text => funext fun line => funext fun some' => funext fun i => funext fun t3 => funext fun t3_2 => funext fun out => ref13_Lex_g7 w1 text line some' i t3 t3_2 out
  have e10 : (fun text line i t3 t3_2 out t t_2 t_3 t_4 t_5 => (jfn Tryd.prog ref13_Lex_e 6 18446744073709551616 (Ev.get ref13_Lex_h) 13 ref13_Lex_s) 259231 [w1] (ref13_Lex_k10 text line i t3 t3_2 out t t_2 t_3 t_4 t_5)) = ref13_Lex_K10 (fun text line some' i t3 t3_2 out => w1 (ref13_Lex_k1 text line some' i t3 t3_2 out)) := funext fun text => funext fun line => funext fun i => funext fun t3 => funext fun t3_2 => funext fun out => funext fun t => funext fun t_2 => funext fun t_3 => funext fun t_4 => funext fun t_5 => ref13_Lex_g10 w1 text line i t3 t3_2 out t t_2 t_3 t_4 t_5
  have e11 : (fun text line i c t79 t3 t3_2 out t t_2 t_3 t_4 t_5 => (jfn Tryd.prog ref13_Lex_e 6 18446744073709551616 (Ev.get ref13_Lex_h) 13 ref13_Lex_s) 2073851 [w1] (ref13_Lex_k11 text line i c t79 t3 t3_2 out t t_2 t_3 t_4 t_5)) = ref13_Lex_K11 (fun text line some' i t3 t3_2 out => w1 (ref13_Lex_k1 text line some' i t3 t3_2 out)) := funext fun text => funext fun line => funext fun i => funext fun c => funext fun t79 => funext fun t3 => funext fun t3_2 => funext fun out => funext fun t => funext fun t_2 => funext fun t_3 => funext fun t_4 => funext fun t_5 => ref13_Lex_g11 w1 text line i c t79 t3 t3_2 out t t_2 t_3 t_4 t_5
  rw [ref13_Lex_c9, e7, e10, e11]
  rfl
theorem ref13_Lex_g6 (w1 : St → Option (As [.sl LAT0, .pr (.int .i64) (.int .i64)])) (text : List UInt8) (line : Int) (some' : Bool) (i : Int) (c : Int) (t3 : Int) (t3_2 : Int) (out : List LAT1) : jfn Tryd.prog ref13_Lex_e 6 18446744073709551616 (Ev.get ref13_Lex_h) 13 ref13_Lex_s 32403 [w1] (ref13_Lex_k6 text line some' i c t3 t3_2 out) = ref13_Lex_K6 (fun text line some' i t3 t3_2 out => w1 (ref13_Lex_k1 text line some' i t3 t3_2 out)) text line some' i c t3 t3_2 out := by
  rw [pfn_eq (by decide)]
  have e9 : (fun text line some' i c t68 t3 t3_2 out => (jfn Tryd.prog ref13_Lex_e 6 18446744073709551616 (Ev.get ref13_Lex_h) 13 ref13_Lex_s) 129614 [w1] (ref13_Lex_k9 text line some' i c t68 t3 t3_2 out)) = ref13_Lex_K9 (fun text line some' i t3 t3_2 out => w1 (ref13_Lex_k1 text line some' i t3 t3_2 out)) := funext fun text => funext fun line => funext fun some' => funext fun i => funext fun c => funext fun t68 => funext fun t3 => funext fun t3_2 => funext fun out => ref13_Lex_g9 w1 text line some' i c t68 t3 t3_2 out
  rw [ref13_Lex_c6, e9]
  rfl
theorem ref13_Lex_g2 (w1 : St → Option (As [.sl LAT0, .pr (.int .i64) (.int .i64)])) (text : List UInt8) (line : Int) (some' : Bool) (i : Int) (t31 : Bool) (t3 : Int) (t3_2 : Int) (out : List LAT1) : jfn Tryd.prog ref13_Lex_e 6 18446744073709551616 (Ev.get ref13_Lex_h) 13 ref13_Lex_s 16200 [w1] (ref13_Lex_k2 text line some' i t31 t3 t3_2 out) = ref13_Lex_K2 (fun text line some' i t3 t3_2 out => w1 (ref13_Lex_k1 text line some' i t3 t3_2 out)) text line some' i t31 t3 t3_2 out := by
  rw [pfn_eq (by decide)]
  have e4 : (fun text line i t3 t3_2 out => (jfn Tryd.prog ref13_Lex_e 6 18446744073709551616 (Ev.get ref13_Lex_h) 13 ref13_Lex_s) 64802 [w1] (ref13_Lex_k4 text line i t3 t3_2 out)) = ref13_Lex_K4 (fun text line some' i t3 t3_2 out => w1 (ref13_Lex_k1 text line some' i t3 t3_2 out)) := funext fun text => funext fun line => funext fun i => funext fun t3 => funext fun t3_2 => funext fun out => ref13_Lex_g4 w1 text line i t3 t3_2 out
  have e5 : (fun text line some' i t3 t3_2 out => (jfn Tryd.prog ref13_Lex_e 6 18446744073709551616 (Ev.get ref13_Lex_h) 13 ref13_Lex_s) 1036904 [w1] (ref13_Lex_k5 text line some' i t3 t3_2 out)) = ref13_Lex_K5 (fun text line some' i t3 t3_2 out => w1 (ref13_Lex_k1 text line some' i t3 t3_2 out)) := funext fun text => funext fun line => funext fun some' => funext fun i => funext fun t3 => funext fun t3_2 => funext fun out => ref13_Lex_g5 w1 text line some' i t3 t3_2 out
  have e6 : (fun text line some' i c t3 t3_2 out => (jfn Tryd.prog ref13_Lex_e 6 18446744073709551616 (Ev.get ref13_Lex_h) 13 ref13_Lex_s) 32403 [w1] (ref13_Lex_k6 text line some' i c t3 t3_2 out)) = ref13_Lex_K6 (fun text line some' i t3 t3_2 out => w1 (ref13_Lex_k1 text line some' i t3 t3_2 out)) := funext fun text => funext fun line => funext fun some' => funext fun i => funext fun c => funext fun t3 => funext fun t3_2 => funext fun out => ref13_Lex_g6 w1 text line some' i c t3 t3_2 out
  rw [ref13_Lex_c2, e4, e5, e6]
  rfl
theorem ref13_Lex_g3 (t3 : Int) (t3_2 : Int) (out : List LAT1) : jfn Tryd.prog ref13_Lex_e 6 18446744073709551616 (Ev.get ref13_Lex_h) 13 ref13_Lex_s 63 [] (ref13_Lex_k3 t3 t3_2 out) = ref13_Lex_K3 t3 t3_2 out := by
  rw [pfn_eq (by decide)]
  rw [ref13_Lex_c3]
  rfl
theorem ref13_Lex_g1 (text : List UInt8) (line : Int) (some' : Bool) (i : Int) (t3 : Int) (t3_2 : Int) (out : List LAT1) : jfn Tryd.prog ref13_Lex_e 6 18446744073709551616 (Ev.get ref13_Lex_h) 13 ref13_Lex_s 506 [] (ref13_Lex_k1 text line some' i t3 t3_2 out) = ref13_Lex_K1 text line some' i t3 t3_2 out := by
  rw [pfn_eq (by decide)]
  rw [pfn_loop (by kernel_rfl)]
  refine loopF_sim (σ := (List UInt8) × (Int) × (Bool) × (Int) × (Int) × (Int) × (List LAT1)) (mk := fun s => ref13_Lex_k1 s.1 s.2.1 s.2.2.1 s.2.2.2.1 s.2.2.2.2.1 s.2.2.2.2.2.1 s.2.2.2.2.2.2) (fun w1 s => ?_) 18446744073709551616 (text, line, some', i, t3, t3_2, out)
  have e2 : (fun text line some' i t31 t3 t3_2 out => (jfn Tryd.prog ref13_Lex_e 6 18446744073709551616 (Ev.get ref13_Lex_h) 13 ref13_Lex_s) 16200 [w1] (ref13_Lex_k2 text line some' i t31 t3 t3_2 out)) = ref13_Lex_K2 (fun text line some' i t3 t3_2 out => w1 (ref13_Lex_k1 text line some' i t3 t3_2 out)) := funext fun text => funext fun line => funext fun some' => funext fun i => funext fun t31 => funext fun t3 => funext fun t3_2 => funext fun out => ref13_Lex_g2 w1 text line some' i t31 t3 t3_2 out
  have e3 : (fun t3 t3_2 out => (jfn Tryd.prog ref13_Lex_e 6 18446744073709551616 (Ev.get ref13_Lex_h) 13 ref13_Lex_s) 63 [] (ref13_Lex_k3 t3 t3_2 out)) = ref13_Lex_K3 := funext fun t3 => funext fun t3_2 => funext fun out => ref13_Lex_g3 t3 t3_2 out
  refine (ref13_Lex_c1 _ w1 s.1 s.2.1 s.2.2.1 s.2.2.2.1 s.2.2.2.2.1 s.2.2.2.2.2.1 s.2.2.2.2.2.2).trans ?_
  rw [e2, e3]
theorem ref13_Lex_t (x : As [.str]) : evT Tryd.prog ref13_Lex_e 6 18446744073709551616 (Ev.get ref13_Lex_h) 13 ref13_Lex_s x = ref13_Lex x := by
  have e1 : (fun text line some' i t3 t3_2 out => (jfn Tryd.prog ref13_Lex_e 6 18446744073709551616 (Ev.get ref13_Lex_h) 13 ref13_Lex_s) 506 [] (ref13_Lex_k1 text line some' i t3 t3_2 out)) = ref13_Lex_K1 := funext fun text => funext fun line => funext fun some' => funext fun i => funext fun t3 => funext fun t3_2 => funext fun out => ref13_Lex_g1 text line some' i t3 t3_2 out
  rw [rfn_eq, ref13_Lex_c0, e1]
  rfl
theorem ref13_Lex_ok : CtOk Tryd.prog (fun _ => True) 13 ⟨ref13_Lex_s, ref13_Lex⟩ := ct_of_ev (env_cons ref12_Parse_ok (env_cons ref13_letter_ok (env_cons ref13_digit_ok (env_cons ref13_goes_ok env_nil)))) ref13_Lex_t
/-! law13_LexTells -/
@[reducible] def law13_LexTells_s : Sh := ⟨[.d (.str)], [], [.str], [.d (.bool)], [], 0, [.bool]⟩
def law13_LexTells_e : Env := (cts [(11, (⟨law13_awake_s, law13_awake⟩ : Ct)), (12, (⟨lex_Lex_s, lex_Lex⟩ : Ct)), (13, (⟨ref13_Lex_s, ref13_Lex⟩ : Ct)), (14, (⟨law13_same_s, law13_same⟩ : Ct))])
def law13_LexTells_h : List (Nat × Hint) := []
def law13_LexTells_m0 (text : List UInt8) : Option (As [.bool]) :=
  if gt (Int.ofNat (List.length text)) 9000 = true then Option.bind (law13_awake ()) fun (y : Bool × Unit) => some (y.fst, ()) else Option.bind (lex_Lex (text, ())) fun (y : List LAT1 × (Int × Int) × Unit) => Option.bind (ref13_Lex (text, ())) fun (y_1 : List LAT1 × (Int × Int) × Unit) => if (eqi y.snd.fst.fst y_1.snd.fst.fst && (eqi y.snd.fst.snd y_1.snd.fst.snd && true)) = true then Option.bind (law13_same (y.fst, y_1.fst, ())) fun (y : Bool × Unit) => if y.fst = true then Option.bind (law13_awake ()) fun (y : Bool × Unit) => some (y.fst, ()) else some (false, ()) else some (false, ())
def law13_LexTells (x : As [.str]) : Option (As [.bool]) := law13_LexTells_m0 x.1
theorem law13_LexTells_c0 (J : Orc (As [.bool])) (x : As [.str]) : rfn Tryd.prog law13_LexTells_e 6 18446744073709551616 (Ev.get law13_LexTells_h) 3 law13_LexTells_s J x = law13_LexTells_m0 x.1 := by kernel_rfl
theorem law13_LexTells_t (x : As [.str]) : evT Tryd.prog law13_LexTells_e 6 18446744073709551616 (Ev.get law13_LexTells_h) 3 law13_LexTells_s x = law13_LexTells x := by
  rw [rfn_eq, law13_LexTells_c0]
  rfl
theorem law13_LexTells_ok : CtOk Tryd.prog (fun _ => True) 3 ⟨law13_LexTells_s, law13_LexTells⟩ := ct_of_ev (env_cons law13_awake_ok (env_cons lex_Lex_ok (env_cons ref13_Lex_ok (env_cons law13_same_ok env_nil)))) law13_LexTells_t
/-! law13_LexKinds -/
@[reducible] def law13_LexKinds_s : Sh := ⟨[.d (.sl (.int .u8)), .d (.bool)], [], [.sl (.int .u8), .bool], [.d (.bool)], [], 0, [.bool]⟩
def law13_LexKinds_e : Env := (cts [(11, (⟨law13_awake_s, law13_awake⟩ : Ct)), (12, (⟨lex_Lex_s, lex_Lex⟩ : Ct)), (14, (⟨law13_same_s, law13_same⟩ : Ct))])
def law13_LexKinds_h : List (Nat × Hint) := [(7, ⟨[], [1, 5, 48, 49, 50, 56, 57, 58, 59, 60, 61, 62, 70, 71, 72, 101, 102, 103, 104, 105, 106, 107, 108, 109]⟩), (31, ⟨[], [1, 5, 70, 71, 72, 101, 102, 103, 104, 105, 106, 107, 108, 109]⟩), (254, ⟨[], [1, 5, 10, 73, 101, 102, 103, 104, 105, 106, 107, 108, 109]⟩), (4075, ⟨[], [11, 12, 101, 102, 103, 104, 105, 106, 107, 108, 109]⟩), (16303, ⟨[], [110]⟩), (251, ⟨[], [1, 5, 63, 70, 71, 72, 101, 102, 103, 104, 105, 106, 107, 108, 109]⟩), (250, ⟨[], [1, 5, 51, 70, 71, 72, 101, 102, 103, 104, 105, 106, 107, 108, 109]⟩), (58, ⟨[], [1, 5, 19, 20, 21, 48, 49, 50, 56, 57, 58, 59, 60, 61, 62, 70, 71, 72, 101, 102, 103, 104, 105, 106, 107, 108, 109]⟩)]
def law13_LexKinds_k1 (blank : Bool) (word : List UInt8) (t19 : List Int) (t20 : Int) (t21 : Int) : St := { fr := [(1, .d .bool blank), (5, .d .str word), (19, .d (.sl (.int .u8)) t19), (20, .d (.int .i64) t20), (21, .d (.int .i64) t21)], nt := 112, up := [], own := [], nx := 0, log := [], ln := 0 }
def law13_LexKinds_k2 (blank : Bool) (word : List UInt8) : St := { fr := [(1, .d .bool blank), (5, .d .str word)], nt := 112, up := [], own := [], nx := 0, log := [], ln := 0 }
def law13_LexKinds_k3 (blank : Bool) (word : List UInt8) (t51 : Bool) : St := { fr := [(1, .d .bool blank), (5, .d .str word), (51, .d .bool t51)], nt := 112, up := [], own := [], nx := 0, log := [], ln := 0 }
def law13_LexKinds_k4 (blank : Bool) (word : List UInt8) (t63 : Bool) : St := { fr := [(1, .d .bool blank), (5, .d .str word), (63, .d .bool t63)], nt := 112, up := [], own := [], nx := 0, log := [], ln := 0 }
def law13_LexKinds_k5 (blank : Bool) (word : List UInt8) : St := { fr := [(1, .d .bool blank), (5, .d .str word)], nt := 112, up := [], own := [], nx := 0, log := [], ln := 0 }
def law13_LexKinds_k6 (blank : Bool) (word : List UInt8) (half : Int) (t73 : Bool) : St := { fr := [(1, .d .bool blank), (5, .d .str word), (10, .d (.int .i64) half), (73, .d .bool t73)], nt := 112, up := [], own := [], nx := 0, log := [], ln := 0 }
def law13_LexKinds_k7 (two : List UInt8) (want : Int) : St := { fr := [(11, .d .str two), (12, .d (.int .i64) want)], nt := 112, up := [], own := [], nx := 0, log := [], ln := 0 }
def law13_LexKinds_k8 (t110 : Bool) : St := { fr := [(110, .d .bool t110)], nt := 112, up := [], own := [], nx := 0, log := [], ln := 0 }
def law13_LexKinds_m1 (j2 : Bool → List UInt8 → Option (As [.bool])) (self1 : Bool → List UInt8 → List Int → Int → Int → Option (As [.bool])) (blank : Bool) (word : List UInt8) (t19 : List Int) (t20 : Int) (t21 : Int) : Option (As [.bool]) :=
  if lt t21 t20 = true then Option.bind (at? t19 t21) fun (y : Int) => Option.bind (cut [97, 98, 122, 65, 90, 37, 48, 57, 95] (rem (cvt .i64 y) 9) (add .i64 (rem (cvt .i64 y) 9) 1)) fun (y : List UInt8) => need (small (List.length word + List.length y)) (self1 blank (word ++ y) t19 t20 (add .i64 t21 1)) else j2 blank word
def law13_LexKinds_m2 (j3 : Bool → List UInt8 → Bool → Option (As [.bool])) (j4 : Bool → List UInt8 → Bool → Option (As [.bool])) (blank : Bool) (word : List UInt8) : Option (As [.bool]) :=
  Option.bind (lex_Lex (word, ())) fun (y : List LAT1 × (Int × Int) × Unit) => if gt (Int.ofNat (List.length word)) 20 = true then if (!(eqi y.snd.fst.fst 133 && (eqi y.snd.fst.snd 1 && true))) = true then j3 blank word true else j3 blank word (nei (Int.ofNat (List.length y.fst)) 0) else if nei y.snd.fst.fst 0 = true then j4 blank word true else Option.bind (law13_same (y.fst, [(1, word, (0, 0), 1), (4, [], (0, 0), 1)], ())) fun (y : Bool × Unit) => j4 blank word !y.fst
def law13_LexKinds_m3 (j5 : Bool → List UInt8 → Option (As [.bool])) (blank : Bool) (word : List UInt8) (t51 : Bool) : Option (As [.bool]) :=
  if t51 = true then some (false, ()) else j5 blank word
def law13_LexKinds_m4 (j5 : Bool → List UInt8 → Option (As [.bool])) (blank : Bool) (word : List UInt8) (t63 : Bool) : Option (As [.bool]) :=
  if t63 = true then some (false, ()) else j5 blank word
def law13_LexKinds_m5 (j6 : Bool → List UInt8 → Int → Bool → Option (As [.bool])) (blank : Bool) (word : List UInt8) : Option (As [.bool]) :=
  if gt (quo .i64 (Int.ofNat (List.length word)) 2) 0 = true then j6 blank word (quo .i64 (Int.ofNat (List.length word)) 2) (le (Int.ofNat (List.length word)) 20) else j6 blank word (quo .i64 (Int.ofNat (List.length word)) 2) false
def law13_LexKinds_m6 (j7 : List UInt8 → Int → Option (As [.bool])) (blank : Bool) (word : List UInt8) (half : Int) (t73 : Bool) : Option (As [.bool]) :=
  if t73 = true then Option.bind (cut word 0 half) fun (y : List UInt8) => need (small (Nat.succ (Nat.succ (List.length y)))) (Option.bind (cut word half (Int.ofNat (List.length word))) fun (y_1 : List UInt8) => need (small (List.length (y ++ [32, 120]) + List.length y_1)) (if (!blank) = true then Option.bind (cut word 0 half) fun (y : List UInt8) => need (small (Nat.succ (List.length y))) (Option.bind (cut word half (Int.ofNat (List.length word))) fun (y_2 : List UInt8) => need (small (List.length (y ++ [120]) + List.length y_2)) (j7 (y ++ [120] ++ y_2) 2)) else j7 (y ++ [32, 120] ++ y_1) 3)) else Option.bind (law13_awake ()) fun (y : Bool × Unit) => some (y.fst, ())
def law13_LexKinds_m7 (j8 : Bool → Option (As [.bool])) (two : List UInt8) (want : Int) : Option (As [.bool]) :=
  Option.bind (lex_Lex (two, ())) fun (y : List LAT1 × (Int × Int) × Unit) => if le (Int.ofNat (List.length two)) 20 = true then if nei y.snd.fst.fst 0 = true then j8 true else j8 (nei (Int.ofNat (List.length y.fst)) want) else j8 false
def law13_LexKinds_m8 (t110 : Bool) : Option (As [.bool]) :=
  if t110 = true then some (false, ()) else Option.bind (law13_awake ()) fun (y : Bool × Unit) => some (y.fst, ())
def law13_LexKinds_m0 (j1 : Bool → List UInt8 → List Int → Int → Int → Option (As [.bool])) (picks : List Int) (blank : Bool) : Option (As [.bool]) :=
  Option.bind (cut picks 0 (if lt 40 (Int.ofNat (List.length picks)) = true then 40 else Int.ofNat (List.length picks))) fun (y : List Int) => j1 blank [119] y (Int.ofNat (List.length y)) 0
def law13_LexKinds_K8 (t110 : Bool) : Option (As [.bool]) := law13_LexKinds_m8 t110
def law13_LexKinds_K7 (two : List UInt8) (want : Int) : Option (As [.bool]) := law13_LexKinds_m7 (law13_LexKinds_K8) two want
def law13_LexKinds_K6 (blank : Bool) (word : List UInt8) (half : Int) (t73 : Bool) : Option (As [.bool]) := law13_LexKinds_m6 (law13_LexKinds_K7) blank word half t73
def law13_LexKinds_K5 (blank : Bool) (word : List UInt8) : Option (As [.bool]) := law13_LexKinds_m5 (law13_LexKinds_K6) blank word
def law13_LexKinds_K3 (blank : Bool) (word : List UInt8) (t51 : Bool) : Option (As [.bool]) := law13_LexKinds_m3 (law13_LexKinds_K5) blank word t51
def law13_LexKinds_K4 (blank : Bool) (word : List UInt8) (t63 : Bool) : Option (As [.bool]) := law13_LexKinds_m4 (law13_LexKinds_K5) blank word t63
def law13_LexKinds_K2 (blank : Bool) (word : List UInt8) : Option (As [.bool]) := law13_LexKinds_m2 (law13_LexKinds_K3) (law13_LexKinds_K4) blank word
def law13_LexKinds_K1 (blank : Bool) (word : List UInt8) (t19 : List Int) (t20 : Int) (t21 : Int) : Option (As [.bool]) :=
  loopF (fun (self : (Bool) × (List UInt8) × (List Int) × (Int) × (Int) → Option (As [.bool])) (s : (Bool) × (List UInt8) × (List Int) × (Int) × (Int)) => law13_LexKinds_m1 (law13_LexKinds_K2) (fun blank word t19 t20 t21 => self (blank, word, t19, t20, t21)) s.1 s.2.1 s.2.2.1 s.2.2.2.1 s.2.2.2.2) 18446744073709551616 (blank, word, t19, t20, t21)
def law13_LexKinds (x : As [.sl (.int .u8), .bool]) : Option (As [.bool]) := law13_LexKinds_m0 law13_LexKinds_K1 x.1 x.2.1
theorem law13_LexKinds_c8 (J : Orc (As [.bool])) (t110 : Bool) : pfn Tryd.prog law13_LexKinds_e 6 18446744073709551616 (Ev.get law13_LexKinds_h) 4 law13_LexKinds_s J 16303 [] (law13_LexKinds_k8 t110) = law13_LexKinds_m8 t110 := by kernel_rfl
theorem law13_LexKinds_c7 (J : Orc (As [.bool])) (two : List UInt8) (want : Int) : pfn Tryd.prog law13_LexKinds_e 6 18446744073709551616 (Ev.get law13_LexKinds_h) 4 law13_LexKinds_s J 4075 [] (law13_LexKinds_k7 two want) = law13_LexKinds_m7 (fun t110 => J 16303 [] (law13_LexKinds_k8 t110)) two want := by kernel_rfl
theorem law13_LexKinds_c6 (J : Orc (As [.bool])) (blank : Bool) (word : List UInt8) (half : Int) (t73 : Bool) : pfn Tryd.prog law13_LexKinds_e 6 18446744073709551616 (Ev.get law13_LexKinds_h) 4 law13_LexKinds_s J 254 [] (law13_LexKinds_k6 blank word half t73) = law13_LexKinds_m6 (fun two want => J 4075 [] (law13_LexKinds_k7 two want)) blank word half t73 := by kernel_rfl
theorem law13_LexKinds_c5 (J : Orc (As [.bool])) (blank : Bool) (word : List UInt8) : pfn Tryd.prog law13_LexKinds_e 6 18446744073709551616 (Ev.get law13_LexKinds_h) 4 law13_LexKinds_s J 31 [] (law13_LexKinds_k5 blank word) = law13_LexKinds_m5 (fun blank word half t73 => J 254 [] (law13_LexKinds_k6 blank word half t73)) blank word := by kernel_rfl
theorem law13_LexKinds_c3 (J : Orc (As [.bool])) (blank : Bool) (word : List UInt8) (t51 : Bool) : pfn Tryd.prog law13_LexKinds_e 6 18446744073709551616 (Ev.get law13_LexKinds_h) 4 law13_LexKinds_s J 250 [] (law13_LexKinds_k3 blank word t51) = law13_LexKinds_m3 (fun blank word => J 31 [] (law13_LexKinds_k5 blank word)) blank word t51 := by kernel_rfl
theorem law13_LexKinds_c4 (J : Orc (As [.bool])) (blank : Bool) (word : List UInt8) (t63 : Bool) : pfn Tryd.prog law13_LexKinds_e 6 18446744073709551616 (Ev.get law13_LexKinds_h) 4 law13_LexKinds_s J 251 [] (law13_LexKinds_k4 blank word t63) = law13_LexKinds_m4 (fun blank word => J 31 [] (law13_LexKinds_k5 blank word)) blank word t63 := by kernel_rfl
theorem law13_LexKinds_c2 (J : Orc (As [.bool])) (blank : Bool) (word : List UInt8) : pfn Tryd.prog law13_LexKinds_e 6 18446744073709551616 (Ev.get law13_LexKinds_h) 4 law13_LexKinds_s J 7 [] (law13_LexKinds_k2 blank word) = law13_LexKinds_m2 (fun blank word t51 => J 250 [] (law13_LexKinds_k3 blank word t51)) (fun blank word t63 => J 251 [] (law13_LexKinds_k4 blank word t63)) blank word := by kernel_rfl
theorem law13_LexKinds_c1 (J : Orc (As [.bool])) (w1 : St → Option (As [.bool])) (blank : Bool) (word : List UInt8) (t19 : List Int) (t20 : Int) (t21 : Int) : pfn Tryd.prog law13_LexKinds_e 6 18446744073709551616 (Ev.get law13_LexKinds_h) 4 law13_LexKinds_s J 58 [w1] (law13_LexKinds_k1 blank word t19 t20 t21) = law13_LexKinds_m1 (fun blank word => J 7 [] (law13_LexKinds_k2 blank word)) (fun blank word t19 t20 t21 => w1 (law13_LexKinds_k1 blank word t19 t20 t21)) blank word t19 t20 t21 := by kernel_rfl
theorem law13_LexKinds_c0 (J : Orc (As [.bool])) (x : As [.sl (.int .u8), .bool]) : rfn Tryd.prog law13_LexKinds_e 6 18446744073709551616 (Ev.get law13_LexKinds_h) 4 law13_LexKinds_s J x = law13_LexKinds_m0 (fun blank word t19 t20 t21 => J 58 [] (law13_LexKinds_k1 blank word t19 t20 t21)) x.1 x.2.1 := by kernel_rfl
theorem law13_LexKinds_g8 (t110 : Bool) : jfn Tryd.prog law13_LexKinds_e 6 18446744073709551616 (Ev.get law13_LexKinds_h) 4 law13_LexKinds_s 16303 [] (law13_LexKinds_k8 t110) = law13_LexKinds_K8 t110 := by
  rw [pfn_eq (by decide)]
  rw [law13_LexKinds_c8]
  rfl
theorem law13_LexKinds_g7 (two : List UInt8) (want : Int) : jfn Tryd.prog law13_LexKinds_e 6 18446744073709551616 (Ev.get law13_LexKinds_h) 4 law13_LexKinds_s 4075 [] (law13_LexKinds_k7 two want) = law13_LexKinds_K7 two want := by
  rw [pfn_eq (by decide)]
  have e8 : (fun t110 => (jfn Tryd.prog law13_LexKinds_e 6 18446744073709551616 (Ev.get law13_LexKinds_h) 4 law13_LexKinds_s) 16303 [] (law13_LexKinds_k8 t110)) = law13_LexKinds_K8 := funext fun t110 => law13_LexKinds_g8 t110
  rw [law13_LexKinds_c7, e8]
  rfl
theorem law13_LexKinds_g6 (blank : Bool) (word : List UInt8) (half : Int) (t73 : Bool) : jfn Tryd.prog law13_LexKinds_e 6 18446744073709551616 (Ev.get law13_LexKinds_h) 4 law13_LexKinds_s 254 [] (law13_LexKinds_k6 blank word half t73) = law13_LexKinds_K6 blank word half t73 := by
  rw [pfn_eq (by decide)]
  have e7 : (fun two want => (jfn Tryd.prog law13_LexKinds_e 6 18446744073709551616 (Ev.get law13_LexKinds_h) 4 law13_LexKinds_s) 4075 [] (law13_LexKinds_k7 two want)) = law13_LexKinds_K7 := funext fun two => funext fun want => law13_LexKinds_g7 two want
  rw [law13_LexKinds_c6, e7]
  rfl
theorem law13_LexKinds_g5 (blank : Bool) (word : List UInt8) : jfn Tryd.prog law13_LexKinds_e 6 18446744073709551616 (Ev.get law13_LexKinds_h) 4 law13_LexKinds_s 31 [] (law13_LexKinds_k5 blank word) = law13_LexKinds_K5 blank word := by
  rw [pfn_eq (by decide)]
  have e6 : (fun blank word half t73 => (jfn Tryd.prog law13_LexKinds_e 6 18446744073709551616 (Ev.get law13_LexKinds_h) 4 law13_LexKinds_s) 254 [] (law13_LexKinds_k6 blank word half t73)) = law13_LexKinds_K6 := funext fun blank => funext fun word => funext fun half => funext fun t73 => law13_LexKinds_g6 blank word half t73
  rw [law13_LexKinds_c5, e6]
  rfl
theorem law13_LexKinds_g3 (blank : Bool) (word : List UInt8) (t51 : Bool) : jfn Tryd.prog law13_LexKinds_e 6 18446744073709551616 (Ev.get law13_LexKinds_h) 4 law13_LexKinds_s 250 [] (law13_LexKinds_k3 blank word t51) = law13_LexKinds_K3 blank word t51 := by
  rw [pfn_eq (by decide)]
  have e5 : (fun blank word => (jfn Tryd.prog law13_LexKinds_e 6 18446744073709551616 (Ev.get law13_LexKinds_h) 4 law13_LexKinds_s) 31 [] (law13_LexKinds_k5 blank word)) = law13_LexKinds_K5 := funext fun blank => funext fun word => law13_LexKinds_g5 blank word
  rw [law13_LexKinds_c3, e5]
  rfl
theorem law13_LexKinds_g4 (blank : Bool) (word : List UInt8) (t63 : Bool) : jfn Tryd.prog law13_LexKinds_e 6 18446744073709551616 (Ev.get law13_LexKinds_h) 4 law13_LexKinds_s 251 [] (law13_LexKinds_k4 blank word t63) = law13_LexKinds_K4 blank word t63 := by
  rw [pfn_eq (by decide)]
  have e5 : (fun blank word => (jfn Tryd.prog law13_LexKinds_e 6 18446744073709551616 (Ev.get law13_LexKinds_h) 4 law13_LexKinds_s) 31 [] (law13_LexKinds_k5 blank word)) = law13_LexKinds_K5 := funext fun blank => funext fun word => law13_LexKinds_g5 blank word
  rw [law13_LexKinds_c4, e5]
  rfl
theorem law13_LexKinds_g2 (blank : Bool) (word : List UInt8) : jfn Tryd.prog law13_LexKinds_e 6 18446744073709551616 (Ev.get law13_LexKinds_h) 4 law13_LexKinds_s 7 [] (law13_LexKinds_k2 blank word) = law13_LexKinds_K2 blank word := by
  rw [pfn_eq (by decide)]
  have e3 : (fun blank word t51 => (jfn Tryd.prog law13_LexKinds_e 6 18446744073709551616 (Ev.get law13_LexKinds_h) 4 law13_LexKinds_s) 250 [] (law13_LexKinds_k3 blank word t51)) = law13_LexKinds_K3 := funext fun blank => funext fun word => funext fun t51 => law13_LexKinds_g3 blank word t51
  have e4 : (fun blank word t63 => (jfn Tryd.prog law13_LexKinds_e 6 18446744073709551616 (Ev.get law13_LexKinds_h) 4 law13_LexKinds_s) 251 [] (law13_LexKinds_k4 blank word t63)) = law13_LexKinds_K4 := funext fun blank => funext fun word => funext fun t63 => law13_LexKinds_g4 blank word t63
  rw [law13_LexKinds_c2, e3, e4]
  rfl
theorem law13_LexKinds_g1 (blank : Bool) (word : List UInt8) (t19 : List Int) (t20 : Int) (t21 : Int) : jfn Tryd.prog law13_LexKinds_e 6 18446744073709551616 (Ev.get law13_LexKinds_h) 4 law13_LexKinds_s 58 [] (law13_LexKinds_k1 blank word t19 t20 t21) = law13_LexKinds_K1 blank word t19 t20 t21 := by
  rw [pfn_eq (by decide)]
  rw [pfn_loop (by kernel_rfl)]
  refine loopF_sim (σ := (Bool) × (List UInt8) × (List Int) × (Int) × (Int)) (mk := fun s => law13_LexKinds_k1 s.1 s.2.1 s.2.2.1 s.2.2.2.1 s.2.2.2.2) (fun w1 s => ?_) 18446744073709551616 (blank, word, t19, t20, t21)
  have e2 : (fun blank word => (jfn Tryd.prog law13_LexKinds_e 6 18446744073709551616 (Ev.get law13_LexKinds_h) 4 law13_LexKinds_s) 7 [] (law13_LexKinds_k2 blank word)) = law13_LexKinds_K2 := funext fun blank => funext fun word => law13_LexKinds_g2 blank word
  refine (law13_LexKinds_c1 _ w1 s.1 s.2.1 s.2.2.1 s.2.2.2.1 s.2.2.2.2).trans ?_
  rw [e2]
theorem law13_LexKinds_t (x : As [.sl (.int .u8), .bool]) : evT Tryd.prog law13_LexKinds_e 6 18446744073709551616 (Ev.get law13_LexKinds_h) 4 law13_LexKinds_s x = law13_LexKinds x := by
  have e1 : (fun blank word t19 t20 t21 => (jfn Tryd.prog law13_LexKinds_e 6 18446744073709551616 (Ev.get law13_LexKinds_h) 4 law13_LexKinds_s) 58 [] (law13_LexKinds_k1 blank word t19 t20 t21)) = law13_LexKinds_K1 := funext fun blank => funext fun word => funext fun t19 => funext fun t20 => funext fun t21 => law13_LexKinds_g1 blank word t19 t20 t21
  rw [rfn_eq, law13_LexKinds_c0, e1]
  rfl
theorem law13_LexKinds_ok : CtOk Tryd.prog (fun _ => True) 4 ⟨law13_LexKinds_s, law13_LexKinds⟩ := ct_of_ev (env_cons law13_awake_ok (env_cons lex_Lex_ok (env_cons law13_same_ok env_nil))) law13_LexKinds_t
/-! utf8_RuneCountInString -/
@[reducible] def utf8_RuneCountInString_s : Sh := ⟨[.d (.str)], [], [.str], [.d (.int .i64)], [], 0, [.int .i64]⟩
def utf8_RuneCountInString_e : Env := (cts [])
def utf8_RuneCountInString_h : List (Nat × Hint) := [(26, ⟨[], [2, 4]⟩)]
def utf8_RuneCountInString_m0 (s : List UInt8) : Option (As [.int .i64]) :=
  Option.none
def utf8_RuneCountInString (x : As [.str]) : Option (As [.int .i64]) := utf8_RuneCountInString_m0 x.1
theorem utf8_RuneCountInString_c0 (J : Orc (As [.int .i64])) (x : As [.str]) : rfn Tryd.prog utf8_RuneCountInString_e 6 18446744073709551616 (Ev.get utf8_RuneCountInString_h) 56 utf8_RuneCountInString_s J x = utf8_RuneCountInString_m0 x.1 := by kernel_rfl
theorem utf8_RuneCountInString_t (x : As [.str]) : evT Tryd.prog utf8_RuneCountInString_e 6 18446744073709551616 (Ev.get utf8_RuneCountInString_h) 56 utf8_RuneCountInString_s x = utf8_RuneCountInString x := by
  rw [rfn_eq, utf8_RuneCountInString_c0]
  rfl
theorem utf8_RuneCountInString_ok : CtOk Tryd.prog (fun _ => True) 56 ⟨utf8_RuneCountInString_s, utf8_RuneCountInString⟩ := ct_of_ev env_nil utf8_RuneCountInString_t
/-! strings_Index -/
@[reducible] def strings_Index_s : Sh := ⟨[.d (.str), .d (.str)], [], [.str, .str], [.d (.int .i64)], [], 0, [.int .i64]⟩
def strings_Index_e : Env := (cts [])
def strings_Index_h : List (Nat × Hint) := []
def strings_Index_m0 (s : List UInt8) (substr : List UInt8) : Option (As [.int .i64]) :=
  if eqi (Int.ofNat (List.length substr)) 0 = true then some (0, ()) else if eqs substr s = true then some (0, ()) else if eqi (Int.ofNat (List.length substr)) 1 = true then Option.bind (at? substr 0) fun (c : UInt8) => some (Go.Lib.indexByte s { toBitVec := { toFin := ⟨Int.toNat (Int.ofNat (UInt8.toNat c)) % 256, Nat.mod_lt (Int.toNat ↑(UInt8.toNat c)) (BitVec.ofNat._proof_1 8)⟩ } }, ()) else if ge (Int.ofNat (List.length substr)) (Int.ofNat (List.length s)) = true then some (-1, ()) else Option.none
def strings_Index (x : As [.str, .str]) : Option (As [.int .i64]) := strings_Index_m0 x.1 x.2.1
theorem strings_Index_c0 (J : Orc (As [.int .i64])) (x : As [.str, .str]) : rfn Tryd.prog strings_Index_e 6 18446744073709551616 (Ev.get strings_Index_h) 58 strings_Index_s J x = strings_Index_m0 x.1 x.2.1 := by kernel_rfl
theorem strings_Index_t (x : As [.str, .str]) : evT Tryd.prog strings_Index_e 6 18446744073709551616 (Ev.get strings_Index_h) 58 strings_Index_s x = strings_Index x := by
  rw [rfn_eq, strings_Index_c0]
  rfl
theorem strings_Index_ok : CtOk Tryd.prog (fun _ => True) 58 ⟨strings_Index_s, strings_Index⟩ := ct_of_ev env_nil strings_Index_t
/-! strings_Count -/
@[reducible] def strings_Count_s : Sh := ⟨[.d (.str), .d (.str)], [], [.str, .str], [.d (.int .i64)], [], 0, [.int .i64]⟩
def strings_Count_e : Env := (cts [(56, (⟨utf8_RuneCountInString_s, utf8_RuneCountInString⟩ : Ct)), (58, (⟨strings_Index_s, strings_Index⟩ : Ct))])
def strings_Count_h : List (Nat × Hint) := [(62, ⟨[], [0, 1, 5]⟩)]
def strings_Count_k1 (s : List UInt8) (substr : List UInt8) (n : Int) : St := { fr := [(0, .d .str s), (1, .d .str substr), (5, .d (.int .i64) n)], nt := 34, up := [], own := [], nx := 0, log := [], ln := 0 }
def strings_Count_m1 (self1 : List UInt8 → List UInt8 → Int → Option (As [.int .i64])) (s : List UInt8) (substr : List UInt8) (n : Int) : Option (As [.int .i64]) :=
  Option.bind (strings_Index (s, substr, ())) fun (y : Int × Unit) => if eqi y.fst (-1) = true then some (n, ()) else Option.bind (cut s (add .i64 y.fst (Int.ofNat (List.length substr))) (Int.ofNat (List.length s))) fun (y : List UInt8) => self1 y substr (add .i64 n 1)
def strings_Count_m0 (j1 : List UInt8 → List UInt8 → Int → Option (As [.int .i64])) (s : List UInt8) (substr : List UInt8) : Option (As [.int .i64]) :=
  if eqi (Int.ofNat (List.length substr)) 0 = true then Option.bind (utf8_RuneCountInString (s, ())) fun (y : Int × Unit) => some (add .i64 y.fst 1, ()) else if eqi (Int.ofNat (List.length substr)) 1 = true then Option.bind (at? substr 0) fun (c : UInt8) => some (Int.ofNat (Sx.cntB s { toBitVec := { toFin := ⟨Int.toNat (Int.ofNat (UInt8.toNat c)) % 256, Nat.mod_lt (Int.toNat ↑(UInt8.toNat c)) (BitVec.ofNat._proof_1 8)⟩ } }), ()) else j1 s substr 0
def strings_Count_K1 (s : List UInt8) (substr : List UInt8) (n : Int) : Option (As [.int .i64]) :=
  loopF (fun (self : (List UInt8) × (List UInt8) × (Int) → Option (As [.int .i64])) (s : (List UInt8) × (List UInt8) × (Int)) => strings_Count_m1 (fun s substr n => self (s, substr, n)) s.1 s.2.1 s.2.2) 18446744073709551616 (s, substr, n)
def strings_Count (x : As [.str, .str]) : Option (As [.int .i64]) := strings_Count_m0 strings_Count_K1 x.1 x.2.1
theorem strings_Count_c1 (J : Orc (As [.int .i64])) (w1 : St → Option (As [.int .i64])) (s : List UInt8) (substr : List UInt8) (n : Int) : pfn Tryd.prog strings_Count_e 6 18446744073709551616 (Ev.get strings_Count_h) 15 strings_Count_s J 62 [w1] (strings_Count_k1 s substr n) = strings_Count_m1 (fun s substr n => w1 (strings_Count_k1 s substr n)) s substr n := by kernel_rfl
theorem strings_Count_c0 (J : Orc (As [.int .i64])) (x : As [.str, .str]) : rfn Tryd.prog strings_Count_e 6 18446744073709551616 (Ev.get strings_Count_h) 15 strings_Count_s J x = strings_Count_m0 (fun s substr n => J 62 [] (strings_Count_k1 s substr n)) x.1 x.2.1 := by kernel_rfl
theorem strings_Count_g1 (s : List UInt8) (substr : List UInt8) (n : Int) : jfn Tryd.prog strings_Count_e 6 18446744073709551616 (Ev.get strings_Count_h) 15 strings_Count_s 62 [] (strings_Count_k1 s substr n) = strings_Count_K1 s substr n := by
  rw [pfn_eq (by decide)]
  rw [pfn_loop (by kernel_rfl)]
  refine loopF_sim (σ := (List UInt8) × (List UInt8) × (Int)) (mk := fun s => strings_Count_k1 s.1 s.2.1 s.2.2) (fun w1 s => ?_) 18446744073709551616 (s, substr, n)
  refine (strings_Count_c1 _ w1 s.1 s.2.1 s.2.2).trans ?_
  rfl
theorem strings_Count_t (x : As [.str, .str]) : evT Tryd.prog strings_Count_e 6 18446744073709551616 (Ev.get strings_Count_h) 15 strings_Count_s x = strings_Count x := by
  have e1 : (fun s substr n => (jfn Tryd.prog strings_Count_e 6 18446744073709551616 (Ev.get strings_Count_h) 15 strings_Count_s) 62 [] (strings_Count_k1 s substr n)) = strings_Count_K1 := funext fun s => funext fun substr => funext fun n => strings_Count_g1 s substr n
  rw [rfn_eq, strings_Count_c0, e1]
  rfl
theorem strings_Count_ok : CtOk Tryd.prog (fun _ => True) 15 ⟨strings_Count_s, strings_Count⟩ := ct_of_ev (env_cons utf8_RuneCountInString_ok (env_cons strings_Index_ok env_nil)) strings_Count_t
/-! law13_LexBlank_c1 -/
@[reducible] def law13_LexBlank_c1_s : Sh := ⟨[.d (.int .i64), .pb 0 0, .pb 1 0], [.box 3 [.d (.int .i64)], .box 31 [.d (.sl (.int .u8))]], [.int .i64, .int .i64, .sl (.int .u8)], [.d (.int .i64)], [(0, .box 3 [.d (.int .i64)]), (1, .box 31 [.d (.sl (.int .u8))])], 0, [.int .i64, .int .i64, .sl (.int .u8)]⟩
def law13_LexBlank_c1_e : Env := (cts [])
def law13_LexBlank_c1_h : List (Nat × Hint) := []
def law13_LexBlank_c1_m0 (most : Int) (v : Int) (v_2 : List Int) : Option (As [.int .i64, .int .i64, .sl (.int .u8)]) :=
  if gt (add .i64 v 1) (Int.ofNat (List.length v_2)) = true then some (0, add .i64 v 1, v_2, ()) else Option.bind (at? v_2 (Sx.sub .i64 (add .i64 v 1) 1)) fun (y : Int) => need (nei most 0) (some (rem (cvt .i64 y) most, add .i64 v 1, v_2, ()))
def law13_LexBlank_c1 (x : As [.int .i64, .int .i64, .sl (.int .u8)]) : Option (As [.int .i64, .int .i64, .sl (.int .u8)]) := law13_LexBlank_c1_m0 x.1 x.2.1 x.2.2.1
theorem law13_LexBlank_c1_c0 (J : Orc (As [.int .i64, .int .i64, .sl (.int .u8)])) (x : As [.int .i64, .int .i64, .sl (.int .u8)]) : rfn Tryd.prog law13_LexBlank_c1_e 6 18446744073709551616 (Ev.get law13_LexBlank_c1_h) 16 law13_LexBlank_c1_s J x = law13_LexBlank_c1_m0 x.1 x.2.1 x.2.2.1 := by kernel_rfl
theorem law13_LexBlank_c1_t (x : As [.int .i64, .int .i64, .sl (.int .u8)]) : evT Tryd.prog law13_LexBlank_c1_e 6 18446744073709551616 (Ev.get law13_LexBlank_c1_h) 16 law13_LexBlank_c1_s x = law13_LexBlank_c1 x := by
  rw [rfn_eq, law13_LexBlank_c1_c0]
  rfl
theorem law13_LexBlank_c1_ok : CtOk Tryd.prog (fun _ => True) 16 ⟨law13_LexBlank_c1_s, law13_LexBlank_c1⟩ := ct_of_ev env_nil law13_LexBlank_c1_t
/-! utf8_decodeRuneInStringSlow -/
@[reducible] def utf8_decodeRuneInStringSlow_s : Sh := ⟨[.d (.str)], [], [.str], [.d (.int .i32), .d (.int .i64)], [], 0, [.int .i32, .int .i64]⟩
def utf8_decodeRuneInStringSlow_e : Env := (cts [])
def utf8_decodeRuneInStringSlow_h : List (Nat × Hint) := [(262142, ⟨[], [5, 10, 11, 12, 98]⟩), (32766, ⟨[], [0, 5, 8, 10, 11, 75, 96, 97]⟩), (4094, ⟨[], [0, 5, 8, 10, 57, 73, 74, 96, 97]⟩)]
def utf8_decodeRuneInStringSlow_m0 (s : List UInt8) : Option (As [.int .i32, .int .i64]) :=
  if lt (Int.ofNat (List.length s)) 1 = true then some (65533, 0, ()) else Option.bind (at? s 0) fun (c : UInt8) => Option.none
def utf8_decodeRuneInStringSlow (x : As [.str]) : Option (As [.int .i32, .int .i64]) := utf8_decodeRuneInStringSlow_m0 x.1
theorem utf8_decodeRuneInStringSlow_c0 (J : Orc (As [.int .i32, .int .i64])) (x : As [.str]) : rfn Tryd.prog utf8_decodeRuneInStringSlow_e 6 18446744073709551616 (Ev.get utf8_decodeRuneInStringSlow_h) 140 utf8_decodeRuneInStringSlow_s J x = utf8_decodeRuneInStringSlow_m0 x.1 := by kernel_rfl
theorem utf8_decodeRuneInStringSlow_t (x : As [.str]) : evT Tryd.prog utf8_decodeRuneInStringSlow_e 6 18446744073709551616 (Ev.get utf8_decodeRuneInStringSlow_h) 140 utf8_decodeRuneInStringSlow_s x = utf8_decodeRuneInStringSlow x := by
  rw [rfn_eq, utf8_decodeRuneInStringSlow_c0]
  rfl
theorem utf8_decodeRuneInStringSlow_ok : CtOk Tryd.prog (fun _ => True) 140 ⟨utf8_decodeRuneInStringSlow_s, utf8_decodeRuneInStringSlow⟩ := ct_of_ev env_nil utf8_decodeRuneInStringSlow_t
/-! utf8_DecodeRuneInString -/
@[reducible] def utf8_DecodeRuneInString_s : Sh := ⟨[.d (.str)], [], [.str], [.d (.int .i32), .d (.int .i64)], [], 0, [.int .i32, .int .i64]⟩
def utf8_DecodeRuneInString_e : Env := (cts [(140, (⟨utf8_decodeRuneInStringSlow_s, utf8_decodeRuneInStringSlow⟩ : Ct))])
def utf8_DecodeRuneInString_h : List (Nat × Hint) := [(6, ⟨[], [0, 10]⟩)]
def utf8_DecodeRuneInString_k1 (s : List UInt8) (t10 : Bool) : St := { fr := [(0, .d .str s), (10, .d .bool t10)], nt := 19, up := [], own := [], nx := 0, log := [], ln := 0 }
def utf8_DecodeRuneInString_m1 (s : List UInt8) (t10 : Bool) : Option (As [.int .i32, .int .i64]) :=
  if t10 = true then Option.bind (at? s 0) fun (c : UInt8) => some (cvt .i32 (Int.ofNat (UInt8.toNat c)), 1, ()) else Option.bind (utf8_decodeRuneInStringSlow (s, ())) fun (y : Int × Int × Unit) => some (y.fst, y.snd.fst, ())
def utf8_DecodeRuneInString_m0 (j1 : List UInt8 → Bool → Option (As [.int .i32, .int .i64])) (s : List UInt8) : Option (As [.int .i32, .int .i64]) :=
  if nes s [] = true then Option.bind (at? s 0) fun (c : UInt8) => j1 s (lt (Int.ofNat (UInt8.toNat c)) 128) else j1 s false
def utf8_DecodeRuneInString_K1 (s : List UInt8) (t10 : Bool) : Option (As [.int .i32, .int .i64]) := utf8_DecodeRuneInString_m1 s t10
def utf8_DecodeRuneInString (x : As [.str]) : Option (As [.int .i32, .int .i64]) := utf8_DecodeRuneInString_m0 utf8_DecodeRuneInString_K1 x.1
theorem utf8_DecodeRuneInString_c1 (J : Orc (As [.int .i32, .int .i64])) (s : List UInt8) (t10 : Bool) : pfn Tryd.prog utf8_DecodeRuneInString_e 6 18446744073709551616 (Ev.get utf8_DecodeRuneInString_h) 112 utf8_DecodeRuneInString_s J 6 [] (utf8_DecodeRuneInString_k1 s t10) = utf8_DecodeRuneInString_m1 s t10 := by kernel_rfl
theorem utf8_DecodeRuneInString_c0 (J : Orc (As [.int .i32, .int .i64])) (x : As [.str]) : rfn Tryd.prog utf8_DecodeRuneInString_e 6 18446744073709551616 (Ev.get utf8_DecodeRuneInString_h) 112 utf8_DecodeRuneInString_s J x = utf8_DecodeRuneInString_m0 (fun s t10 => J 6 [] (utf8_DecodeRuneInString_k1 s t10)) x.1 := by kernel_rfl
theorem utf8_DecodeRuneInString_g1 (s : List UInt8) (t10 : Bool) : jfn Tryd.prog utf8_DecodeRuneInString_e 6 18446744073709551616 (Ev.get utf8_DecodeRuneInString_h) 112 utf8_DecodeRuneInString_s 6 [] (utf8_DecodeRuneInString_k1 s t10) = utf8_DecodeRuneInString_K1 s t10 := by
  rw [pfn_eq (by decide)]
  rw [utf8_DecodeRuneInString_c1]
  rfl
theorem utf8_DecodeRuneInString_t (x : As [.str]) : evT Tryd.prog utf8_DecodeRuneInString_e 6 18446744073709551616 (Ev.get utf8_DecodeRuneInString_h) 112 utf8_DecodeRuneInString_s x = utf8_DecodeRuneInString x := by
  have e1 : (fun s t10 => (jfn Tryd.prog utf8_DecodeRuneInString_e 6 18446744073709551616 (Ev.get utf8_DecodeRuneInString_h) 112 utf8_DecodeRuneInString_s) 6 [] (utf8_DecodeRuneInString_k1 s t10)) = utf8_DecodeRuneInString_K1 := funext fun s => funext fun t10 => utf8_DecodeRuneInString_g1 s t10
  rw [rfn_eq, utf8_DecodeRuneInString_c0, e1]
  rfl
theorem utf8_DecodeRuneInString_ok : CtOk Tryd.prog (fun _ => True) 112 ⟨utf8_DecodeRuneInString_s, utf8_DecodeRuneInString⟩ := ct_of_ev (env_cons utf8_decodeRuneInStringSlow_ok env_nil) utf8_DecodeRuneInString_t
/-! strings_explode -/
@[reducible] def strings_explode_s : Sh := ⟨[.d (.str), .d (.int .i64)], [], [.str, .int .i64], [.d (.sl .str)], [], 0, [.sl .str]⟩
def strings_explode_e : Env := (cts [(56, (⟨utf8_RuneCountInString_s, utf8_RuneCountInString⟩ : Ct)), (112, (⟨utf8_DecodeRuneInString_s, utf8_DecodeRuneInString⟩ : Ct))])
def strings_explode_h : List (Nat × Hint) := [(7, ⟨[], [0, 1]⟩), (31, ⟨[], [0, 1, 6]⟩), (250, ⟨[], [0, 1, 6, 7]⟩), (14, ⟨[], [0, 1, 5, 18]⟩)]
def strings_explode_k1 (s : List UInt8) (n : Int) (l : Int) (t18 : Bool) : St := { fr := [(0, .d .str s), (1, .d (.int .i64) n), (5, .d (.int .i64) l), (18, .d .bool t18)], nt := 50, up := [], own := [], nx := 0, log := [], ln := 0 }
def strings_explode_k2 (s : List UInt8) (n : Int) : St := { fr := [(0, .d .str s), (1, .d (.int .i64) n)], nt := 50, up := [], own := [], nx := 0, log := [], ln := 0 }
def strings_explode_k3 (s : List UInt8) (n : Int) (i : Int) (a : List (List UInt8)) : St := { fr := [(0, .d .str s), (1, .d (.int .i64) n), (6, .row 0), (7, .d (.int .i64) i)], nt := 50, up := [], own := [(0, .row .str 9 a)], nx := 1, log := [], ln := 0 }
def strings_explode_k4 (s : List UInt8) (n : Int) (a : List (List UInt8)) : St := { fr := [(0, .d .str s), (1, .d (.int .i64) n), (6, .row 0)], nt := 50, up := [], own := [(0, .row .str 9 a)], nx := 1, log := [], ln := 0 }
def strings_explode_m1 (j2 : List UInt8 → Int → Option (As [.sl .str])) (s : List UInt8) (n : Int) (l : Int) (t18 : Bool) : Option (As [.sl .str]) :=
  if t18 = true then j2 s l else j2 s n
def strings_explode_m2 (j3 : List UInt8 → Int → Int → List (List UInt8) → Option (As [.sl .str])) (s : List UInt8) (n : Int) : Option (As [.sl .str]) :=
  if n = n then need (ge n 0) (need (small (Int.toNat n)) (j3 s n 0 (List.replicate (Int.toNat n) []))) else Option.none
def strings_explode_m3 (j4 : List UInt8 → Int → List (List UInt8) → Option (As [.sl .str])) (self3 : List UInt8 → Int → Int → List (List UInt8) → Option (As [.sl .str])) (s : List UInt8) (n : Int) (i : Int) (a : List (List UInt8)) : Option (As [.sl .str]) :=
  if lt i (Sx.sub .i64 n 1) = true then Option.bind (utf8_DecodeRuneInString (s, ())) fun (y : Int × Int × Unit) => Option.bind (cut s 0 y.snd.fst) fun (y_1 : List UInt8) => Option.bind (at? a i) fun (x : List UInt8) => Option.bind (at? a i) fun (x : List UInt8) => Option.bind (cut s y.snd.fst (Int.ofNat (List.length s))) fun (y : List UInt8) => self3 y n (add .i64 i 1) (List.set a (Int.toNat i) y_1) else j4 s n a
def strings_explode_m4 (s : List UInt8) (n : Int) (a : List (List UInt8)) : Option (As [.sl .str]) :=
  if gt n 0 = true then Option.bind (at? a (Sx.sub .i64 n 1)) fun (x : List UInt8) => Option.bind (at? a (Sx.sub .i64 n 1)) fun (x : List UInt8) => some (List.set a (Int.toNat (Sx.sub .i64 n 1)) s, ()) else some (a, ())
def strings_explode_m0 (j1 : List UInt8 → Int → Int → Bool → Option (As [.sl .str])) (s : List UInt8) (n : Int) : Option (As [.sl .str]) :=
  Option.bind (utf8_RuneCountInString (s, ())) fun (y : Int × Unit) => if lt n 0 = true then j1 s n y.fst true else j1 s n y.fst (gt n y.fst)
def strings_explode_K4 (s : List UInt8) (n : Int) (a : List (List UInt8)) : Option (As [.sl .str]) := strings_explode_m4 s n a
def strings_explode_K3 (s : List UInt8) (n : Int) (i : Int) (a : List (List UInt8)) : Option (As [.sl .str]) :=
  loopF (fun (self : (List UInt8) × (Int) × (Int) × (List (List UInt8)) → Option (As [.sl .str])) (s : (List UInt8) × (Int) × (Int) × (List (List UInt8))) => strings_explode_m3 (strings_explode_K4) (fun s n i a => self (s, n, i, a)) s.1 s.2.1 s.2.2.1 s.2.2.2) 18446744073709551616 (s, n, i, a)
def strings_explode_K2 (s : List UInt8) (n : Int) : Option (As [.sl .str]) := strings_explode_m2 (strings_explode_K3) s n
def strings_explode_K1 (s : List UInt8) (n : Int) (l : Int) (t18 : Bool) : Option (As [.sl .str]) := strings_explode_m1 (strings_explode_K2) s n l t18
def strings_explode (x : As [.str, .int .i64]) : Option (As [.sl .str]) := strings_explode_m0 strings_explode_K1 x.1 x.2.1
theorem strings_explode_c4 (J : Orc (As [.sl .str])) (s : List UInt8) (n : Int) (a : List (List UInt8)) : pfn Tryd.prog strings_explode_e 6 18446744073709551616 (Ev.get strings_explode_h) 110 strings_explode_s J 31 [] (strings_explode_k4 s n a) = strings_explode_m4 s n a := by kernel_rfl
theorem strings_explode_c3 (J : Orc (As [.sl .str])) (w3 : St → Option (As [.sl .str])) (s : List UInt8) (n : Int) (i : Int) (a : List (List UInt8)) : pfn Tryd.prog strings_explode_e 6 18446744073709551616 (Ev.get strings_explode_h) 110 strings_explode_s J 250 [w3] (strings_explode_k3 s n i a) = strings_explode_m3 (fun s n a => J 31 [] (strings_explode_k4 s n a)) (fun s n i a => w3 (strings_explode_k3 s n i a)) s n i a := by kernel_rfl
theorem strings_explode_c2 (J : Orc (As [.sl .str])) (s : List UInt8) (n : Int) : pfn Tryd.prog strings_explode_e 6 18446744073709551616 (Ev.get strings_explode_h) 110 strings_explode_s J 7 [] (strings_explode_k2 s n) = strings_explode_m2 (fun s n i a => J 250 [] (strings_explode_k3 s n i a)) s n := by kernel_rfl
theorem strings_explode_c1 (J : Orc (As [.sl .str])) (s : List UInt8) (n : Int) (l : Int) (t18 : Bool) : pfn Tryd.prog strings_explode_e 6 18446744073709551616 (Ev.get strings_explode_h) 110 strings_explode_s J 14 [] (strings_explode_k1 s n l t18) = strings_explode_m1 (fun s n => J 7 [] (strings_explode_k2 s n)) s n l t18 := by kernel_rfl
theorem strings_explode_c0 (J : Orc (As [.sl .str])) (x : As [.str, .int .i64]) : rfn Tryd.prog strings_explode_e 6 18446744073709551616 (Ev.get strings_explode_h) 110 strings_explode_s J x = strings_explode_m0 (fun s n l t18 => J 14 [] (strings_explode_k1 s n l t18)) x.1 x.2.1 := by kernel_rfl
theorem strings_explode_g4 (s : List UInt8) (n : Int) (a : List (List UInt8)) : jfn Tryd.prog strings_explode_e 6 18446744073709551616 (Ev.get strings_explode_h) 110 strings_explode_s 31 [] (strings_explode_k4 s n a) = strings_explode_K4 s n a := by
  rw [pfn_eq (by decide)]
  rw [strings_explode_c4]
  rfl
theorem strings_explode_g3 (s : List UInt8) (n : Int) (i : Int) (a : List (List UInt8)) : jfn Tryd.prog strings_explode_e 6 18446744073709551616 (Ev.get strings_explode_h) 110 strings_explode_s 250 [] (strings_explode_k3 s n i a) = strings_explode_K3 s n i a := by
  rw [pfn_eq (by decide)]
  rw [pfn_loop (by kernel_rfl)]
  refine loopF_sim (σ := (List UInt8) × (Int) × (Int) × (List (List UInt8))) (mk := fun s => strings_explode_k3 s.1 s.2.1 s.2.2.1 s.2.2.2) (fun w3 s => ?_) 18446744073709551616 (s, n, i, a)
  have e4 : (fun s n a => (jfn Tryd.prog strings_explode_e 6 18446744073709551616 (Ev.get strings_explode_h) 110 strings_explode_s) 31 [] (strings_explode_k4 s n a)) = strings_explode_K4 := funext fun s => funext fun n => funext fun a => strings_explode_g4 s n a
  refine (strings_explode_c3 _ w3 s.1 s.2.1 s.2.2.1 s.2.2.2).trans ?_
  rw [e4]
theorem strings_explode_g2 (s : List UInt8) (n : Int) : jfn Tryd.prog strings_explode_e 6 18446744073709551616 (Ev.get strings_explode_h) 110 strings_explode_s 7 [] (strings_explode_k2 s n) = strings_explode_K2 s n := by
  rw [pfn_eq (by decide)]
  have e3 : (fun s n i a => (jfn Tryd.prog strings_explode_e 6 18446744073709551616 (Ev.get strings_explode_h) 110 strings_explode_s) 250 [] (strings_explode_k3 s n i a)) = strings_explode_K3 := funext fun s => funext fun n => funext fun i => funext fun a => strings_explode_g3 s n i a
  rw [strings_explode_c2, e3]
  rfl
theorem strings_explode_g1 (s : List UInt8) (n : Int) (l : Int) (t18 : Bool) : jfn Tryd.prog strings_explode_e 6 18446744073709551616 (Ev.get strings_explode_h) 110 strings_explode_s 14 [] (strings_explode_k1 s n l t18) = strings_explode_K1 s n l t18 := by
  rw [pfn_eq (by decide)]
  have e2 : (fun s n => (jfn Tryd.prog strings_explode_e 6 18446744073709551616 (Ev.get strings_explode_h) 110 strings_explode_s) 7 [] (strings_explode_k2 s n)) = strings_explode_K2 := funext fun s => funext fun n => strings_explode_g2 s n
  rw [strings_explode_c1, e2]
  rfl
theorem strings_explode_t (x : As [.str, .int .i64]) : evT Tryd.prog strings_explode_e 6 18446744073709551616 (Ev.get strings_explode_h) 110 strings_explode_s x = strings_explode x := by
  have e1 : (fun s n l t18 => (jfn Tryd.prog strings_explode_e 6 18446744073709551616 (Ev.get strings_explode_h) 110 strings_explode_s) 14 [] (strings_explode_k1 s n l t18)) = strings_explode_K1 := funext fun s => funext fun n => funext fun l => funext fun t18 => strings_explode_g1 s n l t18
  rw [rfn_eq, strings_explode_c0, e1]
  rfl
theorem strings_explode_ok : CtOk Tryd.prog (fun _ => True) 110 ⟨strings_explode_s, strings_explode⟩ := ct_of_ev (env_cons utf8_RuneCountInString_ok (env_cons utf8_DecodeRuneInString_ok env_nil)) strings_explode_t
/-! strings_genSplit -/
@[reducible] def strings_genSplit_s : Sh := ⟨[.d (.str), .d (.str), .d (.int .i64), .d (.int .i64)], [], [.str, .str, .int .i64, .int .i64], [.d (.sl .str)], [], 0, [.sl .str]⟩
def strings_genSplit_e : Env := (cts [(15, (⟨strings_Count_s, strings_Count⟩ : Ct)), (58, (⟨strings_Index_s, strings_Index⟩ : Ct)), (110, (⟨strings_explode_s, strings_explode⟩ : Ct))])
def strings_genSplit_h : List (Nat × Hint) := [(15, ⟨[], [0, 1, 2, 3]⟩), (511, ⟨[], [0, 9, 10]⟩), (2044, ⟨[], [0, 1, 2, 3, 9, 10]⟩)]
def strings_genSplit_k1 (s : List UInt8) (sep : List UInt8) (sepSave : Int) (n : Int) : St := { fr := [(0, .d .str s), (1, .d .str sep), (2, .d (.int .i64) sepSave), (3, .d (.int .i64) n)], nt := 66, up := [], own := [], nx := 0, log := [], ln := 0 }
def strings_genSplit_k2 (s : List UInt8) (sep : List UInt8) (sepSave : Int) (n : Int) (i : Int) (a : List (List UInt8)) : St := { fr := [(0, .d .str s), (1, .d .str sep), (2, .d (.int .i64) sepSave), (3, .d (.int .i64) n), (9, .row 0), (10, .d (.int .i64) i)], nt := 66, up := [], own := [(0, .row .str 9 a)], nx := 1, log := [], ln := 0 }
def strings_genSplit_k3 (s : List UInt8) (i : Int) (a : List (List UInt8)) : St := { fr := [(0, .d .str s), (9, .row 0), (10, .d (.int .i64) i)], nt := 66, up := [], own := [(0, .row .str 9 a)], nx := 1, log := [], ln := 0 }
def strings_genSplit_m1 (j2 : List UInt8 → List UInt8 → Int → Int → Int → List (List UInt8) → Option (As [.sl .str])) (s : List UInt8) (sep : List UInt8) (sepSave : Int) (n : Int) : Option (As [.sl .str]) :=
  if (if lt (add .i64 (Int.ofNat (List.length s)) 1) n = true then add .i64 (Int.ofNat (List.length s)) 1 else n) = if lt (add .i64 (Int.ofNat (List.length s)) 1) n = true then add .i64 (Int.ofNat (List.length s)) 1 else n then need (ge (if lt (add .i64 (Int.ofNat (List.length s)) 1) n = true then add .i64 (Int.ofNat (List.length s)) 1 else n) 0) (need (small (Int.toNat (if lt (add .i64 (Int.ofNat (List.length s)) 1) n = true then add .i64 (Int.ofNat (List.length s)) 1 else n))) (j2 s sep sepSave (Sx.sub .i64 (if lt (add .i64 (Int.ofNat (List.length s)) 1) n = true then add .i64 (Int.ofNat (List.length s)) 1 else n) 1) 0 (List.replicate (Int.toNat (if lt (add .i64 (Int.ofNat (List.length s)) 1) n = true then add .i64 (Int.ofNat (List.length s)) 1 else n)) []))) else Option.none
def strings_genSplit_m2 (j3 : List UInt8 → Int → List (List UInt8) → Option (As [.sl .str])) (self2 : List UInt8 → List UInt8 → Int → Int → Int → List (List UInt8) → Option (As [.sl .str])) (s : List UInt8) (sep : List UInt8) (sepSave : Int) (n : Int) (i : Int) (a : List (List UInt8)) : Option (As [.sl .str]) :=
  if lt i n = true then Option.bind (strings_Index (s, sep, ())) fun (y : Int × Unit) => if lt y.fst 0 = true then j3 s i a else Option.bind (cut s 0 (add .i64 y.fst sepSave)) fun (y_1 : List UInt8) => Option.bind (at? a i) fun (x : List UInt8) => Option.bind (at? a i) fun (x : List UInt8) => Option.bind (cut s (add .i64 y.fst (Int.ofNat (List.length sep))) (Int.ofNat (List.length s))) fun (y : List UInt8) => self2 y sep sepSave n (add .i64 i 1) (List.set a (Int.toNat i) y_1) else j3 s i a
def strings_genSplit_m3 (s : List UInt8) (i : Int) (a : List (List UInt8)) : Option (As [.sl .str]) :=
  Option.bind (at? a i) fun (x : List UInt8) => Option.bind (at? a i) fun (x : List UInt8) => need (le 0 (add .i64 i 1)) (need (le (add .i64 i 1) (Int.ofNat (List.length (List.set a (Int.toNat i) s)))) (some (List.take (Int.toNat (add .i64 i 1 - 0)) (List.drop 0 (List.set a (Int.toNat i) s)), ())))
def strings_genSplit_m0 (j1 : List UInt8 → List UInt8 → Int → Int → Option (As [.sl .str])) (s : List UInt8) (sep : List UInt8) (sepSave : Int) (n : Int) : Option (As [.sl .str]) :=
  if eqi n 0 = true then some ([], ()) else if eqs sep [] = true then Option.bind (strings_explode (s, n, ())) fun (y : List (List UInt8) × Unit) => some (y.fst, ()) else if lt n 0 = true then Option.bind (strings_Count (s, sep, ())) fun (y : Int × Unit) => j1 s sep sepSave (add .i64 y.fst 1) else j1 s sep sepSave n
def strings_genSplit_K3 (s : List UInt8) (i : Int) (a : List (List UInt8)) : Option (As [.sl .str]) := strings_genSplit_m3 s i a
def strings_genSplit_K2 (s : List UInt8) (sep : List UInt8) (sepSave : Int) (n : Int) (i : Int) (a : List (List UInt8)) : Option (As [.sl .str]) :=
  loopF (fun (self : (List UInt8) × (List UInt8) × (Int) × (Int) × (Int) × (List (List UInt8)) → Option (As [.sl .str])) (s : (List UInt8) × (List UInt8) × (Int) × (Int) × (Int) × (List (List UInt8))) => strings_genSplit_m2 (strings_genSplit_K3) (fun s sep sepSave n i a => self (s, sep, sepSave, n, i, a)) s.1 s.2.1 s.2.2.1 s.2.2.2.1 s.2.2.2.2.1 s.2.2.2.2.2) 18446744073709551616 (s, sep, sepSave, n, i, a)
def strings_genSplit_K1 (s : List UInt8) (sep : List UInt8) (sepSave : Int) (n : Int) : Option (As [.sl .str]) := strings_genSplit_m1 (strings_genSplit_K2) s sep sepSave n
def strings_genSplit (x : As [.str, .str, .int .i64, .int .i64]) : Option (As [.sl .str]) := strings_genSplit_m0 strings_genSplit_K1 x.1 x.2.1 x.2.2.1 x.2.2.2.1
theorem strings_genSplit_c3 (J : Orc (As [.sl .str])) (s : List UInt8) (i : Int) (a : List (List UInt8)) : pfn Tryd.prog strings_genSplit_e 6 18446744073709551616 (Ev.get strings_genSplit_h) 59 strings_genSplit_s J 511 [] (strings_genSplit_k3 s i a) = strings_genSplit_m3 s i a := by kernel_rfl
theorem strings_genSplit_c2 (J : Orc (As [.sl .str])) (w2 : St → Option (As [.sl .str])) (s : List UInt8) (sep : List UInt8) (sepSave : Int) (n : Int) (i : Int) (a : List (List UInt8)) : pfn Tryd.prog strings_genSplit_e 6 18446744073709551616 (Ev.get strings_genSplit_h) 59 strings_genSplit_s J 2044 [w2] (strings_genSplit_k2 s sep sepSave n i a) = strings_genSplit_m2 (fun s i a => J 511 [] (strings_genSplit_k3 s i a)) (fun s sep sepSave n i a => w2 (strings_genSplit_k2 s sep sepSave n i a)) s sep sepSave n i a := by kernel_rfl
theorem strings_genSplit_c1 (J : Orc (As [.sl .str])) (s : List UInt8) (sep : List UInt8) (sepSave : Int) (n : Int) : pfn Tryd.prog strings_genSplit_e 6 18446744073709551616 (Ev.get strings_genSplit_h) 59 strings_genSplit_s J 15 [] (strings_genSplit_k1 s sep sepSave n) = strings_genSplit_m1 (fun s sep sepSave n i a => J 2044 [] (strings_genSplit_k2 s sep sepSave n i a)) s sep sepSave n := by kernel_rfl
theorem strings_genSplit_c0 (J : Orc (As [.sl .str])) (x : As [.str, .str, .int .i64, .int .i64]) : rfn Tryd.prog strings_genSplit_e 6 18446744073709551616 (Ev.get strings_genSplit_h) 59 strings_genSplit_s J x = strings_genSplit_m0 (fun s sep sepSave n => J 15 [] (strings_genSplit_k1 s sep sepSave n)) x.1 x.2.1 x.2.2.1 x.2.2.2.1 := by kernel_rfl
theorem strings_genSplit_g3 (s : List UInt8) (i : Int) (a : List (List UInt8)) : jfn Tryd.prog strings_genSplit_e 6 18446744073709551616 (Ev.get strings_genSplit_h) 59 strings_genSplit_s 511 [] (strings_genSplit_k3 s i a) = strings_genSplit_K3 s i a := by
  rw [pfn_eq (by decide)]
  rw [strings_genSplit_c3]
  rfl
theorem strings_genSplit_g2 (s : List UInt8) (sep : List UInt8) (sepSave : Int) (n : Int) (i : Int) (a : List (List UInt8)) : jfn Tryd.prog strings_genSplit_e 6 18446744073709551616 (Ev.get strings_genSplit_h) 59 strings_genSplit_s 2044 [] (strings_genSplit_k2 s sep sepSave n i a) = strings_genSplit_K2 s sep sepSave n i a := by
  rw [pfn_eq (by decide)]
  rw [pfn_loop (by kernel_rfl)]
  refine loopF_sim (σ := (List UInt8) × (List UInt8) × (Int) × (Int) × (Int) × (List (List UInt8))) (mk := fun s => strings_genSplit_k2 s.1 s.2.1 s.2.2.1 s.2.2.2.1 s.2.2.2.2.1 s.2.2.2.2.2) (fun w2 s => ?_) 18446744073709551616 (s, sep, sepSave, n, i, a)
  have e3 : (fun s i a => (jfn Tryd.prog strings_genSplit_e 6 18446744073709551616 (Ev.get strings_genSplit_h) 59 strings_genSplit_s) 511 [] (strings_genSplit_k3 s i a)) = strings_genSplit_K3 := funext fun s => funext fun i => funext fun a => strings_genSplit_g3 s i a
  refine (strings_genSplit_c2 _ w2 s.1 s.2.1 s.2.2.1 s.2.2.2.1 s.2.2.2.2.1 s.2.2.2.2.2).trans ?_
  rw [e3]
theorem strings_genSplit_g1 (s : List UInt8) (sep : List UInt8) (sepSave : Int) (n : Int) : jfn Tryd.prog strings_genSplit_e 6 18446744073709551616 (Ev.get strings_genSplit_h) 59 strings_genSplit_s 15 [] (strings_genSplit_k1 s sep sepSave n) = strings_genSplit_K1 s sep sepSave n := by
  rw [pfn_eq (by decide)]
  have e2 : (fun s sep sepSave n i a => (jfn Tryd.prog strings_genSplit_e 6 18446744073709551616 (Ev.get strings_genSplit_h) 59 strings_genSplit_s) 2044 [] (strings_genSplit_k2 s sep sepSave n i a)) = strings_genSplit_K2 := funext fun s => funext fun sep => funext fun sepSave => funext fun n => funext fun i => funext fun a => strings_genSplit_g2 s sep sepSave n i a
  rw [strings_genSplit_c1, e2]
  rfl
theorem strings_genSplit_t (x : As [.str, .str, .int .i64, .int .i64]) : evT Tryd.prog strings_genSplit_e 6 18446744073709551616 (Ev.get strings_genSplit_h) 59 strings_genSplit_s x = strings_genSplit x := by
  have e1 : (fun s sep sepSave n => (jfn Tryd.prog strings_genSplit_e 6 18446744073709551616 (Ev.get strings_genSplit_h) 59 strings_genSplit_s) 15 [] (strings_genSplit_k1 s sep sepSave n)) = strings_genSplit_K1 := funext fun s => funext fun sep => funext fun sepSave => funext fun n => strings_genSplit_g1 s sep sepSave n
  rw [rfn_eq, strings_genSplit_c0, e1]
  rfl
theorem strings_genSplit_ok : CtOk Tryd.prog (fun _ => True) 59 ⟨strings_genSplit_s, strings_genSplit⟩ := ct_of_ev (env_cons strings_Count_ok (env_cons strings_Index_ok (env_cons strings_explode_ok env_nil))) strings_genSplit_t
/-! strings_Split -/
@[reducible] def strings_Split_s : Sh := ⟨[.d (.str), .d (.str)], [], [.str, .str], [.d (.sl .str)], [], 0, [.sl .str]⟩
def strings_Split_e : Env := (cts [(59, (⟨strings_genSplit_s, strings_genSplit⟩ : Ct))])
def strings_Split_h : List (Nat × Hint) := []
def strings_Split_m0 (s : List UInt8) (sep : List UInt8) : Option (As [.sl .str]) :=
  Option.bind (strings_genSplit (s, sep, 0, -1, ())) fun (y : List (List UInt8) × Unit) => some (y.fst, ())
def strings_Split (x : As [.str, .str]) : Option (As [.sl .str]) := strings_Split_m0 x.1 x.2.1
theorem strings_Split_c0 (J : Orc (As [.sl .str])) (x : As [.str, .str]) : rfn Tryd.prog strings_Split_e 6 18446744073709551616 (Ev.get strings_Split_h) 17 strings_Split_s J x = strings_Split_m0 x.1 x.2.1 := by kernel_rfl
theorem strings_Split_t (x : As [.str, .str]) : evT Tryd.prog strings_Split_e 6 18446744073709551616 (Ev.get strings_Split_h) 17 strings_Split_s x = strings_Split x := by
  rw [rfn_eq, strings_Split_c0]
  rfl
theorem strings_Split_ok : CtOk Tryd.prog (fun _ => True) 17 ⟨strings_Split_s, strings_Split⟩ := ct_of_ev (env_cons strings_genSplit_ok env_nil) strings_Split_t
/-! strings_HasPrefix -/
@[reducible] def strings_HasPrefix_s : Sh := ⟨[.d (.str), .d (.str)], [], [.str, .str], [.d (.bool)], [], 0, [.bool]⟩
def strings_HasPrefix_e : Env := (cts [(65, (⟨istringslite_HasPrefix_s, istringslite_HasPrefix⟩ : Ct))])
def strings_HasPrefix_h : List (Nat × Hint) := []
def strings_HasPrefix_m0 (s : List UInt8) (prefixV : List UInt8) : Option (As [.bool]) :=
  Option.bind (istringslite_HasPrefix (s, prefixV, ())) fun (y : Bool × Unit) => some (y.fst, ())
def strings_HasPrefix (x : As [.str, .str]) : Option (As [.bool]) := strings_HasPrefix_m0 x.1 x.2.1
theorem strings_HasPrefix_c0 (J : Orc (As [.bool])) (x : As [.str, .str]) : rfn Tryd.prog strings_HasPrefix_e 6 18446744073709551616 (Ev.get strings_HasPrefix_h) 20 strings_HasPrefix_s J x = strings_HasPrefix_m0 x.1 x.2.1 := by kernel_rfl
theorem strings_HasPrefix_t (x : As [.str, .str]) : evT Tryd.prog strings_HasPrefix_e 6 18446744073709551616 (Ev.get strings_HasPrefix_h) 20 strings_HasPrefix_s x = strings_HasPrefix x := by
  rw [rfn_eq, strings_HasPrefix_c0]
  rfl
theorem strings_HasPrefix_ok : CtOk Tryd.prog (fun _ => True) 20 ⟨strings_HasPrefix_s, strings_HasPrefix⟩ := ct_of_ev (env_cons istringslite_HasPrefix_ok env_nil) strings_HasPrefix_t
end Go.Proofs.Lx

end

section
/- Contracts, made by a program. -/
open Go Go.Proofs Ev Sx
set_option maxRecDepth 100000
namespace Go.Proofs.Lx
/-! law13_LexStands -/
@[reducible] def law13_LexStands_s : Sh := ⟨[.d (.str)], [], [.str], [.d (.bool)], [], 0, [.bool]⟩
def law13_LexStands_e : Env := (cts [(11, (⟨law13_awake_s, law13_awake⟩ : Ct)), (12, (⟨lex_Lex_s, lex_Lex⟩ : Ct)), (17, (⟨strings_Split_s, strings_Split⟩ : Ct)), (19, (⟨strings_TrimLeft_s, strings_TrimLeft⟩ : Ct)), (20, (⟨strings_HasPrefix_s, strings_HasPrefix⟩ : Ct))])
def law13_LexStands_h : List (Nat × Hint) := [(127, ⟨[], [3, 6, 128]⟩), (1018, ⟨[], [3, 6, 45, 46, 47, 67, 68, 69, 70, 71, 72, 73, 74, 77, 78, 79, 80, 81, 82, 85, 86, 87, 88, 89, 90, 91, 92, 111, 112, 113, 114, 115, 116, 117, 118, 128]⟩), (260711, ⟨[], [3, 6, 7, 12, 45, 46, 47, 67, 68, 69, 70, 71, 72, 73, 74, 77, 78, 79, 80, 81, 82, 85, 86, 87, 88, 89, 90, 91, 92, 111, 112, 113, 114, 115, 116, 117, 118, 128]⟩), (2085694, ⟨[], [3, 6, 45, 46, 47, 119]⟩), (1042844, ⟨[], [3, 6, 7, 9, 12, 45, 46, 47, 67, 68, 69, 70, 71, 72, 73, 74, 77, 78, 79, 80, 81, 82, 85, 86, 87, 88, 89, 90, 91, 92, 111, 112, 113, 114, 115, 116, 117, 118, 128]⟩), (33371014, ⟨[], [3, 6, 7, 9, 45, 46, 47, 93]⟩)]
def law13_LexStands_k1 (l : List LAT1) (at' : Int) (t45 : List (List UInt8)) (t46 : Int) (t47 : Int) : St := { fr := [(3, .d (.sl LAT0) l), (6, .d (.int .i64) at'), (45, .d (.sl .str) t45), (46, .d (.int .i64) t46), (47, .d (.int .i64) t47)], nt := 130, up := [], own := [], nx := 0, log := [], ln := 0 }
def law13_LexStands_k2 (l : List LAT1) (at' : Int) (i : Int) (plain : List UInt8) (some' : Bool) (t45 : List (List UInt8)) (t46 : Int) (t47 : Int) : St := { fr := [(3, .d (.sl LAT0) l), (6, .d (.int .i64) at'), (7, .d (.int .i64) i), (9, .d .str plain), (12, .d .bool some'), (45, .d (.sl .str) t45), (46, .d (.int .i64) t46), (47, .d (.int .i64) t47)], nt := 130, up := [], own := [], nx := 0, log := [], ln := 0 }
def law13_LexStands_k3 (l : List LAT1) (at' : Int) : St := { fr := [(3, .d (.sl LAT0) l), (6, .d (.int .i64) at')], nt := 130, up := [], own := [], nx := 0, log := [], ln := 0 }
def law13_LexStands_k4 (l : List LAT1) (at' : Int) (i : Int) (some' : Bool) (t45 : List (List UInt8)) (t46 : Int) (t47 : Int) : St := { fr := [(3, .d (.sl LAT0) l), (6, .d (.int .i64) at'), (7, .d (.int .i64) i), (12, .d .bool some'), (45, .d (.sl .str) t45), (46, .d (.int .i64) t46), (47, .d (.int .i64) t47)], nt := 130, up := [], own := [], nx := 0, log := [], ln := 0 }
def law13_LexStands_k5 (l : List LAT1) (at' : Int) (i : Int) (plain : List UInt8) (t45 : List (List UInt8)) (t46 : Int) (t47 : Int) (t93 : Bool) : St := { fr := [(3, .d (.sl LAT0) l), (6, .d (.int .i64) at'), (7, .d (.int .i64) i), (9, .d .str plain), (45, .d (.sl .str) t45), (46, .d (.int .i64) t46), (47, .d (.int .i64) t47), (93, .d .bool t93)], nt := 130, up := [], own := [], nx := 0, log := [], ln := 0 }
def law13_LexStands_k6 (l : List LAT1) (at' : Int) (t45 : List (List UInt8)) (t46 : Int) (t47 : Int) (t119 : Bool) : St := { fr := [(3, .d (.sl LAT0) l), (6, .d (.int .i64) at'), (45, .d (.sl .str) t45), (46, .d (.int .i64) t46), (47, .d (.int .i64) t47), (119, .d .bool t119)], nt := 130, up := [], own := [], nx := 0, log := [], ln := 0 }
def law13_LexStands_m1 (j2 : List LAT1 → Int → Int → List UInt8 → Bool → List (List UInt8) → Int → Int → Option (As [.bool])) (j3 : List LAT1 → Int → Option (As [.bool])) (self1 : List LAT1 → Int → List (List UInt8) → Int → Int → Option (As [.bool])) (l : List LAT1) (at' : Int) (t45 : List (List UInt8)) (t46 : Int) (t47 : Int) : Option (As [.bool]) :=
  if lt t47 t46 = true then Option.bind (at? t45 t47) fun (y : List UInt8) => if eqs [35] y = true then Option.bind (cut y 1 (Int.ofNat (List.length y))) fun (y : List UInt8) => j2 l at' t47 [] false t45 t46 t47 else if ge (Go.Lib.indexByte y 35) 0 = true then Option.bind (cut y 0 (Go.Lib.indexByte y 35)) fun (y_1 : List UInt8) => Option.bind (cut y (add .i64 (Go.Lib.indexByte y 35) 1) (Int.ofNat (List.length y))) fun (y : List UInt8) => j2 l at' t47 y_1 false t45 t46 t47 else j2 l at' t47 y false t45 t46 t47 else j3 l at'
def law13_LexStands_m2 (j4 : List LAT1 → Int → Int → Bool → List (List UInt8) → Int → Int → Option (As [.bool])) (j5 : List LAT1 → Int → Int → List UInt8 → List (List UInt8) → Int → Int → Bool → Option (As [.bool])) (self1 : List LAT1 → Int → List (List UInt8) → Int → Int → Option (As [.bool])) (self2 : List LAT1 → Int → Int → List UInt8 → Bool → List (List UInt8) → Int → Int → Option (As [.bool])) (l : List LAT1) (at' : Int) (i : Int) (plain : List UInt8) (some' : Bool) (t45 : List (List UInt8)) (t46 : Int) (t47 : Int) : Option (As [.bool]) :=
  Option.bind (strings_TrimLeft (plain, [9, 13, 32], ())) fun (y : List UInt8 × Unit) => if eqs y.fst [] = true then j4 l at' i some' t45 t46 t47 else if eqi at' (Int.ofNat (List.length l)) = true then j5 l at' i y.fst t45 t46 t47 true else Option.bind (at? l at') fun (y_1 : Int × List UInt8 × (Int × Int) × Int) => if nei y_1.snd.snd.snd (add .i64 i 1) = true then j5 l at' i y.fst t45 t46 t47 true else Option.bind (at? l at') fun (y_2 : Int × List UInt8 × (Int × Int) × Int) => if eqs y_2.snd.fst [] = true then j5 l at' i y.fst t45 t46 t47 true else Option.bind (at? l at') fun (y_3 : Int × List UInt8 × (Int × Int) × Int) => Option.bind (strings_HasPrefix (y.fst, y_3.snd.fst, ())) fun (y_4 : Bool × Unit) => j5 l at' i y.fst t45 t46 t47 !y_4.fst
def law13_LexStands_m3 (l : List LAT1) (at' : Int) : Option (As [.bool]) :=
  if eqi at' (Int.ofNat (List.length l)) = true then Option.bind (law13_awake ()) fun (y : Bool × Unit) => some (y.fst, ()) else some (false, ())
def law13_LexStands_m4 (j6 : List LAT1 → Int → List (List UInt8) → Int → Int → Bool → Option (As [.bool])) (self1 : List LAT1 → Int → List (List UInt8) → Int → Int → Option (As [.bool])) (l : List LAT1) (at' : Int) (i : Int) (some' : Bool) (t45 : List (List UInt8)) (t46 : Int) (t47 : Int) : Option (As [.bool]) :=
  if (!some') = true then self1 l at' t45 t46 (add .i64 t47 1) else if eqi at' (Int.ofNat (List.length l)) = true then j6 l at' t45 t46 t47 true else Option.bind (at? l at') fun (y : Int × List UInt8 × (Int × Int) × Int) => j6 l at' t45 t46 t47 !(eqi y.fst 4 && (eqs y.snd.fst [] && (eqi y.snd.snd.fst.fst 0 && (eqi y.snd.snd.fst.snd 0 && true) && (eqi y.snd.snd.snd (add .i64 i 1) && true))))
def law13_LexStands_m5 (self1 : List LAT1 → Int → List (List UInt8) → Int → Int → Option (As [.bool])) (self2 : List LAT1 → Int → Int → List UInt8 → Bool → List (List UInt8) → Int → Int → Option (As [.bool])) (l : List LAT1) (at' : Int) (i : Int) (plain : List UInt8) (t45 : List (List UInt8)) (t46 : Int) (t47 : Int) (t93 : Bool) : Option (As [.bool]) :=
  if t93 = true then some (false, ()) else Option.bind (at? l at') fun (y : Int × List UInt8 × (Int × Int) × Int) => Option.bind (cut plain (Int.ofNat (List.length y.snd.fst)) (Int.ofNat (List.length plain))) fun (y : List UInt8) => self2 l (add .i64 at' 1) i y true t45 t46 t47
def law13_LexStands_m6 (self1 : List LAT1 → Int → List (List UInt8) → Int → Int → Option (As [.bool])) (l : List LAT1) (at' : Int) (t45 : List (List UInt8)) (t46 : Int) (t47 : Int) (t119 : Bool) : Option (As [.bool]) :=
  if t119 = true then some (false, ()) else self1 l (add .i64 at' 1) t45 t46 (add .i64 t47 1)
def law13_LexStands_m0 (j1 : List LAT1 → Int → List (List UInt8) → Int → Int → Option (As [.bool])) (text : List UInt8) : Option (As [.bool]) :=
  if gt (Int.ofNat (List.length text)) 4000 = true then Option.bind (law13_awake ()) fun (y : Bool × Unit) => some (y.fst, ()) else Option.bind (lex_Lex (text, ())) fun (y : List LAT1 × (Int × Int) × Unit) => Option.bind (strings_Split (text, [10], ())) fun (y_1 : List (List UInt8) × Unit) => if nei y.snd.fst.fst 0 = true then if eqi (Int.ofNat (List.length y.fst)) 0 = true then if ge y.snd.fst.snd 1 = true then if le y.snd.fst.snd (Int.ofNat (List.length y_1.fst)) = true then Option.bind (law13_awake ()) fun (y : Bool × Unit) => some (y.fst, ()) else some (false, ()) else some (false, ()) else some (false, ()) else j1 y.fst 0 y_1.fst (Int.ofNat (List.length y_1.fst)) 0
def law13_LexStands_K6 (u1 : List LAT1 → Int → List (List UInt8) → Int → Int → Option (As [.bool])) (l : List LAT1) (at' : Int) (t45 : List (List UInt8)) (t46 : Int) (t47 : Int) (t119 : Bool) : Option (As [.bool]) := law13_LexStands_m6 u1 l at' t45 t46 t47 t119
def law13_LexStands_K4 (u1 : List LAT1 → Int → List (List UInt8) → Int → Int → Option (As [.bool])) (l : List LAT1) (at' : Int) (i : Int) (some' : Bool) (t45 : List (List UInt8)) (t46 : Int) (t47 : Int) : Option (As [.bool]) := law13_LexStands_m4 (law13_LexStands_K6 u1) u1 l at' i some' t45 t46 t47
def law13_LexStands_K5 (u1 : List LAT1 → Int → List (List UInt8) → Int → Int → Option (As [.bool])) (u2 : List LAT1 → Int → Int → List UInt8 → Bool → List (List UInt8) → Int → Int → Option (As [.bool])) (l : List LAT1) (at' : Int) (i : Int) (plain : List UInt8) (t45 : List (List UInt8)) (t46 : Int) (t47 : Int) (t93 : Bool) : Option (As [.bool]) := law13_LexStands_m5 u1 u2 l at' i plain t45 t46 t47 t93
def law13_LexStands_K2 (u1 : List LAT1 → Int → List (List UInt8) → Int → Int → Option (As [.bool])) (l : List LAT1) (at' : Int) (i : Int) (plain : List UInt8) (some' : Bool) (t45 : List (List UInt8)) (t46 : Int) (t47 : Int) : Option (As [.bool]) :=
  loopF (fun (self : (List LAT1) × (Int) × (Int) × (List UInt8) × (Bool) × (List (List UInt8)) × (Int) × (Int) → Option (As [.bool])) (s : (List LAT1) × (Int) × (Int) × (List UInt8) × (Bool) × (List (List UInt8)) × (Int) × (Int)) => law13_LexStands_m2 (law13_LexStands_K4 u1) (law13_LexStands_K5 u1 (fun l at' i plain some' t45 t46 t47 => self (l, at', i, plain, some', t45, t46, t47))) u1 (fun l at' i plain some' t45 t46 t47 => self (l, at', i, plain, some', t45, t46, t47)) s.1 s.2.1 s.2.2.1 s.2.2.2.1 s.2.2.2.2.1 s.2.2.2.2.2.1 s.2.2.2.2.2.2.1 s.2.2.2.2.2.2.2) 18446744073709551616 (l, at', i, plain, some', t45, t46, t47)
def law13_LexStands_K3 (l : List LAT1) (at' : Int) : Option (As [.bool]) := law13_LexStands_m3 l at'
def law13_LexStands_K1 (l : List LAT1) (at' : Int) (t45 : List (List UInt8)) (t46 : Int) (t47 : Int) : Option (As [.bool]) :=
  loopF (fun (self : (List LAT1) × (Int) × (List (List UInt8)) × (Int) × (Int) → Option (As [.bool])) (s : (List LAT1) × (Int) × (List (List UInt8)) × (Int) × (Int)) => law13_LexStands_m1 (law13_LexStands_K2 (fun l at' t45 t46 t47 => self (l, at', t45, t46, t47))) (law13_LexStands_K3) (fun l at' t45 t46 t47 => self (l, at', t45, t46, t47)) s.1 s.2.1 s.2.2.1 s.2.2.2.1 s.2.2.2.2) 18446744073709551616 (l, at', t45, t46, t47)
def law13_LexStands (x : As [.str]) : Option (As [.bool]) := law13_LexStands_m0 law13_LexStands_K1 x.1
theorem law13_LexStands_c6 (J : Orc (As [.bool])) (w1 : St → Option (As [.bool])) (l : List LAT1) (at' : Int) (t45 : List (List UInt8)) (t46 : Int) (t47 : Int) (t119 : Bool) : pfn Tryd.prog law13_LexStands_e 6 18446744073709551616 (Ev.get law13_LexStands_h) 6 law13_LexStands_s J 2085694 [w1] (law13_LexStands_k6 l at' t45 t46 t47 t119) = law13_LexStands_m6 (fun l at' t45 t46 t47 => w1 (law13_LexStands_k1 l at' t45 t46 t47)) l at' t45 t46 t47 t119 := by kernel_rfl
theorem law13_LexStands_c4 (J : Orc (As [.bool])) (w1 : St → Option (As [.bool])) (l : List LAT1) (at' : Int) (i : Int) (some' : Bool) (t45 : List (List UInt8)) (t46 : Int) (t47 : Int) : pfn Tryd.prog law13_LexStands_e 6 18446744073709551616 (Ev.get law13_LexStands_h) 6 law13_LexStands_s J 260711 [w1] (law13_LexStands_k4 l at' i some' t45 t46 t47) = law13_LexStands_m4 (fun l at' t45 t46 t47 t119 => J 2085694 [w1] (law13_LexStands_k6 l at' t45 t46 t47 t119)) (fun l at' t45 t46 t47 => w1 (law13_LexStands_k1 l at' t45 t46 t47)) l at' i some' t45 t46 t47 := by kernel_rfl
theorem law13_LexStands_c5 (J : Orc (As [.bool])) (w1 : St → Option (As [.bool])) (w2 : St → Option (As [.bool])) (l : List LAT1) (at' : Int) (i : Int) (plain : List UInt8) (t45 : List (List UInt8)) (t46 : Int) (t47 : Int) (t93 : Bool) : pfn Tryd.prog law13_LexStands_e 6 18446744073709551616 (Ev.get law13_LexStands_h) 6 law13_LexStands_s J 33371014 [w1, w2] (law13_LexStands_k5 l at' i plain t45 t46 t47 t93) = law13_LexStands_m5 (fun l at' t45 t46 t47 => w1 (law13_LexStands_k1 l at' t45 t46 t47)) (fun l at' i plain some' t45 t46 t47 => w2 (law13_LexStands_k2 l at' i plain some' t45 t46 t47)) l at' i plain t45 t46 t47 t93 := by kernel_rfl
theorem law13_LexStands_c2 (J : Orc (As [.bool])) (w1 : St → Option (As [.bool])) (w2 : St → Option (As [.bool])) (l : List LAT1) (at' : Int) (i : Int) (plain : List UInt8) (some' : Bool) (t45 : List (List UInt8)) (t46 : Int) (t47 : Int) : pfn Tryd.prog law13_LexStands_e 6 18446744073709551616 (Ev.get law13_LexStands_h) 6 law13_LexStands_s J 1042844 [w1, w2] (law13_LexStands_k2 l at' i plain some' t45 t46 t47) = law13_LexStands_m2 (fun l at' i some' t45 t46 t47 => J 260711 [w1] (law13_LexStands_k4 l at' i some' t45 t46 t47)) (fun l at' i plain t45 t46 t47 t93 => J 33371014 [w1, w2] (law13_LexStands_k5 l at' i plain t45 t46 t47 t93)) (fun l at' t45 t46 t47 => w1 (law13_LexStands_k1 l at' t45 t46 t47)) (fun l at' i plain some' t45 t46 t47 => w2 (law13_LexStands_k2 l at' i plain some' t45 t46 t47)) l at' i plain some' t45 t46 t47 := by kernel_rfl
theorem law13_LexStands_c3 (J : Orc (As [.bool])) (l : List LAT1) (at' : Int) : pfn Tryd.prog law13_LexStands_e 6 18446744073709551616 (Ev.get law13_LexStands_h) 6 law13_LexStands_s J 127 [] (law13_LexStands_k3 l at') = law13_LexStands_m3 l at' := by kernel_rfl
theorem law13_LexStands_c1 (J : Orc (As [.bool])) (w1 : St → Option (As [.bool])) (l : List LAT1) (at' : Int) (t45 : List (List UInt8)) (t46 : Int) (t47 : Int) : pfn Tryd.prog law13_LexStands_e 6 18446744073709551616 (Ev.get law13_LexStands_h) 6 law13_LexStands_s J 1018 [w1] (law13_LexStands_k1 l at' t45 t46 t47) = law13_LexStands_m1 (fun l at' i plain some' t45 t46 t47 => J 1042844 [w1] (law13_LexStands_k2 l at' i plain some' t45 t46 t47)) (fun l at' => J 127 [] (law13_LexStands_k3 l at')) (fun l at' t45 t46 t47 => w1 (law13_LexStands_k1 l at' t45 t46 t47)) l at' t45 t46 t47 := by kernel_rfl
theorem law13_LexStands_c0 (J : Orc (As [.bool])) (x : As [.str]) : rfn Tryd.prog law13_LexStands_e 6 18446744073709551616 (Ev.get law13_LexStands_h) 6 law13_LexStands_s J x = law13_LexStands_m0 (fun l at' t45 t46 t47 => J 1018 [] (law13_LexStands_k1 l at' t45 t46 t47)) x.1 := by kernel_rfl
theorem law13_LexStands_g6 (w1 : St → Option (As [.bool])) (l : List LAT1) (at' : Int) (t45 : List (List UInt8)) (t46 : Int) (t47 : Int) (t119 : Bool) : jfn Tryd.prog law13_LexStands_e 6 18446744073709551616 (Ev.get law13_LexStands_h) 6 law13_LexStands_s 2085694 [w1] (law13_LexStands_k6 l at' t45 t46 t47 t119) = law13_LexStands_K6 (fun l at' t45 t46 t47 => w1 (law13_LexStands_k1 l at' t45 t46 t47)) l at' t45 t46 t47 t119 := by
  rw [pfn_eq (by decide)]
  rw [law13_LexStands_c6]
  rfl
theorem law13_LexStands_g4 (w1 : St → Option (As [.bool])) (l : List LAT1) (at' : Int) (i : Int) (some' : Bool) (t45 : List (List UInt8)) (t46 : Int) (t47 : Int) : jfn Tryd.prog law13_LexStands_e 6 18446744073709551616 (Ev.get law13_LexStands_h) 6 law13_LexStands_s 260711 [w1] (law13_LexStands_k4 l at' i some' t45 t46 t47) = law13_LexStands_K4 (fun l at' t45 t46 t47 => w1 (law13_LexStands_k1 l at' t45 t46 t47)) l at' i some' t45 t46 t47 := by
  rw [pfn_eq (by decide)]
  have e6 : (fun l at' t45 t46 t47 t119 => (jfn Tryd.prog law13_LexStands_e 6 18446744073709551616 (Ev.get law13_LexStands_h) 6 law13_LexStands_s) 2085694 [w1] (law13_LexStands_k6 l at' t45 t46 t47 t119)) = law13_LexStands_K6 (fun l at' t45 t46 t47 => w1 (law13_LexStands_k1 l at' t45 t46 t47)) := funext fun l => funext fun at' => funext fun t45 => funext fun t46 => funext fun t47 => funext fun t119 => law13_LexStands_g6 w1 l at' t45 t46 t47 t119
  rw [law13_LexStands_c4, e6]
  rfl
theorem law13_LexStands_g5 (w1 : St → Option (As [.bool])) (w2 : St → Option (As [.bool])) (l : List LAT1) (at' : Int) (i : Int) (plain : List UInt8) (t45 : List (List UInt8)) (t46 : Int) (t47 : Int) (t93 : Bool) : jfn Tryd.prog law13_LexStands_e 6 18446744073709551616 (Ev.get law13_LexStands_h) 6 law13_LexStands_s 33371014 [w1, w2] (law13_LexStands_k5 l at' i plain t45 t46 t47 t93) = law13_LexStands_K5 (fun l at' t45 t46 t47 => w1 (law13_LexStands_k1 l at' t45 t46 t47)) (fun l at' i plain some' t45 t46 t47 => w2 (law13_LexStands_k2 l at' i plain some' t45 t46 t47)) l at' i plain t45 t46 t47 t93 := by
  rw [pfn_eq (by decide)]
  rw [law13_LexStands_c5]
  rfl
theorem law13_LexStands_g2 (w1 : St → Option (As [.bool])) (l : List LAT1) (at' : Int) (i : Int) (plain : List UInt8) (some' : Bool) (t45 : List (List UInt8)) (t46 : Int) (t47 : Int) : jfn Tryd.prog law13_LexStands_e 6 18446744073709551616 (Ev.get law13_LexStands_h) 6 law13_LexStands_s 1042844 [w1] (law13_LexStands_k2 l at' i plain some' t45 t46 t47) = law13_LexStands_K2 (fun l at' t45 t46 t47 => w1 (law13_LexStands_k1 l at' t45 t46 t47)) l at' i plain some' t45 t46 t47 := by
  rw [pfn_eq (by decide)]
  rw [pfn_loop (by kernel_rfl)]
  refine loopF_sim (σ := (List LAT1) × (Int) × (Int) × (List UInt8) × (Bool) × (List (List UInt8)) × (Int) × (Int)) (mk := fun s => law13_LexStands_k2 s.1 s.2.1 s.2.2.1 s.2.2.2.1 s.2.2.2.2.1 s.2.2.2.2.2.1 s.2.2.2.2.2.2.1 s.2.2.2.2.2.2.2) (fun w2 s => ?_) 18446744073709551616 (l, at', i, plain, some', t45, t46, t47)
  have e4 : (fun l at' i some' t45 t46 t47 => (jfn Tryd.prog law13_LexStands_e 6 18446744073709551616 (Ev.get law13_LexStands_h) 6 law13_LexStands_s) 260711 [w1] (law13_LexStands_k4 l at' i some' t45 t46 t47)) = law13_LexStands_K4 (fun l at' t45 t46 t47 => w1 (law13_LexStands_k1 l at' t45 t46 t47)) := funext fun l => funext fun at' => funext fun i => funext fun some' => funext fun t45 => funext fun t46 => funext fun t47 => law13_LexStands_g4 w1 l at' i some' t45 t46 t47
  have e5 : (fun l at' i plain t45 t46 t47 t93 => (jfn Tryd.prog law13_LexStands_e 6 18446744073709551616 (Ev.get law13_LexStands_h) 6 law13_LexStands_s) 33371014 [w1, w2] (law13_LexStands_k5 l at' i plain t45 t46 t47 t93)) = law13_LexStands_K5 (fun l at' t45 t46 t47 => w1 (law13_LexStands_k1 l at' t45 t46 t47)) (fun l at' i plain some' t45 t46 t47 => w2 (law13_LexStands_k2 l at' i plain some' t45 t46 t47)) := funext fun l => funext fun at' => funext fun i => funext fun plain => funext fun t45 => funext fun t46 => funext fun t47 => funext fun t93 => law13_LexStands_g5 w1 w2 l at' i plain t45 t46 t47 t93
  refine (law13_LexStands_c2 _ w1 w2 s.1 s.2.1 s.2.2.1 s.2.2.2.1 s.2.2.2.2.1 s.2.2.2.2.2.1 s.2.2.2.2.2.2.1 s.2.2.2.2.2.2.2).trans ?_
  rw [e4, e5]
theorem law13_LexStands_g3 (l : List LAT1) (at' : Int) : jfn Tryd.prog law13_LexStands_e 6 18446744073709551616 (Ev.get law13_LexStands_h) 6 law13_LexStands_s 127 [] (law13_LexStands_k3 l at') = law13_LexStands_K3 l at' := by
  rw [pfn_eq (by decide)]
  rw [law13_LexStands_c3]
  rfl
theorem law13_LexStands_g1 (l : List LAT1) (at' : Int) (t45 : List (List UInt8)) (t46 : Int) (t47 : Int) : jfn Tryd.prog law13_LexStands_e 6 18446744073709551616 (Ev.get law13_LexStands_h) 6 law13_LexStands_s 1018 [] (law13_LexStands_k1 l at' t45 t46 t47) = law13_LexStands_K1 l at' t45 t46 t47 := by
  rw [pfn_eq (by decide)]
  rw [pfn_loop (by kernel_rfl)]
  refine loopF_sim (σ := (List LAT1) × (Int) × (List (List UInt8)) × (Int) × (Int)) (mk := fun s => law13_LexStands_k1 s.1 s.2.1 s.2.2.1 s.2.2.2.1 s.2.2.2.2) (fun w1 s => ?_) 18446744073709551616 (l, at', t45, t46, t47)
  have e2 : (fun l at' i plain some' t45 t46 t47 => (jfn Tryd.prog law13_LexStands_e 6 18446744073709551616 (Ev.get law13_LexStands_h) 6 law13_LexStands_s) 1042844 [w1] (law13_LexStands_k2 l at' i plain some' t45 t46 t47)) = law13_LexStands_K2 (fun l at' t45 t46 t47 => w1 (law13_LexStands_k1 l at' t45 t46 t47)) := funext fun l => funext fun at' => funext fun i => funext fun plain => funext fun some' => funext fun t45 => funext fun t46 => funext fun t47 => law13_LexStands_g2 w1 l at' i plain some' t45 t46 t47
  have e3 : (fun l at' => (jfn Tryd.prog law13_LexStands_e 6 18446744073709551616 (Ev.get law13_LexStands_h) 6 law13_LexStands_s) 127 [] (law13_LexStands_k3 l at')) = law13_LexStands_K3 := funext fun l => funext fun at' => law13_LexStands_g3 l at'
  refine (law13_LexStands_c1 _ w1 s.1 s.2.1 s.2.2.1 s.2.2.2.1 s.2.2.2.2).trans ?_
  rw [e2, e3]
theorem law13_LexStands_t (x : As [.str]) : evT Tryd.prog law13_LexStands_e 6 18446744073709551616 (Ev.get law13_LexStands_h) 6 law13_LexStands_s x = law13_LexStands x := by
  have e1 : (fun l at' t45 t46 t47 => (jfn Tryd.prog law13_LexStands_e 6 18446744073709551616 (Ev.get law13_LexStands_h) 6 law13_LexStands_s) 1018 [] (law13_LexStands_k1 l at' t45 t46 t47)) = law13_LexStands_K1 := funext fun l => funext fun at' => funext fun t45 => funext fun t46 => funext fun t47 => law13_LexStands_g1 l at' t45 t46 t47
  rw [rfn_eq, law13_LexStands_c0, e1]
  rfl
theorem law13_LexStands_ok : CtOk Tryd.prog (fun _ => True) 6 ⟨law13_LexStands_s, law13_LexStands⟩ := ct_of_ev (env_cons law13_awake_ok (env_cons lex_Lex_ok (env_cons strings_Split_ok (env_cons strings_TrimLeft_ok (env_cons strings_HasPrefix_ok env_nil))))) law13_LexStands_t
end Go.Proofs.Lx

end

section
/- Plain laws: a kit of lemmas about what the models are made of. -/
namespace Pl
open Go Ev Sx
set_option maxRecDepth 10000

/-! ### loops -/
theorem loopF_succ {σ R : Type} (F : (σ → Option R) → σ → Option R) (n : Nat) (s : σ) : loopF F (n + 1) s = F (loopF F n) s := rfl
/-- a loop is G, where each step is, if the next ones are -/
theorem loopF_eq {σ R : Type} {F : (σ → Option R) → σ → Option R} {Inv : σ → Prop} {μ : σ → Nat} {G : σ → Option R}
    (step : ∀ self s, Inv s → (∀ s', Inv s' → μ s' < μ s → self s' = G s') → F self s = G s) : ∀ (n : Nat) (s : σ), Inv s → μ s < n → loopF F n s = G s
  | 0, s, _, h => by omega
  | n + 1, s, hs, h => by
    rw [loopF_succ]
    exact step _ s hs fun s' hs' hlt => loopF_eq step n s' hs' (by omega)
/-! ### numbers -/
theorem w64 {x : Int} (h1 : -9223372036854775808 ≤ x) (h2 : x ≤ 9223372036854775807) : IntKind.i64.wrap x = x := by
  simp only [IntKind.wrap, IntKind.signed, IntKind.bits]
  simp
  omega
theorem wu8 {x : Int} (h1 : 0 ≤ x) (h2 : x ≤ 255) : IntKind.u8.wrap x = x := by
  simp only [IntKind.wrap, IntKind.signed, IntKind.bits]
  simp
  omega
theorem wu16 {x : Int} (h1 : 0 ≤ x) (h2 : x ≤ 65535) : IntKind.u16.wrap x = x := by
  simp only [IntKind.wrap, IntKind.signed, IntKind.bits]
  simp
  omega
theorem wu32 {x : Int} (h1 : 0 ≤ x) (h2 : x ≤ 4294967295) : IntKind.u32.wrap x = x := by
  simp only [IntKind.wrap, IntKind.signed, IntKind.bits]
  simp
  omega
theorem wu64 {x : Int} (h1 : 0 ≤ x) (h2 : x ≤ 18446744073709551615) : IntKind.u64.wrap x = x := by
  simp only [IntKind.wrap, IntKind.signed, IntKind.bits]
  simp
  omega
theorem add64 {a b : Int} (h1 : -9223372036854775808 ≤ a + b) (h2 : a + b ≤ 9223372036854775807) : add .i64 a b = a + b := w64 h1 h2
theorem sub64 {a b : Int} (h1 : -9223372036854775808 ≤ a - b) (h2 : a - b ≤ 9223372036854775807) : sub .i64 a b = a - b := w64 h1 h2
theorem mul64 {a b : Int} (h1 : -9223372036854775808 ≤ a * b) (h2 : a * b ≤ 9223372036854775807) : mul .i64 a b = a * b := w64 h1 h2
theorem neg64 {a : Int} (h1 : -9223372036854775808 ≤ -a) (h2 : -a ≤ 9223372036854775807) : neg .i64 a = -a := w64 h1 h2
theorem cvt64 {a : Int} (h1 : -9223372036854775808 ≤ a) (h2 : a ≤ 9223372036854775807) : cvt .i64 a = a := w64 h1 h2
theorem succ64 {n : Nat} (h : n < 4611686018427387904) : add .i64 (n : Int) 1 = ((n + 1 : Nat) : Int) := by rw [add64 (by omega) (by omega)]; rfl
theorem addn64 {n m : Nat} (h : n + m < 4611686018427387904) : add .i64 (n : Int) (m : Int) = ((n + m : Nat) : Int) := by rw [add64 (by omega) (by omega)]; rfl
theorem ofNat_eq (n : Nat) : Int.ofNat n = (n : Int) := rfl
theorem lt_iff {a b : Int} : lt a b = true ↔ a < b := by simp [lt]
theorem le_iff {a b : Int} : le a b = true ↔ a ≤ b := by simp [le]
theorem gt_iff {a b : Int} : gt a b = true ↔ b < a := by simp [gt]
theorem ge_iff {a b : Int} : ge a b = true ↔ b ≤ a := by simp [ge]
theorem eqi_iff {a b : Int} : eqi a b = true ↔ a = b := by simp [eqi]
theorem nei_iff {a b : Int} : nei a b = true ↔ a ≠ b := by simp [nei]
theorem eqs_iff {a b : List UInt8} : eqs a b = true ↔ a = b := by simp [eqs]
theorem nes_iff {a b : List UInt8} : nes a b = true ↔ a ≠ b := by simp [nes]
theorem small_iff {n : Nat} : small n = true ↔ n ≤ 1073741824 := by simp [small]
theorem lt_dec (a b : Int) : lt a b = decide (a < b) := rfl
theorem le_dec (a b : Int) : le a b = decide (a ≤ b) := rfl
theorem gt_dec (a b : Int) : gt a b = decide (b < a) := rfl
theorem ge_dec (a b : Int) : ge a b = decide (b ≤ a) := rfl
theorem need_t {b : Bool} {β : Type} {k : Option β} (h : b = true) : need b k = k := by unfold need; rw [if_pos h]
theorem need_small {n : Nat} {β : Type} {k : Option β} (h : n ≤ 1073741824) : need (small n) k = k := need_t (small_iff.2 h)
/-! ### rows -/
theorem at_get {α : Type} {s : List α} {i : Nat} {c : α} (h : s[i]? = some c) : at? s (i : Int) = some c := by
  unfold at?
  simp [h]
theorem at_zero {α : Type} (c : α) (q : List α) : at? (c :: q) 0 = some c := rfl
theorem at_drop {α : Type} {s : List α} {i : Nat} {c : α} {r : List α} (h : s.drop i = c :: r) : at? s (i : Int) = some c := by
  apply at_get
  have := congrArg (·[0]?) h
  simpa using this
theorem at_app {α : Type} (p : List α) (c : α) (q : List α) : at? (p ++ c :: q) (p.length : Int) = some c := at_get (by simp)
theorem at_none {α : Type} {s : List α} {i : Int} (h : i < 0 ∨ (s.length : Int) ≤ i) : at? s i = none := by
  unfold at?
  split
  · simp; omega
  · rfl
theorem drop_succ {α : Type} {s : List α} {i : Nat} {c : α} {r : List α} (h : s.drop i = c :: r) : s.drop (i + 1) = r ∧ i < s.length ∧ s.length - i = r.length + 1 := by
  have hl := congrArg List.length h
  simp at hl
  refine ⟨?_, by omega, by omega⟩
  rw [← List.drop_drop, h]
  rfl
theorem drop_nil {α : Type} {s : List α} {i : Nat} (h : s.drop i = []) : s.length ≤ i := by
  have := congrArg List.length h
  simp at this
  omega
theorem cut_nat {α : Type} {xs : List α} {i j : Nat} (h1 : i ≤ j) (h2 : j ≤ xs.length) : cut xs (i : Int) (j : Int) = some ((xs.take j).drop i) := by
  unfold cut
  rw [if_pos ⟨by omega, by omega, by omega⟩]
  simp
theorem cut_from {α : Type} {xs : List α} {i : Nat} (h : i ≤ xs.length) : cut xs (i : Int) (Int.ofNat xs.length) = some (xs.drop i) := by
  rw [ofNat_eq, cut_nat h (Nat.le_refl _)]
  simp
theorem cut_to {α : Type} {xs : List α} {j : Nat} (h : j ≤ xs.length) : cut xs 0 (j : Int) = some (xs.take j) := by
  have := cut_nat (xs := xs) (Nat.zero_le j) h
  simpa using this
theorem cut_one {α : Type} (c : α) (q : List α) : cut (c :: q) 1 (Int.ofNat (c :: q).length) = some q := by
  have := cut_from (xs := c :: q) (i := 1) (by simp)
  simpa using this
theorem cut_app0 {α : Type} (p q : List α) : cut (p ++ q) 0 (p.length : Int) = some p := by rw [cut_to (by simp)]; simp
theorem cut_app1 {α : Type} (p q : List α) : cut (p ++ q) (p.length : Int) (Int.ofNat (p ++ q).length) = some q := by rw [cut_from (by simp)]; simp
/-- a byte's place -/
theorem index_no (c : UInt8) : ∀ s : List UInt8, c ∉ s → Go.Lib.indexByte s c = -1
  | [], _ => rfl
  | b :: q, h => by
    have hb : (b == c) = false := by
      rw [beq_eq_false_iff_ne]
      exact fun e => h (by simp [e])
    have ih := index_no c q (fun hx => h (List.mem_cons_of_mem _ hx))
    unfold Go.Lib.indexByte
    rw [hb, ih]
    rfl
theorem index_yes (c : UInt8) : ∀ (p q : List UInt8), c ∉ p → Go.Lib.indexByte (p ++ c :: q) c = (p.length : Int)
  | [], q, _ => by unfold Go.Lib.indexByte; simp
  | b :: p, q, h => by
    have hb : (b == c) = false := by
      rw [beq_eq_false_iff_ne]
      exact fun e => h (by simp [e])
    have ih := index_yes c p q (fun hx => h (List.mem_cons_of_mem _ hx))
    show Go.Lib.indexByte (b :: (p ++ c :: q)) c = _
    unfold Go.Lib.indexByte
    rw [hb, ih]
    have : ((p.length : Int) == -1) = false := by simp
    rw [this]
    simp
/-- a text up to a byte, and behind it -/
theorem split_at (c : UInt8) (s : List UInt8) : (c ∉ s) ∨ ∃ p q, s = p ++ c :: q ∧ c ∉ p := by
  induction s with
  | nil => exact .inl (by simp)
  | cons b r ih =>
    by_cases hb : b = c
    · exact .inr ⟨[], r, by simp [hb], by simp⟩
    · rcases ih with h | ⟨p, q, h1, h2⟩
      · exact .inl (by simp; exact ⟨fun e => hb e.symm, h⟩)
      · exact .inr ⟨b :: p, q, by simp [h1], by simp; exact ⟨fun e => hb e.symm, h2⟩⟩
/-! ### bytes -/
theorem all8 {p : Nat → Bool} (h : (List.range 256).all p = true) (c : UInt8) : p c.toNat = true := List.all_eq_true.1 h _ (List.mem_range.2 c.toNat_lt)
theorem eqV_refl : ∀ (t : Ty) (x : Vl t), eqV t x x = true := by
  have hl : ∀ {α : Type} {f : α → α → Bool}, (∀ a, f a a = true) → ∀ x : List α, eqL f x x = true := fun h x => by
    induction x with
    | nil => rfl
    | cons a q ih => simp [eqL, h, ih]
  intro t
  induction t with
  | int k => intro x; simp [eqV, eqi]
  | bool => intro x; simp [eqV, eqb]
  | str => intro x; simp [eqV, eqs]
  | sl t ih => intro x; exact hl ih x
  | pr a b iha ihb => intro x; simp [eqV, iha, ihb]
  | wr a ih => intro x; exact ih x
  | un => intro x; rfl
  | ar n t ih => intro x; exact hl ih x
theorem eqAs_refl : ∀ (rs : List Ty) (x : As rs), eqAs rs x x = true
  | [], _ => rfl
  | t :: r, x => by simp [eqAs, eqV_refl, eqAs_refl r]
theorem amb2 {R : Type} {eq : R → R → Bool} (h : ∀ x, eq x x = true) (a : Option R) : amb eq [a, a] = a := by
  cases a <;> simp [amb, ambC, h]
theorem amb3 {R : Type} {eq : R → R → Bool} (h : ∀ x, eq x x = true) (a : Option R) : amb eq [a, a, a] = a := by
  cases a <;> simp [amb, ambC, h]
end Pl

end
