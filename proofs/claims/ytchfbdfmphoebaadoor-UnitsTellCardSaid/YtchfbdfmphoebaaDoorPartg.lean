/- Proved in the last of these 9 parts (this is part 7): UnitsTell is true for every input. Conditions: those of the given statement, and no others. -/
import Derived.Test.YtchfbdfmphoebaaDoorPartd
import Derived.Test.YtchfbdfmphoebaaDoorProg
import Derived.Test.YtchfbdfmphoebaaDoorPartf
set_option linter.unusedVariables false
set_option linter.unusedSimpArgs false
set_option linter.unusedSectionVars false
section
/- Contracts, made by a program. -/
open Go Go.Proofs Ev Sx
set_option maxRecDepth 100000
namespace Go.Proofs.Lx
abbrev LBT0 : Ty := (.pr (.int .i64) (.int .i64))
abbrev LBT1 : Ty := (.pr (.int .i64) (.int .u8))
/-! ref12_Of -/
@[reducible] def ref12_Of_s : Sh := ⟨[.d (.int .i64), .d (.int .i64)], [], [.int .i64, .int .i64], [.d LBT1, .d (.bool)], [], 0, [.pr (.int .i64) (.int .u8), .bool]⟩
def ref12_Of_e : Env := (cts [])
def ref12_Of_h : List (Nat × Hint) := [(3, ⟨[], [0, 1, 4, 20, 21, 24, 25]⟩), (14, ⟨[], [0, 1, 4, 26]⟩), (12, ⟨[], [0, 1, 4, 9, 10, 11, 20, 21, 24, 25]⟩), (48, ⟨[], [0, 1, 4, 12]⟩)]
def ref12_Of_k1 (n : Int) (digits : Int) (t4 : Int) (t4_2 : Int) : St := { fr := [(0, .d (.int .i64) n), (1, .d (.int .i64) digits), (4, .pb 0 0)], nt := 32, up := [], own := [(0, .box 40 [.d (.int .i64) t4, .d (.int .u8) t4_2])], nx := 1, log := [], ln := 0 }
def ref12_Of_k2 (n : Int) (digits : Int) (t12 : Bool) (t4 : Int) (t4_2 : Int) : St := { fr := [(0, .d (.int .i64) n), (1, .d (.int .i64) digits), (4, .pb 0 0), (12, .d .bool t12)], nt := 32, up := [], own := [(0, .box 40 [.d (.int .i64) t4, .d (.int .u8) t4_2])], nx := 1, log := [], ln := 0 }
def ref12_Of_k3 (n : Int) (digits : Int) (t4 : Int) (t4_2 : Int) : St := { fr := [(0, .d (.int .i64) n), (1, .d (.int .i64) digits), (4, .pb 0 0)], nt := 32, up := [], own := [(0, .box 40 [.d (.int .i64) t4, .d (.int .u8) t4_2])], nx := 1, log := [], ln := 0 }
def ref12_Of_k4 (n : Int) (digits : Int) (t26 : Bool) (t4 : Int) (t4_2 : Int) : St := { fr := [(0, .d (.int .i64) n), (1, .d (.int .i64) digits), (4, .pb 0 0), (26, .d .bool t26)], nt := 32, up := [], own := [(0, .box 40 [.d (.int .i64) t4, .d (.int .u8) t4_2])], nx := 1, log := [], ln := 0 }
def ref12_Of_m1 (j2 : Int → Int → Bool → Int → Int → Option (As [.pr (.int .i64) (.int .u8), .bool])) (self1 : Int → Int → Int → Int → Option (As [.pr (.int .i64) (.int .u8), .bool])) (n : Int) (digits : Int) (t4 : Int) (t4_2 : Int) : Option (As [.pr (.int .i64) (.int .u8), .bool]) :=
  if gt digits 0 = true then j2 n digits (eqi (rem n 10) 0) t4 t4_2 else j2 n digits false t4 t4_2
def ref12_Of_m2 (j3 : Int → Int → Int → Int → Option (As [.pr (.int .i64) (.int .u8), .bool])) (self1 : Int → Int → Int → Int → Option (As [.pr (.int .i64) (.int .u8), .bool])) (n : Int) (digits : Int) (t12 : Bool) (t4 : Int) (t4_2 : Int) : Option (As [.pr (.int .i64) (.int .u8), .bool]) :=
  if t12 = true then self1 (quo .i64 n 10) (Sx.sub .i64 digits 1) t4 t4_2 else j3 n digits t4 t4_2
def ref12_Of_m3 (j4 : Int → Int → Bool → Int → Int → Option (As [.pr (.int .i64) (.int .u8), .bool])) (n : Int) (digits : Int) (t4 : Int) (t4_2 : Int) : Option (As [.pr (.int .i64) (.int .u8), .bool]) :=
  if gt digits 6 = true then j4 n digits true t4 t4_2 else if gt n 1000000000000 = true then j4 n digits true t4 t4_2 else j4 n digits (lt n (-1000000000000)) t4 t4_2
def ref12_Of_m4 (n : Int) (digits : Int) (t26 : Bool) (t4 : Int) (t4_2 : Int) : Option (As [.pr (.int .i64) (.int .u8), .bool]) :=
  if t26 = true then some ((0, 0), false, ()) else some ((n, cvt .u8 digits), true, ())
def ref12_Of_m0 (j1 : Int → Int → Int → Int → Option (As [.pr (.int .i64) (.int .u8), .bool])) (n : Int) (digits : Int) : Option (As [.pr (.int .i64) (.int .u8), .bool]) :=
  j1 n digits 0 0
def ref12_Of_K4 (n : Int) (digits : Int) (t26 : Bool) (t4 : Int) (t4_2 : Int) : Option (As [.pr (.int .i64) (.int .u8), .bool]) := ref12_Of_m4 n digits t26 t4 t4_2
def ref12_Of_K3 (n : Int) (digits : Int) (t4 : Int) (t4_2 : Int) : Option (As [.pr (.int .i64) (.int .u8), .bool]) := ref12_Of_m3 (ref12_Of_K4) n digits t4 t4_2
def ref12_Of_K2 (u1 : Int → Int → Int → Int → Option (As [.pr (.int .i64) (.int .u8), .bool])) (n : Int) (digits : Int) (t12 : Bool) (t4 : Int) (t4_2 : Int) : Option (As [.pr (.int .i64) (.int .u8), .bool]) := ref12_Of_m2 (ref12_Of_K3) u1 n digits t12 t4 t4_2
def ref12_Of_K1 (n : Int) (digits : Int) (t4 : Int) (t4_2 : Int) : Option (As [.pr (.int .i64) (.int .u8), .bool]) :=
  loopF (fun (self : (Int) × (Int) × (Int) × (Int) → Option (As [.pr (.int .i64) (.int .u8), .bool])) (s : (Int) × (Int) × (Int) × (Int)) => ref12_Of_m1 (ref12_Of_K2 (fun n digits t4 t4_2 => self (n, digits, t4, t4_2))) (fun n digits t4 t4_2 => self (n, digits, t4, t4_2)) s.1 s.2.1 s.2.2.1 s.2.2.2) 18446744073709551616 (n, digits, t4, t4_2)
def ref12_Of (x : As [.int .i64, .int .i64]) : Option (As [.pr (.int .i64) (.int .u8), .bool]) := ref12_Of_m0 ref12_Of_K1 x.1 x.2.1
theorem ref12_Of_c4 (J : Orc (As [.pr (.int .i64) (.int .u8), .bool])) (n : Int) (digits : Int) (t26 : Bool) (t4 : Int) (t4_2 : Int) : pfn Tryd.prog ref12_Of_e 6 18446744073709551616 (Ev.get ref12_Of_h) 49 ref12_Of_s J 14 [] (ref12_Of_k4 n digits t26 t4 t4_2) = ref12_Of_m4 n digits t26 t4 t4_2 := by kernel_rfl
theorem ref12_Of_c3 (J : Orc (As [.pr (.int .i64) (.int .u8), .bool])) (n : Int) (digits : Int) (t4 : Int) (t4_2 : Int) : pfn Tryd.prog ref12_Of_e 6 18446744073709551616 (Ev.get ref12_Of_h) 49 ref12_Of_s J 3 [] (ref12_Of_k3 n digits t4 t4_2) = ref12_Of_m3 (fun n digits t26 t4 t4_2 => J 14 [] (ref12_Of_k4 n digits t26 t4 t4_2)) n digits t4 t4_2 := by kernel_rfl
theorem ref12_Of_c2 (J : Orc (As [.pr (.int .i64) (.int .u8), .bool])) (w1 : St → Option (As [.pr (.int .i64) (.int .u8), .bool])) (n : Int) (digits : Int) (t12 : Bool) (t4 : Int) (t4_2 : Int) : pfn Tryd.prog ref12_Of_e 6 18446744073709551616 (Ev.get ref12_Of_h) 49 ref12_Of_s J 48 [w1] (ref12_Of_k2 n digits t12 t4 t4_2) = ref12_Of_m2 (fun n digits t4 t4_2 => J 3 [] (ref12_Of_k3 n digits t4 t4_2)) (fun n digits t4 t4_2 => w1 (ref12_Of_k1 n digits t4 t4_2)) n digits t12 t4 t4_2 := by kernel_rfl
theorem ref12_Of_c1 (J : Orc (As [.pr (.int .i64) (.int .u8), .bool])) (w1 : St → Option (As [.pr (.int .i64) (.int .u8), .bool])) (n : Int) (digits : Int) (t4 : Int) (t4_2 : Int) : pfn Tryd.prog ref12_Of_e 6 18446744073709551616 (Ev.get ref12_Of_h) 49 ref12_Of_s J 12 [w1] (ref12_Of_k1 n digits t4 t4_2) = ref12_Of_m1 (fun n digits t12 t4 t4_2 => J 48 [w1] (ref12_Of_k2 n digits t12 t4 t4_2)) (fun n digits t4 t4_2 => w1 (ref12_Of_k1 n digits t4 t4_2)) n digits t4 t4_2 := by kernel_rfl
theorem ref12_Of_c0 (J : Orc (As [.pr (.int .i64) (.int .u8), .bool])) (x : As [.int .i64, .int .i64]) : rfn Tryd.prog ref12_Of_e 6 18446744073709551616 (Ev.get ref12_Of_h) 49 ref12_Of_s J x = ref12_Of_m0 (fun n digits t4 t4_2 => J 12 [] (ref12_Of_k1 n digits t4 t4_2)) x.1 x.2.1 := by kernel_rfl
theorem ref12_Of_g4 (n : Int) (digits : Int) (t26 : Bool) (t4 : Int) (t4_2 : Int) : jfn Tryd.prog ref12_Of_e 6 18446744073709551616 (Ev.get ref12_Of_h) 49 ref12_Of_s 14 [] (ref12_Of_k4 n digits t26 t4 t4_2) = ref12_Of_K4 n digits t26 t4 t4_2 := by
  rw [pfn_eq (by decide)]
  rw [ref12_Of_c4]
  rfl
theorem ref12_Of_g3 (n : Int) (digits : Int) (t4 : Int) (t4_2 : Int) : jfn Tryd.prog ref12_Of_e 6 18446744073709551616 (Ev.get ref12_Of_h) 49 ref12_Of_s 3 [] (ref12_Of_k3 n digits t4 t4_2) = ref12_Of_K3 n digits t4 t4_2 := by
  rw [pfn_eq (by decide)]
  have e4 : (fun n digits t26 t4 t4_2 => (jfn Tryd.prog ref12_Of_e 6 18446744073709551616 (Ev.get ref12_Of_h) 49 ref12_Of_s) 14 [] (ref12_Of_k4 n digits t26 t4 t4_2)) = ref12_Of_K4 := funext fun n => funext fun digits => funext fun t26 => funext fun t4 => funext fun t4_2 => ref12_Of_g4 n digits t26 t4 t4_2
  rw [ref12_Of_c3, e4]
  rfl
theorem ref12_Of_g2 (w1 : St → Option (As [.pr (.int .i64) (.int .u8), .bool])) (n : Int) (digits : Int) (t12 : Bool) (t4 : Int) (t4_2 : Int) : jfn Tryd.prog ref12_Of_e 6 18446744073709551616 (Ev.get ref12_Of_h) 49 ref12_Of_s 48 [w1] (ref12_Of_k2 n digits t12 t4 t4_2) = ref12_Of_K2 (fun n digits t4 t4_2 => w1 (ref12_Of_k1 n digits t4 t4_2)) n digits t12 t4 t4_2 := by
  rw [pfn_eq (by decide)]
  have e3 : (fun n digits t4 t4_2 => (jfn Tryd.prog ref12_Of_e 6 18446744073709551616 (Ev.get ref12_Of_h) 49 ref12_Of_s) 3 [] (ref12_Of_k3 n digits t4 t4_2)) = ref12_Of_K3 := funext fun n => funext fun digits => funext fun t4 => funext fun t4_2 => ref12_Of_g3 n digits t4 t4_2
  rw [ref12_Of_c2, e3]
  rfl
theorem ref12_Of_g1 (n : Int) (digits : Int) (t4 : Int) (t4_2 : Int) : jfn Tryd.prog ref12_Of_e 6 18446744073709551616 (Ev.get ref12_Of_h) 49 ref12_Of_s 12 [] (ref12_Of_k1 n digits t4 t4_2) = ref12_Of_K1 n digits t4 t4_2 := by
  rw [pfn_eq (by decide)]
  rw [pfn_loop (by kernel_rfl)]
  refine loopF_sim (σ := (Int) × (Int) × (Int) × (Int)) (mk := fun s => ref12_Of_k1 s.1 s.2.1 s.2.2.1 s.2.2.2) (fun w1 s => ?_) 18446744073709551616 (n, digits, t4, t4_2)
  have e2 : (fun n digits t12 t4 t4_2 => (jfn Tryd.prog ref12_Of_e 6 18446744073709551616 (Ev.get ref12_Of_h) 49 ref12_Of_s) 48 [w1] (ref12_Of_k2 n digits t12 t4 t4_2)) = ref12_Of_K2 (fun n digits t4 t4_2 => w1 (ref12_Of_k1 n digits t4 t4_2)) := funext fun n => funext fun digits => funext fun t12 => funext fun t4 => funext fun t4_2 => ref12_Of_g2 w1 n digits t12 t4 t4_2
  refine (ref12_Of_c1 _ w1 s.1 s.2.1 s.2.2.1 s.2.2.2).trans ?_
  rw [e2]
theorem ref12_Of_t (x : As [.int .i64, .int .i64]) : evT Tryd.prog ref12_Of_e 6 18446744073709551616 (Ev.get ref12_Of_h) 49 ref12_Of_s x = ref12_Of x := by
  have e1 : (fun n digits t4 t4_2 => (jfn Tryd.prog ref12_Of_e 6 18446744073709551616 (Ev.get ref12_Of_h) 49 ref12_Of_s) 12 [] (ref12_Of_k1 n digits t4 t4_2)) = ref12_Of_K1 := funext fun n => funext fun digits => funext fun t4 => funext fun t4_2 => ref12_Of_g1 n digits t4 t4_2
  rw [rfn_eq, ref12_Of_c0, e1]
  rfl
theorem ref12_Of_ok : CtOk Tryd.prog I0 49 ⟨ref12_Of_s, ref12_Of⟩ := ct_of_ev env_nil ref12_Of_t
/-! ref12_Parse -/
@[reducible] def ref12_Parse_s : Sh := ⟨[.d (.str)], [], [.str], [.d LBT1, .d (.bool)], [], 0, [.pr (.int .i64) (.int .u8), .bool]⟩
def ref12_Parse_e : Env := (cts [(49, (⟨ref12_Of_s, ref12_Of⟩ : Ct))])
def ref12_Parse_h : List (Nat × Hint) := [(3, ⟨[], [0, 2, 4, 32, 33, 36, 37, 44, 45, 46, 47, 50, 51, 52, 53, 54, 55, 56, 57, 58, 59, 60, 82, 83, 84, 85, 86, 89, 90]⟩), (7, ⟨[], [0, 2, 4, 32, 33, 36, 37, 44, 45, 46, 47, 50, 51, 52, 53, 54, 55, 56, 57, 58, 59, 60, 82, 83, 84, 85, 86, 89, 90]⟩), (31, ⟨[], [2, 4, 5, 6, 7, 8, 82, 83, 84, 85, 86, 89, 90]⟩), (127, ⟨[], [2, 5, 7]⟩), (126, ⟨[], [2, 4, 5, 7, 91]⟩), (250, ⟨[], [0, 2, 4, 5, 6, 7, 8, 9, 32, 33, 36, 37, 44, 45, 46, 47, 50, 51, 52, 53, 54, 55, 56, 57, 58, 59, 60, 82, 83, 84, 85, 86, 89, 90]⟩), (1001, ⟨[], [0, 2, 4, 5, 6, 7, 8, 9, 32, 33, 36, 37, 44, 45, 46, 47, 50, 51, 52, 53, 54, 55, 56, 57, 58, 59, 60, 82, 83, 84, 85, 86, 89, 90]⟩), (16018, ⟨[], [0, 2, 4, 5, 6, 7, 8, 9, 61]⟩), (8008, ⟨[], [0, 2, 4, 5, 6, 7, 8, 9, 38]⟩)]
def ref12_Parse_k1 (s : List UInt8) (below : Bool) (t2 : Int) (t2_2 : Int) : St := { fr := [(0, .d .str s), (2, .pb 0 0), (4, .d .bool below)], nt := 101, up := [], own := [(0, .box 40 [.d (.int .i64) t2, .d (.int .u8) t2_2])], nx := 1, log := [], ln := 0 }
def ref12_Parse_k2 (s : List UInt8) (below : Bool) (t2 : Int) (t2_2 : Int) : St := { fr := [(0, .d .str s), (2, .pb 0 0), (4, .d .bool below)], nt := 101, up := [], own := [(0, .box 40 [.d (.int .i64) t2, .d (.int .u8) t2_2])], nx := 1, log := [], ln := 0 }
def ref12_Parse_k3 (s : List UInt8) (below : Bool) (n : Int) (point : Bool) (behind : Int) (ahead : Int) (i : Int) (t2 : Int) (t2_2 : Int) : St := { fr := [(0, .d .str s), (2, .pb 0 0), (4, .d .bool below), (5, .d (.int .i64) n), (6, .d .bool point), (7, .d (.int .i64) behind), (8, .d (.int .i64) ahead), (9, .d (.int .i64) i)], nt := 101, up := [], own := [(0, .box 40 [.d (.int .i64) t2, .d (.int .u8) t2_2])], nx := 1, log := [], ln := 0 }
def ref12_Parse_k4 (s : List UInt8) (below : Bool) (n : Int) (point : Bool) (behind : Int) (ahead : Int) (i : Int) (t38 : Bool) (t2 : Int) (t2_2 : Int) : St := { fr := [(0, .d .str s), (2, .pb 0 0), (4, .d .bool below), (5, .d (.int .i64) n), (6, .d .bool point), (7, .d (.int .i64) behind), (8, .d (.int .i64) ahead), (9, .d (.int .i64) i), (38, .d .bool t38)], nt := 101, up := [], own := [(0, .box 40 [.d (.int .i64) t2, .d (.int .u8) t2_2])], nx := 1, log := [], ln := 0 }
def ref12_Parse_k5 (below : Bool) (n : Int) (point : Bool) (behind : Int) (ahead : Int) (t2 : Int) (t2_2 : Int) : St := { fr := [(2, .pb 0 0), (4, .d .bool below), (5, .d (.int .i64) n), (6, .d .bool point), (7, .d (.int .i64) behind), (8, .d (.int .i64) ahead)], nt := 101, up := [], own := [(0, .box 40 [.d (.int .i64) t2, .d (.int .u8) t2_2])], nx := 1, log := [], ln := 0 }
def ref12_Parse_k6 (s : List UInt8) (below : Bool) (n : Int) (point : Bool) (behind : Int) (ahead : Int) (i : Int) (t2 : Int) (t2_2 : Int) : St := { fr := [(0, .d .str s), (2, .pb 0 0), (4, .d .bool below), (5, .d (.int .i64) n), (6, .d .bool point), (7, .d (.int .i64) behind), (8, .d (.int .i64) ahead), (9, .d (.int .i64) i)], nt := 101, up := [], own := [(0, .box 40 [.d (.int .i64) t2, .d (.int .u8) t2_2])], nx := 1, log := [], ln := 0 }
def ref12_Parse_k7 (s : List UInt8) (below : Bool) (n : Int) (point : Bool) (behind : Int) (ahead : Int) (i : Int) (t61 : Bool) (t2 : Int) (t2_2 : Int) : St := { fr := [(0, .d .str s), (2, .pb 0 0), (4, .d .bool below), (5, .d (.int .i64) n), (6, .d .bool point), (7, .d (.int .i64) behind), (8, .d (.int .i64) ahead), (9, .d (.int .i64) i), (61, .d .bool t61)], nt := 101, up := [], own := [(0, .box 40 [.d (.int .i64) t2, .d (.int .u8) t2_2])], nx := 1, log := [], ln := 0 }
def ref12_Parse_k8 (below : Bool) (n : Int) (behind : Int) (t91 : Bool) (t2 : Int) (t2_2 : Int) : St := { fr := [(2, .pb 0 0), (4, .d .bool below), (5, .d (.int .i64) n), (7, .d (.int .i64) behind), (91, .d .bool t91)], nt := 101, up := [], own := [(0, .box 40 [.d (.int .i64) t2, .d (.int .u8) t2_2])], nx := 1, log := [], ln := 0 }
def ref12_Parse_k9 (n : Int) (behind : Int) (t2 : Int) (t2_2 : Int) : St := { fr := [(2, .pb 0 0), (5, .d (.int .i64) n), (7, .d (.int .i64) behind)], nt := 101, up := [], own := [(0, .box 40 [.d (.int .i64) t2, .d (.int .u8) t2_2])], nx := 1, log := [], ln := 0 }
def ref12_Parse_m1 (j2 : List UInt8 → Bool → Int → Int → Option (As [.pr (.int .i64) (.int .u8), .bool])) (s : List UInt8) (below : Bool) (t2 : Int) (t2_2 : Int) : Option (As [.pr (.int .i64) (.int .u8), .bool]) :=
  if below = true then Option.bind (cut s 1 (Int.ofNat (List.length s))) fun (y : List UInt8) => j2 y below t2 t2_2 else j2 s below t2 t2_2
def ref12_Parse_m2 (j3 : List UInt8 → Bool → Int → Bool → Int → Int → Int → Int → Int → Option (As [.pr (.int .i64) (.int .u8), .bool])) (s : List UInt8) (below : Bool) (t2 : Int) (t2_2 : Int) : Option (As [.pr (.int .i64) (.int .u8), .bool]) :=
  j3 s below 0 false 0 0 0 t2 t2_2
def ref12_Parse_m3 (j4 : List UInt8 → Bool → Int → Bool → Int → Int → Int → Bool → Int → Int → Option (As [.pr (.int .i64) (.int .u8), .bool])) (j5 : Bool → Int → Bool → Int → Int → Int → Int → Option (As [.pr (.int .i64) (.int .u8), .bool])) (self3 : List UInt8 → Bool → Int → Bool → Int → Int → Int → Int → Int → Option (As [.pr (.int .i64) (.int .u8), .bool])) (s : List UInt8) (below : Bool) (n : Int) (point : Bool) (behind : Int) (ahead : Int) (i : Int) (t2 : Int) (t2_2 : Int) : Option (As [.pr (.int .i64) (.int .u8), .bool]) :=
  if lt i (Int.ofNat (List.length s)) = true then Option.bind (at? s i) fun (c : UInt8) => if eqi (Int.ofNat (UInt8.toNat c)) 46 = true then if (!point) = true then j4 s below n point behind ahead i (gt ahead 0) t2 t2_2 else j4 s below n point behind ahead i false t2 t2_2 else j4 s below n point behind ahead i false t2 t2_2 else j5 below n point behind ahead t2 t2_2
def ref12_Parse_m4 (j6 : List UInt8 → Bool → Int → Bool → Int → Int → Int → Int → Int → Option (As [.pr (.int .i64) (.int .u8), .bool])) (j7 : List UInt8 → Bool → Int → Bool → Int → Int → Int → Bool → Int → Int → Option (As [.pr (.int .i64) (.int .u8), .bool])) (self3 : List UInt8 → Bool → Int → Bool → Int → Int → Int → Int → Int → Option (As [.pr (.int .i64) (.int .u8), .bool])) (s : List UInt8) (below : Bool) (n : Int) (point : Bool) (behind : Int) (ahead : Int) (i : Int) (t38 : Bool) (t2 : Int) (t2_2 : Int) : Option (As [.pr (.int .i64) (.int .u8), .bool]) :=
  if t38 = true then j6 s below n true behind ahead i t2 t2_2 else Option.bind (at? s i) fun (c : UInt8) => if lt (Int.ofNat (UInt8.toNat c)) 48 = true then j7 s below n point behind ahead i true t2 t2_2 else Option.bind (at? s i) fun (c : UInt8) => if gt (Int.ofNat (UInt8.toNat c)) 57 = true then j7 s below n point behind ahead i true t2 t2_2 else if eqi ahead 1 = true then Option.bind (at? s 0) fun (c : UInt8) => if eqi (Int.ofNat (UInt8.toNat c)) 48 = true then j7 s below n point behind ahead i (!point) t2 t2_2 else j7 s below n point behind ahead i false t2 t2_2 else j7 s below n point behind ahead i false t2 t2_2
def ref12_Parse_m5 (j8 : Bool → Int → Int → Bool → Int → Int → Option (As [.pr (.int .i64) (.int .u8), .bool])) (below : Bool) (n : Int) (point : Bool) (behind : Int) (ahead : Int) (t2 : Int) (t2_2 : Int) : Option (As [.pr (.int .i64) (.int .u8), .bool]) :=
  if eqi ahead 0 = true then j8 below n behind true t2 t2_2 else if point = true then if eqi behind 0 = true then j8 below n behind true t2 t2_2 else j8 below n behind (gt behind 6) t2 t2_2 else j8 below n behind (gt behind 6) t2 t2_2
def ref12_Parse_m6 (self3 : List UInt8 → Bool → Int → Bool → Int → Int → Int → Int → Int → Option (As [.pr (.int .i64) (.int .u8), .bool])) (s : List UInt8) (below : Bool) (n : Int) (point : Bool) (behind : Int) (ahead : Int) (i : Int) (t2 : Int) (t2_2 : Int) : Option (As [.pr (.int .i64) (.int .u8), .bool]) :=
  self3 s below n point behind ahead (add .i64 i 1) t2 t2_2
def ref12_Parse_m7 (j6 : List UInt8 → Bool → Int → Bool → Int → Int → Int → Int → Int → Option (As [.pr (.int .i64) (.int .u8), .bool])) (self3 : List UInt8 → Bool → Int → Bool → Int → Int → Int → Int → Int → Option (As [.pr (.int .i64) (.int .u8), .bool])) (s : List UInt8) (below : Bool) (n : Int) (point : Bool) (behind : Int) (ahead : Int) (i : Int) (t61 : Bool) (t2 : Int) (t2_2 : Int) : Option (As [.pr (.int .i64) (.int .u8), .bool]) :=
  if t61 = true then some ((0, 0), false, ()) else if gt n 100000000000000000 = true then some ((0, 0), false, ()) else Option.bind (at? s i) fun (c : UInt8) => if point = true then j6 s below (add .i64 (mul .i64 n 10) (cvt .i64 (Sx.sub .u8 (Int.ofNat (UInt8.toNat c)) 48))) point (add .i64 behind 1) ahead i t2 t2_2 else j6 s below (add .i64 (mul .i64 n 10) (cvt .i64 (Sx.sub .u8 (Int.ofNat (UInt8.toNat c)) 48))) point behind (add .i64 ahead 1) i t2 t2_2
def ref12_Parse_m8 (j9 : Int → Int → Int → Int → Option (As [.pr (.int .i64) (.int .u8), .bool])) (below : Bool) (n : Int) (behind : Int) (t91 : Bool) (t2 : Int) (t2_2 : Int) : Option (As [.pr (.int .i64) (.int .u8), .bool]) :=
  if t91 = true then some ((0, 0), false, ()) else if below = true then j9 (Sx.neg .i64 n) behind t2 t2_2 else j9 n behind t2 t2_2
def ref12_Parse_m9 (n : Int) (behind : Int) (t2 : Int) (t2_2 : Int) : Option (As [.pr (.int .i64) (.int .u8), .bool]) :=
  Option.bind (ref12_Of (n, behind, ())) fun (y : (Int × Int) × Bool × Unit) => some (y.1, y.2.1, ())
def ref12_Parse_m0 (j1 : List UInt8 → Bool → Int → Int → Option (As [.pr (.int .i64) (.int .u8), .bool])) (s : List UInt8) : Option (As [.pr (.int .i64) (.int .u8), .bool]) :=
  if gt (Int.ofNat (List.length s)) 0 = true then Option.bind (at? s 0) fun (c : UInt8) => j1 s (eqi (Int.ofNat (UInt8.toNat c)) 45) 0 0 else j1 s false 0 0
def ref12_Parse_K6 (u3 : List UInt8 → Bool → Int → Bool → Int → Int → Int → Int → Int → Option (As [.pr (.int .i64) (.int .u8), .bool])) (s : List UInt8) (below : Bool) (n : Int) (point : Bool) (behind : Int) (ahead : Int) (i : Int) (t2 : Int) (t2_2 : Int) : Option (As [.pr (.int .i64) (.int .u8), .bool]) := ref12_Parse_m6 u3 s below n point behind ahead i t2 t2_2
def ref12_Parse_K7 (u3 : List UInt8 → Bool → Int → Bool → Int → Int → Int → Int → Int → Option (As [.pr (.int .i64) (.int .u8), .bool])) (s : List UInt8) (below : Bool) (n : Int) (point : Bool) (behind : Int) (ahead : Int) (i : Int) (t61 : Bool) (t2 : Int) (t2_2 : Int) : Option (As [.pr (.int .i64) (.int .u8), .bool]) := ref12_Parse_m7 (ref12_Parse_K6 u3) u3 s below n point behind ahead i t61 t2 t2_2
def ref12_Parse_K4 (u3 : List UInt8 → Bool → Int → Bool → Int → Int → Int → Int → Int → Option (As [.pr (.int .i64) (.int .u8), .bool])) (s : List UInt8) (below : Bool) (n : Int) (point : Bool) (behind : Int) (ahead : Int) (i : Int) (t38 : Bool) (t2 : Int) (t2_2 : Int) : Option (As [.pr (.int .i64) (.int .u8), .bool]) := ref12_Parse_m4 (ref12_Parse_K6 u3) (ref12_Parse_K7 u3) u3 s below n point behind ahead i t38 t2 t2_2
def ref12_Parse_K9 (n : Int) (behind : Int) (t2 : Int) (t2_2 : Int) : Option (As [.pr (.int .i64) (.int .u8), .bool]) := ref12_Parse_m9 n behind t2 t2_2
def ref12_Parse_K8 (below : Bool) (n : Int) (behind : Int) (t91 : Bool) (t2 : Int) (t2_2 : Int) : Option (As [.pr (.int .i64) (.int .u8), .bool]) := ref12_Parse_m8 (ref12_Parse_K9) below n behind t91 t2 t2_2
def ref12_Parse_K5 (below : Bool) (n : Int) (point : Bool) (behind : Int) (ahead : Int) (t2 : Int) (t2_2 : Int) : Option (As [.pr (.int .i64) (.int .u8), .bool]) := ref12_Parse_m5 (ref12_Parse_K8) below n point behind ahead t2 t2_2
def ref12_Parse_K3 (s : List UInt8) (below : Bool) (n : Int) (point : Bool) (behind : Int) (ahead : Int) (i : Int) (t2 : Int) (t2_2 : Int) : Option (As [.pr (.int .i64) (.int .u8), .bool]) :=
  loopF (fun (self : (List UInt8) × (Bool) × (Int) × (Bool) × (Int) × (Int) × (Int) × (Int) × (Int) → Option (As [.pr (.int .i64) (.int .u8), .bool])) (s : (List UInt8) × (Bool) × (Int) × (Bool) × (Int) × (Int) × (Int) × (Int) × (Int)) => ref12_Parse_m3 (ref12_Parse_K4 (fun s below n point behind ahead i t2 t2_2 => self (s, below, n, point, behind, ahead, i, t2, t2_2))) (ref12_Parse_K5) (fun s below n point behind ahead i t2 t2_2 => self (s, below, n, point, behind, ahead, i, t2, t2_2)) s.1 s.2.1 s.2.2.1 s.2.2.2.1 s.2.2.2.2.1 s.2.2.2.2.2.1 s.2.2.2.2.2.2.1 s.2.2.2.2.2.2.2.1 s.2.2.2.2.2.2.2.2) 18446744073709551616 (s, below, n, point, behind, ahead, i, t2, t2_2)
def ref12_Parse_K2 (s : List UInt8) (below : Bool) (t2 : Int) (t2_2 : Int) : Option (As [.pr (.int .i64) (.int .u8), .bool]) := ref12_Parse_m2 (ref12_Parse_K3) s below t2 t2_2
def ref12_Parse_K1 (s : List UInt8) (below : Bool) (t2 : Int) (t2_2 : Int) : Option (As [.pr (.int .i64) (.int .u8), .bool]) := ref12_Parse_m1 (ref12_Parse_K2) s below t2 t2_2
def ref12_Parse (x : As [.str]) : Option (As [.pr (.int .i64) (.int .u8), .bool]) := ref12_Parse_m0 ref12_Parse_K1 x.1
theorem ref12_Parse_c6 (J : Orc (As [.pr (.int .i64) (.int .u8), .bool])) (w3 : St → Option (As [.pr (.int .i64) (.int .u8), .bool])) (s : List UInt8) (below : Bool) (n : Int) (point : Bool) (behind : Int) (ahead : Int) (i : Int) (t2 : Int) (t2_2 : Int) : pfn Tryd.prog ref12_Parse_e 6 18446744073709551616 (Ev.get ref12_Parse_h) 15 ref12_Parse_s J 1001 [w3] (ref12_Parse_k6 s below n point behind ahead i t2 t2_2) = ref12_Parse_m6 (fun s below n point behind ahead i t2 t2_2 => w3 (ref12_Parse_k3 s below n point behind ahead i t2 t2_2)) s below n point behind ahead i t2 t2_2 := by kernel_rfl
theorem ref12_Parse_c7 (J : Orc (As [.pr (.int .i64) (.int .u8), .bool])) (w3 : St → Option (As [.pr (.int .i64) (.int .u8), .bool])) (s : List UInt8) (below : Bool) (n : Int) (point : Bool) (behind : Int) (ahead : Int) (i : Int) (t61 : Bool) (t2 : Int) (t2_2 : Int) : pfn Tryd.prog ref12_Parse_e 6 18446744073709551616 (Ev.get ref12_Parse_h) 15 ref12_Parse_s J 16018 [w3] (ref12_Parse_k7 s below n point behind ahead i t61 t2 t2_2) = ref12_Parse_m7 (fun s below n point behind ahead i t2 t2_2 => J 1001 [w3] (ref12_Parse_k6 s below n point behind ahead i t2 t2_2)) (fun s below n point behind ahead i t2 t2_2 => w3 (ref12_Parse_k3 s below n point behind ahead i t2 t2_2)) s below n point behind ahead i t61 t2 t2_2 := by kernel_rfl
theorem ref12_Parse_c4 (J : Orc (As [.pr (.int .i64) (.int .u8), .bool])) (w3 : St → Option (As [.pr (.int .i64) (.int .u8), .bool])) (s : List UInt8) (below : Bool) (n : Int) (point : Bool) (behind : Int) (ahead : Int) (i : Int) (t38 : Bool) (t2 : Int) (t2_2 : Int) : pfn Tryd.prog ref12_Parse_e 6 18446744073709551616 (Ev.get ref12_Parse_h) 15 ref12_Parse_s J 8008 [w3] (ref12_Parse_k4 s below n point behind ahead i t38 t2 t2_2) = ref12_Parse_m4 (fun s below n point behind ahead i t2 t2_2 => J 1001 [w3] (ref12_Parse_k6 s below n point behind ahead i t2 t2_2)) (fun s below n point behind ahead i t61 t2 t2_2 => J 16018 [w3] (ref12_Parse_k7 s below n point behind ahead i t61 t2 t2_2)) (fun s below n point behind ahead i t2 t2_2 => w3 (ref12_Parse_k3 s below n point behind ahead i t2 t2_2)) s below n point behind ahead i t38 t2 t2_2 := by kernel_rfl
theorem ref12_Parse_c9 (J : Orc (As [.pr (.int .i64) (.int .u8), .bool])) (n : Int) (behind : Int) (t2 : Int) (t2_2 : Int) : pfn Tryd.prog ref12_Parse_e 6 18446744073709551616 (Ev.get ref12_Parse_h) 15 ref12_Parse_s J 127 [] (ref12_Parse_k9 n behind t2 t2_2) = ref12_Parse_m9 n behind t2 t2_2 := by kernel_rfl
theorem ref12_Parse_c8 (J : Orc (As [.pr (.int .i64) (.int .u8), .bool])) (below : Bool) (n : Int) (behind : Int) (t91 : Bool) (t2 : Int) (t2_2 : Int) : pfn Tryd.prog ref12_Parse_e 6 18446744073709551616 (Ev.get ref12_Parse_h) 15 ref12_Parse_s J 126 [] (ref12_Parse_k8 below n behind t91 t2 t2_2) = ref12_Parse_m8 (fun n behind t2 t2_2 => J 127 [] (ref12_Parse_k9 n behind t2 t2_2)) below n behind t91 t2 t2_2 := by kernel_rfl
theorem ref12_Parse_c5 (J : Orc (As [.pr (.int .i64) (.int .u8), .bool])) (below : Bool) (n : Int) (point : Bool) (behind : Int) (ahead : Int) (t2 : Int) (t2_2 : Int) : pfn Tryd.prog ref12_Parse_e 6 18446744073709551616 (Ev.get ref12_Parse_h) 15 ref12_Parse_s J 31 [] (ref12_Parse_k5 below n point behind ahead t2 t2_2) = ref12_Parse_m5 (fun below n behind t91 t2 t2_2 => J 126 [] (ref12_Parse_k8 below n behind t91 t2 t2_2)) below n point behind ahead t2 t2_2 := by kernel_rfl
theorem ref12_Parse_c3 (J : Orc (As [.pr (.int .i64) (.int .u8), .bool])) (w3 : St → Option (As [.pr (.int .i64) (.int .u8), .bool])) (s : List UInt8) (below : Bool) (n : Int) (point : Bool) (behind : Int) (ahead : Int) (i : Int) (t2 : Int) (t2_2 : Int) : pfn Tryd.prog ref12_Parse_e 6 18446744073709551616 (Ev.get ref12_Parse_h) 15 ref12_Parse_s J 250 [w3] (ref12_Parse_k3 s below n point behind ahead i t2 t2_2) = ref12_Parse_m3 (fun s below n point behind ahead i t38 t2 t2_2 => J 8008 [w3] (ref12_Parse_k4 s below n point behind ahead i t38 t2 t2_2)) (fun below n point behind ahead t2 t2_2 => J 31 [] (ref12_Parse_k5 below n point behind ahead t2 t2_2)) (fun s below n point behind ahead i t2 t2_2 => w3 (ref12_Parse_k3 s below n point behind ahead i t2 t2_2)) s below n point behind ahead i t2 t2_2 := by kernel_rfl
theorem ref12_Parse_c2 (J : Orc (As [.pr (.int .i64) (.int .u8), .bool])) (s : List UInt8) (below : Bool) (t2 : Int) (t2_2 : Int) : pfn Tryd.prog ref12_Parse_e 6 18446744073709551616 (Ev.get ref12_Parse_h) 15 ref12_Parse_s J 7 [] (ref12_Parse_k2 s below t2 t2_2) = ref12_Parse_m2 (fun s below n point behind ahead i t2 t2_2 => J 250 [] (ref12_Parse_k3 s below n point behind ahead i t2 t2_2)) s below t2 t2_2 := by kernel_rfl
theorem ref12_Parse_c1 (J : Orc (As [.pr (.int .i64) (.int .u8), .bool])) (s : List UInt8) (below : Bool) (t2 : Int) (t2_2 : Int) : pfn Tryd.prog ref12_Parse_e 6 18446744073709551616 (Ev.get ref12_Parse_h) 15 ref12_Parse_s J 3 [] (ref12_Parse_k1 s below t2 t2_2) = ref12_Parse_m1 (fun s below t2 t2_2 => J 7 [] (ref12_Parse_k2 s below t2 t2_2)) s below t2 t2_2 := by kernel_rfl
theorem ref12_Parse_c0 (J : Orc (As [.pr (.int .i64) (.int .u8), .bool])) (x : As [.str]) : rfn Tryd.prog ref12_Parse_e 6 18446744073709551616 (Ev.get ref12_Parse_h) 15 ref12_Parse_s J x = ref12_Parse_m0 (fun s below t2 t2_2 => J 3 [] (ref12_Parse_k1 s below t2 t2_2)) x.1 := by kernel_rfl
theorem ref12_Parse_g6 (w3 : St → Option (As [.pr (.int .i64) (.int .u8), .bool])) (s : List UInt8) (below : Bool) (n : Int) (point : Bool) (behind : Int) (ahead : Int) (i : Int) (t2 : Int) (t2_2 : Int) : jfn Tryd.prog ref12_Parse_e 6 18446744073709551616 (Ev.get ref12_Parse_h) 15 ref12_Parse_s 1001 [w3] (ref12_Parse_k6 s below n point behind ahead i t2 t2_2) = ref12_Parse_K6 (fun s below n point behind ahead i t2 t2_2 => w3 (ref12_Parse_k3 s below n point behind ahead i t2 t2_2)) s below n point behind ahead i t2 t2_2 := by
  rw [pfn_eq (by decide)]
  rw [ref12_Parse_c6]
  rfl
theorem ref12_Parse_g7 (w3 : St → Option (As [.pr (.int .i64) (.int .u8), .bool])) (s : List UInt8) (below : Bool) (n : Int) (point : Bool) (behind : Int) (ahead : Int) (i : Int) (t61 : Bool) (t2 : Int) (t2_2 : Int) : jfn Tryd.prog ref12_Parse_e 6 18446744073709551616 (Ev.get ref12_Parse_h) 15 ref12_Parse_s 16018 [w3] (ref12_Parse_k7 s below n point behind ahead i t61 t2 t2_2) = ref12_Parse_K7 (fun s below n point behind ahead i t2 t2_2 => w3 (ref12_Parse_k3 s below n point behind ahead i t2 t2_2)) s below n point behind ahead i t61 t2 t2_2 := by
  rw [pfn_eq (by decide)]
  have e6 : (fun s below n point behind ahead i t2 t2_2 => (jfn Tryd.prog ref12_Parse_e 6 18446744073709551616 (Ev.get ref12_Parse_h) 15 ref12_Parse_s) 1001 [w3] (ref12_Parse_k6 s below n point behind ahead i t2 t2_2)) = ref12_Parse_K6 (fun s below n point behind ahead i t2 t2_2 => w3 (ref12_Parse_k3 s below n point behind ahead i t2 t2_2)) := funext fun s => funext fun below => funext fun n => funext fun point => funext fun behind => funext fun ahead => funext fun i => funext fun t2 => funext fun t2_2 => ref12_Parse_g6 w3 s below n point behind ahead i t2 t2_2
  rw [ref12_Parse_c7, e6]
  rfl
theorem ref12_Parse_g4 (w3 : St → Option (As [.pr (.int .i64) (.int .u8), .bool])) (s : List UInt8) (below : Bool) (n : Int) (point : Bool) (behind : Int) (ahead : Int) (i : Int) (t38 : Bool) (t2 : Int) (t2_2 : Int) : jfn Tryd.prog ref12_Parse_e 6 18446744073709551616 (Ev.get ref12_Parse_h) 15 ref12_Parse_s 8008 [w3] (ref12_Parse_k4 s below n point behind ahead i t38 t2 t2_2) = ref12_Parse_K4 (fun s below n point behind ahead i t2 t2_2 => w3 (ref12_Parse_k3 s below n point behind ahead i t2 t2_2)) s below n point behind ahead i t38 t2 t2_2 := by
  rw [pfn_eq (by decide)]
  have e6 : (fun s below n point behind ahead i t2 t2_2 => (jfn Tryd.prog ref12_Parse_e 6 18446744073709551616 (Ev.get ref12_Parse_h) 15 ref12_Parse_s) 1001 [w3] (ref12_Parse_k6 s below n point behind ahead i t2 t2_2)) = ref12_Parse_K6 (fun s below n point behind ahead i t2 t2_2 => w3 (ref12_Parse_k3 s below n point behind ahead i t2 t2_2)) := funext fun s => funext fun below => funext fun n => funext fun point => funext fun behind => funext fun ahead => funext fun i => funext fun t2 => funext fun t2_2 => ref12_Parse_g6 w3 s below n point behind ahead i t2 t2_2
  have e7 : (fun s below n point behind ahead i t61 t2 t2_2 => (jfn Tryd.prog ref12_Parse_e 6 18446744073709551616 (Ev.get ref12_Parse_h) 15 ref12_Parse_s) 16018 [w3] (ref12_Parse_k7 s below n point behind ahead i t61 t2 t2_2)) = ref12_Parse_K7 (fun s below n point behind ahead i t2 t2_2 => w3 (ref12_Parse_k3 s below n point behind ahead i t2 t2_2)) := funext fun s => funext fun below => funext fun n => funext fun point => funext fun behind => funext fun ahead => funext fun i => funext fun t61 => funext fun t2 => funext fun t2_2 => ref12_Parse_g7 w3 s below n point behind ahead i t61 t2 t2_2
  rw [ref12_Parse_c4, e6, e7]
  rfl
theorem ref12_Parse_g9 (n : Int) (behind : Int) (t2 : Int) (t2_2 : Int) : jfn Tryd.prog ref12_Parse_e 6 18446744073709551616 (Ev.get ref12_Parse_h) 15 ref12_Parse_s 127 [] (ref12_Parse_k9 n behind t2 t2_2) = ref12_Parse_K9 n behind t2 t2_2 := by
  rw [pfn_eq (by decide)]
  rw [ref12_Parse_c9]
  rfl
theorem ref12_Parse_g8 (below : Bool) (n : Int) (behind : Int) (t91 : Bool) (t2 : Int) (t2_2 : Int) : jfn Tryd.prog ref12_Parse_e 6 18446744073709551616 (Ev.get ref12_Parse_h) 15 ref12_Parse_s 126 [] (ref12_Parse_k8 below n behind t91 t2 t2_2) = ref12_Parse_K8 below n behind t91 t2 t2_2 := by
  rw [pfn_eq (by decide)]
  have e9 : (fun n behind t2 t2_2 => (jfn Tryd.prog ref12_Parse_e 6 18446744073709551616 (Ev.get ref12_Parse_h) 15 ref12_Parse_s) 127 [] (ref12_Parse_k9 n behind t2 t2_2)) = ref12_Parse_K9 := funext fun n => funext fun behind => funext fun t2 => funext fun t2_2 => ref12_Parse_g9 n behind t2 t2_2
  rw [ref12_Parse_c8, e9]
  rfl
theorem ref12_Parse_g5 (below : Bool) (n : Int) (point : Bool) (behind : Int) (ahead : Int) (t2 : Int) (t2_2 : Int) : jfn Tryd.prog ref12_Parse_e 6 18446744073709551616 (Ev.get ref12_Parse_h) 15 ref12_Parse_s 31 [] (ref12_Parse_k5 below n point behind ahead t2 t2_2) = ref12_Parse_K5 below n point behind ahead t2 t2_2 := by
  rw [pfn_eq (by decide)]
  have e8 : (fun below n behind t91 t2 t2_2 => (jfn Tryd.prog ref12_Parse_e 6 18446744073709551616 (Ev.get ref12_Parse_h) 15 ref12_Parse_s) 126 [] (ref12_Parse_k8 below n behind t91 t2 t2_2)) = ref12_Parse_K8 := funext fun below => funext fun n => funext fun behind => funext fun t91 => funext fun t2 => funext fun t2_2 => ref12_Parse_g8 below n behind t91 t2 t2_2
  rw [ref12_Parse_c5, e8]
  rfl
theorem ref12_Parse_g3 (s : List UInt8) (below : Bool) (n : Int) (point : Bool) (behind : Int) (ahead : Int) (i : Int) (t2 : Int) (t2_2 : Int) : jfn Tryd.prog ref12_Parse_e 6 18446744073709551616 (Ev.get ref12_Parse_h) 15 ref12_Parse_s 250 [] (ref12_Parse_k3 s below n point behind ahead i t2 t2_2) = ref12_Parse_K3 s below n point behind ahead i t2 t2_2 := by
  rw [pfn_eq (by decide)]
  rw [pfn_loop (by kernel_rfl)]
  refine loopF_sim (σ := (List UInt8) × (Bool) × (Int) × (Bool) × (Int) × (Int) × (Int) × (Int) × (Int)) (mk := fun s => ref12_Parse_k3 s.1 s.2.1 s.2.2.1 s.2.2.2.1 s.2.2.2.2.1 s.2.2.2.2.2.1 s.2.2.2.2.2.2.1 s.2.2.2.2.2.2.2.1 s.2.2.2.2.2.2.2.2) (fun w3 s => ?_) 18446744073709551616 (s, below, n, point, behind, ahead, i, t2, t2_2)
  have e4 : (fun s below n point behind ahead i t38 t2 t2_2 => (jfn Tryd.prog ref12_Parse_e 6 18446744073709551616 (Ev.get ref12_Parse_h) 15 ref12_Parse_s) 8008 [w3] (ref12_Parse_k4 s below n point behind ahead i t38 t2 t2_2)) = ref12_Parse_K4 (fun s below n point behind ahead i t2 t2_2 => w3 (ref12_Parse_k3 s below n point behind ahead i t2 t2_2)) := funext fun s => funext fun below => funext fun n => funext fun point => funext fun behind => funext fun ahead => funext fun i => funext fun t38 => funext fun t2 => funext fun t2_2 => ref12_Parse_g4 w3 s below n point behind ahead i t38 t2 t2_2
  have e5 : (fun below n point behind ahead t2 t2_2 => (jfn Tryd.prog ref12_Parse_e 6 18446744073709551616 (Ev.get ref12_Parse_h) 15 ref12_Parse_s) 31 [] (ref12_Parse_k5 below n point behind ahead t2 t2_2)) = ref12_Parse_K5 := funext fun below => funext fun n => funext fun point => funext fun behind => funext fun ahead => funext fun t2 => funext fun t2_2 => ref12_Parse_g5 below n point behind ahead t2 t2_2
  refine (ref12_Parse_c3 _ w3 s.1 s.2.1 s.2.2.1 s.2.2.2.1 s.2.2.2.2.1 s.2.2.2.2.2.1 s.2.2.2.2.2.2.1 s.2.2.2.2.2.2.2.1 s.2.2.2.2.2.2.2.2).trans ?_
  rw [e4, e5]
theorem ref12_Parse_g2 (s : List UInt8) (below : Bool) (t2 : Int) (t2_2 : Int) : jfn Tryd.prog ref12_Parse_e 6 18446744073709551616 (Ev.get ref12_Parse_h) 15 ref12_Parse_s 7 [] (ref12_Parse_k2 s below t2 t2_2) = ref12_Parse_K2 s below t2 t2_2 := by
  rw [pfn_eq (by decide)]
  have e3 : (fun s below n point behind ahead i t2 t2_2 => (jfn Tryd.prog ref12_Parse_e 6 18446744073709551616 (Ev.get ref12_Parse_h) 15 ref12_Parse_s) 250 [] (ref12_Parse_k3 s below n point behind ahead i t2 t2_2)) = ref12_Parse_K3 := funext fun s => funext fun below => funext fun n => funext fun point => funext fun behind => funext fun ahead => funext fun i => funext fun t2 => funext fun t2_2 => ref12_Parse_g3 s below n point behind ahead i t2 t2_2
  rw [ref12_Parse_c2, e3]
  rfl
theorem ref12_Parse_g1 (s : List UInt8) (below : Bool) (t2 : Int) (t2_2 : Int) : jfn Tryd.prog ref12_Parse_e 6 18446744073709551616 (Ev.get ref12_Parse_h) 15 ref12_Parse_s 3 [] (ref12_Parse_k1 s below t2 t2_2) = ref12_Parse_K1 s below t2 t2_2 := by
  rw [pfn_eq (by decide)]
  have e2 : (fun s below t2 t2_2 => (jfn Tryd.prog ref12_Parse_e 6 18446744073709551616 (Ev.get ref12_Parse_h) 15 ref12_Parse_s) 7 [] (ref12_Parse_k2 s below t2 t2_2)) = ref12_Parse_K2 := funext fun s => funext fun below => funext fun t2 => funext fun t2_2 => ref12_Parse_g2 s below t2 t2_2
  rw [ref12_Parse_c1, e2]
  rfl
theorem ref12_Parse_t (x : As [.str]) : evT Tryd.prog ref12_Parse_e 6 18446744073709551616 (Ev.get ref12_Parse_h) 15 ref12_Parse_s x = ref12_Parse x := by
  have e1 : (fun s below t2 t2_2 => (jfn Tryd.prog ref12_Parse_e 6 18446744073709551616 (Ev.get ref12_Parse_h) 15 ref12_Parse_s) 3 [] (ref12_Parse_k1 s below t2 t2_2)) = ref12_Parse_K1 := funext fun s => funext fun below => funext fun t2 => funext fun t2_2 => ref12_Parse_g1 s below t2 t2_2
  rw [rfn_eq, ref12_Parse_c0, e1]
  rfl
theorem ref12_Parse_ok : CtOk Tryd.prog I0 15 ⟨ref12_Parse_s, ref12_Parse⟩ := ct_of_ev (env_cons ref12_Of_ok env_nil) ref12_Parse_t
/-! ref12_Right -/
@[reducible] def ref12_Right_s : Sh := ⟨[.d LBT1], [], [.pr (.int .i64) (.int .u8)], [.d (.bool)], [], 0, [.bool]⟩
def ref12_Right_e : Env := (cts [])
def ref12_Right_h : List (Nat × Hint) := []
def ref12_Right_m0 (d : Int × Int) : Option (As [.bool]) :=
  if ge d.1 (-1000000000000) = true then if le d.1 1000000000000 = true then if le d.2 6 = true then if eqi d.2 0 = true then some (true, ()) else some (nei (rem d.1 10) 0, ()) else some (false, ()) else some (false, ()) else some (false, ())
def ref12_Right (x : As [.pr (.int .i64) (.int .u8)]) : Option (As [.bool]) := ref12_Right_m0 x.1
theorem ref12_Right_c0 (J : Orc (As [.bool])) (x : As [.pr (.int .i64) (.int .u8)]) : rfn Tryd.prog ref12_Right_e 6 18446744073709551616 (Ev.get ref12_Right_h) 17 ref12_Right_s J x = ref12_Right_m0 x.1 := by kernel_rfl
theorem ref12_Right_t (x : As [.pr (.int .i64) (.int .u8)]) : evT Tryd.prog ref12_Right_e 6 18446744073709551616 (Ev.get ref12_Right_h) 17 ref12_Right_s x = ref12_Right x := by
  rw [rfn_eq, ref12_Right_c0]
  rfl
theorem ref12_Right_ok : CtOk Tryd.prog I0 17 ⟨ref12_Right_s, ref12_Right⟩ := ct_of_ev env_nil ref12_Right_t
/-! ref12_Show -/
@[reducible] def ref12_Show_s : Sh := ⟨[.d LBT1], [], [.pr (.int .i64) (.int .u8)], [.d (.str)], [], 0, [.str]⟩
def ref12_Show_e : Env := (cts [(52, (⟨ref12_Digits_s, ref12_Digits⟩ : Ct))])
def ref12_Show_h : List (Nat × Hint) := [(7, ⟨[], [1, 3, 4]⟩), (63, ⟨[], [1, 4, 5]⟩), (252, ⟨[], [1, 4, 5]⟩)]
def ref12_Show_k1 (n : Int) (sign : List UInt8) (d : Int × Int) : St := { fr := [(1, .pb 0 0), (3, .d (.int .i64) n), (4, .d .str sign)], nt := 48, up := [], own := [(0, .box 40 [.d (.int .i64) d.1, .d (.int .u8) d.2])], nx := 1, log := [], ln := 0 }
def ref12_Show_k2 (sign : List UInt8) (s : List UInt8) (d : Int × Int) : St := { fr := [(1, .pb 0 0), (4, .d .str sign), (5, .d .str s)], nt := 48, up := [], own := [(0, .box 40 [.d (.int .i64) d.1, .d (.int .u8) d.2])], nx := 1, log := [], ln := 0 }
def ref12_Show_k3 (sign : List UInt8) (s : List UInt8) (d : Int × Int) : St := { fr := [(1, .pb 0 0), (4, .d .str sign), (5, .d .str s)], nt := 48, up := [], own := [(0, .box 40 [.d (.int .i64) d.1, .d (.int .u8) d.2])], nx := 1, log := [], ln := 0 }
def ref12_Show_m1 (j2 : List UInt8 → List UInt8 → Int × Int → Option (As [.str])) (n : Int) (sign : List UInt8) (d : Int × Int) : Option (As [.str]) :=
  Option.bind (ref12_Digits (n, ())) fun (y : List UInt8 × Unit) => if eqi d.2 0 = true then need (small (List.length sign + List.length y.1)) (some (sign ++ y.1, ())) else j2 sign y.1 d
def ref12_Show_m2 (j3 : List UInt8 → List UInt8 → Int × Int → Option (As [.str])) (self2 : List UInt8 → List UInt8 → Int × Int → Option (As [.str])) (sign : List UInt8) (s : List UInt8) (d : Int × Int) : Option (As [.str]) :=
  if le (Int.ofNat (List.length s)) (cvt .i64 d.2) = true then need (small (1 + List.length s)) (self2 sign (48 :: s) d) else j3 sign s d
def ref12_Show_m3 (sign : List UInt8) (s : List UInt8) (d : Int × Int) : Option (As [.str]) :=
  Option.bind (cut s 0 (Sx.sub .i64 (Int.ofNat (List.length s)) (cvt .i64 d.2))) fun (y : List UInt8) => need (small (List.length sign + List.length y)) (need (small (List.length (sign ++ y) + 1)) (Option.bind (cut s (Sx.sub .i64 (Int.ofNat (List.length s)) (cvt .i64 d.2)) (Int.ofNat (List.length s))) fun (y_1 : List UInt8) => need (small (List.length (sign ++ y ++ [46]) + List.length y_1)) (some (sign ++ y ++ [46] ++ y_1, ()))))
def ref12_Show_m0 (j1 : Int → List UInt8 → Int × Int → Option (As [.str])) (d : Int × Int) : Option (As [.str]) :=
  if lt d.1 0 = true then j1 (Sx.neg .i64 d.1) [45] d else j1 d.1 [] d
def ref12_Show_K3 (sign : List UInt8) (s : List UInt8) (d : Int × Int) : Option (As [.str]) := ref12_Show_m3 sign s d
def ref12_Show_K2 (sign : List UInt8) (s : List UInt8) (d : Int × Int) : Option (As [.str]) :=
  loopF (fun (self : (List UInt8) × (List UInt8) × (Int × Int) → Option (As [.str])) (s : (List UInt8) × (List UInt8) × (Int × Int)) => ref12_Show_m2 (ref12_Show_K3) (fun sign s d => self (sign, s, d)) s.1 s.2.1 s.2.2) 18446744073709551616 (sign, s, d)
def ref12_Show_K1 (n : Int) (sign : List UInt8) (d : Int × Int) : Option (As [.str]) := ref12_Show_m1 (ref12_Show_K2) n sign d
def ref12_Show (x : As [.pr (.int .i64) (.int .u8)]) : Option (As [.str]) := ref12_Show_m0 ref12_Show_K1 x.1
theorem ref12_Show_c3 (J : Orc (As [.str])) (sign : List UInt8) (s : List UInt8) (d : Int × Int) : pfn Tryd.prog ref12_Show_e 6 18446744073709551616 (Ev.get ref12_Show_h) 19 ref12_Show_s J 63 [] (ref12_Show_k3 sign s d) = ref12_Show_m3 sign s d := by kernel_rfl
theorem ref12_Show_c2 (J : Orc (As [.str])) (w2 : St → Option (As [.str])) (sign : List UInt8) (s : List UInt8) (d : Int × Int) : pfn Tryd.prog ref12_Show_e 6 18446744073709551616 (Ev.get ref12_Show_h) 19 ref12_Show_s J 252 [w2] (ref12_Show_k2 sign s d) = ref12_Show_m2 (fun sign s d => J 63 [] (ref12_Show_k3 sign s d)) (fun sign s d => w2 (ref12_Show_k2 sign s d)) sign s d := by kernel_rfl
theorem ref12_Show_c1 (J : Orc (As [.str])) (n : Int) (sign : List UInt8) (d : Int × Int) : pfn Tryd.prog ref12_Show_e 6 18446744073709551616 (Ev.get ref12_Show_h) 19 ref12_Show_s J 7 [] (ref12_Show_k1 n sign d) = ref12_Show_m1 (fun sign s d => J 252 [] (ref12_Show_k2 sign s d)) n sign d := by kernel_rfl
theorem ref12_Show_c0 (J : Orc (As [.str])) (x : As [.pr (.int .i64) (.int .u8)]) : rfn Tryd.prog ref12_Show_e 6 18446744073709551616 (Ev.get ref12_Show_h) 19 ref12_Show_s J x = ref12_Show_m0 (fun n sign d => J 7 [] (ref12_Show_k1 n sign d)) x.1 := by kernel_rfl
theorem ref12_Show_g3 (sign : List UInt8) (s : List UInt8) (d : Int × Int) : jfn Tryd.prog ref12_Show_e 6 18446744073709551616 (Ev.get ref12_Show_h) 19 ref12_Show_s 63 [] (ref12_Show_k3 sign s d) = ref12_Show_K3 sign s d := by
  rw [pfn_eq (by decide)]
  rw [ref12_Show_c3]
  rfl
theorem ref12_Show_g2 (sign : List UInt8) (s : List UInt8) (d : Int × Int) : jfn Tryd.prog ref12_Show_e 6 18446744073709551616 (Ev.get ref12_Show_h) 19 ref12_Show_s 252 [] (ref12_Show_k2 sign s d) = ref12_Show_K2 sign s d := by
  rw [pfn_eq (by decide)]
  rw [pfn_loop (by kernel_rfl)]
  refine loopF_sim (σ := (List UInt8) × (List UInt8) × (Int × Int)) (mk := fun s => ref12_Show_k2 s.1 s.2.1 s.2.2) (fun w2 s => ?_) 18446744073709551616 (sign, s, d)
  have e3 : (fun sign s d => (jfn Tryd.prog ref12_Show_e 6 18446744073709551616 (Ev.get ref12_Show_h) 19 ref12_Show_s) 63 [] (ref12_Show_k3 sign s d)) = ref12_Show_K3 := funext fun sign => funext fun s => funext fun d => ref12_Show_g3 sign s d
  refine (ref12_Show_c2 _ w2 s.1 s.2.1 s.2.2).trans ?_
  rw [e3]
theorem ref12_Show_g1 (n : Int) (sign : List UInt8) (d : Int × Int) : jfn Tryd.prog ref12_Show_e 6 18446744073709551616 (Ev.get ref12_Show_h) 19 ref12_Show_s 7 [] (ref12_Show_k1 n sign d) = ref12_Show_K1 n sign d := by
  rw [pfn_eq (by decide)]
  have e2 : (fun sign s d => (jfn Tryd.prog ref12_Show_e 6 18446744073709551616 (Ev.get ref12_Show_h) 19 ref12_Show_s) 252 [] (ref12_Show_k2 sign s d)) = ref12_Show_K2 := funext fun sign => funext fun s => funext fun d => ref12_Show_g2 sign s d
  rw [ref12_Show_c1, e2]
  rfl
theorem ref12_Show_t (x : As [.pr (.int .i64) (.int .u8)]) : evT Tryd.prog ref12_Show_e 6 18446744073709551616 (Ev.get ref12_Show_h) 19 ref12_Show_s x = ref12_Show x := by
  have e1 : (fun n sign d => (jfn Tryd.prog ref12_Show_e 6 18446744073709551616 (Ev.get ref12_Show_h) 19 ref12_Show_s) 7 [] (ref12_Show_k1 n sign d)) = ref12_Show_K1 := funext fun n => funext fun sign => funext fun d => ref12_Show_g1 n sign d
  rw [rfn_eq, ref12_Show_c0, e1]
  rfl
theorem ref12_Show_ok : CtOk Tryd.prog I0 19 ⟨ref12_Show_s, ref12_Show⟩ := ct_of_ev (env_cons ref12_Digits_ok env_nil) ref12_Show_t
/-! units_Cmp -/
@[reducible] def units_Cmp_s : Sh := ⟨[.d LBT1, .d LBT1], [], [.pr (.int .i64) (.int .u8), .pr (.int .i64) (.int .u8)], [.d (.int .i64)], [], 0, [.int .i64]⟩
def units_Cmp_e : Env := (cts [(16, (⟨units_Right_s, units_Right⟩ : Ct)), (50, (⟨units_power_s, units_power⟩ : Ct))])
def units_Cmp_h : List (Nat × Hint) := [(6, ⟨[], [2, 3, 14]⟩)]
def units_Cmp_k1 (t14 : Bool) (a : Int × Int) (b : Int × Int) : St := { fr := [(2, .pb 0 0), (3, .pb 1 0), (14, .d .bool t14)], nt := 39, up := [], own := [(0, .box 40 [.d (.int .i64) a.1, .d (.int .u8) a.2]), (1, .box 40 [.d (.int .i64) b.1, .d (.int .u8) b.2])], nx := 2, log := [], ln := 0 }
def units_Cmp_m1 (t14 : Bool) (a : Int × Int) (b : Int × Int) : Option (As [.int .i64]) :=
  if t14 = true then some (0, ()) else Option.bind (units_power (Sx.sub .i64 6 (cvt .i64 a.2), ())) fun (y : Int × Unit) => Option.bind (units_power (Sx.sub .i64 6 (cvt .i64 b.2), ())) fun (y_1 : Int × Unit) => if lt (mul .i64 a.1 y.1) (mul .i64 b.1 y_1.1) = true then some (-1, ()) else if gt (mul .i64 a.1 y.1) (mul .i64 b.1 y_1.1) = true then some (1, ()) else some (0, ())
def units_Cmp_m0 (j1 : Bool → Int × Int → Int × Int → Option (As [.int .i64])) (a : Int × Int) (b : Int × Int) : Option (As [.int .i64]) :=
  Option.bind (units_Right (a, ())) fun (y : Bool × Unit) => if (!y.1) = true then j1 true a b else Option.bind (units_Right (b, ())) fun (y : Bool × Unit) => j1 (!y.1) a b
def units_Cmp_K1 (t14 : Bool) (a : Int × Int) (b : Int × Int) : Option (As [.int .i64]) := units_Cmp_m1 t14 a b
def units_Cmp (x : As [.pr (.int .i64) (.int .u8), .pr (.int .i64) (.int .u8)]) : Option (As [.int .i64]) := units_Cmp_m0 units_Cmp_K1 x.1 x.2.1
theorem units_Cmp_c1 (J : Orc (As [.int .i64])) (t14 : Bool) (a : Int × Int) (b : Int × Int) : pfn Tryd.prog units_Cmp_e 6 18446744073709551616 (Ev.get units_Cmp_h) 20 units_Cmp_s J 6 [] (units_Cmp_k1 t14 a b) = units_Cmp_m1 t14 a b := by kernel_rfl
theorem units_Cmp_c0 (J : Orc (As [.int .i64])) (x : As [.pr (.int .i64) (.int .u8), .pr (.int .i64) (.int .u8)]) : rfn Tryd.prog units_Cmp_e 6 18446744073709551616 (Ev.get units_Cmp_h) 20 units_Cmp_s J x = units_Cmp_m0 (fun t14 a b => J 6 [] (units_Cmp_k1 t14 a b)) x.1 x.2.1 := by kernel_rfl
theorem units_Cmp_g1 (t14 : Bool) (a : Int × Int) (b : Int × Int) : jfn Tryd.prog units_Cmp_e 6 18446744073709551616 (Ev.get units_Cmp_h) 20 units_Cmp_s 6 [] (units_Cmp_k1 t14 a b) = units_Cmp_K1 t14 a b := by
  rw [pfn_eq (by decide)]
  rw [units_Cmp_c1]
  rfl
theorem units_Cmp_t (x : As [.pr (.int .i64) (.int .u8), .pr (.int .i64) (.int .u8)]) : evT Tryd.prog units_Cmp_e 6 18446744073709551616 (Ev.get units_Cmp_h) 20 units_Cmp_s x = units_Cmp x := by
  have e1 : (fun t14 a b => (jfn Tryd.prog units_Cmp_e 6 18446744073709551616 (Ev.get units_Cmp_h) 20 units_Cmp_s) 6 [] (units_Cmp_k1 t14 a b)) = units_Cmp_K1 := funext fun t14 => funext fun a => funext fun b => units_Cmp_g1 t14 a b
  rw [rfn_eq, units_Cmp_c0, e1]
  rfl
theorem units_Cmp_ok : CtOk Tryd.prog I0 20 ⟨units_Cmp_s, units_Cmp⟩ := ct_of_ev (env_cons units_Right_ok (env_cons units_power_ok env_nil)) units_Cmp_t
/-! ref12_millionth -/
@[reducible] def ref12_millionth_s : Sh := ⟨[.d LBT1], [], [.pr (.int .i64) (.int .u8)], [.d (.int .i64)], [], 0, [.int .i64]⟩
def ref12_millionth_e : Env := (cts [])
def ref12_millionth_h : List (Nat × Hint) := [(58, ⟨[], [3, 4]⟩)]
def ref12_millionth_k1 (n : Int) (i : Int) : St := { fr := [(3, .d (.int .i64) n), (4, .d (.int .i64) i)], nt := 17, up := [], own := [], nx := 0, log := [], ln := 0 }
def ref12_millionth_m1 (self1 : Int → Int → Option (As [.int .i64])) (n : Int) (i : Int) : Option (As [.int .i64]) :=
  if lt i 6 = true then self1 (mul .i64 n 10) (add .i64 i 1) else some (n, ())
def ref12_millionth_m0 (j1 : Int → Int → Option (As [.int .i64])) (d : Int × Int) : Option (As [.int .i64]) :=
  j1 d.1 (cvt .i64 d.2)
def ref12_millionth_K1 (n : Int) (i : Int) : Option (As [.int .i64]) :=
  loopF (fun (self : (Int) × (Int) → Option (As [.int .i64])) (s : (Int) × (Int)) => ref12_millionth_m1 (fun n i => self (n, i)) s.1 s.2) 18446744073709551616 (n, i)
def ref12_millionth (x : As [.pr (.int .i64) (.int .u8)]) : Option (As [.int .i64]) := ref12_millionth_m0 ref12_millionth_K1 x.1
theorem ref12_millionth_c1 (J : Orc (As [.int .i64])) (w1 : St → Option (As [.int .i64])) (n : Int) (i : Int) : pfn Tryd.prog ref12_millionth_e 6 18446744073709551616 (Ev.get ref12_millionth_h) 53 ref12_millionth_s J 58 [w1] (ref12_millionth_k1 n i) = ref12_millionth_m1 (fun n i => w1 (ref12_millionth_k1 n i)) n i := by kernel_rfl
theorem ref12_millionth_c0 (J : Orc (As [.int .i64])) (x : As [.pr (.int .i64) (.int .u8)]) : rfn Tryd.prog ref12_millionth_e 6 18446744073709551616 (Ev.get ref12_millionth_h) 53 ref12_millionth_s J x = ref12_millionth_m0 (fun n i => J 58 [] (ref12_millionth_k1 n i)) x.1 := by kernel_rfl
theorem ref12_millionth_g1 (n : Int) (i : Int) : jfn Tryd.prog ref12_millionth_e 6 18446744073709551616 (Ev.get ref12_millionth_h) 53 ref12_millionth_s 58 [] (ref12_millionth_k1 n i) = ref12_millionth_K1 n i := by
  rw [pfn_eq (by decide)]
  rw [pfn_loop (by kernel_rfl)]
  refine loopF_sim (σ := (Int) × (Int)) (mk := fun s => ref12_millionth_k1 s.1 s.2) (fun w1 s => ?_) 18446744073709551616 (n, i)
  refine (ref12_millionth_c1 _ w1 s.1 s.2).trans ?_
  rfl
theorem ref12_millionth_t (x : As [.pr (.int .i64) (.int .u8)]) : evT Tryd.prog ref12_millionth_e 6 18446744073709551616 (Ev.get ref12_millionth_h) 53 ref12_millionth_s x = ref12_millionth x := by
  have e1 : (fun n i => (jfn Tryd.prog ref12_millionth_e 6 18446744073709551616 (Ev.get ref12_millionth_h) 53 ref12_millionth_s) 58 [] (ref12_millionth_k1 n i)) = ref12_millionth_K1 := funext fun n => funext fun i => ref12_millionth_g1 n i
  rw [rfn_eq, ref12_millionth_c0, e1]
  rfl
theorem ref12_millionth_ok : CtOk Tryd.prog I0 53 ⟨ref12_millionth_s, ref12_millionth⟩ := ct_of_ev env_nil ref12_millionth_t
/-! ref12_Cmp -/
@[reducible] def ref12_Cmp_s : Sh := ⟨[.d LBT1, .d LBT1], [], [.pr (.int .i64) (.int .u8), .pr (.int .i64) (.int .u8)], [.d (.int .i64)], [], 0, [.int .i64]⟩
def ref12_Cmp_e : Env := (cts [(53, (⟨ref12_millionth_s, ref12_millionth⟩ : Ct))])
def ref12_Cmp_h : List (Nat × Hint) := []
def ref12_Cmp_m0 (a : Int × Int) (b : Int × Int) : Option (As [.int .i64]) :=
  Option.bind (ref12_millionth (a, ())) fun (y : Int × Unit) => Option.bind (ref12_millionth (b, ())) fun (y_1 : Int × Unit) => if lt y.1 y_1.1 = true then some (-1, ()) else if gt y.1 y_1.1 = true then some (1, ()) else some (0, ())
def ref12_Cmp (x : As [.pr (.int .i64) (.int .u8), .pr (.int .i64) (.int .u8)]) : Option (As [.int .i64]) := ref12_Cmp_m0 x.1 x.2.1
theorem ref12_Cmp_c0 (J : Orc (As [.int .i64])) (x : As [.pr (.int .i64) (.int .u8), .pr (.int .i64) (.int .u8)]) : rfn Tryd.prog ref12_Cmp_e 6 18446744073709551616 (Ev.get ref12_Cmp_h) 21 ref12_Cmp_s J x = ref12_Cmp_m0 x.1 x.2.1 := by kernel_rfl
theorem ref12_Cmp_t (x : As [.pr (.int .i64) (.int .u8), .pr (.int .i64) (.int .u8)]) : evT Tryd.prog ref12_Cmp_e 6 18446744073709551616 (Ev.get ref12_Cmp_h) 21 ref12_Cmp_s x = ref12_Cmp x := by
  rw [rfn_eq, ref12_Cmp_c0]
  rfl
theorem ref12_Cmp_ok : CtOk Tryd.prog I0 21 ⟨ref12_Cmp_s, ref12_Cmp⟩ := ct_of_ev (env_cons ref12_millionth_ok env_nil) ref12_Cmp_t
/-! ref12_common -/
@[reducible] def ref12_common_s : Sh := ⟨[.d (.int .i64), .d (.int .i64)], [], [.int .i64, .int .i64], [.d (.int .i64)], [], 0, [.int .i64]⟩
def ref12_common_e : Env := (cts [])
def ref12_common_h : List (Nat × Hint) := [(12, ⟨[], [0, 1]⟩)]
def ref12_common_k1 (a : Int) (b : Int) : St := { fr := [(0, .d (.int .i64) a), (1, .d (.int .i64) b)], nt := 12, up := [], own := [], nx := 0, log := [], ln := 0 }
def ref12_common_m1 (self1 : Int → Int → Option (As [.int .i64])) (a : Int) (b : Int) : Option (As [.int .i64]) :=
  if nei b 0 = true then need (nei b 0) (self1 b (rem a b)) else some (a, ())
def ref12_common_m0 (j1 : Int → Int → Option (As [.int .i64])) (a : Int) (b : Int) : Option (As [.int .i64]) :=
  j1 a b
def ref12_common_K1 (a : Int) (b : Int) : Option (As [.int .i64]) :=
  loopF (fun (self : (Int) × (Int) → Option (As [.int .i64])) (s : (Int) × (Int)) => ref12_common_m1 (fun a b => self (a, b)) s.1 s.2) 18446744073709551616 (a, b)
def ref12_common (x : As [.int .i64, .int .i64]) : Option (As [.int .i64]) := ref12_common_m0 ref12_common_K1 x.1 x.2.1
theorem ref12_common_c1 (J : Orc (As [.int .i64])) (w1 : St → Option (As [.int .i64])) (a : Int) (b : Int) : pfn Tryd.prog ref12_common_e 6 18446744073709551616 (Ev.get ref12_common_h) 56 ref12_common_s J 12 [w1] (ref12_common_k1 a b) = ref12_common_m1 (fun a b => w1 (ref12_common_k1 a b)) a b := by kernel_rfl
theorem ref12_common_c0 (J : Orc (As [.int .i64])) (x : As [.int .i64, .int .i64]) : rfn Tryd.prog ref12_common_e 6 18446744073709551616 (Ev.get ref12_common_h) 56 ref12_common_s J x = ref12_common_m0 (fun a b => J 12 [] (ref12_common_k1 a b)) x.1 x.2.1 := by kernel_rfl
theorem ref12_common_g1 (a : Int) (b : Int) : jfn Tryd.prog ref12_common_e 6 18446744073709551616 (Ev.get ref12_common_h) 56 ref12_common_s 12 [] (ref12_common_k1 a b) = ref12_common_K1 a b := by
  rw [pfn_eq (by decide)]
  rw [pfn_loop (by kernel_rfl)]
  refine loopF_sim (σ := (Int) × (Int)) (mk := fun s => ref12_common_k1 s.1 s.2) (fun w1 s => ?_) 18446744073709551616 (a, b)
  refine (ref12_common_c1 _ w1 s.1 s.2).trans ?_
  rfl
theorem ref12_common_t (x : As [.int .i64, .int .i64]) : evT Tryd.prog ref12_common_e 6 18446744073709551616 (Ev.get ref12_common_h) 56 ref12_common_s x = ref12_common x := by
  have e1 : (fun a b => (jfn Tryd.prog ref12_common_e 6 18446744073709551616 (Ev.get ref12_common_h) 56 ref12_common_s) 12 [] (ref12_common_k1 a b)) = ref12_common_K1 := funext fun a => funext fun b => ref12_common_g1 a b
  rw [rfn_eq, ref12_common_c0, e1]
  rfl
theorem ref12_common_ok : CtOk Tryd.prog I0 56 ⟨ref12_common_s, ref12_common⟩ := ct_of_ev env_nil ref12_common_t
/-! ref12_Times -/
@[reducible] def ref12_Times_s : Sh := ⟨[.d LBT1, .d (.int .i64), .d (.int .i64)], [], [.pr (.int .i64) (.int .u8), .int .i64, .int .i64], [.d LBT1, .d (.bool)], [], 0, [.pr (.int .i64) (.int .u8), .bool]⟩
def ref12_Times_e : Env := (cts [(17, (⟨ref12_Right_s, ref12_Right⟩ : Ct)), (49, (⟨ref12_Of_s, ref12_Of⟩ : Ct)), (56, (⟨ref12_common_s, ref12_common⟩ : Ct))])
def ref12_Times_h : List (Nat × Hint) := [(15, ⟨[], [1, 2, 3, 6, 8, 9]⟩), (2047, ⟨[], [1, 2, 6, 8, 9, 11]⟩), (131071, ⟨[], [6]⟩), (1048570, ⟨[], [1, 6, 8, 9, 13, 14]⟩), (16378, ⟨[], [1, 2, 3, 6, 8, 9, 11, 12]⟩), (6, ⟨[], [1, 2, 3, 6, 33]⟩)]
def ref12_Times_k1 (num : Int) (den : Int) (t33 : Bool) (d : Int) (d_2 : Int) (t6 : Int) (t6_2 : Int) : St := { fr := [(1, .d (.int .i64) num), (2, .d (.int .i64) den), (3, .pb 0 0), (6, .pb 1 0), (33, .d .bool t33)], nt := 128, up := [], own := [(0, .box 40 [.d (.int .i64) d, .d (.int .u8) d_2]), (1, .box 40 [.d (.int .i64) t6, .d (.int .u8) t6_2])], nx := 2, log := [], ln := 0 }
def ref12_Times_k2 (num : Int) (den : Int) (n : Int) (sign : Int) (d : Int) (d_2 : Int) (t6 : Int) (t6_2 : Int) : St := { fr := [(1, .d (.int .i64) num), (2, .d (.int .i64) den), (3, .pb 0 0), (6, .pb 1 0), (8, .d (.int .i64) n), (9, .d (.int .i64) sign)], nt := 128, up := [], own := [(0, .box 40 [.d (.int .i64) d, .d (.int .u8) d_2]), (1, .box 40 [.d (.int .i64) t6, .d (.int .u8) t6_2])], nx := 2, log := [], ln := 0 }
def ref12_Times_k3 (num : Int) (den : Int) (n : Int) (sign : Int) (ten : Int) (i : Int) (d : Int) (d_2 : Int) (t6 : Int) (t6_2 : Int) : St := { fr := [(1, .d (.int .i64) num), (2, .d (.int .i64) den), (3, .pb 0 0), (6, .pb 1 0), (8, .d (.int .i64) n), (9, .d (.int .i64) sign), (11, .d (.int .i64) ten), (12, .d (.int .i64) i)], nt := 128, up := [], own := [(0, .box 40 [.d (.int .i64) d, .d (.int .u8) d_2]), (1, .box 40 [.d (.int .i64) t6, .d (.int .u8) t6_2])], nx := 2, log := [], ln := 0 }
def ref12_Times_k4 (num : Int) (den : Int) (n : Int) (sign : Int) (ten : Int) (t6 : Int) (t6_2 : Int) : St := { fr := [(1, .d (.int .i64) num), (2, .d (.int .i64) den), (6, .pb 0 0), (8, .d (.int .i64) n), (9, .d (.int .i64) sign), (11, .d (.int .i64) ten)], nt := 128, up := [], own := [(0, .box 40 [.d (.int .i64) t6, .d (.int .u8) t6_2])], nx := 1, log := [], ln := 0 }
def ref12_Times_k5 (num : Int) (n : Int) (sign : Int) (below : Int) (k : Int) (t6 : Int) (t6_2 : Int) : St := { fr := [(1, .d (.int .i64) num), (6, .pb 0 0), (8, .d (.int .i64) n), (9, .d (.int .i64) sign), (13, .d (.int .i64) below), (14, .d (.int .i64) k)], nt := 128, up := [], own := [(0, .box 40 [.d (.int .i64) t6, .d (.int .u8) t6_2])], nx := 1, log := [], ln := 0 }
def ref12_Times_k6 (t6 : Int) (t6_2 : Int) : St := { fr := [(6, .pb 0 0)], nt := 128, up := [], own := [(0, .box 40 [.d (.int .i64) t6, .d (.int .u8) t6_2])], nx := 1, log := [], ln := 0 }
def ref12_Times_m1 (j2 : Int → Int → Int → Int → Int → Int → Int → Int → Option (As [.pr (.int .i64) (.int .u8), .bool])) (num : Int) (den : Int) (t33 : Bool) (d : Int) (d_2 : Int) (t6 : Int) (t6_2 : Int) : Option (As [.pr (.int .i64) (.int .u8), .bool]) :=
  if t33 = true then some ((0, 0), false, ()) else if lt d 0 = true then j2 num den (Sx.neg .i64 d) (-1) d d_2 t6 t6_2 else j2 num den d 1 d d_2 t6 t6_2
def ref12_Times_m2 (j3 : Int → Int → Int → Int → Int → Int → Int → Int → Int → Int → Option (As [.pr (.int .i64) (.int .u8), .bool])) (num : Int) (den : Int) (n : Int) (sign : Int) (d : Int) (d_2 : Int) (t6 : Int) (t6_2 : Int) : Option (As [.pr (.int .i64) (.int .u8), .bool]) :=
  if eqi n 0 = true then some ((0, 0), true, ()) else Option.bind (ref12_common (n, den, ())) fun (y : Int × Unit) => need (nei y.1 0) (need (nei y.1 0) (Option.bind (ref12_common (num, quo .i64 den y.1, ())) fun (y_1 : Int × Unit) => need (nei y_1.1 0) (need (nei y_1.1 0) (j3 (quo .i64 num y_1.1) (quo .i64 (quo .i64 den y.1) y_1.1) (quo .i64 n y.1) sign 1 0 d d_2 t6 t6_2))))
def ref12_Times_m3 (j4 : Int → Int → Int → Int → Int → Int → Int → Option (As [.pr (.int .i64) (.int .u8), .bool])) (self3 : Int → Int → Int → Int → Int → Int → Int → Int → Int → Int → Option (As [.pr (.int .i64) (.int .u8), .bool])) (num : Int) (den : Int) (n : Int) (sign : Int) (ten : Int) (i : Int) (d : Int) (d_2 : Int) (t6 : Int) (t6_2 : Int) : Option (As [.pr (.int .i64) (.int .u8), .bool]) :=
  if lt i (cvt .i64 d_2) = true then self3 num den n sign (mul .i64 ten 10) (add .i64 i 1) d d_2 t6 t6_2 else j4 num den n sign ten t6 t6_2
def ref12_Times_m4 (j5 : Int → Int → Int → Int → Int → Int → Int → Option (As [.pr (.int .i64) (.int .u8), .bool])) (num : Int) (den : Int) (n : Int) (sign : Int) (ten : Int) (t6 : Int) (t6_2 : Int) : Option (As [.pr (.int .i64) (.int .u8), .bool]) :=
  Option.bind (ref12_common (num, ten, ())) fun (y : Int × Unit) => need (nei y.1 0) (need (nei y.1 0) (Option.bind (ref12_common (n, quo .i64 ten y.1, ())) fun (y_1 : Int × Unit) => need (nei y_1.1 0) (need (nei y_1.1 0) (j5 (quo .i64 num y.1) (quo .i64 n y_1.1) sign (mul .i64 den (quo .i64 (quo .i64 ten y.1) y_1.1)) 0 t6 t6_2))))
def ref12_Times_m5 (j6 : Int → Int → Option (As [.pr (.int .i64) (.int .u8), .bool])) (self5 : Int → Int → Int → Int → Int → Int → Int → Option (As [.pr (.int .i64) (.int .u8), .bool])) (num : Int) (n : Int) (sign : Int) (below : Int) (k : Int) (t6 : Int) (t6_2 : Int) : Option (As [.pr (.int .i64) (.int .u8), .bool]) :=
  if le k 6 = true then if eqi below 1 = true then need (nei num 0) (if gt n (quo .i64 4000000000000000000 num) = true then some ((0, 0), false, ()) else Option.bind (ref12_Of (mul .i64 (mul .i64 sign n) num, k, ())) fun (y : (Int × Int) × Bool × Unit) => some (y.1, y.2.1, ())) else Option.bind (ref12_common (below, 10, ())) fun (y : Int × Unit) => need (nei y.1 0) (need (nei y.1 0) (need (nei (quo .i64 10 y.1) 0) (if gt n (quo .i64 4000000000000000000 (quo .i64 10 y.1)) = true then some ((0, 0), false, ()) else need (nei y.1 0) (self5 num (mul .i64 n (quo .i64 10 y.1)) sign (quo .i64 below y.1) (add .i64 k 1) t6 t6_2)))) else j6 t6 t6_2
def ref12_Times_m6 (t6 : Int) (t6_2 : Int) : Option (As [.pr (.int .i64) (.int .u8), .bool]) :=
  some ((0, 0), false, ())
def ref12_Times_m0 (j1 : Int → Int → Bool → Int → Int → Int → Int → Option (As [.pr (.int .i64) (.int .u8), .bool])) (d : Int × Int) (num : Int) (den : Int) : Option (As [.pr (.int .i64) (.int .u8), .bool]) :=
  Option.bind (ref12_Right (d, ())) fun (y : Bool × Unit) => if (!y.1) = true then j1 num den true d.1 d.2 0 0 else if lt num 1 = true then j1 num den true d.1 d.2 0 0 else if gt num 1000000000 = true then j1 num den true d.1 d.2 0 0 else if lt den 1 = true then j1 num den true d.1 d.2 0 0 else j1 num den (gt den 1000000000) d.1 d.2 0 0
def ref12_Times_K6 (t6 : Int) (t6_2 : Int) : Option (As [.pr (.int .i64) (.int .u8), .bool]) := ref12_Times_m6 t6 t6_2
def ref12_Times_K5 (num : Int) (n : Int) (sign : Int) (below : Int) (k : Int) (t6 : Int) (t6_2 : Int) : Option (As [.pr (.int .i64) (.int .u8), .bool]) :=
  loopF (fun (self : (Int) × (Int) × (Int) × (Int) × (Int) × (Int) × (Int) → Option (As [.pr (.int .i64) (.int .u8), .bool])) (s : (Int) × (Int) × (Int) × (Int) × (Int) × (Int) × (Int)) => ref12_Times_m5 (ref12_Times_K6) (fun num n sign below k t6 t6_2 => self (num, n, sign, below, k, t6, t6_2)) s.1 s.2.1 s.2.2.1 s.2.2.2.1 s.2.2.2.2.1 s.2.2.2.2.2.1 s.2.2.2.2.2.2) 18446744073709551616 (num, n, sign, below, k, t6, t6_2)
def ref12_Times_K4 (num : Int) (den : Int) (n : Int) (sign : Int) (ten : Int) (t6 : Int) (t6_2 : Int) : Option (As [.pr (.int .i64) (.int .u8), .bool]) := ref12_Times_m4 (ref12_Times_K5) num den n sign ten t6 t6_2
def ref12_Times_K3 (num : Int) (den : Int) (n : Int) (sign : Int) (ten : Int) (i : Int) (d : Int) (d_2 : Int) (t6 : Int) (t6_2 : Int) : Option (As [.pr (.int .i64) (.int .u8), .bool]) :=
  loopF (fun (self : (Int) × (Int) × (Int) × (Int) × (Int) × (Int) × (Int) × (Int) × (Int) × (Int) → Option (As [.pr (.int .i64) (.int .u8), .bool])) (s : (Int) × (Int) × (Int) × (Int) × (Int) × (Int) × (Int) × (Int) × (Int) × (Int)) => ref12_Times_m3 (ref12_Times_K4) (fun num den n sign ten i d d_2 t6 t6_2 => self (num, den, n, sign, ten, i, d, d_2, t6, t6_2)) s.1 s.2.1 s.2.2.1 s.2.2.2.1 s.2.2.2.2.1 s.2.2.2.2.2.1 s.2.2.2.2.2.2.1 s.2.2.2.2.2.2.2.1 s.2.2.2.2.2.2.2.2.1 s.2.2.2.2.2.2.2.2.2) 18446744073709551616 (num, den, n, sign, ten, i, d, d_2, t6, t6_2)
def ref12_Times_K2 (num : Int) (den : Int) (n : Int) (sign : Int) (d : Int) (d_2 : Int) (t6 : Int) (t6_2 : Int) : Option (As [.pr (.int .i64) (.int .u8), .bool]) := ref12_Times_m2 (ref12_Times_K3) num den n sign d d_2 t6 t6_2
def ref12_Times_K1 (num : Int) (den : Int) (t33 : Bool) (d : Int) (d_2 : Int) (t6 : Int) (t6_2 : Int) : Option (As [.pr (.int .i64) (.int .u8), .bool]) := ref12_Times_m1 (ref12_Times_K2) num den t33 d d_2 t6 t6_2
def ref12_Times (x : As [.pr (.int .i64) (.int .u8), .int .i64, .int .i64]) : Option (As [.pr (.int .i64) (.int .u8), .bool]) := ref12_Times_m0 ref12_Times_K1 x.1 x.2.1 x.2.2.1
theorem ref12_Times_c6 (J : Orc (As [.pr (.int .i64) (.int .u8), .bool])) (t6 : Int) (t6_2 : Int) : pfn Tryd.prog ref12_Times_e 6 18446744073709551616 (Ev.get ref12_Times_h) 23 ref12_Times_s J 131071 [] (ref12_Times_k6 t6 t6_2) = ref12_Times_m6 t6 t6_2 := by kernel_rfl
theorem ref12_Times_c5 (J : Orc (As [.pr (.int .i64) (.int .u8), .bool])) (w5 : St → Option (As [.pr (.int .i64) (.int .u8), .bool])) (num : Int) (n : Int) (sign : Int) (below : Int) (k : Int) (t6 : Int) (t6_2 : Int) : pfn Tryd.prog ref12_Times_e 6 18446744073709551616 (Ev.get ref12_Times_h) 23 ref12_Times_s J 1048570 [w5] (ref12_Times_k5 num n sign below k t6 t6_2) = ref12_Times_m5 (fun t6 t6_2 => J 131071 [] (ref12_Times_k6 t6 t6_2)) (fun num n sign below k t6 t6_2 => w5 (ref12_Times_k5 num n sign below k t6 t6_2)) num n sign below k t6 t6_2 := by kernel_rfl
theorem ref12_Times_c4 (J : Orc (As [.pr (.int .i64) (.int .u8), .bool])) (num : Int) (den : Int) (n : Int) (sign : Int) (ten : Int) (t6 : Int) (t6_2 : Int) : pfn Tryd.prog ref12_Times_e 6 18446744073709551616 (Ev.get ref12_Times_h) 23 ref12_Times_s J 2047 [] (ref12_Times_k4 num den n sign ten t6 t6_2) = ref12_Times_m4 (fun num n sign below k t6 t6_2 => J 1048570 [] (ref12_Times_k5 num n sign below k t6 t6_2)) num den n sign ten t6 t6_2 := by kernel_rfl
theorem ref12_Times_c3 (J : Orc (As [.pr (.int .i64) (.int .u8), .bool])) (w3 : St → Option (As [.pr (.int .i64) (.int .u8), .bool])) (num : Int) (den : Int) (n : Int) (sign : Int) (ten : Int) (i : Int) (d : Int) (d_2 : Int) (t6 : Int) (t6_2 : Int) : pfn Tryd.prog ref12_Times_e 6 18446744073709551616 (Ev.get ref12_Times_h) 23 ref12_Times_s J 16378 [w3] (ref12_Times_k3 num den n sign ten i d d_2 t6 t6_2) = ref12_Times_m3 (fun num den n sign ten t6 t6_2 => J 2047 [] (ref12_Times_k4 num den n sign ten t6 t6_2)) (fun num den n sign ten i d d_2 t6 t6_2 => w3 (ref12_Times_k3 num den n sign ten i d d_2 t6 t6_2)) num den n sign ten i d d_2 t6 t6_2 := by kernel_rfl
theorem ref12_Times_c2 (J : Orc (As [.pr (.int .i64) (.int .u8), .bool])) (num : Int) (den : Int) (n : Int) (sign : Int) (d : Int) (d_2 : Int) (t6 : Int) (t6_2 : Int) : pfn Tryd.prog ref12_Times_e 6 18446744073709551616 (Ev.get ref12_Times_h) 23 ref12_Times_s J 15 [] (ref12_Times_k2 num den n sign d d_2 t6 t6_2) = ref12_Times_m2 (fun num den n sign ten i d d_2 t6 t6_2 => J 16378 [] (ref12_Times_k3 num den n sign ten i d d_2 t6 t6_2)) num den n sign d d_2 t6 t6_2 := by kernel_rfl
theorem ref12_Times_c1 (J : Orc (As [.pr (.int .i64) (.int .u8), .bool])) (num : Int) (den : Int) (t33 : Bool) (d : Int) (d_2 : Int) (t6 : Int) (t6_2 : Int) : pfn Tryd.prog ref12_Times_e 6 18446744073709551616 (Ev.get ref12_Times_h) 23 ref12_Times_s J 6 [] (ref12_Times_k1 num den t33 d d_2 t6 t6_2) = ref12_Times_m1 (fun num den n sign d d_2 t6 t6_2 => J 15 [] (ref12_Times_k2 num den n sign d d_2 t6 t6_2)) num den t33 d d_2 t6 t6_2 := by kernel_rfl
theorem ref12_Times_c0 (J : Orc (As [.pr (.int .i64) (.int .u8), .bool])) (x : As [.pr (.int .i64) (.int .u8), .int .i64, .int .i64]) : rfn Tryd.prog ref12_Times_e 6 18446744073709551616 (Ev.get ref12_Times_h) 23 ref12_Times_s J x = ref12_Times_m0 (fun num den t33 d d_2 t6 t6_2 => J 6 [] (ref12_Times_k1 num den t33 d d_2 t6 t6_2)) x.1 x.2.1 x.2.2.1 := by kernel_rfl
theorem ref12_Times_g6 (t6 : Int) (t6_2 : Int) : jfn Tryd.prog ref12_Times_e 6 18446744073709551616 (Ev.get ref12_Times_h) 23 ref12_Times_s 131071 [] (ref12_Times_k6 t6 t6_2) = ref12_Times_K6 t6 t6_2 := by
  rw [pfn_eq (by decide)]
  rw [ref12_Times_c6]
  rfl
theorem ref12_Times_g5 (num : Int) (n : Int) (sign : Int) (below : Int) (k : Int) (t6 : Int) (t6_2 : Int) : jfn Tryd.prog ref12_Times_e 6 18446744073709551616 (Ev.get ref12_Times_h) 23 ref12_Times_s 1048570 [] (ref12_Times_k5 num n sign below k t6 t6_2) = ref12_Times_K5 num n sign below k t6 t6_2 := by
  rw [pfn_eq (by decide)]
  rw [pfn_loop (by kernel_rfl)]
  refine loopF_sim (σ := (Int) × (Int) × (Int) × (Int) × (Int) × (Int) × (Int)) (mk := fun s => ref12_Times_k5 s.1 s.2.1 s.2.2.1 s.2.2.2.1 s.2.2.2.2.1 s.2.2.2.2.2.1 s.2.2.2.2.2.2) (fun w5 s => ?_) 18446744073709551616 (num, n, sign, below, k, t6, t6_2)
  have e6 : (fun t6 t6_2 => (jfn Tryd.prog ref12_Times_e 6 18446744073709551616 (Ev.get ref12_Times_h) 23 ref12_Times_s) 131071 [] (ref12_Times_k6 t6 t6_2)) = ref12_Times_K6 := funext fun t6 => funext fun t6_2 => ref12_Times_g6 t6 t6_2
  refine (ref12_Times_c5 _ w5 s.1 s.2.1 s.2.2.1 s.2.2.2.1 s.2.2.2.2.1 s.2.2.2.2.2.1 s.2.2.2.2.2.2).trans ?_
  rw [e6]
theorem ref12_Times_g4 (num : Int) (den : Int) (n : Int) (sign : Int) (ten : Int) (t6 : Int) (t6_2 : Int) : jfn Tryd.prog ref12_Times_e 6 18446744073709551616 (Ev.get ref12_Times_h) 23 ref12_Times_s 2047 [] (ref12_Times_k4 num den n sign ten t6 t6_2) = ref12_Times_K4 num den n sign ten t6 t6_2 := by
  rw [pfn_eq (by decide)]
  have e5 : (fun num n sign below k t6 t6_2 => (jfn Tryd.prog ref12_Times_e 6 18446744073709551616 (Ev.get ref12_Times_h) 23 ref12_Times_s) 1048570 [] (ref12_Times_k5 num n sign below k t6 t6_2)) = ref12_Times_K5 := funext fun num => funext fun n => funext fun sign => funext fun below => funext fun k => funext fun t6 => funext fun t6_2 => ref12_Times_g5 num n sign below k t6 t6_2
  rw [ref12_Times_c4, e5]
  rfl
theorem ref12_Times_g3 (num : Int) (den : Int) (n : Int) (sign : Int) (ten : Int) (i : Int) (d : Int) (d_2 : Int) (t6 : Int) (t6_2 : Int) : jfn Tryd.prog ref12_Times_e 6 18446744073709551616 (Ev.get ref12_Times_h) 23 ref12_Times_s 16378 [] (ref12_Times_k3 num den n sign ten i d d_2 t6 t6_2) = ref12_Times_K3 num den n sign ten i d d_2 t6 t6_2 := by
  rw [pfn_eq (by decide)]
  rw [pfn_loop (by kernel_rfl)]
  refine loopF_sim (σ := (Int) × (Int) × (Int) × (Int) × (Int) × (Int) × (Int) × (Int) × (Int) × (Int)) (mk := fun s => ref12_Times_k3 s.1 s.2.1 s.2.2.1 s.2.2.2.1 s.2.2.2.2.1 s.2.2.2.2.2.1 s.2.2.2.2.2.2.1 s.2.2.2.2.2.2.2.1 s.2.2.2.2.2.2.2.2.1 s.2.2.2.2.2.2.2.2.2) (fun w3 s => ?_) 18446744073709551616 (num, den, n, sign, ten, i, d, d_2, t6, t6_2)
  have e4 : (fun num den n sign ten t6 t6_2 => (jfn Tryd.prog ref12_Times_e 6 18446744073709551616 (Ev.get ref12_Times_h) 23 ref12_Times_s) 2047 [] (ref12_Times_k4 num den n sign ten t6 t6_2)) = ref12_Times_K4 := funext fun num => funext fun den => funext fun n => funext fun sign => funext fun ten => funext fun t6 => funext fun t6_2 => ref12_Times_g4 num den n sign ten t6 t6_2
  refine (ref12_Times_c3 _ w3 s.1 s.2.1 s.2.2.1 s.2.2.2.1 s.2.2.2.2.1 s.2.2.2.2.2.1 s.2.2.2.2.2.2.1 s.2.2.2.2.2.2.2.1 s.2.2.2.2.2.2.2.2.1 s.2.2.2.2.2.2.2.2.2).trans ?_
  rw [e4]
theorem ref12_Times_g2 (num : Int) (den : Int) (n : Int) (sign : Int) (d : Int) (d_2 : Int) (t6 : Int) (t6_2 : Int) : jfn Tryd.prog ref12_Times_e 6 18446744073709551616 (Ev.get ref12_Times_h) 23 ref12_Times_s 15 [] (ref12_Times_k2 num den n sign d d_2 t6 t6_2) = ref12_Times_K2 num den n sign d d_2 t6 t6_2 := by
  rw [pfn_eq (by decide)]
  have e3 : (fun num den n sign ten i d d_2 t6 t6_2 => (jfn Tryd.prog ref12_Times_e 6 18446744073709551616 (Ev.get ref12_Times_h) 23 ref12_Times_s) 16378 [] (ref12_Times_k3 num den n sign ten i d d_2 t6 t6_2)) = ref12_Times_K3 := funext fun num => funext fun den => funext fun n => funext fun sign => funext fun ten => funext fun i => funext fun d => funext fun d_2 => funext fun t6 => funext fun t6_2 => ref12_Times_g3 num den n sign ten i d d_2 t6 t6_2
  rw [ref12_Times_c2, e3]
  rfl
theorem ref12_Times_g1 (num : Int) (den : Int) (t33 : Bool) (d : Int) (d_2 : Int) (t6 : Int) (t6_2 : Int) : jfn Tryd.prog ref12_Times_e 6 18446744073709551616 (Ev.get ref12_Times_h) 23 ref12_Times_s 6 [] (ref12_Times_k1 num den t33 d d_2 t6 t6_2) = ref12_Times_K1 num den t33 d d_2 t6 t6_2 := by
  rw [pfn_eq (by decide)]
  have e2 : (fun num den n sign d d_2 t6 t6_2 => (jfn Tryd.prog ref12_Times_e 6 18446744073709551616 (Ev.get ref12_Times_h) 23 ref12_Times_s) 15 [] (ref12_Times_k2 num den n sign d d_2 t6 t6_2)) = ref12_Times_K2 := funext fun num => funext fun den => funext fun n => funext fun sign => funext fun d => funext fun d_2 => funext fun t6 => funext fun t6_2 => ref12_Times_g2 num den n sign d d_2 t6 t6_2
  rw [ref12_Times_c1, e2]
  rfl
theorem ref12_Times_t (x : As [.pr (.int .i64) (.int .u8), .int .i64, .int .i64]) : evT Tryd.prog ref12_Times_e 6 18446744073709551616 (Ev.get ref12_Times_h) 23 ref12_Times_s x = ref12_Times x := by
  have e1 : (fun num den t33 d d_2 t6 t6_2 => (jfn Tryd.prog ref12_Times_e 6 18446744073709551616 (Ev.get ref12_Times_h) 23 ref12_Times_s) 6 [] (ref12_Times_k1 num den t33 d d_2 t6 t6_2)) = ref12_Times_K1 := funext fun num => funext fun den => funext fun t33 => funext fun d => funext fun d_2 => funext fun t6 => funext fun t6_2 => ref12_Times_g1 num den t33 d d_2 t6 t6_2
  rw [rfn_eq, ref12_Times_c0, e1]
  rfl
theorem ref12_Times_ok : CtOk Tryd.prog I0 23 ⟨ref12_Times_s, ref12_Times⟩ := ct_of_ev (env_cons ref12_Right_ok (env_cons ref12_Of_ok (env_cons ref12_common_ok env_nil))) ref12_Times_t
/-! units_Known -/
@[reducible] def units_Known_s : Sh := ⟨[.d (.str)], [], [.str], [.d (.pr .str LBT0), .d (.bool)], [], 0, [.pr .str LBT0, .bool]⟩
def units_Known_e : Env := (cts [])
def units_Known_h : List (Nat × Hint) := []
def units_Known_m0 (name : List UInt8) : Option (As [.pr .str LBT0, .bool]) :=
  some (Ev.gdV (.pr .str LBT0) (if eqs [] name = true then some ([], 1, 1) else if eqs [37] name = true then some ([], 1, 1) else if eqs [109] name = true then some ([109], 1, 1) else if eqs [99, 109] name = true then some ([109], 1, 100) else if eqs [109, 109] name = true then some ([109], 1, 1000) else if eqs [115] name = true then some ([115], 1, 1) else if eqs [109, 115] name = true then some ([115], 1, 1000) else if eqs [109, 105, 110] name = true then some ([115], 60, 1) else if eqs [104] name = true then some ([115], 3600, 1) else if eqs [98, 97, 114] name = true then some ([98, 97, 114], 1, 1) else if eqs [109, 98, 97, 114] name = true then some ([98, 97, 114], 1, 1000) else if eqs [107, 80, 97] name = true then some ([98, 97, 114], 1, 100) else if eqs [107, 103] name = true then some ([107, 103], 1, 1) else if eqs [103] name = true then some ([107, 103], 1, 1000) else if eqs [116] name = true then some ([107, 103], 1000, 1) else if eqs [108] name = true then some ([108], 1, 1) else if eqs [109, 108] name = true then some ([108], 1, 1000) else if eqs [67] name = true then some ([67], 1, 1) else Option.none) ([], 0, 0), Ev.isV (.pr .str LBT0) (if eqs [] name = true then some ([], 1, 1) else if eqs [37] name = true then some ([], 1, 1) else if eqs [109] name = true then some ([109], 1, 1) else if eqs [99, 109] name = true then some ([109], 1, 100) else if eqs [109, 109] name = true then some ([109], 1, 1000) else if eqs [115] name = true then some ([115], 1, 1) else if eqs [109, 115] name = true then some ([115], 1, 1000) else if eqs [109, 105, 110] name = true then some ([115], 60, 1) else if eqs [104] name = true then some ([115], 3600, 1) else if eqs [98, 97, 114] name = true then some ([98, 97, 114], 1, 1) else if eqs [109, 98, 97, 114] name = true then some ([98, 97, 114], 1, 1000) else if eqs [107, 80, 97] name = true then some ([98, 97, 114], 1, 100) else if eqs [107, 103] name = true then some ([107, 103], 1, 1) else if eqs [103] name = true then some ([107, 103], 1, 1000) else if eqs [116] name = true then some ([107, 103], 1000, 1) else if eqs [108] name = true then some ([108], 1, 1) else if eqs [109, 108] name = true then some ([108], 1, 1000) else if eqs [67] name = true then some ([67], 1, 1) else Option.none), ())
def units_Known (x : As [.str]) : Option (As [.pr .str LBT0, .bool]) := units_Known_m0 x.1
theorem units_Known_c0 (J : Orc (As [.pr .str LBT0, .bool])) (x : As [.str]) : rfn Tryd.prog units_Known_e 6 18446744073709551616 (Ev.get units_Known_h) 24 units_Known_s J x = units_Known_m0 x.1 := by kernel_rfl
theorem units_Known_t (x : As [.str]) : evT Tryd.prog units_Known_e 6 18446744073709551616 (Ev.get units_Known_h) 24 units_Known_s x = units_Known x := by
  rw [rfn_eq, units_Known_c0]
  rfl
theorem units_Known_ok : CtOk Tryd.prog I0 24 ⟨units_Known_s, units_Known⟩ := ct_of_ev env_nil units_Known_t
/-! ref12_Known -/
@[reducible] def ref12_Known_s : Sh := ⟨[.d (.str)], [], [.str], [.d (.pr .str LBT0), .d (.bool)], [], 0, [.pr .str LBT0, .bool]⟩
def ref12_Known_e : Env := (cts [])
def ref12_Known_h : List (Nat × Hint) := [(26, ⟨[], [0, 2, 4, 5]⟩), (107, ⟨[], [0, 2, 4, 9]⟩)]
def ref12_Known_k1 (name : List UInt8) (t4 : List UInt8) (t5 : Bool) (t2 : List UInt8 × Int × Int) : St := { fr := [(0, .d .str name), (2, .pb 0 0), (4, .d .str t4), (5, .d .bool t5)], nt := 49, up := [], own := [(0, .box 49 [.d .str t2.1, .d (.int .i64) t2.2.1, .d (.int .i64) t2.2.2])], nx := 1, log := [], ln := 0 }
def ref12_Known_k2 (name : List UInt8) (t4 : List UInt8) (t9 : Bool) (t2 : List UInt8 × Int × Int) : St := { fr := [(0, .d .str name), (2, .pb 0 0), (4, .d .str t4), (9, .d .bool t9)], nt := 49, up := [], own := [(0, .box 49 [.d .str t2.1, .d (.int .i64) t2.2.1, .d (.int .i64) t2.2.2])], nx := 1, log := [], ln := 0 }
def ref12_Known_m1 (j2 : List UInt8 → List UInt8 → Bool → List UInt8 × Int × Int → Option (As [.pr .str LBT0, .bool])) (name : List UInt8) (t4 : List UInt8) (t5 : Bool) (t2 : List UInt8 × Int × Int) : Option (As [.pr .str LBT0, .bool]) :=
  if t5 = true then some (([], 1, 1), true, ()) else if eqs t4 [109] = true then j2 name t4 true t2 else if eqs t4 [115] = true then j2 name t4 true t2 else if eqs t4 [98, 97, 114] = true then j2 name t4 true t2 else if eqs t4 [107, 103] = true then j2 name t4 true t2 else if eqs t4 [108] = true then j2 name t4 true t2 else j2 name t4 (eqs t4 [67]) t2
def ref12_Known_m2 (name : List UInt8) (t4 : List UInt8) (t9 : Bool) (t2 : List UInt8 × Int × Int) : Option (As [.pr .str LBT0, .bool]) :=
  if t9 = true then some ((name, 1, 1), true, ()) else if eqs t4 [99, 109] = true then some (([109], 1, 100), true, ()) else if eqs t4 [109, 109] = true then some (([109], 1, 1000), true, ()) else if eqs t4 [109, 115] = true then some (([115], 1, 1000), true, ()) else if eqs t4 [109, 105, 110] = true then some (([115], 60, 1), true, ()) else if eqs t4 [104] = true then some (([115], 3600, 1), true, ()) else if eqs t4 [109, 98, 97, 114] = true then some (([98, 97, 114], 1, 1000), true, ()) else if eqs t4 [107, 80, 97] = true then some (([98, 97, 114], 1, 100), true, ()) else if eqs t4 [103] = true then some (([107, 103], 1, 1000), true, ()) else if eqs t4 [116] = true then some (([107, 103], 1000, 1), true, ()) else if eqs t4 [109, 108] = true then some (([108], 1, 1000), true, ()) else some (([], 0, 0), false, ())
def ref12_Known_m0 (j1 : List UInt8 → List UInt8 → Bool → List UInt8 × Int × Int → Option (As [.pr .str LBT0, .bool])) (name : List UInt8) : Option (As [.pr .str LBT0, .bool]) :=
  if eqs name [] = true then j1 name name true ([], 0, 0) else j1 name name (eqs name [37]) ([], 0, 0)
def ref12_Known_K2 (name : List UInt8) (t4 : List UInt8) (t9 : Bool) (t2 : List UInt8 × Int × Int) : Option (As [.pr .str LBT0, .bool]) := ref12_Known_m2 name t4 t9 t2
def ref12_Known_K1 (name : List UInt8) (t4 : List UInt8) (t5 : Bool) (t2 : List UInt8 × Int × Int) : Option (As [.pr .str LBT0, .bool]) := ref12_Known_m1 (ref12_Known_K2) name t4 t5 t2
def ref12_Known (x : As [.str]) : Option (As [.pr .str LBT0, .bool]) := ref12_Known_m0 ref12_Known_K1 x.1
theorem ref12_Known_c2 (J : Orc (As [.pr .str LBT0, .bool])) (name : List UInt8) (t4 : List UInt8) (t9 : Bool) (t2 : List UInt8 × Int × Int) : pfn Tryd.prog ref12_Known_e 6 18446744073709551616 (Ev.get ref12_Known_h) 25 ref12_Known_s J 107 [] (ref12_Known_k2 name t4 t9 t2) = ref12_Known_m2 name t4 t9 t2 := by kernel_rfl
theorem ref12_Known_c1 (J : Orc (As [.pr .str LBT0, .bool])) (name : List UInt8) (t4 : List UInt8) (t5 : Bool) (t2 : List UInt8 × Int × Int) : pfn Tryd.prog ref12_Known_e 6 18446744073709551616 (Ev.get ref12_Known_h) 25 ref12_Known_s J 26 [] (ref12_Known_k1 name t4 t5 t2) = ref12_Known_m1 (fun name t4 t9 t2 => J 107 [] (ref12_Known_k2 name t4 t9 t2)) name t4 t5 t2 := by kernel_rfl
theorem ref12_Known_c0 (J : Orc (As [.pr .str LBT0, .bool])) (x : As [.str]) : rfn Tryd.prog ref12_Known_e 6 18446744073709551616 (Ev.get ref12_Known_h) 25 ref12_Known_s J x = ref12_Known_m0 (fun name t4 t5 t2 => J 26 [] (ref12_Known_k1 name t4 t5 t2)) x.1 := by kernel_rfl
theorem ref12_Known_g2 (name : List UInt8) (t4 : List UInt8) (t9 : Bool) (t2 : List UInt8 × Int × Int) : jfn Tryd.prog ref12_Known_e 6 18446744073709551616 (Ev.get ref12_Known_h) 25 ref12_Known_s 107 [] (ref12_Known_k2 name t4 t9 t2) = ref12_Known_K2 name t4 t9 t2 := by
  rw [pfn_eq (by decide)]
  rw [ref12_Known_c2]
  rfl
theorem ref12_Known_g1 (name : List UInt8) (t4 : List UInt8) (t5 : Bool) (t2 : List UInt8 × Int × Int) : jfn Tryd.prog ref12_Known_e 6 18446744073709551616 (Ev.get ref12_Known_h) 25 ref12_Known_s 26 [] (ref12_Known_k1 name t4 t5 t2) = ref12_Known_K1 name t4 t5 t2 := by
  rw [pfn_eq (by decide)]
  have e2 : (fun name t4 t9 t2 => (jfn Tryd.prog ref12_Known_e 6 18446744073709551616 (Ev.get ref12_Known_h) 25 ref12_Known_s) 107 [] (ref12_Known_k2 name t4 t9 t2)) = ref12_Known_K2 := funext fun name => funext fun t4 => funext fun t9 => funext fun t2 => ref12_Known_g2 name t4 t9 t2
  rw [ref12_Known_c1, e2]
  rfl
theorem ref12_Known_t (x : As [.str]) : evT Tryd.prog ref12_Known_e 6 18446744073709551616 (Ev.get ref12_Known_h) 25 ref12_Known_s x = ref12_Known x := by
  have e1 : (fun name t4 t5 t2 => (jfn Tryd.prog ref12_Known_e 6 18446744073709551616 (Ev.get ref12_Known_h) 25 ref12_Known_s) 26 [] (ref12_Known_k1 name t4 t5 t2)) = ref12_Known_K1 := funext fun name => funext fun t4 => funext fun t5 => funext fun t2 => ref12_Known_g1 name t4 t5 t2
  rw [rfn_eq, ref12_Known_c0, e1]
  rfl
theorem ref12_Known_ok : CtOk Tryd.prog I0 25 ⟨ref12_Known_s, ref12_Known⟩ := ct_of_ev env_nil ref12_Known_t
/-! ref12_To -/
@[reducible] def ref12_To_s : Sh := ⟨[.d LBT1, .d (.str), .d (.str)], [], [.pr (.int .i64) (.int .u8), .str, .str], [.d LBT1, .d (.bool)], [], 0, [.pr (.int .i64) (.int .u8), .bool]⟩
def ref12_To_e : Env := (cts [(23, (⟨ref12_Times_s, ref12_Times⟩ : Ct)), (25, (⟨ref12_Known_s, ref12_Known⟩ : Ct))])
def ref12_To_h : List (Nat × Hint) := [(30, ⟨[], [3, 6, 8, 10, 34]⟩)]
def ref12_To_k1 (t34 : Bool) (d : Int) (d_2 : Int) (t6 : Int) (t6_2 : Int) (a : List UInt8) (a_2 : Int) (a_3 : Int) (b : List UInt8) (b_2 : Int) (b_3 : Int) : St := { fr := [(3, .pb 0 0), (6, .pb 1 0), (8, .pb 2 0), (10, .pb 3 0), (34, .d .bool t34)], nt := 50, up := [], own := [(0, .box 40 [.d (.int .i64) d, .d (.int .u8) d_2]), (1, .box 40 [.d (.int .i64) t6, .d (.int .u8) t6_2]), (2, .box 49 [.d .str a, .d (.int .i64) a_2, .d (.int .i64) a_3]), (3, .box 49 [.d .str b, .d (.int .i64) b_2, .d (.int .i64) b_3])], nx := 4, log := [], ln := 0 }
def ref12_To_m1 (t34 : Bool) (d : Int) (d_2 : Int) (t6 : Int) (t6_2 : Int) (a : List UInt8) (a_2 : Int) (a_3 : Int) (b : List UInt8) (b_2 : Int) (b_3 : Int) : Option (As [.pr (.int .i64) (.int .u8), .bool]) :=
  if t34 = true then some ((0, 0), false, ()) else Option.bind (ref12_Times ((d, d_2), mul .i64 a_2 b_3, mul .i64 a_3 b_2, ())) fun (y : (Int × Int) × Bool × Unit) => some (y.1, y.2.1, ())
def ref12_To_m0 (j1 : Bool → Int → Int → Int → Int → List UInt8 → Int → Int → List UInt8 → Int → Int → Option (As [.pr (.int .i64) (.int .u8), .bool])) (d : Int × Int) (from' : List UInt8) (to' : List UInt8) : Option (As [.pr (.int .i64) (.int .u8), .bool]) :=
  Option.bind (ref12_Known (from', ())) fun (y : (List UInt8 × Int × Int) × Bool × Unit) => Option.bind (ref12_Known (to', ())) fun (y_1 : (List UInt8 × Int × Int) × Bool × Unit) => if (!y.2.1) = true then j1 true d.1 d.2 0 0 y.1.1 y.1.2.1 y.1.2.2 y_1.1.1 y_1.1.2.1 y_1.1.2.2 else if (!y_1.2.1) = true then j1 true d.1 d.2 0 0 y.1.1 y.1.2.1 y.1.2.2 y_1.1.1 y_1.1.2.1 y_1.1.2.2 else j1 (nes y.1.1 y_1.1.1) d.1 d.2 0 0 y.1.1 y.1.2.1 y.1.2.2 y_1.1.1 y_1.1.2.1 y_1.1.2.2
def ref12_To_K1 (t34 : Bool) (d : Int) (d_2 : Int) (t6 : Int) (t6_2 : Int) (a : List UInt8) (a_2 : Int) (a_3 : Int) (b : List UInt8) (b_2 : Int) (b_3 : Int) : Option (As [.pr (.int .i64) (.int .u8), .bool]) := ref12_To_m1 t34 d d_2 t6 t6_2 a a_2 a_3 b b_2 b_3
def ref12_To (x : As [.pr (.int .i64) (.int .u8), .str, .str]) : Option (As [.pr (.int .i64) (.int .u8), .bool]) := ref12_To_m0 ref12_To_K1 x.1 x.2.1 x.2.2.1
theorem ref12_To_c1 (J : Orc (As [.pr (.int .i64) (.int .u8), .bool])) (t34 : Bool) (d : Int) (d_2 : Int) (t6 : Int) (t6_2 : Int) (a : List UInt8) (a_2 : Int) (a_3 : Int) (b : List UInt8) (b_2 : Int) (b_3 : Int) : pfn Tryd.prog ref12_To_e 6 18446744073709551616 (Ev.get ref12_To_h) 27 ref12_To_s J 30 [] (ref12_To_k1 t34 d d_2 t6 t6_2 a a_2 a_3 b b_2 b_3) = ref12_To_m1 t34 d d_2 t6 t6_2 a a_2 a_3 b b_2 b_3 := by kernel_rfl
theorem ref12_To_c0 (J : Orc (As [.pr (.int .i64) (.int .u8), .bool])) (x : As [.pr (.int .i64) (.int .u8), .str, .str]) : rfn Tryd.prog ref12_To_e 6 18446744073709551616 (Ev.get ref12_To_h) 27 ref12_To_s J x = ref12_To_m0 (fun t34 d d_2 t6 t6_2 a a_2 a_3 b b_2 b_3 => J 30 [] (ref12_To_k1 t34 d d_2 t6 t6_2 a a_2 a_3 b b_2 b_3)) x.1 x.2.1 x.2.2.1 := by kernel_rfl
theorem ref12_To_g1 (t34 : Bool) (d : Int) (d_2 : Int) (t6 : Int) (t6_2 : Int) (a : List UInt8) (a_2 : Int) (a_3 : Int) (b : List UInt8) (b_2 : Int) (b_3 : Int) : jfn Tryd.prog ref12_To_e 6 18446744073709551616 (Ev.get ref12_To_h) 27 ref12_To_s 30 [] (ref12_To_k1 t34 d d_2 t6 t6_2 a a_2 a_3 b b_2 b_3) = ref12_To_K1 t34 d d_2 t6 t6_2 a a_2 a_3 b b_2 b_3 := by
  rw [pfn_eq (by decide)]
  rw [ref12_To_c1]
  rfl
theorem ref12_To_t (x : As [.pr (.int .i64) (.int .u8), .str, .str]) : evT Tryd.prog ref12_To_e 6 18446744073709551616 (Ev.get ref12_To_h) 27 ref12_To_s x = ref12_To x := by
  have e1 : (fun t34 d d_2 t6 t6_2 a a_2 a_3 b b_2 b_3 => (jfn Tryd.prog ref12_To_e 6 18446744073709551616 (Ev.get ref12_To_h) 27 ref12_To_s) 30 [] (ref12_To_k1 t34 d d_2 t6 t6_2 a a_2 a_3 b b_2 b_3)) = ref12_To_K1 := funext fun t34 => funext fun d => funext fun d_2 => funext fun t6 => funext fun t6_2 => funext fun a => funext fun a_2 => funext fun a_3 => funext fun b => funext fun b_2 => funext fun b_3 => ref12_To_g1 t34 d d_2 t6 t6_2 a a_2 a_3 b b_2 b_3
  rw [rfn_eq, ref12_To_c0, e1]
  rfl
theorem ref12_To_ok : CtOk Tryd.prog I0 27 ⟨ref12_To_s, ref12_To⟩ := ct_of_ev (env_cons ref12_Times_ok (env_cons ref12_Known_ok env_nil)) ref12_To_t
/-! ref12_Word -/
@[reducible] def ref12_Word_s : Sh := ⟨[.d LBT1, .d (.int .i64), .d (.bool)], [], [.pr (.int .i64) (.int .u8), .int .i64, .bool], [.d (.int .u16), .d (.bool)], [], 0, [.int .u16, .bool]⟩
def ref12_Word_e : Env := (cts [(17, (⟨ref12_Right_s, ref12_Right⟩ : Ct))])
def ref12_Word_h : List (Nat × Hint) := [(15, ⟨[], [2, 8, 44, 45, 54, 55]⟩), (31, ⟨[], [8, 54, 55]⟩), (126, ⟨[], [8, 56]⟩), (500, ⟨[], [8, 46, 54, 55]⟩), (122, ⟨[], [1, 2, 8, 9, 44, 45, 54, 55]⟩), (6, ⟨[], [1, 2, 3, 27, 44, 45, 54, 55]⟩)]
def ref12_Word_k1 (digits : Int) (signed : Bool) (t27 : Bool) (d : Int × Int) : St := { fr := [(1, .d (.int .i64) digits), (2, .d .bool signed), (3, .pb 0 0), (27, .d .bool t27)], nt := 59, up := [], own := [(0, .box 40 [.d (.int .i64) d.1, .d (.int .u8) d.2])], nx := 1, log := [], ln := 0 }
def ref12_Word_k2 (digits : Int) (signed : Bool) (n : Int) (i : Int) : St := { fr := [(1, .d (.int .i64) digits), (2, .d .bool signed), (8, .d (.int .i64) n), (9, .d (.int .i64) i)], nt := 59, up := [], own := [], nx := 0, log := [], ln := 0 }
def ref12_Word_k3 (signed : Bool) (n : Int) : St := { fr := [(2, .d .bool signed), (8, .d (.int .i64) n)], nt := 59, up := [], own := [], nx := 0, log := [], ln := 0 }
def ref12_Word_k4 (n : Int) (t46 : Bool) : St := { fr := [(8, .d (.int .i64) n), (46, .d .bool t46)], nt := 59, up := [], own := [], nx := 0, log := [], ln := 0 }
def ref12_Word_k5 (n : Int) : St := { fr := [(8, .d (.int .i64) n)], nt := 59, up := [], own := [], nx := 0, log := [], ln := 0 }
def ref12_Word_k6 (n : Int) (t56 : Bool) : St := { fr := [(8, .d (.int .i64) n), (56, .d .bool t56)], nt := 59, up := [], own := [], nx := 0, log := [], ln := 0 }
def ref12_Word_m1 (j2 : Int → Bool → Int → Int → Option (As [.int .u16, .bool])) (digits : Int) (signed : Bool) (t27 : Bool) (d : Int × Int) : Option (As [.int .u16, .bool]) :=
  if t27 = true then some (0, false, ()) else j2 digits signed d.1 (cvt .i64 d.2)
def ref12_Word_m2 (j3 : Bool → Int → Option (As [.int .u16, .bool])) (self2 : Int → Bool → Int → Int → Option (As [.int .u16, .bool])) (digits : Int) (signed : Bool) (n : Int) (i : Int) : Option (As [.int .u16, .bool]) :=
  if lt i digits = true then self2 digits signed (mul .i64 n 10) (add .i64 i 1) else j3 signed n
def ref12_Word_m3 (j4 : Int → Bool → Option (As [.int .u16, .bool])) (j5 : Int → Option (As [.int .u16, .bool])) (signed : Bool) (n : Int) : Option (As [.int .u16, .bool]) :=
  if signed = true then if lt n (-32768) = true then j4 n true else j4 n (gt n 32767) else j5 n
def ref12_Word_m4 (j5 : Int → Option (As [.int .u16, .bool])) (n : Int) (t46 : Bool) : Option (As [.int .u16, .bool]) :=
  if t46 = true then some (0, false, ()) else if lt n 0 = true then j5 (add .i64 n 65536) else j5 n
def ref12_Word_m5 (j6 : Int → Bool → Option (As [.int .u16, .bool])) (n : Int) : Option (As [.int .u16, .bool]) :=
  if lt n 0 = true then j6 n true else j6 n (gt n 65535)
def ref12_Word_m6 (n : Int) (t56 : Bool) : Option (As [.int .u16, .bool]) :=
  if t56 = true then some (0, false, ()) else some (cvt .u16 n, true, ())
def ref12_Word_m0 (j1 : Int → Bool → Bool → Int × Int → Option (As [.int .u16, .bool])) (d : Int × Int) (digits : Int) (signed : Bool) : Option (As [.int .u16, .bool]) :=
  Option.bind (ref12_Right (d, ())) fun (y : Bool × Unit) => if (!y.1) = true then j1 digits signed true d else if lt digits 0 = true then j1 digits signed true d else if gt digits 6 = true then j1 digits signed true d else j1 digits signed (gt (cvt .i64 d.2) digits) d
def ref12_Word_K6 (n : Int) (t56 : Bool) : Option (As [.int .u16, .bool]) := ref12_Word_m6 n t56
def ref12_Word_K5 (n : Int) : Option (As [.int .u16, .bool]) := ref12_Word_m5 (ref12_Word_K6) n
def ref12_Word_K4 (n : Int) (t46 : Bool) : Option (As [.int .u16, .bool]) := ref12_Word_m4 (ref12_Word_K5) n t46
def ref12_Word_K3 (signed : Bool) (n : Int) : Option (As [.int .u16, .bool]) := ref12_Word_m3 (ref12_Word_K4) (ref12_Word_K5) signed n
def ref12_Word_K2 (digits : Int) (signed : Bool) (n : Int) (i : Int) : Option (As [.int .u16, .bool]) :=
  loopF (fun (self : (Int) × (Bool) × (Int) × (Int) → Option (As [.int .u16, .bool])) (s : (Int) × (Bool) × (Int) × (Int)) => ref12_Word_m2 (ref12_Word_K3) (fun digits signed n i => self (digits, signed, n, i)) s.1 s.2.1 s.2.2.1 s.2.2.2) 18446744073709551616 (digits, signed, n, i)
def ref12_Word_K1 (digits : Int) (signed : Bool) (t27 : Bool) (d : Int × Int) : Option (As [.int .u16, .bool]) := ref12_Word_m1 (ref12_Word_K2) digits signed t27 d
def ref12_Word (x : As [.pr (.int .i64) (.int .u8), .int .i64, .bool]) : Option (As [.int .u16, .bool]) := ref12_Word_m0 ref12_Word_K1 x.1 x.2.1 x.2.2.1
theorem ref12_Word_c6 (J : Orc (As [.int .u16, .bool])) (n : Int) (t56 : Bool) : pfn Tryd.prog ref12_Word_e 6 18446744073709551616 (Ev.get ref12_Word_h) 29 ref12_Word_s J 126 [] (ref12_Word_k6 n t56) = ref12_Word_m6 n t56 := by kernel_rfl
theorem ref12_Word_c5 (J : Orc (As [.int .u16, .bool])) (n : Int) : pfn Tryd.prog ref12_Word_e 6 18446744073709551616 (Ev.get ref12_Word_h) 29 ref12_Word_s J 31 [] (ref12_Word_k5 n) = ref12_Word_m5 (fun n t56 => J 126 [] (ref12_Word_k6 n t56)) n := by kernel_rfl
theorem ref12_Word_c4 (J : Orc (As [.int .u16, .bool])) (n : Int) (t46 : Bool) : pfn Tryd.prog ref12_Word_e 6 18446744073709551616 (Ev.get ref12_Word_h) 29 ref12_Word_s J 500 [] (ref12_Word_k4 n t46) = ref12_Word_m4 (fun n => J 31 [] (ref12_Word_k5 n)) n t46 := by kernel_rfl
theorem ref12_Word_c3 (J : Orc (As [.int .u16, .bool])) (signed : Bool) (n : Int) : pfn Tryd.prog ref12_Word_e 6 18446744073709551616 (Ev.get ref12_Word_h) 29 ref12_Word_s J 15 [] (ref12_Word_k3 signed n) = ref12_Word_m3 (fun n t46 => J 500 [] (ref12_Word_k4 n t46)) (fun n => J 31 [] (ref12_Word_k5 n)) signed n := by kernel_rfl
theorem ref12_Word_c2 (J : Orc (As [.int .u16, .bool])) (w2 : St → Option (As [.int .u16, .bool])) (digits : Int) (signed : Bool) (n : Int) (i : Int) : pfn Tryd.prog ref12_Word_e 6 18446744073709551616 (Ev.get ref12_Word_h) 29 ref12_Word_s J 122 [w2] (ref12_Word_k2 digits signed n i) = ref12_Word_m2 (fun signed n => J 15 [] (ref12_Word_k3 signed n)) (fun digits signed n i => w2 (ref12_Word_k2 digits signed n i)) digits signed n i := by kernel_rfl
theorem ref12_Word_c1 (J : Orc (As [.int .u16, .bool])) (digits : Int) (signed : Bool) (t27 : Bool) (d : Int × Int) : pfn Tryd.prog ref12_Word_e 6 18446744073709551616 (Ev.get ref12_Word_h) 29 ref12_Word_s J 6 [] (ref12_Word_k1 digits signed t27 d) = ref12_Word_m1 (fun digits signed n i => J 122 [] (ref12_Word_k2 digits signed n i)) digits signed t27 d := by kernel_rfl
theorem ref12_Word_c0 (J : Orc (As [.int .u16, .bool])) (x : As [.pr (.int .i64) (.int .u8), .int .i64, .bool]) : rfn Tryd.prog ref12_Word_e 6 18446744073709551616 (Ev.get ref12_Word_h) 29 ref12_Word_s J x = ref12_Word_m0 (fun digits signed t27 d => J 6 [] (ref12_Word_k1 digits signed t27 d)) x.1 x.2.1 x.2.2.1 := by kernel_rfl
theorem ref12_Word_g6 (n : Int) (t56 : Bool) : jfn Tryd.prog ref12_Word_e 6 18446744073709551616 (Ev.get ref12_Word_h) 29 ref12_Word_s 126 [] (ref12_Word_k6 n t56) = ref12_Word_K6 n t56 := by
  rw [pfn_eq (by decide)]
  rw [ref12_Word_c6]
  rfl
theorem ref12_Word_g5 (n : Int) : jfn Tryd.prog ref12_Word_e 6 18446744073709551616 (Ev.get ref12_Word_h) 29 ref12_Word_s 31 [] (ref12_Word_k5 n) = ref12_Word_K5 n := by
  rw [pfn_eq (by decide)]
  have e6 : (fun n t56 => (jfn Tryd.prog ref12_Word_e 6 18446744073709551616 (Ev.get ref12_Word_h) 29 ref12_Word_s) 126 [] (ref12_Word_k6 n t56)) = ref12_Word_K6 := funext fun n => funext fun t56 => ref12_Word_g6 n t56
  rw [ref12_Word_c5, e6]
  rfl
theorem ref12_Word_g4 (n : Int) (t46 : Bool) : jfn Tryd.prog ref12_Word_e 6 18446744073709551616 (Ev.get ref12_Word_h) 29 ref12_Word_s 500 [] (ref12_Word_k4 n t46) = ref12_Word_K4 n t46 := by
  rw [pfn_eq (by decide)]
  have e5 : (fun n => (jfn Tryd.prog ref12_Word_e 6 18446744073709551616 (Ev.get ref12_Word_h) 29 ref12_Word_s) 31 [] (ref12_Word_k5 n)) = ref12_Word_K5 := funext fun n => ref12_Word_g5 n
  rw [ref12_Word_c4, e5]
  rfl
theorem ref12_Word_g3 (signed : Bool) (n : Int) : jfn Tryd.prog ref12_Word_e 6 18446744073709551616 (Ev.get ref12_Word_h) 29 ref12_Word_s 15 [] (ref12_Word_k3 signed n) = ref12_Word_K3 signed n := by
  rw [pfn_eq (by decide)]
  have e4 : (fun n t46 => (jfn Tryd.prog ref12_Word_e 6 18446744073709551616 (Ev.get ref12_Word_h) 29 ref12_Word_s) 500 [] (ref12_Word_k4 n t46)) = ref12_Word_K4 := funext fun n => funext fun t46 => ref12_Word_g4 n t46
  have e5 : (fun n => (jfn Tryd.prog ref12_Word_e 6 18446744073709551616 (Ev.get ref12_Word_h) 29 ref12_Word_s) 31 [] (ref12_Word_k5 n)) = ref12_Word_K5 := funext fun n => ref12_Word_g5 n
  rw [ref12_Word_c3, e4, e5]
  rfl
theorem ref12_Word_g2 (digits : Int) (signed : Bool) (n : Int) (i : Int) : jfn Tryd.prog ref12_Word_e 6 18446744073709551616 (Ev.get ref12_Word_h) 29 ref12_Word_s 122 [] (ref12_Word_k2 digits signed n i) = ref12_Word_K2 digits signed n i := by
  rw [pfn_eq (by decide)]
  rw [pfn_loop (by kernel_rfl)]
  refine loopF_sim (σ := (Int) × (Bool) × (Int) × (Int)) (mk := fun s => ref12_Word_k2 s.1 s.2.1 s.2.2.1 s.2.2.2) (fun w2 s => ?_) 18446744073709551616 (digits, signed, n, i)
  have e3 : (fun signed n => (jfn Tryd.prog ref12_Word_e 6 18446744073709551616 (Ev.get ref12_Word_h) 29 ref12_Word_s) 15 [] (ref12_Word_k3 signed n)) = ref12_Word_K3 := funext fun signed => funext fun n => ref12_Word_g3 signed n
  refine (ref12_Word_c2 _ w2 s.1 s.2.1 s.2.2.1 s.2.2.2).trans ?_
  rw [e3]
theorem ref12_Word_g1 (digits : Int) (signed : Bool) (t27 : Bool) (d : Int × Int) : jfn Tryd.prog ref12_Word_e 6 18446744073709551616 (Ev.get ref12_Word_h) 29 ref12_Word_s 6 [] (ref12_Word_k1 digits signed t27 d) = ref12_Word_K1 digits signed t27 d := by
  rw [pfn_eq (by decide)]
  have e2 : (fun digits signed n i => (jfn Tryd.prog ref12_Word_e 6 18446744073709551616 (Ev.get ref12_Word_h) 29 ref12_Word_s) 122 [] (ref12_Word_k2 digits signed n i)) = ref12_Word_K2 := funext fun digits => funext fun signed => funext fun n => funext fun i => ref12_Word_g2 digits signed n i
  rw [ref12_Word_c1, e2]
  rfl
theorem ref12_Word_t (x : As [.pr (.int .i64) (.int .u8), .int .i64, .bool]) : evT Tryd.prog ref12_Word_e 6 18446744073709551616 (Ev.get ref12_Word_h) 29 ref12_Word_s x = ref12_Word x := by
  have e1 : (fun digits signed t27 d => (jfn Tryd.prog ref12_Word_e 6 18446744073709551616 (Ev.get ref12_Word_h) 29 ref12_Word_s) 6 [] (ref12_Word_k1 digits signed t27 d)) = ref12_Word_K1 := funext fun digits => funext fun signed => funext fun t27 => funext fun d => ref12_Word_g1 digits signed t27 d
  rw [rfn_eq, ref12_Word_c0, e1]
  rfl
theorem ref12_Word_ok : CtOk Tryd.prog I0 29 ⟨ref12_Word_s, ref12_Word⟩ := ct_of_ev (env_cons ref12_Right_ok env_nil) ref12_Word_t
/-! ref12_Worth -/
@[reducible] def ref12_Worth_s : Sh := ⟨[.d (.int .u16), .d (.int .i64), .d (.bool)], [], [.int .u16, .int .i64, .bool], [.d LBT1, .d (.bool)], [], 0, [.pr (.int .i64) (.int .u8), .bool]⟩
def ref12_Worth_e : Env := (cts [(49, (⟨ref12_Of_s, ref12_Of⟩ : Ct))])
def ref12_Worth_h : List (Nat × Hint) := [(15, ⟨[], [1, 6, 8]⟩), (30, ⟨[], [1, 6, 8, 22]⟩), (6, ⟨[], [0, 1, 2, 6, 14, 20, 21]⟩)]
def ref12_Worth_k1 (w : Int) (digits : Int) (signed : Bool) (t14 : Bool) (t6 : Int × Int) : St := { fr := [(0, .d (.int .u16) w), (1, .d (.int .i64) digits), (2, .d .bool signed), (6, .pb 0 0), (14, .d .bool t14)], nt := 30, up := [], own := [(0, .box 40 [.d (.int .i64) t6.1, .d (.int .u8) t6.2])], nx := 1, log := [], ln := 0 }
def ref12_Worth_k2 (digits : Int) (n : Int) (t22 : Bool) (t6 : Int × Int) : St := { fr := [(1, .d (.int .i64) digits), (6, .pb 0 0), (8, .d (.int .i64) n), (22, .d .bool t22)], nt := 30, up := [], own := [(0, .box 40 [.d (.int .i64) t6.1, .d (.int .u8) t6.2])], nx := 1, log := [], ln := 0 }
def ref12_Worth_k3 (digits : Int) (n : Int) (t6 : Int × Int) : St := { fr := [(1, .d (.int .i64) digits), (6, .pb 0 0), (8, .d (.int .i64) n)], nt := 30, up := [], own := [(0, .box 40 [.d (.int .i64) t6.1, .d (.int .u8) t6.2])], nx := 1, log := [], ln := 0 }
def ref12_Worth_m1 (j2 : Int → Int → Bool → Int × Int → Option (As [.pr (.int .i64) (.int .u8), .bool])) (w : Int) (digits : Int) (signed : Bool) (t14 : Bool) (t6 : Int × Int) : Option (As [.pr (.int .i64) (.int .u8), .bool]) :=
  if t14 = true then some ((0, 0), false, ()) else if signed = true then j2 digits (cvt .i64 w) (ge (cvt .i64 w) 32768) t6 else j2 digits (cvt .i64 w) false t6
def ref12_Worth_m2 (j3 : Int → Int → Int × Int → Option (As [.pr (.int .i64) (.int .u8), .bool])) (digits : Int) (n : Int) (t22 : Bool) (t6 : Int × Int) : Option (As [.pr (.int .i64) (.int .u8), .bool]) :=
  if t22 = true then j3 digits (Sx.sub .i64 n 65536) t6 else j3 digits n t6
def ref12_Worth_m3 (digits : Int) (n : Int) (t6 : Int × Int) : Option (As [.pr (.int .i64) (.int .u8), .bool]) :=
  Option.bind (ref12_Of (n, digits, ())) fun (y : (Int × Int) × Bool × Unit) => some (y.1, y.2.1, ())
def ref12_Worth_m0 (j1 : Int → Int → Bool → Bool → Int × Int → Option (As [.pr (.int .i64) (.int .u8), .bool])) (w : Int) (digits : Int) (signed : Bool) : Option (As [.pr (.int .i64) (.int .u8), .bool]) :=
  if lt digits 0 = true then j1 w digits signed true (0, 0) else j1 w digits signed (gt digits 6) (0, 0)
def ref12_Worth_K3 (digits : Int) (n : Int) (t6 : Int × Int) : Option (As [.pr (.int .i64) (.int .u8), .bool]) := ref12_Worth_m3 digits n t6
def ref12_Worth_K2 (digits : Int) (n : Int) (t22 : Bool) (t6 : Int × Int) : Option (As [.pr (.int .i64) (.int .u8), .bool]) := ref12_Worth_m2 (ref12_Worth_K3) digits n t22 t6
def ref12_Worth_K1 (w : Int) (digits : Int) (signed : Bool) (t14 : Bool) (t6 : Int × Int) : Option (As [.pr (.int .i64) (.int .u8), .bool]) := ref12_Worth_m1 (ref12_Worth_K2) w digits signed t14 t6
def ref12_Worth (x : As [.int .u16, .int .i64, .bool]) : Option (As [.pr (.int .i64) (.int .u8), .bool]) := ref12_Worth_m0 ref12_Worth_K1 x.1 x.2.1 x.2.2.1
theorem ref12_Worth_c3 (J : Orc (As [.pr (.int .i64) (.int .u8), .bool])) (digits : Int) (n : Int) (t6 : Int × Int) : pfn Tryd.prog ref12_Worth_e 6 18446744073709551616 (Ev.get ref12_Worth_h) 31 ref12_Worth_s J 15 [] (ref12_Worth_k3 digits n t6) = ref12_Worth_m3 digits n t6 := by kernel_rfl
theorem ref12_Worth_c2 (J : Orc (As [.pr (.int .i64) (.int .u8), .bool])) (digits : Int) (n : Int) (t22 : Bool) (t6 : Int × Int) : pfn Tryd.prog ref12_Worth_e 6 18446744073709551616 (Ev.get ref12_Worth_h) 31 ref12_Worth_s J 30 [] (ref12_Worth_k2 digits n t22 t6) = ref12_Worth_m2 (fun digits n t6 => J 15 [] (ref12_Worth_k3 digits n t6)) digits n t22 t6 := by kernel_rfl
theorem ref12_Worth_c1 (J : Orc (As [.pr (.int .i64) (.int .u8), .bool])) (w : Int) (digits : Int) (signed : Bool) (t14 : Bool) (t6 : Int × Int) : pfn Tryd.prog ref12_Worth_e 6 18446744073709551616 (Ev.get ref12_Worth_h) 31 ref12_Worth_s J 6 [] (ref12_Worth_k1 w digits signed t14 t6) = ref12_Worth_m1 (fun digits n t22 t6 => J 30 [] (ref12_Worth_k2 digits n t22 t6)) w digits signed t14 t6 := by kernel_rfl
theorem ref12_Worth_c0 (J : Orc (As [.pr (.int .i64) (.int .u8), .bool])) (x : As [.int .u16, .int .i64, .bool]) : rfn Tryd.prog ref12_Worth_e 6 18446744073709551616 (Ev.get ref12_Worth_h) 31 ref12_Worth_s J x = ref12_Worth_m0 (fun w digits signed t14 t6 => J 6 [] (ref12_Worth_k1 w digits signed t14 t6)) x.1 x.2.1 x.2.2.1 := by kernel_rfl
theorem ref12_Worth_g3 (digits : Int) (n : Int) (t6 : Int × Int) : jfn Tryd.prog ref12_Worth_e 6 18446744073709551616 (Ev.get ref12_Worth_h) 31 ref12_Worth_s 15 [] (ref12_Worth_k3 digits n t6) = ref12_Worth_K3 digits n t6 := by
  rw [pfn_eq (by decide)]
  rw [ref12_Worth_c3]
  rfl
theorem ref12_Worth_g2 (digits : Int) (n : Int) (t22 : Bool) (t6 : Int × Int) : jfn Tryd.prog ref12_Worth_e 6 18446744073709551616 (Ev.get ref12_Worth_h) 31 ref12_Worth_s 30 [] (ref12_Worth_k2 digits n t22 t6) = ref12_Worth_K2 digits n t22 t6 := by
  rw [pfn_eq (by decide)]
  have e3 : (fun digits n t6 => (jfn Tryd.prog ref12_Worth_e 6 18446744073709551616 (Ev.get ref12_Worth_h) 31 ref12_Worth_s) 15 [] (ref12_Worth_k3 digits n t6)) = ref12_Worth_K3 := funext fun digits => funext fun n => funext fun t6 => ref12_Worth_g3 digits n t6
  rw [ref12_Worth_c2, e3]
  rfl
theorem ref12_Worth_g1 (w : Int) (digits : Int) (signed : Bool) (t14 : Bool) (t6 : Int × Int) : jfn Tryd.prog ref12_Worth_e 6 18446744073709551616 (Ev.get ref12_Worth_h) 31 ref12_Worth_s 6 [] (ref12_Worth_k1 w digits signed t14 t6) = ref12_Worth_K1 w digits signed t14 t6 := by
  rw [pfn_eq (by decide)]
  have e2 : (fun digits n t22 t6 => (jfn Tryd.prog ref12_Worth_e 6 18446744073709551616 (Ev.get ref12_Worth_h) 31 ref12_Worth_s) 30 [] (ref12_Worth_k2 digits n t22 t6)) = ref12_Worth_K2 := funext fun digits => funext fun n => funext fun t22 => funext fun t6 => ref12_Worth_g2 digits n t22 t6
  rw [ref12_Worth_c1, e2]
  rfl
theorem ref12_Worth_t (x : As [.int .u16, .int .i64, .bool]) : evT Tryd.prog ref12_Worth_e 6 18446744073709551616 (Ev.get ref12_Worth_h) 31 ref12_Worth_s x = ref12_Worth x := by
  have e1 : (fun w digits signed t14 t6 => (jfn Tryd.prog ref12_Worth_e 6 18446744073709551616 (Ev.get ref12_Worth_h) 31 ref12_Worth_s) 6 [] (ref12_Worth_k1 w digits signed t14 t6)) = ref12_Worth_K1 := funext fun w => funext fun digits => funext fun signed => funext fun t14 => funext fun t6 => ref12_Worth_g1 w digits signed t14 t6
  rw [rfn_eq, ref12_Worth_c0, e1]
  rfl
theorem ref12_Worth_ok : CtOk Tryd.prog I0 31 ⟨ref12_Worth_s, ref12_Worth⟩ := ct_of_ev (env_cons ref12_Of_ok env_nil) ref12_Worth_t
/-! law12_UnitsTell -/
@[reducible] def law12_UnitsTell_s : Sh := ⟨[.d (.str), .d LBT1, .d LBT1, .d (.int .i64), .d (.int .i64), .d (.str), .d (.str), .d (.int .u16), .d (.int .i64), .d (.bool)], [], [.str, .pr (.int .i64) (.int .u8), .pr (.int .i64) (.int .u8), .int .i64, .int .i64, .str, .str, .int .u16, .int .i64, .bool], [.d (.bool)], [], 0, [.bool]⟩
def law12_UnitsTell_e : Env := (cts [(13, (⟨law12_awake_s, law12_awake⟩ : Ct)), (14, (⟨units_Parse_s, units_Parse⟩ : Ct)), (15, (⟨ref12_Parse_s, ref12_Parse⟩ : Ct)), (16, (⟨units_Right_s, units_Right⟩ : Ct)), (17, (⟨ref12_Right_s, ref12_Right⟩ : Ct)), (18, (⟨units_Show_s, units_Show⟩ : Ct)), (19, (⟨ref12_Show_s, ref12_Show⟩ : Ct)), (20, (⟨units_Cmp_s, units_Cmp⟩ : Ct)), (21, (⟨ref12_Cmp_s, ref12_Cmp⟩ : Ct)), (22, (⟨units_Times_s, units_Times⟩ : Ct)), (23, (⟨ref12_Times_s, ref12_Times⟩ : Ct)), (24, (⟨units_Known_s, units_Known⟩ : Ct)), (25, (⟨ref12_Known_s, ref12_Known⟩ : Ct)), (26, (⟨units_To_s, units_To⟩ : Ct)), (27, (⟨ref12_To_s, ref12_To⟩ : Ct)), (28, (⟨units_Word_s, units_Word⟩ : Ct)), (29, (⟨ref12_Word_s, ref12_Word⟩ : Ct)), (30, (⟨units_Worth_s, units_Worth⟩ : Ct)), (31, (⟨ref12_Worth_s, ref12_Worth⟩ : Ct))])
def law12_UnitsTell_h : List (Nat × Hint) := [(126, ⟨[], [3, 4, 5, 6, 7, 8, 9, 11, 109, 180, 181, 182, 185, 186, 187, 190, 191, 192, 195, 196, 197, 200, 201, 202, 205, 206, 207, 210, 211, 212, 215, 216, 217, 220, 221, 222, 225]⟩), (62, ⟨[], [3, 4, 5, 6, 7, 8, 9, 11, 12, 83, 87, 88, 89, 90, 91, 94, 95, 96, 97, 98, 99, 100, 101, 102, 103, 104, 105, 106, 107, 108, 180, 181, 182, 185, 186, 187, 190, 191, 192, 195, 196, 197, 200, 201, 202, 205, 206, 207, 210, 211, 212, 215, 216, 217, 220, 221, 222, 225]⟩), (6, ⟨[], [0, 3, 4, 5, 6, 7, 8, 9, 11, 12, 57, 73, 74, 75, 78, 79, 80, 81, 82, 87, 88, 89, 90, 91, 94, 95, 96, 97, 98, 99, 100, 101, 102, 103, 104, 105, 106, 107, 108, 180, 181, 182, 185, 186, 187, 190, 191, 192, 195, 196, 197, 200, 201, 202, 205, 206, 207, 210, 211, 212, 215, 216, 217, 220, 221, 222, 225]⟩)]
def law12_UnitsTell_k1 (s : List UInt8) (num : Int) (den : Int) (from' : List UInt8) (to' : List UInt8) (w : Int) (digits : Int) (signed : Bool) (t57 : Bool) (a : Int × Int) (b : Int × Int) : St := { fr := [(0, .d .str s), (3, .d (.int .i64) num), (4, .d (.int .i64) den), (5, .d .str from'), (6, .d .str to'), (7, .d (.int .u16) w), (8, .d (.int .i64) digits), (9, .d .bool signed), (11, .pb 0 0), (12, .pb 1 0), (57, .d .bool t57)], nt := 227, up := [], own := [(0, .box 40 [.d (.int .i64) a.1, .d (.int .u8) a.2]), (1, .box 40 [.d (.int .i64) b.1, .d (.int .u8) b.2])], nx := 2, log := [], ln := 0 }
def law12_UnitsTell_k2 (num : Int) (den : Int) (from' : List UInt8) (to' : List UInt8) (w : Int) (digits : Int) (signed : Bool) (t83 : Bool) (a : Int × Int) (b : Int × Int) : St := { fr := [(3, .d (.int .i64) num), (4, .d (.int .i64) den), (5, .d .str from'), (6, .d .str to'), (7, .d (.int .u16) w), (8, .d (.int .i64) digits), (9, .d .bool signed), (11, .pb 0 0), (12, .pb 1 0), (83, .d .bool t83)], nt := 227, up := [], own := [(0, .box 40 [.d (.int .i64) a.1, .d (.int .u8) a.2]), (1, .box 40 [.d (.int .i64) b.1, .d (.int .u8) b.2])], nx := 2, log := [], ln := 0 }
def law12_UnitsTell_k3 (num : Int) (den : Int) (from' : List UInt8) (to' : List UInt8) (w : Int) (digits : Int) (signed : Bool) (t109 : Bool) (a : Int × Int) : St := { fr := [(3, .d (.int .i64) num), (4, .d (.int .i64) den), (5, .d .str from'), (6, .d .str to'), (7, .d (.int .u16) w), (8, .d (.int .i64) digits), (9, .d .bool signed), (11, .pb 0 0), (109, .d .bool t109)], nt := 227, up := [], own := [(0, .box 40 [.d (.int .i64) a.1, .d (.int .u8) a.2])], nx := 1, log := [], ln := 0 }
def law12_UnitsTell_m1 (j2 : Int → Int → List UInt8 → List UInt8 → Int → Int → Bool → Bool → Int × Int → Int × Int → Option (As [.bool])) (s : List UInt8) (num : Int) (den : Int) (from' : List UInt8) (to' : List UInt8) (w : Int) (digits : Int) (signed : Bool) (t57 : Bool) (a : Int × Int) (b : Int × Int) : Option (As [.bool]) :=
  if t57 = true then Option.bind (law12_awake ()) fun (y : Bool × Unit) => some (y.1, ()) else Option.bind (units_Parse (s, ())) fun (y : (Int × Int) × Bool × Unit) => Option.bind (ref12_Parse (s, ())) fun (y_1 : (Int × Int) × Bool × Unit) => if (!(eqi y.1.1 y_1.1.1 && (eqi y.1.2 y_1.1.2 && true))) = true then j2 num den from' to' w digits signed true a b else if Sx.neb y.2.1 y_1.2.1 = true then j2 num den from' to' w digits signed true a b else Option.bind (units_Right (a, ())) fun (y : Bool × Unit) => Option.bind (ref12_Right (a, ())) fun (y_2 : Bool × Unit) => j2 num den from' to' w digits signed (Sx.neb y.1 y_2.1) a b
def law12_UnitsTell_m2 (j3 : Int → Int → List UInt8 → List UInt8 → Int → Int → Bool → Bool → Int × Int → Option (As [.bool])) (num : Int) (den : Int) (from' : List UInt8) (to' : List UInt8) (w : Int) (digits : Int) (signed : Bool) (t83 : Bool) (a : Int × Int) (b : Int × Int) : Option (As [.bool]) :=
  if t83 = true then some (false, ()) else Option.bind (ref12_Right (a, ())) fun (y : Bool × Unit) => if y.1 = true then Option.bind (units_Show (a, ())) fun (y : List UInt8 × Unit) => Option.bind (ref12_Show (a, ())) fun (y_1 : List UInt8 × Unit) => if nes y.1 y_1.1 = true then j3 num den from' to' w digits signed true a else Option.bind (ref12_Right (a, ())) fun (y : Bool × Unit) => if y.1 = true then Option.bind (ref12_Right (b, ())) fun (y : Bool × Unit) => if y.1 = true then Option.bind (units_Cmp (a, b, ())) fun (y : Int × Unit) => Option.bind (ref12_Cmp (a, b, ())) fun (y_2 : Int × Unit) => j3 num den from' to' w digits signed (nei y.1 y_2.1) a else j3 num den from' to' w digits signed false a else j3 num den from' to' w digits signed false a else Option.bind (ref12_Right (a, ())) fun (y : Bool × Unit) => if y.1 = true then Option.bind (ref12_Right (b, ())) fun (y : Bool × Unit) => if y.1 = true then Option.bind (units_Cmp (a, b, ())) fun (y : Int × Unit) => Option.bind (ref12_Cmp (a, b, ())) fun (y_1 : Int × Unit) => j3 num den from' to' w digits signed (nei y.1 y_1.1) a else j3 num den from' to' w digits signed false a else j3 num den from' to' w digits signed false a
def law12_UnitsTell_m3 (num : Int) (den : Int) (from' : List UInt8) (to' : List UInt8) (w : Int) (digits : Int) (signed : Bool) (t109 : Bool) (a : Int × Int) : Option (As [.bool]) :=
  if t109 = true then some (false, ()) else Option.bind (units_Times (a, num, den, ())) fun (y : (Int × Int) × Bool × Unit) => Option.bind (ref12_Times (a, num, den, ())) fun (y_1 : (Int × Int) × Bool × Unit) => Option.bind (units_Known (from', ())) fun (y_2 : (List UInt8 × Int × Int) × Bool × Unit) => Option.bind (ref12_Known (from', ())) fun (y_3 : (List UInt8 × Int × Int) × Bool × Unit) => Option.bind (units_To (a, from', to', ())) fun (y_4 : (Int × Int) × Bool × Unit) => Option.bind (ref12_To (a, from', to', ())) fun (y_5 : (Int × Int) × Bool × Unit) => Option.bind (units_Word (a, digits, signed, ())) fun (y_6 : Int × Bool × Unit) => Option.bind (ref12_Word (a, digits, signed, ())) fun (y_7 : Int × Bool × Unit) => Option.bind (units_Worth (w, digits, signed, ())) fun (y_8 : (Int × Int) × Bool × Unit) => Option.bind (ref12_Worth (w, digits, signed, ())) fun (y_9 : (Int × Int) × Bool × Unit) => if (eqi y.1.1 y_1.1.1 && (eqi y.1.2 y_1.1.2 && true)) = true then if Sx.eqb y.2.1 y_1.2.1 = true then if (eqs y_2.1.1 y_3.1.1 && (eqi y_2.1.2.1 y_3.1.2.1 && (eqi y_2.1.2.2 y_3.1.2.2 && true))) = true then if Sx.eqb y_2.2.1 y_3.2.1 = true then if (eqi y_4.1.1 y_5.1.1 && (eqi y_4.1.2 y_5.1.2 && true)) = true then if Sx.eqb y_4.2.1 y_5.2.1 = true then if eqi y_6.1 y_7.1 = true then if Sx.eqb y_6.2.1 y_7.2.1 = true then if (eqi y_8.1.1 y_9.1.1 && (eqi y_8.1.2 y_9.1.2 && true)) = true then if Sx.eqb y_8.2.1 y_9.2.1 = true then Option.bind (law12_awake ()) fun (y : Bool × Unit) => some (y.1, ()) else some (false, ()) else some (false, ()) else some (false, ()) else some (false, ()) else some (false, ()) else some (false, ()) else some (false, ()) else some (false, ()) else some (false, ()) else some (false, ())
def law12_UnitsTell_m0 (j1 : List UInt8 → Int → Int → List UInt8 → List UInt8 → Int → Int → Bool → Bool → Int × Int → Int × Int → Option (As [.bool])) (s : List UInt8) (a : Int × Int) (b : Int × Int) (num : Int) (den : Int) (from' : List UInt8) (to' : List UInt8) (w : Int) (digits : Int) (signed : Bool) : Option (As [.bool]) :=
  if gt (Int.ofNat (List.length s)) 40 = true then j1 s num den from' to' w digits signed true a b else if gt (Int.ofNat (List.length from')) 10 = true then j1 s num den from' to' w digits signed true a b else j1 s num den from' to' w digits signed (gt (Int.ofNat (List.length to')) 10) a b
def law12_UnitsTell_K3 (num : Int) (den : Int) (from' : List UInt8) (to' : List UInt8) (w : Int) (digits : Int) (signed : Bool) (t109 : Bool) (a : Int × Int) : Option (As [.bool]) := law12_UnitsTell_m3 num den from' to' w digits signed t109 a
def law12_UnitsTell_K2 (num : Int) (den : Int) (from' : List UInt8) (to' : List UInt8) (w : Int) (digits : Int) (signed : Bool) (t83 : Bool) (a : Int × Int) (b : Int × Int) : Option (As [.bool]) := law12_UnitsTell_m2 (law12_UnitsTell_K3) num den from' to' w digits signed t83 a b
def law12_UnitsTell_K1 (s : List UInt8) (num : Int) (den : Int) (from' : List UInt8) (to' : List UInt8) (w : Int) (digits : Int) (signed : Bool) (t57 : Bool) (a : Int × Int) (b : Int × Int) : Option (As [.bool]) := law12_UnitsTell_m1 (law12_UnitsTell_K2) s num den from' to' w digits signed t57 a b
def law12_UnitsTell (x : As [.str, .pr (.int .i64) (.int .u8), .pr (.int .i64) (.int .u8), .int .i64, .int .i64, .str, .str, .int .u16, .int .i64, .bool]) : Option (As [.bool]) := law12_UnitsTell_m0 law12_UnitsTell_K1 x.1 x.2.1 x.2.2.1 x.2.2.2.1 x.2.2.2.2.1 x.2.2.2.2.2.1 x.2.2.2.2.2.2.1 x.2.2.2.2.2.2.2.1 x.2.2.2.2.2.2.2.2.1 x.2.2.2.2.2.2.2.2.2.1
theorem law12_UnitsTell_c3 (J : Orc (As [.bool])) (num : Int) (den : Int) (from' : List UInt8) (to' : List UInt8) (w : Int) (digits : Int) (signed : Bool) (t109 : Bool) (a : Int × Int) : pfn Tryd.prog law12_UnitsTell_e 6 18446744073709551616 (Ev.get law12_UnitsTell_h) 5 law12_UnitsTell_s J 126 [] (law12_UnitsTell_k3 num den from' to' w digits signed t109 a) = law12_UnitsTell_m3 num den from' to' w digits signed t109 a := by kernel_rfl
theorem law12_UnitsTell_c2 (J : Orc (As [.bool])) (num : Int) (den : Int) (from' : List UInt8) (to' : List UInt8) (w : Int) (digits : Int) (signed : Bool) (t83 : Bool) (a : Int × Int) (b : Int × Int) : pfn Tryd.prog law12_UnitsTell_e 6 18446744073709551616 (Ev.get law12_UnitsTell_h) 5 law12_UnitsTell_s J 62 [] (law12_UnitsTell_k2 num den from' to' w digits signed t83 a b) = law12_UnitsTell_m2 (fun num den from' to' w digits signed t109 a => J 126 [] (law12_UnitsTell_k3 num den from' to' w digits signed t109 a)) num den from' to' w digits signed t83 a b := by kernel_rfl
theorem law12_UnitsTell_c1 (J : Orc (As [.bool])) (s : List UInt8) (num : Int) (den : Int) (from' : List UInt8) (to' : List UInt8) (w : Int) (digits : Int) (signed : Bool) (t57 : Bool) (a : Int × Int) (b : Int × Int) : pfn Tryd.prog law12_UnitsTell_e 6 18446744073709551616 (Ev.get law12_UnitsTell_h) 5 law12_UnitsTell_s J 6 [] (law12_UnitsTell_k1 s num den from' to' w digits signed t57 a b) = law12_UnitsTell_m1 (fun num den from' to' w digits signed t83 a b => J 62 [] (law12_UnitsTell_k2 num den from' to' w digits signed t83 a b)) s num den from' to' w digits signed t57 a b := by kernel_rfl
theorem law12_UnitsTell_c0 (J : Orc (As [.bool])) (x : As [.str, .pr (.int .i64) (.int .u8), .pr (.int .i64) (.int .u8), .int .i64, .int .i64, .str, .str, .int .u16, .int .i64, .bool]) : rfn Tryd.prog law12_UnitsTell_e 6 18446744073709551616 (Ev.get law12_UnitsTell_h) 5 law12_UnitsTell_s J x = law12_UnitsTell_m0 (fun s num den from' to' w digits signed t57 a b => J 6 [] (law12_UnitsTell_k1 s num den from' to' w digits signed t57 a b)) x.1 x.2.1 x.2.2.1 x.2.2.2.1 x.2.2.2.2.1 x.2.2.2.2.2.1 x.2.2.2.2.2.2.1 x.2.2.2.2.2.2.2.1 x.2.2.2.2.2.2.2.2.1 x.2.2.2.2.2.2.2.2.2.1 := by kernel_rfl
theorem law12_UnitsTell_g3 (num : Int) (den : Int) (from' : List UInt8) (to' : List UInt8) (w : Int) (digits : Int) (signed : Bool) (t109 : Bool) (a : Int × Int) : jfn Tryd.prog law12_UnitsTell_e 6 18446744073709551616 (Ev.get law12_UnitsTell_h) 5 law12_UnitsTell_s 126 [] (law12_UnitsTell_k3 num den from' to' w digits signed t109 a) = law12_UnitsTell_K3 num den from' to' w digits signed t109 a := by
  rw [pfn_eq (by decide)]
  rw [law12_UnitsTell_c3]
  rfl
theorem law12_UnitsTell_g2 (num : Int) (den : Int) (from' : List UInt8) (to' : List UInt8) (w : Int) (digits : Int) (signed : Bool) (t83 : Bool) (a : Int × Int) (b : Int × Int) : jfn Tryd.prog law12_UnitsTell_e 6 18446744073709551616 (Ev.get law12_UnitsTell_h) 5 law12_UnitsTell_s 62 [] (law12_UnitsTell_k2 num den from' to' w digits signed t83 a b) = law12_UnitsTell_K2 num den from' to' w digits signed t83 a b := by
  rw [pfn_eq (by decide)]
  have e3 : (fun num den from' to' w digits signed t109 a => (jfn Tryd.prog law12_UnitsTell_e 6 18446744073709551616 (Ev.get law12_UnitsTell_h) 5 law12_UnitsTell_s) 126 [] (law12_UnitsTell_k3 num den from' to' w digits signed t109 a)) = law12_UnitsTell_K3 := funext fun num => funext fun den => funext fun from' => funext fun to' => funext fun w => funext fun digits => funext fun signed => funext fun t109 => funext fun a => law12_UnitsTell_g3 num den from' to' w digits signed t109 a
  rw [law12_UnitsTell_c2, e3]
  rfl
theorem law12_UnitsTell_g1 (s : List UInt8) (num : Int) (den : Int) (from' : List UInt8) (to' : List UInt8) (w : Int) (digits : Int) (signed : Bool) (t57 : Bool) (a : Int × Int) (b : Int × Int) : jfn Tryd.prog law12_UnitsTell_e 6 18446744073709551616 (Ev.get law12_UnitsTell_h) 5 law12_UnitsTell_s 6 [] (law12_UnitsTell_k1 s num den from' to' w digits signed t57 a b) = law12_UnitsTell_K1 s num den from' to' w digits signed t57 a b := by
  rw [pfn_eq (by decide)]
  have e2 : (fun num den from' to' w digits signed t83 a b => (jfn Tryd.prog law12_UnitsTell_e 6 18446744073709551616 (Ev.get law12_UnitsTell_h) 5 law12_UnitsTell_s) 62 [] (law12_UnitsTell_k2 num den from' to' w digits signed t83 a b)) = law12_UnitsTell_K2 := funext fun num => funext fun den => funext fun from' => funext fun to' => funext fun w => funext fun digits => funext fun signed => funext fun t83 => funext fun a => funext fun b => law12_UnitsTell_g2 num den from' to' w digits signed t83 a b
  rw [law12_UnitsTell_c1, e2]
  rfl
theorem law12_UnitsTell_t (x : As [.str, .pr (.int .i64) (.int .u8), .pr (.int .i64) (.int .u8), .int .i64, .int .i64, .str, .str, .int .u16, .int .i64, .bool]) : evT Tryd.prog law12_UnitsTell_e 6 18446744073709551616 (Ev.get law12_UnitsTell_h) 5 law12_UnitsTell_s x = law12_UnitsTell x := by
  have e1 : (fun s num den from' to' w digits signed t57 a b => (jfn Tryd.prog law12_UnitsTell_e 6 18446744073709551616 (Ev.get law12_UnitsTell_h) 5 law12_UnitsTell_s) 6 [] (law12_UnitsTell_k1 s num den from' to' w digits signed t57 a b)) = law12_UnitsTell_K1 := funext fun s => funext fun num => funext fun den => funext fun from' => funext fun to' => funext fun w => funext fun digits => funext fun signed => funext fun t57 => funext fun a => funext fun b => law12_UnitsTell_g1 s num den from' to' w digits signed t57 a b
  rw [rfn_eq, law12_UnitsTell_c0, e1]
  rfl
theorem law12_UnitsTell_ok : CtOk Tryd.prog I0 5 ⟨law12_UnitsTell_s, law12_UnitsTell⟩ := ct_of_ev (env_cons law12_awake_ok (env_cons units_Parse_ok (env_cons ref12_Parse_ok (env_cons units_Right_ok (env_cons ref12_Right_ok (env_cons units_Show_ok (env_cons ref12_Show_ok (env_cons units_Cmp_ok (env_cons ref12_Cmp_ok (env_cons units_Times_ok (env_cons ref12_Times_ok (env_cons units_Known_ok (env_cons ref12_Known_ok (env_cons units_To_ok (env_cons ref12_To_ok (env_cons units_Word_ok (env_cons ref12_Word_ok (env_cons units_Worth_ok (env_cons ref12_Worth_ok env_nil))))))))))))))))))) law12_UnitsTell_t
end Go.Proofs.Lx

end

section
/- The loops of UnitsTell, by name. -/
namespace Go.Proofs.Lx
open Go Ev Sx Pl
def units_Times_K3_F  := (fun (self : (Int) × (Int) × (Int) × (Int) × (Int) × (Int) → Option (As [.pr (.int .i64) (.int .u8), .bool])) (s : (Int) × (Int) × (Int) × (Int) × (Int) × (Int)) => units_Times_m3 (units_Times_K4 (fun q places d d_2 t6 t6_2 => self (q, places, d, d_2, t6, t6_2))) (fun q places d d_2 t6 t6_2 => self (q, places, d, d_2, t6, t6_2)) s.1 s.2.1 s.2.2.1 s.2.2.2.1 s.2.2.2.2.1 s.2.2.2.2.2)
theorem units_Times_K3_Fe  (self : (Int) × (Int) × (Int) × (Int) × (Int) × (Int) → Option (As [.pr (.int .i64) (.int .u8), .bool])) (q : Int) (places : Int) (d : Int) (d_2 : Int) (t6 : Int) (t6_2 : Int) : units_Times_K3_F self (q, places, d, d_2, t6, t6_2) = units_Times_m3 (units_Times_K4 (fun q places d d_2 t6 t6_2 => self (q, places, d, d_2, t6, t6_2))) (fun q places d d_2 t6 t6_2 => self (q, places, d, d_2, t6, t6_2)) q places d d_2 t6 t6_2 := rfl
theorem units_Times_K3_Ke  (q : Int) (places : Int) (d : Int) (d_2 : Int) (t6 : Int) (t6_2 : Int) : units_Times_K3 q places d d_2 t6 t6_2 = loopF (units_Times_K3_F) 18446744073709551616 (q, places, d, d_2, t6, t6_2) := rfl
def units_Worth_K3_F  := (fun (self : (Int) × (Int) × (Int × Int) → Option (As [.pr (.int .i64) (.int .u8), .bool])) (s : (Int) × (Int) × (Int × Int)) => units_Worth_m3 (units_Worth_K4 (fun digits n t6 => self (digits, n, t6))) (fun digits n t6 => self (digits, n, t6)) s.1 s.2.1 s.2.2)
theorem units_Worth_K3_Fe  (self : (Int) × (Int) × (Int × Int) → Option (As [.pr (.int .i64) (.int .u8), .bool])) (digits : Int) (n : Int) (t6 : Int × Int) : units_Worth_K3_F self (digits, n, t6) = units_Worth_m3 (units_Worth_K4 (fun digits n t6 => self (digits, n, t6))) (fun digits n t6 => self (digits, n, t6)) digits n t6 := rfl
theorem units_Worth_K3_Ke  (digits : Int) (n : Int) (t6 : Int × Int) : units_Worth_K3 digits n t6 = loopF (units_Worth_K3_F) 18446744073709551616 (digits, n, t6) := rfl
def ref12_Of_K1_F  := (fun (self : (Int) × (Int) × (Int) × (Int) → Option (As [.pr (.int .i64) (.int .u8), .bool])) (s : (Int) × (Int) × (Int) × (Int)) => ref12_Of_m1 (ref12_Of_K2 (fun n digits t4 t4_2 => self (n, digits, t4, t4_2))) (fun n digits t4 t4_2 => self (n, digits, t4, t4_2)) s.1 s.2.1 s.2.2.1 s.2.2.2)
theorem ref12_Of_K1_Fe  (self : (Int) × (Int) × (Int) × (Int) → Option (As [.pr (.int .i64) (.int .u8), .bool])) (n : Int) (digits : Int) (t4 : Int) (t4_2 : Int) : ref12_Of_K1_F self (n, digits, t4, t4_2) = ref12_Of_m1 (ref12_Of_K2 (fun n digits t4 t4_2 => self (n, digits, t4, t4_2))) (fun n digits t4 t4_2 => self (n, digits, t4, t4_2)) n digits t4 t4_2 := rfl
def ref12_common_K1_F  := (fun (self : (Int) × (Int) → Option (As [.int .i64])) (s : (Int) × (Int)) => ref12_common_m1 (fun a b => self (a, b)) s.1 s.2)
theorem ref12_common_K1_Fe  (self : (Int) × (Int) → Option (As [.int .i64])) (a : Int) (b : Int) : ref12_common_K1_F self (a, b) = ref12_common_m1 (fun a b => self (a, b)) a b := rfl
def ref12_Times_K3_F  := (fun (self : (Int) × (Int) × (Int) × (Int) × (Int) × (Int) × (Int) × (Int) × (Int) × (Int) → Option (As [.pr (.int .i64) (.int .u8), .bool])) (s : (Int) × (Int) × (Int) × (Int) × (Int) × (Int) × (Int) × (Int) × (Int) × (Int)) => ref12_Times_m3 (ref12_Times_K4) (fun num den n sign ten i d d_2 t6 t6_2 => self (num, den, n, sign, ten, i, d, d_2, t6, t6_2)) s.1 s.2.1 s.2.2.1 s.2.2.2.1 s.2.2.2.2.1 s.2.2.2.2.2.1 s.2.2.2.2.2.2.1 s.2.2.2.2.2.2.2.1 s.2.2.2.2.2.2.2.2.1 s.2.2.2.2.2.2.2.2.2)
theorem ref12_Times_K3_Fe  (self : (Int) × (Int) × (Int) × (Int) × (Int) × (Int) × (Int) × (Int) × (Int) × (Int) → Option (As [.pr (.int .i64) (.int .u8), .bool])) (num : Int) (den : Int) (n : Int) (sign : Int) (ten : Int) (i : Int) (d : Int) (d_2 : Int) (t6 : Int) (t6_2 : Int) : ref12_Times_K3_F self (num, den, n, sign, ten, i, d, d_2, t6, t6_2) = ref12_Times_m3 (ref12_Times_K4) (fun num den n sign ten i d d_2 t6 t6_2 => self (num, den, n, sign, ten, i, d, d_2, t6, t6_2)) num den n sign ten i d d_2 t6 t6_2 := rfl
theorem ref12_Times_K3_Ke  (num : Int) (den : Int) (n : Int) (sign : Int) (ten : Int) (i : Int) (d : Int) (d_2 : Int) (t6 : Int) (t6_2 : Int) : ref12_Times_K3 num den n sign ten i d d_2 t6 t6_2 = loopF (ref12_Times_K3_F) 18446744073709551616 (num, den, n, sign, ten, i, d, d_2, t6, t6_2) := rfl
def ref12_Times_K5_F  := (fun (self : (Int) × (Int) × (Int) × (Int) × (Int) × (Int) × (Int) → Option (As [.pr (.int .i64) (.int .u8), .bool])) (s : (Int) × (Int) × (Int) × (Int) × (Int) × (Int) × (Int)) => ref12_Times_m5 (ref12_Times_K6) (fun num n sign below k t6 t6_2 => self (num, n, sign, below, k, t6, t6_2)) s.1 s.2.1 s.2.2.1 s.2.2.2.1 s.2.2.2.2.1 s.2.2.2.2.2.1 s.2.2.2.2.2.2)
theorem ref12_Times_K5_Fe  (self : (Int) × (Int) × (Int) × (Int) × (Int) × (Int) × (Int) → Option (As [.pr (.int .i64) (.int .u8), .bool])) (num : Int) (n : Int) (sign : Int) (below : Int) (k : Int) (t6 : Int) (t6_2 : Int) : ref12_Times_K5_F self (num, n, sign, below, k, t6, t6_2) = ref12_Times_m5 (ref12_Times_K6) (fun num n sign below k t6 t6_2 => self (num, n, sign, below, k, t6, t6_2)) num n sign below k t6 t6_2 := rfl
theorem ref12_Times_K5_Ke  (num : Int) (n : Int) (sign : Int) (below : Int) (k : Int) (t6 : Int) (t6_2 : Int) : ref12_Times_K5 num n sign below k t6 t6_2 = loopF (ref12_Times_K5_F) 18446744073709551616 (num, n, sign, below, k, t6, t6_2) := rfl
def ref12_Show_K2_F  := (fun (self : (List UInt8) × (List UInt8) × (Int × Int) → Option (As [.str])) (s : (List UInt8) × (List UInt8) × (Int × Int)) => ref12_Show_m2 (ref12_Show_K3) (fun sign s d => self (sign, s, d)) s.1 s.2.1 s.2.2)
theorem ref12_Show_K2_Fe  (self : (List UInt8) × (List UInt8) × (Int × Int) → Option (As [.str])) (sign : List UInt8) (s : List UInt8) (d : Int × Int) : ref12_Show_K2_F self (sign, s, d) = ref12_Show_m2 (ref12_Show_K3) (fun sign s d => self (sign, s, d)) sign s d := rfl
theorem ref12_Show_K2_Ke  (sign : List UInt8) (s : List UInt8) (d : Int × Int) : ref12_Show_K2 sign s d = loopF (ref12_Show_K2_F) 18446744073709551616 (sign, s, d) := rfl
def ref12_millionth_K1_F  := (fun (self : (Int) × (Int) → Option (As [.int .i64])) (s : (Int) × (Int)) => ref12_millionth_m1 (fun n i => self (n, i)) s.1 s.2)
theorem ref12_millionth_K1_Fe  (self : (Int) × (Int) → Option (As [.int .i64])) (n : Int) (i : Int) : ref12_millionth_K1_F self (n, i) = ref12_millionth_m1 (fun n i => self (n, i)) n i := rfl
theorem ref12_millionth_K1_Ke  (n : Int) (i : Int) : ref12_millionth_K1 n i = loopF (ref12_millionth_K1_F) 18446744073709551616 (n, i) := rfl
def ref12_Word_K2_F  := (fun (self : (Int) × (Bool) × (Int) × (Int) → Option (As [.int .u16, .bool])) (s : (Int) × (Bool) × (Int) × (Int)) => ref12_Word_m2 (ref12_Word_K3) (fun digits signed n i => self (digits, signed, n, i)) s.1 s.2.1 s.2.2.1 s.2.2.2)
theorem ref12_Word_K2_Fe  (self : (Int) × (Bool) × (Int) × (Int) → Option (As [.int .u16, .bool])) (digits : Int) (signed : Bool) (n : Int) (i : Int) : ref12_Word_K2_F self (digits, signed, n, i) = ref12_Word_m2 (ref12_Word_K3) (fun digits signed n i => self (digits, signed, n, i)) digits signed n i := rfl
theorem ref12_Word_K2_Ke  (digits : Int) (signed : Bool) (n : Int) (i : Int) : ref12_Word_K2 digits signed n i = loopF (ref12_Word_K2_F) 18446744073709551616 (digits, signed, n, i) := rfl
end Go.Proofs.Lx

end

section
/- The program's product of a decimal and a fraction. -/
namespace Go.Proofs.Lx
open Go Ev Sx Pl
set_option maxRecDepth 100000
def sgn (sg : Bool) (n : Nat) : Int := if sg then -(n : Int) else (n : Int)
def tmS (sg : Bool) : Option (Nat × Nat) → (Int × Int) × Bool
  | some (w, k) => ((sgn sg w, (k : Int)), true)
  | none => ((0, 0), false)
def timesQ (P den : Nat) : Option (Nat × Nat) := if P % den = 0 then okN (stN 6 (P / den)) else none
theorem timesN_Q {n num den D : Nat} (hden : 0 < den) (h6 : D ≤ 6) : timesN (n * num) (den * 10 ^ D) = timesQ (n * 10 ^ (6 - D) * num) den := by
  have hp : 0 < 10 ^ D := Nat.pow_pos (by omega)
  have e : n * num * 1000000 = n * 10 ^ (6 - D) * num * 10 ^ D := by
    have : (1000000 : Nat) = 10 ^ (6 - D) * 10 ^ D := by rw [← Nat.pow_add, show 6 - D + D = 6 by omega]
    rw [this]
    ac_rfl
  unfold timesN timesQ
  rw [e, Nat.mul_mod_mul_right, Nat.mul_div_mul_right _ _ hp]
  generalize n * 10 ^ (6 - D) * num % den = r
  by_cases hr : r = 0
  · rw [if_pos hr, if_pos (by rw [hr, Nat.zero_mul])]
  · rw [if_neg hr, if_neg]
    intro h
    rcases Nat.mul_eq_zero.1 h with h | h
    · exact hr h
    · omega
theorem stN_le (k v : Nat) : (stN k v).2 ≤ v := by
  obtain ⟨_, h⟩ := stN_spec k v
  have hp : 0 < 10 ^ (k - (stN k v).1) := Nat.pow_pos (by omega)
  rw [show v = (stN k v).2 * 10 ^ (k - (stN k v).1) from h]
  have := Nat.le_mul_of_pos_right (stN k v).2 hp
  rw [← h]
  rw [← h] at this
  exact this
theorem times_loop (d d2 a b : Int) : ∀ (p v N : Nat), p ≤ 6 → v < 18446744073709551616 →
    loopF units_Times_K3_F (N + p + 1) ((v : Int), (p : Int), d, d2, a, b) = units_Times_K5 ((stN p v).2 : Int) ((stN p v).1 : Int) d d2 a b
  | 0, v, N, _, _ => by
    rw [loopF_succ, units_Times_K3_Fe]
    unfold units_Times_m3
    rw [if_neg (by rw [gt_iff]; omega)]
    unfold units_Times_K4 units_Times_m4
    rw [if_neg (by decide)]
    rfl
  | p + 1, v, N, h6, hv => by
    rw [loopF_succ, units_Times_K3_Fe]
    unfold units_Times_m3
    rw [if_pos (by rw [gt_iff]; omega)]
    unfold units_Times_K4 units_Times_m4 stN
    have hr : rem (v : Int) 10 = ((v % 10 : Nat) : Int) := rfl
    by_cases hz : v % 10 = 0
    · rw [if_pos (by rw [eqi_iff, hr]; omega), if_pos hz]
      have e1 : quo .u64 (v : Int) 10 = ((v / 10 : Nat) : Int) := by
        rw [quou (by omega) (by omega) (by decide)]
        omega
      have e2 : sub .u8 ((p + 1 : Nat) : Int) 1 = (p : Int) := by
        unfold sub
        rw [wu8 (by omega) (by omega)]
        omega
      rw [e1, e2]
      exact times_loop d d2 a b p (v / 10) N (by omega) (by omega)
    · rw [if_neg (by rw [eqi_iff, hr]; omega), if_neg hz]
theorem times_K5 {sg : Bool} {n : Nat} {d : Int} (d2 a b : Int) (hd : d = sgn sg n) (hn : sg = true → n ≠ 0) {q k : Nat} (hq : q ≤ 18446744073709551615) (hk : k ≤ 6) :
    units_Times_K5 (q : Int) (k : Int) d d2 a b = some ((tmS sg (okN (k, q))).1, (tmS sg (okN (k, q))).2, ()) := by
  unfold units_Times_K5 units_Times_m5 okN
  by_cases h : q ≤ 1000000000000
  · rw [if_neg (by rw [gt_iff]; omega)]
    dsimp only
    rw [if_pos h, cvt64 (by omega) (by omega)]
    cases sg with
    | true =>
      have := hn rfl
      have e : d = -(n : Int) := hd
      rw [if_pos (by rw [lt_iff]; omega), neg64 (by omega) (by omega)]
      rfl
    | false =>
      have e : d = (n : Int) := hd
      rw [if_neg (by rw [lt_iff]; omega)]
      rfl
  · rw [if_pos (by rw [gt_iff]; omega)]
    dsimp only
    rw [if_neg h]
    rfl
theorem times_K1 {sg : Bool} {n D num den : Nat} {d : Int} (hd : d = sgn sg n) (hn : sg = true → n ≠ 0) (hle : n ≤ 1000000000000) (h6 : D ≤ 6) (h1 : 1 ≤ num ∧ num ≤ 1000000000) (h2 : 1 ≤ den ∧ den ≤ 1000000000) (a b : Int) :
    units_Times_K1 (num : Int) (den : Int) false d (D : Int) a b = some ((tmS sg (timesQ (n * 10 ^ (6 - D) * num) den)).1, (tmS sg (timesQ (n * 10 ^ (6 - D) * num) den)).2, ()) := by
  have eK : units_Times_K1 (num : Int) (den : Int) false d (D : Int) a b = units_Times_K2 (num : Int) (den : Int) (n : Int) d (D : Int) a b := by
    unfold units_Times_K1 units_Times_m1
    rw [if_neg (by decide)]
    cases sg with
    | true =>
      have := hn rfl
      have e : d = -(n : Int) := hd
      rw [if_pos (by rw [lt_iff]; omega), neg64 (by omega) (by omega), e, Int.neg_neg]
    | false =>
      have e : d = (n : Int) := hd
      rw [if_neg (by rw [lt_iff]; omega)]
      rw [e]
  rw [eK]
  unfold units_Times_K2 units_Times_m2
  have e6 : sub .i64 6 (cvt .i64 (D : Int)) = ((6 - D : Nat) : Int) := by
    rw [cvt64 (by omega) (by omega), sub64 (by omega) (by omega)]
    omega
  have hpow : 10 ^ (6 - D) ≤ 10 ^ 6 := Nat.pow_le_pow_right (by omega) (by omega)
  have hX : n * 10 ^ (6 - D) ≤ 1000000000000 * 10 ^ 6 := Nat.mul_le_mul hle hpow
  have emul : mul .i64 (n : Int) ((10 ^ (6 - D) : Nat) : Int) = ((n * 10 ^ (6 - D) : Nat) : Int) := by
    rw [mul64 (by rw [← Int.natCast_mul]; omega) (by rw [← Int.natCast_mul]; omega)]
    simp
  rw [e6, power_eq (by omega), Option.bind_some]
  dsimp only
  rw [emul]
  generalize n * 10 ^ (6 - D) = X at hX
  have hPb : X * num ≤ 1000000000000 * 10 ^ 6 * 1000000000 := Nat.mul_le_mul hX h1.2
  have c1 : cvt .u64 (X : Int) = (X : Int) := by rw [cvtu]; omega
  have c2 : cvt .u64 (num : Int) = (num : Int) := by rw [cvtu]; omega
  have c3 : cvt .u64 (den : Int) = (den : Int) := by rw [cvtu]; omega
  rw [c1, c2, c3, mul64_eq (by omega) (by omega) (by omega) (by omega), Option.bind_some]
  dsimp only
  have hcast : (X : Int) * (num : Int) = ((X * num : Nat) : Int) := by simp
  rw [hcast]
  generalize hP : X * num = P at hPb
  unfold timesQ
  by_cases q1 : (den : Int) ≤ (P : Int) / 18446744073709551616
  · rw [if_pos (by rw [ge_iff]; exact q1)]
    have hQ : 18446744073709551616 ≤ P / den := by
      rw [Nat.le_div_iff_mul_le (by omega)]
      omega
    have hnone : okN (stN 6 (P / den)) = none := by
      unfold okN
      rw [if_neg]
      intro hw
      obtain ⟨g1, g2⟩ := stN_spec 6 (P / den)
      have hp : 10 ^ (6 - (stN 6 (P / den)).1) ≤ 10 ^ 6 := Nat.pow_le_pow_right (by omega) (by omega)
      have := Nat.mul_le_mul hw hp
      rw [← g2] at this
      omega
    rw [hnone, ite_self]
    rfl
  · rw [if_neg (by rw [ge_iff]; exact q1)]
    rw [div64_eq (hi := (P : Int) / 18446744073709551616) (lo := (P : Int) % 18446744073709551616) (by omega) (by omega) (by omega) (by omega) (by omega) (by omega)]
    have eP : (P : Int) / 18446744073709551616 * 18446744073709551616 + (P : Int) % 18446744073709551616 = (P : Int) := by omega
    rw [eP, Option.bind_some]
    dsimp only
    have eq : (P : Int) / (den : Int) = ((P / den : Nat) : Int) := rfl
    have er : (P : Int) % (den : Int) = ((P % den : Nat) : Int) := rfl
    rw [eq, er]
    by_cases q2 : P % den = 0
    · rw [if_neg (by rw [nei_iff]; omega), if_pos q2]
      have hQ1 : P / den < 18446744073709551616 := by
        rw [Nat.div_lt_iff_lt_mul (by omega)]
        omega
      obtain ⟨g1, _⟩ := stN_spec 6 (P / den)
      have g2 := stN_le 6 (P / den)
      rw [units_Times_K3_Ke]
      have := times_loop d (D : Int) a b 6 (P / den) 18446744073709551609 (by omega) hQ1
      refine Eq.trans this ?_
      exact times_K5 _ _ _ hd hn (by omega) g1
    · rw [if_pos (by rw [nei_iff]; omega), if_neg q2]
      rfl
theorem times_eq {d : Int × Int} {sg : Bool} {n D num den : Nat} (hd : RtD d sg n D) (h1 : 1 ≤ num ∧ num ≤ 1000000000) (h2 : 1 ≤ den ∧ den ≤ 1000000000) :
    units_Times (d, (num : Int), (den : Int), ()) = some ((tmS sg (timesN (n * num) (den * 10 ^ D))).1, (tmS sg (timesN (n * num) (den * 10 ^ D))).2, ()) := by
  rw [timesN_Q (by omega) hd.d6]
  show units_Times_m0 units_Times_K1 d (num : Int) (den : Int) = _
  unfold units_Times_m0
  rw [hd.right, Option.bind_some]
  dsimp only
  rw [if_neg (by decide), if_neg (by rw [lt_iff]; omega), if_neg (by rw [gt_iff]; omega), if_neg (by rw [lt_iff]; omega)]
  have : gt (den : Int) 1000000000 = false := by
    rw [gt_dec, decide_eq_false]; omega
  rw [this, hd.e2]
  exact times_K1 hd.e1 hd.nz hd.le hd.d6 h1 h2 _ _
theorem times_bad {d : Int × Int} {num den : Int} (h : units_Right (d, ()) = some (false, ()) ∨ (units_Right (d, ()) = some (true, ()) ∧ ¬ (1 ≤ num ∧ num ≤ 1000000000 ∧ 1 ≤ den ∧ den ≤ 1000000000))) :
    units_Times (d, num, den, ()) = some ((0, 0), false, ()) := by
  show units_Times_m0 units_Times_K1 d num den = _
  unfold units_Times_m0
  rcases h with h | ⟨h, hb⟩
  · rw [h, Option.bind_some]
    dsimp only
    rw [if_pos (by decide)]
    rfl
  · rw [h, Option.bind_some]
    dsimp only
    rw [if_neg (by decide)]
    by_cases b1 : num < 1
    · rw [if_pos (lt_iff.2 b1)]; rfl
    rw [if_neg (fun e => b1 (lt_iff.1 e))]
    by_cases b2 : 1000000000 < num
    · rw [if_pos (gt_iff.2 b2)]; rfl
    rw [if_neg (fun e => b2 (gt_iff.1 e))]
    by_cases b3 : den < 1
    · rw [if_pos (lt_iff.2 b3)]; rfl
    rw [if_neg (fun e => b3 (lt_iff.1 e)), gt_iff.2 (show 1000000000 < den by omega)]
    rfl
end Go.Proofs.Lx

end

section
/- The document's product of a decimal and a fraction. -/
namespace Go.Proofs.Lx
open Go Ev Sx Pl
set_option maxRecDepth 100000
theorem quon {a b : Nat} (ha : a ≤ 9223372036854775807) : quo .i64 (a : Int) (b : Int) = ((a / b : Nat) : Int) := by
  have e : ((a : Int)).tdiv (b : Int) = ((a / b : Nat) : Int) := rfl
  have h := Nat.div_le_self a b
  unfold quo
  rw [e]
  generalize a / b = q at h ⊢
  exact w64 (by omega) (by omega)
theorem mulnn {a b : Nat} (h : a * b ≤ 9223372036854775807) : mul .i64 (a : Int) (b : Int) = ((a * b : Nat) : Int) := by
  rw [mul64 (by rw [← Int.natCast_mul]; omega) (by rw [← Int.natCast_mul]; omega)]
  simp
theorem common_loop : ∀ (b N a : Nat), b ≤ N → loopF ref12_common_K1_F (N + 1) ((a : Int), (b : Int)) = some (((Nat.gcd a b : Nat) : Int), ())
  | b, N, a, h => by
    rw [loopF_succ, ref12_common_K1_Fe]
    unfold ref12_common_m1
    by_cases hb : b = 0
    · subst hb
      rw [if_neg (by rw [nei_iff]; simp)]
      simp
    · have hnb : nei (b : Int) 0 = true := by rw [nei_iff]; omega
      rw [if_pos hnb, need_t hnb]
      have er : rem (a : Int) (b : Int) = ((a % b : Nat) : Int) := rfl
      rw [er]
      have hlt := Nat.mod_lt a (Nat.pos_of_ne_zero hb)
      match N, h with
      | 0, h => omega
      | N + 1, h =>
        have ih := common_loop (a % b) N b (by omega)
        refine Eq.trans ih ?_
        rw [Nat.gcd_comm b, ← Nat.gcd_rec, Nat.gcd_comm]
termination_by b => b
theorem common_eq {a b : Nat} (hb : b ≤ 9223372036854775807) : ref12_common ((a : Int), (b : Int), ()) = some (((Nat.gcd a b : Nat) : Int), ()) :=
  common_loop b 18446744073709551615 a (by omega)
theorem sgn_mod (sg : Bool) (v : Nat) : rem (sgn sg v) 10 = 0 ↔ v % 10 = 0 := by
  unfold rem sgn
  cases sg with
  | true =>
    rw [if_pos rfl, Int.neg_tmod]
    show -((v % 10 : Nat) : Int) = 0 ↔ _
    omega
  | false =>
    show ((v % 10 : Nat) : Int) = 0 ↔ _
    omega
theorem sgn_div (sg : Bool) {v : Nat} (h : v ≤ 9223372036854775807) : quo .i64 (sgn sg v) 10 = sgn sg (v / 10) := by
  unfold quo sgn
  cases sg with
  | true =>
    rw [if_pos rfl, if_pos rfl, Int.neg_tdiv]
    show IntKind.i64.wrap (-((v / 10 : Nat) : Int)) = _
    exact w64 (by omega) (by omega)
  | false =>
    show IntKind.i64.wrap ((v / 10 : Nat) : Int) = ((v / 10 : Nat) : Int)
    exact w64 (by omega) (by omega)
theorem of_K3 (sg : Bool) {k v : Nat} (hk : k ≤ 6) (a b : Int) : ref12_Of_K3 (sgn sg v) (k : Int) a b = some ((tmS sg (okN (k, v))).1, (tmS sg (okN (k, v))).2, ()) := by
  unfold ref12_Of_K3 ref12_Of_m3 ref12_Of_K4 ref12_Of_m4 okN
  rw [if_neg (by rw [gt_iff]; omega)]
  dsimp only
  by_cases h : v ≤ 1000000000000
  · have b1 : -1000000000000 ≤ sgn sg v ∧ sgn sg v ≤ 1000000000000 := by
      unfold sgn
      split <;> omega
    rw [if_neg (by rw [gt_iff]; omega), if_pos h, if_neg (by rw [lt_iff]; omega)]
    have : cvt .u8 (k : Int) = (k : Int) := wu8 (by omega) (by omega)
    rw [this]
    rfl
  · rw [if_neg h]
    cases sg with
    | true =>
      have e : sgn true v = -(v : Int) := rfl
      rw [if_neg (by rw [gt_iff]; omega), if_pos (by rw [lt_iff]; omega)]
      rfl
    | false =>
      have e : sgn false v = (v : Int) := rfl
      rw [if_pos (by rw [gt_iff]; omega), if_pos rfl]
      rfl
theorem ofN_loop (sg : Bool) (a b : Int) : ∀ (k v N : Nat), k ≤ 6 → v ≤ 9223372036854775807 →
    loopF ref12_Of_K1_F (N + k + 1) (sgn sg v, (k : Int), a, b) = some ((tmS sg (okN (stN k v))).1, (tmS sg (okN (stN k v))).2, ())
  | 0, v, N, _, _ => by
    rw [loopF_succ, ref12_Of_K1_Fe]
    unfold ref12_Of_m1
    rw [if_neg (by rw [gt_iff]; omega)]
    unfold ref12_Of_K2 ref12_Of_m2
    rw [if_neg (by decide)]
    exact of_K3 sg (by omega) a b
  | k + 1, v, N, h6, hv => by
    rw [loopF_succ, ref12_Of_K1_Fe]
    unfold ref12_Of_m1
    rw [if_pos (by rw [gt_iff]; omega)]
    unfold ref12_Of_K2 ref12_Of_m2 stN
    by_cases hz : v % 10 = 0
    · rw [if_pos (by rw [eqi_iff]; exact (sgn_mod sg v).2 hz), if_pos hz, sgn_div sg hv]
      have e2 : Sx.sub .i64 ((k + 1 : Nat) : Int) 1 = (k : Int) := by
        rw [sub64 (by omega) (by omega)]
        omega
      rw [e2]
      exact ofN_loop sg a b k (v / 10) N (by omega) (by omega)
    · rw [if_neg (by rw [eqi_iff]; exact fun e => hz ((sgn_mod sg v).1 e)), if_neg hz]
      exact of_K3 sg h6 a b
theorem ofN_eq (sg : Bool) {k v : Nat} (hk : k ≤ 6) (hv : v ≤ 9223372036854775807) : ref12_Of (sgn sg v, (k : Int), ()) = some ((tmS sg (okN (stN k v))).1, (tmS sg (okN (stN k v))).2, ()) := by
  have := ofN_loop sg 0 0 k v (18446744073709551615 - k) hk hv
  rw [show 18446744073709551615 - k + k + 1 = 18446744073709551616 by omega] at this
  exact this
def sgI (sg : Bool) : Int := if sg then -1 else 1
theorem sgI_mul {sg : Bool} {v : Nat} (h : v ≤ 9223372036854775807) : mul .i64 (sgI sg) (v : Int) = sgn sg v := by
  unfold sgI sgn
  cases sg with
  | true =>
    rw [if_pos rfl, if_pos rfl, mul64 (by omega) (by omega)]
    omega
  | false =>
    show mul .i64 1 (v : Int) = (v : Int)
    rw [mul64 (by omega) (by omega)]
    omega
theorem sgn_mul {sg : Bool} {v w : Nat} (h : v * w ≤ 9223372036854775807) : mul .i64 (sgn sg v) (w : Int) = sgn sg (v * w) := by
  unfold sgn
  cases sg with
  | true =>
    rw [if_pos rfl, if_pos rfl]
    have : -(v : Int) * (w : Int) = -((v * w : Nat) : Int) := by rw [Int.neg_mul]; simp
    rw [mul64 (by rw [this]; omega) (by rw [this]; omega), this]
  | false =>
    show mul .i64 (v : Int) (w : Int) = ((v * w : Nat) : Int)
    exact mulnn h
theorem ten_loop (num den n sign d a b : Int) (D : Nat) (h6 : D ≤ 6) : ∀ (r i N : Nat), i + r = D →
    loopF ref12_Times_K3_F (N + r + 1) (num, den, n, sign, ((10 ^ i : Nat) : Int), (i : Int), d, (D : Int), a, b) = ref12_Times_K4 num den n sign ((10 ^ D : Nat) : Int) a b
  | 0, i, N, h => by
    rw [loopF_succ, ref12_Times_K3_Fe]
    unfold ref12_Times_m3
    rw [cvt64 (by omega) (by omega), if_neg (by rw [lt_iff]; omega)]
    rw [show i = D by omega]
  | r + 1, i, N, h => by
    rw [loopF_succ, ref12_Times_K3_Fe]
    unfold ref12_Times_m3
    rw [cvt64 (by omega) (by omega), if_pos (by rw [lt_iff]; omega)]
    have hp : 10 ^ i ≤ 10 ^ 6 := Nat.pow_le_pow_right (by omega) (by omega)
    have e1 : mul .i64 ((10 ^ i : Nat) : Int) 10 = ((10 ^ (i + 1) : Nat) : Int) := by
      have : mul .i64 ((10 ^ i : Nat) : Int) ((10 : Nat) : Int) = _ := mulnn (by omega)
      rw [Nat.pow_succ]
      exact this
    rw [e1, succ64 (by omega)]
    exact ten_loop num den n sign d a b D h6 r (i + 1) N (by omega)
theorem gcd10_pos {b : Nat} : 0 < Nat.gcd b 10 := Nat.gcd_pos_of_pos_right _ (by decide)
theorem gcd10_le {b : Nat} : Nat.gcd b 10 ≤ 10 := Nat.gcd_le_right _ (by decide)
theorem refN_loop (sg : Bool) (num : Nat) (hnum : 1 ≤ num ∧ num ≤ 1000000000) (a b : Int) : ∀ (f k nn below N : Nat), k + f = 7 → 0 < below → below ≤ 9000000000000000 → nn ≤ 4000000000000000000 →
    loopF ref12_Times_K5_F (N + f + 1) ((num : Int), (nn : Int), sgI sg, (below : Int), (k : Int), a, b) = some ((tmS sg (refL num f k nn below)).1, (tmS sg (refL num f k nn below)).2, ())
  | 0, k, nn, below, N, hk, _, _, _ => by
    rw [loopF_succ, ref12_Times_K5_Fe]
    unfold ref12_Times_m5
    rw [if_neg (by rw [le_iff]; omega)]
    rfl
  | f + 1, k, nn, below, N, hk, hb0, hb1, hnn => by
    rw [loopF_succ, ref12_Times_K5_Fe]
    unfold ref12_Times_m5 refL
    rw [if_pos (by rw [le_iff]; omega)]
    by_cases h1 : below = 1
    · rw [if_pos (by rw [eqi_iff]; omega), if_pos h1, need_t (by rw [nei_iff]; omega)]
      have e4 : quo .i64 4000000000000000000 (num : Int) = ((4000000000000000000 / num : Nat) : Int) := quon (a := 4000000000000000000) (by omega)
      rw [e4]
      by_cases h2 : 4000000000000000000 / num < nn
      · rw [if_pos (by rw [gt_iff]; omega), if_pos h2]
        rfl
      · rw [if_neg (by rw [gt_iff]; omega), if_neg h2]
        have hm : nn * num ≤ 4000000000000000000 := by
          have h3 : nn ≤ 4000000000000000000 / num := by omega
          exact (Nat.le_div_iff_mul_le (by omega)).1 h3
        rw [sgI_mul (by omega), sgn_mul (by omega), ofN_eq sg (by omega) (by omega), Option.bind_some]
    · rw [if_neg (by rw [eqi_iff]; omega), if_neg h1]
      have ec : ref12_common ((below : Int), 10, ()) = some (((Nat.gcd below 10 : Nat) : Int), ()) := common_eq (b := 10) (by omega)
      rw [ec, Option.bind_some]
      dsimp only
      have hg := gcd10_pos (b := below)
      have hg10 := gcd10_le (b := below)
      obtain ⟨d, hd⟩ := Nat.gcd_dvd_right below 10
      have hdd : 10 / Nat.gcd below 10 = d := Nat.div_eq_of_eq_mul_right hg hd
      have hdp : 0 < d := by
        rcases Nat.eq_zero_or_pos d with e | e
        · subst e; omega
        · exact e
      have hdle : d ≤ 10 := Nat.le_of_dvd (by omega) ⟨_, by rw [Nat.mul_comm]; exact hd⟩
      have ng : nei ((Nat.gcd below 10 : Nat) : Int) 0 = true := by rw [nei_iff]; omega
      have e10 : quo .i64 10 ((Nat.gcd below 10 : Nat) : Int) = ((10 / Nat.gcd below 10 : Nat) : Int) := quon (a := 10) (by omega)
      rw [need_t ng, need_t ng, e10, hdd, need_t (by rw [nei_iff]; omega)]
      have e4 : quo .i64 4000000000000000000 (d : Int) = ((4000000000000000000 / d : Nat) : Int) := quon (a := 4000000000000000000) (by omega)
      rw [e4]
      by_cases h2 : 4000000000000000000 / d < nn
      · rw [if_pos (by rw [gt_iff]; omega), if_pos h2]
        rfl
      · rw [if_neg (by rw [gt_iff]; omega), if_neg h2, need_t ng]
        have hm : nn * d ≤ 4000000000000000000 := by
          have h3 : nn ≤ 4000000000000000000 / d := by omega
          exact (Nat.le_div_iff_mul_le (by omega)).1 h3
        rw [mulnn (by omega), quon (by omega), succ64 (by omega)]
        have hq1 : 0 < below / Nat.gcd below 10 := Nat.div_pos (Nat.le_of_dvd hb0 (Nat.gcd_dvd_left _ _)) hg
        have hq2 := Nat.div_le_self below (Nat.gcd below 10)
        exact refN_loop sg num hnum a b f (k + 1) (nn * d) (below / Nat.gcd below 10) N (by omega) hq1 (by omega) hm
theorem rtimes_K4 (sg : Bool) {num den n ten : Nat} (h1 : 1 ≤ num ∧ num ≤ 1000000000) (h2 : 1 ≤ den ∧ den ≤ 1000000000) (hn : 1 ≤ n ∧ n ≤ 1000000000000) (ht : 1 ≤ ten ∧ ten ≤ 1000000) (a b : Int) :
    ref12_Times_K4 (num : Int) (den : Int) (n : Int) (sgI sg) (ten : Int) a b = some ((tmS sg (refL (num / Nat.gcd num ten) 7 0 (n / Nat.gcd n (ten / Nat.gcd num ten)) (den * (ten / Nat.gcd num ten / Nat.gcd n (ten / Nat.gcd num ten))))).1, (tmS sg (refL (num / Nat.gcd num ten) 7 0 (n / Nat.gcd n (ten / Nat.gcd num ten)) (den * (ten / Nat.gcd num ten / Nat.gcd n (ten / Nat.gcd num ten))))).2, ()) := by
  have g1 : 0 < Nat.gcd num ten := Nat.gcd_pos_of_pos_left _ (by omega)
  have l1 : Nat.gcd num ten ≤ num := Nat.gcd_le_left _ (by omega)
  have l2 : Nat.gcd num ten ≤ ten := Nat.gcd_le_right _ (by omega)
  have q1 : 0 < ten / Nat.gcd num ten := Nat.div_pos l2 g1
  have q1' := Nat.div_le_self ten (Nat.gcd num ten)
  have r1 : 0 < num / Nat.gcd num ten := Nat.div_pos l1 g1
  have r1' := Nat.div_le_self num (Nat.gcd num ten)
  unfold ref12_Times_K4 ref12_Times_m4
  rw [common_eq (by omega), Option.bind_some]
  dsimp only
  have ng : nei ((Nat.gcd num ten : Nat) : Int) 0 = true := by rw [nei_iff]; omega
  rw [need_t ng, need_t ng, quon (by omega), quon (by omega)]
  generalize ten / Nat.gcd num ten = t at q1 q1' ⊢
  generalize num / Nat.gcd num ten = m at r1 r1' ⊢
  have g2 : 0 < Nat.gcd n t := Nat.gcd_pos_of_pos_left _ (by omega)
  have k1 : Nat.gcd n t ≤ n := Nat.gcd_le_left _ (by omega)
  have k2 : Nat.gcd n t ≤ t := Nat.gcd_le_right _ (by omega)
  rw [common_eq (by omega), Option.bind_some]
  dsimp only
  have ng2 : nei ((Nat.gcd n t : Nat) : Int) 0 = true := by rw [nei_iff]; omega
  rw [need_t ng2, need_t ng2, quon (by omega), quon (by omega)]
  have q2 : 0 < t / Nat.gcd n t := Nat.div_pos k2 g2
  have q2' := Nat.div_le_self t (Nat.gcd n t)
  have r2' := Nat.div_le_self n (Nat.gcd n t)
  generalize t / Nat.gcd n t = u at q2 q2' ⊢
  generalize n / Nat.gcd n t = v at r2' ⊢
  have hb : den * u ≤ 1000000000 * 1000000 := Nat.mul_le_mul h2.2 (by omega)
  have hb0 : 0 < den * u := Nat.mul_pos (by omega) q2
  rw [mulnn (by omega), ref12_Times_K5_Ke]
  have := refN_loop sg m ⟨by omega, by omega⟩ a b 7 0 v (den * u) 18446744073709551608 rfl hb0 (by omega) (by omega)
  exact this
theorem rtimes_eq {d : Int × Int} {sg : Bool} {n D num den : Nat} (hd : RtD d sg n D) (h1 : 1 ≤ num ∧ num ≤ 1000000000) (h2 : 1 ≤ den ∧ den ≤ 1000000000) :
    ref12_Times (d, (num : Int), (den : Int), ()) = some ((tmS sg (timesN (n * num) (den * 10 ^ D))).1, (tmS sg (timesN (n * num) (den * 10 ^ D))).2, ()) := by
  have hle := hd.le
  have h6 := hd.d6
  have hr : ref12_Right (d, ()) = some (true, ()) := hd.right
  show ref12_Times_m0 ref12_Times_K1 d (num : Int) (den : Int) = _
  unfold ref12_Times_m0
  rw [hr, Option.bind_some]
  dsimp only
  rw [if_neg (by decide), if_neg (by rw [lt_iff]; omega), if_neg (by rw [gt_iff]; omega), if_neg (by rw [lt_iff]; omega)]
  have : gt (den : Int) 1000000000 = false := by
    rw [gt_dec, decide_eq_false]; omega
  rw [this, hd.e2]
  unfold ref12_Times_K1 ref12_Times_m1
  rw [if_neg (by decide)]
  have eK : (if lt d.1 0 = true then ref12_Times_K2 (num : Int) (den : Int) (neg .i64 d.1) (-1) d.1 (D : Int) 0 0 else ref12_Times_K2 (num : Int) (den : Int) d.1 1 d.1 (D : Int) 0 0) = ref12_Times_K2 (num : Int) (den : Int) (n : Int) (sgI sg) d.1 (D : Int) 0 0 := by
    have e1 := hd.e1
    cases sg with
    | true =>
      have := hd.nz rfl
      have e : d.1 = -(n : Int) := e1
      rw [if_pos (by rw [lt_iff]; omega), neg64 (by omega) (by omega)]
      have : -d.1 = (n : Int) := by omega
      rw [this]
      rfl
    | false =>
      have e : d.1 = (n : Int) := e1
      rw [if_neg (by rw [lt_iff]; omega), e]
      rfl
  refine Eq.trans eK ?_
  unfold ref12_Times_K2 ref12_Times_m2
  by_cases h0 : n = 0
  · subst h0
    rw [if_pos (by rw [eqi_iff]; rfl), Nat.zero_mul]
    have hs : sg = false := by
      cases sg with
      | true => exact absurd rfl (hd.nz rfl)
      | false => rfl
    subst hs
    have : timesN 0 (den * 10 ^ D) = some (0, 0) := by
      unfold timesN
      rw [Nat.zero_mul, Nat.zero_mod, if_pos rfl, Nat.zero_div]
      rfl
    rw [this]
    rfl
  · rw [if_neg (by rw [eqi_iff]; omega)]
    have hp : 0 < 10 ^ D := Nat.pow_pos (by omega)
    have hp' : 10 ^ D ≤ 10 ^ 6 := Nat.pow_le_pow_right (by omega) h6
    rw [← red_eq (by omega) (by omega) (by omega) hp]
    have g1 : 0 < Nat.gcd n den := Nat.gcd_pos_of_pos_left _ (by omega)
    have l1 : Nat.gcd n den ≤ n := Nat.gcd_le_left _ (by omega)
    have l2 : Nat.gcd n den ≤ den := Nat.gcd_le_right _ (by omega)
    have ng : nei ((Nat.gcd n den : Nat) : Int) 0 = true := by rw [nei_iff]; omega
    rw [common_eq (by omega), Option.bind_some]
    dsimp only
    rw [need_t ng, need_t ng, quon (by omega), quon (by omega)]
    have q1 : 0 < den / Nat.gcd n den := Nat.div_pos l2 g1
    have q1' := Nat.div_le_self den (Nat.gcd n den)
    have r1 : 0 < n / Nat.gcd n den := Nat.div_pos l1 g1
    have r1' := Nat.div_le_self n (Nat.gcd n den)
    generalize den / Nat.gcd n den = dn at q1 q1' ⊢
    generalize n / Nat.gcd n den = nn at r1 r1' ⊢
    have g2 : 0 < Nat.gcd num dn := Nat.gcd_pos_of_pos_left _ (by omega)
    have k1 : Nat.gcd num dn ≤ num := Nat.gcd_le_left _ (by omega)
    have k2 : Nat.gcd num dn ≤ dn := Nat.gcd_le_right _ (by omega)
    have ng2 : nei ((Nat.gcd num dn : Nat) : Int) 0 = true := by rw [nei_iff]; omega
    rw [common_eq (by omega), Option.bind_some]
    dsimp only
    rw [need_t ng2, need_t ng2, quon (by omega), quon (by omega)]
    have q2 : 0 < dn / Nat.gcd num dn := Nat.div_pos k2 g2
    have q2' := Nat.div_le_self dn (Nat.gcd num dn)
    have r2 : 0 < num / Nat.gcd num dn := Nat.div_pos k1 g2
    have r2' := Nat.div_le_self num (Nat.gcd num dn)
    generalize dn / Nat.gcd num dn = dd2 at q2 q2' ⊢
    generalize num / Nat.gcd num dn = nm at r2 r2' ⊢
    rw [ref12_Times_K3_Ke]
    have := ten_loop (nm : Int) (dd2 : Int) (nn : Int) (sgI sg) d.1 0 0 D h6 D 0 (18446744073709551615 - D) (by omega)
    rw [show 18446744073709551615 - D + D + 1 = 18446744073709551616 by omega] at this
    refine Eq.trans this ?_
    exact rtimes_K4 sg (by omega) (by omega) (by omega) (by omega) 0 0
theorem rtimes_bad {d : Int × Int} {num den : Int} (h : units_Right (d, ()) = some (false, ()) ∨ (units_Right (d, ()) = some (true, ()) ∧ ¬ (1 ≤ num ∧ num ≤ 1000000000 ∧ 1 ≤ den ∧ den ≤ 1000000000))) :
    ref12_Times (d, num, den, ()) = some ((0, 0), false, ()) := by
  show ref12_Times_m0 ref12_Times_K1 d num den = _
  unfold ref12_Times_m0
  rcases h with h | ⟨h, hb⟩
  · have h : ref12_Right (d, ()) = some (false, ()) := h
    rw [h, Option.bind_some]
    dsimp only
    rw [if_pos (by decide)]
    rfl
  · have h : ref12_Right (d, ()) = some (true, ()) := h
    rw [h, Option.bind_some]
    dsimp only
    rw [if_neg (by decide)]
    by_cases b1 : num < 1
    · rw [if_pos (lt_iff.2 b1)]; rfl
    rw [if_neg (fun e => b1 (lt_iff.1 e))]
    by_cases b2 : 1000000000 < num
    · rw [if_pos (gt_iff.2 b2)]; rfl
    rw [if_neg (fun e => b2 (gt_iff.1 e))]
    by_cases b3 : den < 1
    · rw [if_pos (lt_iff.2 b3)]; rfl
    rw [if_neg (fun e => b3 (lt_iff.1 e)), gt_iff.2 (show 1000000000 < den by omega)]
    rfl
end Go.Proofs.Lx

end

section
/- The document's reader of decimals. -/
namespace Go.Proofs.Lx
open Go Ev Sx Pl
set_option maxRecDepth 10000
def rf (z : Bool) : List UInt8 → Int → Bool → Nat → Nat → Option (Int × Nat)
  | [], n, pt, bh, ah => if ah = 0 ∨ (pt = true ∧ bh = 0) ∨ 6 < bh then none else some (n, bh)
  | c :: q, n, pt, bh, ah =>
    if c = 46 ∧ pt = false ∧ 0 < ah then rf z q n true bh ah
    else if dg c = false ∨ (ah = 1 ∧ z = true ∧ pt = false) ∨ 100000000000000000 < n then none
    else rf z q (10 * n + ((c.toNat : Int) - 48)) pt (if pt then bh + 1 else bh) (if pt then ah else ah + 1)
def refEnd (below : Bool) : Option (Int × Nat) → Option (As [.pr (.int .i64) (.int .u8), .bool])
  | none => some ((0, 0), false, ())
  | some (n, b) => ref12_Parse_K8 below n (b : Int) false 0 0
theorem eqi_byte {c : UInt8} (k : UInt8) {m : Int} (hm : m = (k.toNat : Int) := by rfl) : eqi (Int.ofNat c.toNat) m = true ↔ c = k := by
  subst hm
  simp only [eqi, beq_iff_eq, ofNat_eq]
  constructor
  · intro h; apply UInt8.toNat_inj.1; omega
  · rintro rfl; rfl
abbrev R3 := List UInt8 × Bool × Int × Bool × Int × Int × Int × Int × Int
abbrev RP := As [.pr (.int .i64) (.int .u8), .bool]
abbrev refB (self : R3 → Option RP) (s : R3) : Option RP := ref12_Parse_m3 (ref12_Parse_K4 (fun s below n point behind ahead i t2 t2_2 => self (s, below, n, point, behind, ahead, i, t2, t2_2))) (ref12_Parse_K5) (fun s below n point behind ahead i t2 t2_2 => self (s, below, n, point, behind, ahead, i, t2, t2_2)) s.1 s.2.1 s.2.2.1 s.2.2.2.1 s.2.2.2.2.1 s.2.2.2.2.2.1 s.2.2.2.2.2.2.1 s.2.2.2.2.2.2.2.1 s.2.2.2.2.2.2.2.2
theorem ref_K7 (self : R3 → Option RP) (s : List UInt8) (below : Bool) (n : Int) (pt : Bool) (bh ah i : Nat) (c : UInt8) (hc : dg c = true) (hi : at? s (i : Int) = some c) (h0 : 0 ≤ n) (hl : i < 1000000) (hb : bh < 1000000) (ha : ah < 1000000) :
    ref12_Parse_K7 (fun s below n point behind ahead i t2 t2_2 => self (s, below, n, point, behind, ahead, i, t2, t2_2)) s below n pt (bh : Int) (ah : Int) (i : Int) false 0 0 =
      if 100000000000000000 < n then some ((0, 0), false, ()) else self (s, below, 10 * n + ((c.toNat : Int) - 48), pt, ((if pt then bh + 1 else bh : Nat) : Int), ((if pt then ah else ah + 1 : Nat) : Int), ((i + 1 : Nat) : Int), 0, 0) := by
  unfold ref12_Parse_K7 ref12_Parse_m7
  rw [if_neg (by decide)]
  by_cases hn : 100000000000000000 < n
  · rw [if_pos (by rw [gt_iff]; exact hn), if_pos hn]
  · have := dg_iff.1 hc
    rw [if_neg (by rw [gt_iff]; exact hn), if_neg hn, hi, Option.bind_some, byte_val hc, mul64 (by omega) (by omega), add64 (by omega) (by omega), succ64 (by omega), succ64 (by omega)]
    unfold ref12_Parse_K6 ref12_Parse_m6
    rw [succ64 (by omega), show n * 10 = 10 * n by omega]
    cases pt <;> rfl
theorem ref_loop (s : List UInt8) (below : Bool) (hs : s.length < 1000000) : ∀ (k : Nat) (st : R3),
    (∃ (n : Int) (pt : Bool) (bh ah i : Nat), st = (s, below, n, pt, (bh : Int), (ah : Int), (i : Int), 0, 0) ∧ i ≤ s.length ∧ bh ≤ i ∧ ah ≤ i ∧ 0 ≤ n) → s.length - st.2.2.2.2.2.2.1.toNat < k →
      loopF refB k st = refEnd below (rf (decide (s[0]? = some 48)) (s.drop st.2.2.2.2.2.2.1.toNat) st.2.2.1 st.2.2.2.1 st.2.2.2.2.1.toNat st.2.2.2.2.2.1.toNat) := by
  refine loopF_eq (σ := R3) (μ := fun st => s.length - st.2.2.2.2.2.2.1.toNat) (G := fun st => refEnd below (rf (decide (s[0]? = some 48)) (s.drop st.2.2.2.2.2.2.1.toNat) st.2.2.1 st.2.2.2.1 st.2.2.2.2.1.toNat st.2.2.2.2.2.1.toNat)) ?_
  rintro self st ⟨n, pt, bh, ah, i, rfl, hi, hb, ha, hn⟩ ih
  simp only [Int.toNat_natCast] at ih ⊢
  show ref12_Parse_m3 _ _ _ s below n pt (bh : Int) (ah : Int) (i : Int) 0 0 = _
  unfold ref12_Parse_m3
  cases hd : s.drop i with
  | nil =>
    have := drop_nil hd
    rw [if_neg (by rw [lt_iff, ofNat_eq]; omega)]
    unfold ref12_Parse_K5 ref12_Parse_m5 rf
    by_cases h0 : ah = 0
    · subst h0
      rw [if_pos (by decide), if_pos (.inl rfl)]
      rfl
    · rw [if_neg (by rw [eqi_iff]; omega)]
      have h6 : ref12_Parse_K8 below n (bh : Int) (gt (bh : Int) 6) 0 0 = refEnd below (if 6 < bh then none else some (n, bh)) := by
        by_cases h : 6 < bh
        · rw [if_pos h, show gt (bh : Int) 6 = true by rw [gt_iff]; omega]; rfl
        · rw [if_neg h, show gt (bh : Int) 6 = false by simp [gt]; omega]; rfl
      cases pt
      · rw [if_neg (by decide), h6]
        congr 1
        simp [h0]
      · rw [if_pos rfl]
        by_cases hb0 : bh = 0
        · subst hb0
          rw [if_pos (by decide), if_pos (by simp)]
          rfl
        · rw [if_neg (by rw [eqi_iff]; omega), h6]
          congr 1
          simp [h0, hb0]
  | cons c r =>
    obtain ⟨h1, h2, h3⟩ := drop_succ hd
    have hat := at_drop hd
    rw [if_pos (by rw [lt_iff, ofNat_eq]; omega), hat, Option.bind_some]
    have next : ∀ (n' : Int) (pt' : Bool) (bh' ah' : Nat), bh' ≤ i + 1 → ah' ≤ i + 1 → 0 ≤ n' → self (s, below, n', pt', (bh' : Int), (ah' : Int), ((i + 1 : Nat) : Int), 0, 0) = refEnd below (rf (decide (s[0]? = some 48)) r n' pt' bh' ah') := fun n' pt' bh' ah' x1 x2 x3 => by
      have := ih (s, below, n', pt', (bh' : Int), (ah' : Int), ((i + 1 : Nat) : Int), 0, 0) ⟨n', pt', bh', ah', i + 1, rfl, by omega, x1, x2, x3⟩ (by simp; omega)
      refine this.trans ?_
      simp [h1]
    -- a byte that is no point that counts
    have dig : ¬ (c = 46 ∧ pt = false ∧ 0 < ah) → ref12_Parse_K4 (fun s below n point behind ahead i t2 t2_2 => self (s, below, n, point, behind, ahead, i, t2, t2_2)) s below n pt (bh : Int) (ah : Int) (i : Int) false 0 0 = refEnd below (rf (decide (s[0]? = some 48)) (c :: r) n pt bh ah) := fun hno => by
      unfold ref12_Parse_K4 ref12_Parse_m4
      rw [if_neg (by decide), hat, Option.bind_some, Option.bind_some]
      unfold rf
      rw [if_neg hno]
      have bad : ref12_Parse_K7 (fun s below n point behind ahead i t2 t2_2 => self (s, below, n, point, behind, ahead, i, t2, t2_2)) s below n pt (bh : Int) (ah : Int) (i : Int) true 0 0 = some ((0, 0), false, ()) := rfl
      by_cases hc : dg c = true
      · have hcv := dg_iff.1 hc
        rw [if_neg (by rw [lt_iff, ofNat_eq]; omega), if_neg (by rw [gt_iff, ofNat_eq]; omega)]
        have good := ref_K7 self s below n pt bh ah i c hc hat hn (by omega) (by omega) (by omega)
        have fine : ¬ (ah = 1 ∧ s[0]? = some 48 ∧ pt = false) → (if 100000000000000000 < n then some ((0, 0), false, ()) else self (s, below, 10 * n + ((c.toNat : Int) - 48), pt, ((if pt then bh + 1 else bh : Nat) : Int), ((if pt then ah else ah + 1 : Nat) : Int), ((i + 1 : Nat) : Int), 0, 0)) =
            refEnd below (if dg c = false ∨ (ah = 1 ∧ (decide (s[0]? = some 48)) = true ∧ pt = false) ∨ 100000000000000000 < n then none else rf (decide (s[0]? = some 48)) r (10 * n + ((c.toNat : Int) - 48)) pt (if pt then bh + 1 else bh) (if pt then ah else ah + 1)) := fun hz => by
          by_cases hn1 : 100000000000000000 < n
          · rw [if_pos hn1, if_pos (.inr (.inr hn1))]
            rfl
          · have hno2 : ¬ (dg c = false ∨ (ah = 1 ∧ (decide (s[0]? = some 48)) = true ∧ pt = false) ∨ 100000000000000000 < n) := by
              rintro (h | h | h)
              · rw [hc] at h; cases h
              · exact hz ⟨h.1, of_decide_eq_true h.2.1, h.2.2⟩
              · exact hn1 h
            rw [if_neg hn1, if_neg hno2]
            exact next _ pt (if pt then bh + 1 else bh) (if pt then ah else ah + 1) (by split <;> omega) (by split <;> omega) (by omega)
        by_cases ha1 : ah = 1
        · rw [if_pos (by rw [eqi_iff]; omega)]
          obtain ⟨c0, q0, hs0⟩ : ∃ c0 q0, s = c0 :: q0 := by
            cases s with
            | nil => simp at h2
            | cons c0 q0 => exact ⟨c0, q0, rfl⟩
          have hz0 : s[0]? = some c0 := by rw [hs0]; rfl
          rw [show at? s 0 = some c0 by rw [hs0]; rfl, Option.bind_some]
          by_cases h48 : c0 = 48
          · rw [if_pos ((eqi_byte 48).2 h48)]
            cases pt
            · show ref12_Parse_K7 _ s below n false _ _ _ true 0 0 = _
              rw [bad, if_pos (.inr (.inl ⟨ha1, by rw [hz0, h48]; decide, rfl⟩))]
              rfl
            · show ref12_Parse_K7 _ s below n true _ _ _ false 0 0 = _
              rw [good]
              exact fine (by simp)
          · rw [if_neg (fun h => h48 ((eqi_byte 48).1 h)), good]
            exact fine (fun h => by rw [hz0] at h; exact h48 (Option.some.inj h.2.1))
        · rw [if_neg (by rw [eqi_iff]; omega), good]
          exact fine (fun h => ha1 h.1)
      · have hc' : dg c = false := by simpa using hc
        have h4 : ¬ (48 ≤ c.toNat ∧ c.toNat ≤ 57) := fun h => hc (dg_iff.2 h)
        have hyes : dg c = false ∨ (ah = 1 ∧ (decide (s[0]? = some 48)) = true ∧ pt = false) ∨ 100000000000000000 < n := .inl hc'
        rw [if_pos hyes]
        by_cases h5 : c.toNat < 48
        · rw [if_pos (by rw [lt_iff, ofNat_eq]; omega), bad]
          rfl
        · rw [if_neg (by rw [lt_iff, ofNat_eq]; omega), if_pos (by rw [gt_iff, ofNat_eq]; omega), bad]
          rfl
    by_cases h46 : c = 46
    · rw [if_pos ((eqi_byte 46).2 h46)]
      cases pt
      · rw [if_pos (by decide)]
        by_cases h0 : 0 < ah
        · rw [show gt (ah : Int) 0 = true by rw [gt_iff]; omega]
          unfold ref12_Parse_K4 ref12_Parse_m4
          rw [if_pos rfl]
          unfold ref12_Parse_K6 ref12_Parse_m6 rf
          rw [if_pos ⟨h46, rfl, h0⟩, succ64 (by omega)]
          exact next _ _ _ _ (by omega) (by omega) hn
        · rw [show gt (ah : Int) 0 = false by simp [gt]; omega]
          exact dig (fun h => h0 h.2.2)
      · rw [if_neg (by decide)]
        exact dig (by simp)
    · rw [if_neg (fun h => h46 ((eqi_byte 46).1 h))]
      exact dig (fun h => h46 h.1)
end Go.Proofs.Lx

end
