/- Proved in the last of these 11 parts (this is part 8): for every input PollTells returns true: what becomes of a poll, what it sends and which reply it takes, by requests, frames, ticks and drops, and which ones are right, are what the document's answer says. Conditions: those of the given statement, and no others. -/
import Derived.Test.YtbpmjafbgbcjeaaGreatPartd
import Derived.Test.YtbpmjafbgbcjeaaGreatPartg
import Derived.Test.YtbpmjafbgbcjeaaGreatProg
import Derived.Test.YtbpmjafbgbcjeaaGreatPartf
set_option linter.unusedVariables false
set_option linter.unusedSimpArgs false
set_option linter.unusedSectionVars false
section
/- Contracts, made by a program. -/
open Go Go.Proofs Ev Sx
set_option maxRecDepth 100000
namespace Go.Proofs.Lx
abbrev ZoBq0 : Type := Int × Int × List Bool × List Int × Int × Int
abbrev ZoBq1 : Type := Int × Int × Int × Int × Bool × LBT3 × Int × Int × Int
/-! ref05_long -/
@[reducible] def ref05_long_s : Sh := ⟨[.d (.sl (.int .u8))], [], [.sl (.int .u8)], [.d (.int .i64)], [], 0, [.int .i64]⟩
def ref05_long_e : Env := (cts [])
def ref05_long_h : List (Nat × Hint) := [(3, ⟨[], [0, 23, 24, 25, 26, 36, 37, 38, 39]⟩), (62, ⟨[], [0, 40]⟩), (14, ⟨[], [0, 27, 36, 37, 38, 39]⟩), (26, ⟨[], [0, 3, 7, 8, 9, 10, 23, 24, 25, 26, 36, 37, 38, 39]⟩), (104, ⟨[], [0, 3, 11]⟩)]
def ref05_long_k1 (b : List Int) (i : Int) : St := { fr := [(0, .d (.sl (.int .u8)) b), (3, .d (.int .i64) i)], nt := 46, up := [], own := [], nx := 0, log := [], ln := 0 }
def ref05_long_k2 (b : List Int) (i : Int) (t11 : Bool) : St := { fr := [(0, .d (.sl (.int .u8)) b), (3, .d (.int .i64) i), (11, .d .bool t11)], nt := 46, up := [], own := [], nx := 0, log := [], ln := 0 }
def ref05_long_k3 (b : List Int) : St := { fr := [(0, .d (.sl (.int .u8)) b)], nt := 46, up := [], own := [], nx := 0, log := [], ln := 0 }
def ref05_long_k4 (b : List Int) (t27 : Bool) : St := { fr := [(0, .d (.sl (.int .u8)) b), (27, .d .bool t27)], nt := 46, up := [], own := [], nx := 0, log := [], ln := 0 }
def ref05_long_k5 (b : List Int) (t40 : Bool) : St := { fr := [(0, .d (.sl (.int .u8)) b), (40, .d .bool t40)], nt := 46, up := [], own := [], nx := 0, log := [], ln := 0 }
def ref05_long_m1 (j2 : List Int → Int → Bool → Option (As [.int .i64])) (self1 : List Int → Int → Option (As [.int .i64])) (b : List Int) (i : Int) : Option (As [.int .i64]) :=
  if lt i 4 = true then j2 b i (lt i (Int.ofNat (List.length b))) else j2 b i false
def ref05_long_m2 (j3 : List Int → Option (As [.int .i64])) (self1 : List Int → Int → Option (As [.int .i64])) (b : List Int) (i : Int) (t11 : Bool) : Option (As [.int .i64]) :=
  if t11 = true then Option.bind (at? b i) fun (y : Int) => if nei y 0 = true then some (-1, ()) else self1 b (add .i64 i 1) else j3 b
def ref05_long_m3 (j4 : List Int → Bool → Option (As [.int .i64])) (b : List Int) : Option (As [.int .i64]) :=
  if gt (Int.ofNat (List.length b)) 4 = true then Option.bind (at? b 4) fun (y : Int) => j4 b (nei y 0) else j4 b false
def ref05_long_m4 (j5 : List Int → Bool → Option (As [.int .i64])) (b : List Int) (t27 : Bool) : Option (As [.int .i64]) :=
  if t27 = true then some (-1, ()) else if lt (Int.ofNat (List.length b)) 6 = true then some (0, ()) else Option.bind (at? b 5) fun (y : Int) => if lt y 2 = true then j5 b true else Option.bind (at? b 5) fun (y : Int) => j5 b (gt y 254)
def ref05_long_m5 (b : List Int) (t40 : Bool) : Option (As [.int .i64]) :=
  if t40 = true then some (-1, ()) else Option.bind (at? b 5) fun (y : Int) => some (add .i64 6 (cvt .i64 y), ())
def ref05_long_m0 (j1 : List Int → Int → Option (As [.int .i64])) (b : List Int) : Option (As [.int .i64]) :=
  j1 b 2
def ref05_long_K5 (b : List Int) (t40 : Bool) : Option (As [.int .i64]) := ref05_long_m5 b t40
def ref05_long_K4 (b : List Int) (t27 : Bool) : Option (As [.int .i64]) := ref05_long_m4 (ref05_long_K5) b t27
def ref05_long_K3 (b : List Int) : Option (As [.int .i64]) := ref05_long_m3 (ref05_long_K4) b
def ref05_long_K2 (u1 : List Int → Int → Option (As [.int .i64])) (b : List Int) (i : Int) (t11 : Bool) : Option (As [.int .i64]) := ref05_long_m2 (ref05_long_K3) u1 b i t11
def ref05_long_K1 (b : List Int) (i : Int) : Option (As [.int .i64]) :=
  loopF (fun (self : (List Int) × (Int) → Option (As [.int .i64])) (s : (List Int) × (Int)) => ref05_long_m1 (ref05_long_K2 (fun b i => self (b, i))) (fun b i => self (b, i)) s.1 s.2) 18446744073709551616 (b, i)
def ref05_long (x : As [.sl (.int .u8)]) : Option (As [.int .i64]) := ref05_long_m0 ref05_long_K1 x.1
theorem ref05_long_c5 (J : Orc (As [.int .i64])) (b : List Int) (t40 : Bool) : pfn Tryz.prog ref05_long_e 6 18446744073709551616 (Ev.get ref05_long_h) 165 ref05_long_s J 62 [] (ref05_long_k5 b t40) = ref05_long_m5 b t40 := by kernel_rfl
theorem ref05_long_c4 (J : Orc (As [.int .i64])) (b : List Int) (t27 : Bool) : pfn Tryz.prog ref05_long_e 6 18446744073709551616 (Ev.get ref05_long_h) 165 ref05_long_s J 14 [] (ref05_long_k4 b t27) = ref05_long_m4 (fun b t40 => J 62 [] (ref05_long_k5 b t40)) b t27 := by kernel_rfl
theorem ref05_long_c3 (J : Orc (As [.int .i64])) (b : List Int) : pfn Tryz.prog ref05_long_e 6 18446744073709551616 (Ev.get ref05_long_h) 165 ref05_long_s J 3 [] (ref05_long_k3 b) = ref05_long_m3 (fun b t27 => J 14 [] (ref05_long_k4 b t27)) b := by kernel_rfl
theorem ref05_long_c2 (J : Orc (As [.int .i64])) (w1 : St → Option (As [.int .i64])) (b : List Int) (i : Int) (t11 : Bool) : pfn Tryz.prog ref05_long_e 6 18446744073709551616 (Ev.get ref05_long_h) 165 ref05_long_s J 104 [w1] (ref05_long_k2 b i t11) = ref05_long_m2 (fun b => J 3 [] (ref05_long_k3 b)) (fun b i => w1 (ref05_long_k1 b i)) b i t11 := by kernel_rfl
theorem ref05_long_c1 (J : Orc (As [.int .i64])) (w1 : St → Option (As [.int .i64])) (b : List Int) (i : Int) : pfn Tryz.prog ref05_long_e 6 18446744073709551616 (Ev.get ref05_long_h) 165 ref05_long_s J 26 [w1] (ref05_long_k1 b i) = ref05_long_m1 (fun b i t11 => J 104 [w1] (ref05_long_k2 b i t11)) (fun b i => w1 (ref05_long_k1 b i)) b i := by kernel_rfl
theorem ref05_long_c0 (J : Orc (As [.int .i64])) (x : As [.sl (.int .u8)]) : rfn Tryz.prog ref05_long_e 6 18446744073709551616 (Ev.get ref05_long_h) 165 ref05_long_s J x = ref05_long_m0 (fun b i => J 26 [] (ref05_long_k1 b i)) x.1 := by kernel_rfl
theorem ref05_long_g5 (b : List Int) (t40 : Bool) : jfn Tryz.prog ref05_long_e 6 18446744073709551616 (Ev.get ref05_long_h) 165 ref05_long_s 62 [] (ref05_long_k5 b t40) = ref05_long_K5 b t40 := by
  rw [pfn_eq (by decide)]
  rw [ref05_long_c5]
  rfl
theorem ref05_long_g4 (b : List Int) (t27 : Bool) : jfn Tryz.prog ref05_long_e 6 18446744073709551616 (Ev.get ref05_long_h) 165 ref05_long_s 14 [] (ref05_long_k4 b t27) = ref05_long_K4 b t27 := by
  rw [pfn_eq (by decide)]
  have e5 : (fun b t40 => (jfn Tryz.prog ref05_long_e 6 18446744073709551616 (Ev.get ref05_long_h) 165 ref05_long_s) 62 [] (ref05_long_k5 b t40)) = ref05_long_K5 := funext fun b => funext fun t40 => ref05_long_g5 b t40
  rw [ref05_long_c4, e5]
  rfl
theorem ref05_long_g3 (b : List Int) : jfn Tryz.prog ref05_long_e 6 18446744073709551616 (Ev.get ref05_long_h) 165 ref05_long_s 3 [] (ref05_long_k3 b) = ref05_long_K3 b := by
  rw [pfn_eq (by decide)]
  have e4 : (fun b t27 => (jfn Tryz.prog ref05_long_e 6 18446744073709551616 (Ev.get ref05_long_h) 165 ref05_long_s) 14 [] (ref05_long_k4 b t27)) = ref05_long_K4 := funext fun b => funext fun t27 => ref05_long_g4 b t27
  rw [ref05_long_c3, e4]
  rfl
theorem ref05_long_g2 (w1 : St → Option (As [.int .i64])) (b : List Int) (i : Int) (t11 : Bool) : jfn Tryz.prog ref05_long_e 6 18446744073709551616 (Ev.get ref05_long_h) 165 ref05_long_s 104 [w1] (ref05_long_k2 b i t11) = ref05_long_K2 (fun b i => w1 (ref05_long_k1 b i)) b i t11 := by
  rw [pfn_eq (by decide)]
  have e3 : (fun b => (jfn Tryz.prog ref05_long_e 6 18446744073709551616 (Ev.get ref05_long_h) 165 ref05_long_s) 3 [] (ref05_long_k3 b)) = ref05_long_K3 := funext fun b => ref05_long_g3 b
  rw [ref05_long_c2, e3]
  rfl
theorem ref05_long_g1 (b : List Int) (i : Int) : jfn Tryz.prog ref05_long_e 6 18446744073709551616 (Ev.get ref05_long_h) 165 ref05_long_s 26 [] (ref05_long_k1 b i) = ref05_long_K1 b i := by
  rw [pfn_eq (by decide)]
  rw [pfn_loop (by kernel_rfl)]
  refine loopF_sim (σ := (List Int) × (Int)) (mk := fun s => ref05_long_k1 s.1 s.2) (fun w1 s => ?_) 18446744073709551616 (b, i)
  have e2 : (fun b i t11 => (jfn Tryz.prog ref05_long_e 6 18446744073709551616 (Ev.get ref05_long_h) 165 ref05_long_s) 104 [w1] (ref05_long_k2 b i t11)) = ref05_long_K2 (fun b i => w1 (ref05_long_k1 b i)) := funext fun b => funext fun i => funext fun t11 => ref05_long_g2 w1 b i t11
  refine (ref05_long_c1 _ w1 s.1 s.2).trans ?_
  rw [e2]
theorem ref05_long_t (x : As [.sl (.int .u8)]) : evT Tryz.prog ref05_long_e 6 18446744073709551616 (Ev.get ref05_long_h) 165 ref05_long_s x = ref05_long x := by
  have e1 : (fun b i => (jfn Tryz.prog ref05_long_e 6 18446744073709551616 (Ev.get ref05_long_h) 165 ref05_long_s) 26 [] (ref05_long_k1 b i)) = ref05_long_K1 := funext fun b => funext fun i => ref05_long_g1 b i
  rw [rfn_eq, ref05_long_c0, e1]
  rfl
theorem ref05_long_ok : CtOk Tryz.prog (fun _ => True) 165 ⟨ref05_long_s, ref05_long⟩ := ct_of_ev env_nil ref05_long_t
/-! ref05_Parse -/
@[reducible] def ref05_Parse_s : Sh := ⟨[.d (.sl (.int .u8))], [], [.sl (.int .u8)], [.d (.pr (.int .u16) LBT5), .d (.int .i64)], [], 0, [.pr (.int .u16) LBT5, .int .i64]⟩
def ref05_Parse_e : Env := (cts [(165, (⟨ref05_long_s, ref05_long⟩ : Ct))])
def ref05_Parse_h : List (Nat × Hint) := [(15, ⟨[], [2, 4]⟩), (122, ⟨[.rwb 4 2 5], [0, 2, 4, 5]⟩), (6, ⟨[], [0, 2, 15]⟩)]
def ref05_Parse_k1 (b : List Int) (t15 : Bool) (t2 : Int) (t2_2 : Int) : St := { fr := [(0, .d (.sl (.int .u8)) b), (2, .pb 0 0), (15, .d .bool t15)], nt := 47, up := [], own := [(0, .box 143 [.d (.int .u16) t2, .d (.int .u8) t2_2, .k (Go.Value.slice Option.none 0 0)])], nx := 1, log := [], ln := 0 }
def ref05_Parse_k2 (b : List Int) (i : Int) (t2 : Int) (t2_2 : Int) (x : Int) (x_2 : Int) (o : List Int) : St := { fr := [(0, .d (.sl (.int .u8)) b), (2, .pb 0 0), (4, .pb 1 0), (5, .d (.int .i64) i)], nt := 47, up := [], own := [(0, .box 143 [.d (.int .u16) t2, .d (.int .u8) t2_2, .k (Go.Value.slice Option.none 0 0)]), (1, .box 143 [.d (.int .u16) x, .d (.int .u8) x_2, .row 2]), (2, .row (.int .u8) 5 o)], nx := 3, log := [], ln := 0 }
def ref05_Parse_k3 (t2 : Int) (t2_2 : Int) (x : Int) (x_2 : Int) (o : List Int) : St := { fr := [(2, .pb 0 0), (4, .pb 1 0)], nt := 47, up := [], own := [(0, .box 143 [.d (.int .u16) t2, .d (.int .u8) t2_2, .k (Go.Value.slice Option.none 0 0)]), (1, .box 143 [.d (.int .u16) x, .d (.int .u8) x_2, .row 2]), (2, .row (.int .u8) 5 o)], nx := 3, log := [], ln := 0 }
def ref05_Parse_m1 (j2 : List Int → Int → Int → Int → Int → Int → List Int → Option (As [.pr (.int .u16) LBT5, .int .i64])) (b : List Int) (t15 : Bool) (t2 : Int) (t2_2 : Int) : Option (As [.pr (.int .u16) LBT5, .int .i64]) :=
  if t15 = true then some ((0, 0, []), 10, ()) else Option.bind (at? b 0) fun (y : Int) => Option.bind (at? b 1) fun (y_1 : Int) => Option.bind (at? b 6) fun (y_2 : Int) => j2 b 7 t2 t2_2 (add .u16 (mul .u16 256 (cvt .u16 y)) (cvt .u16 y_1)) y_2 []
def ref05_Parse_m2 (j3 : Int → Int → Int → Int → List Int → Option (As [.pr (.int .u16) LBT5, .int .i64])) (self2 : List Int → Int → Int → Int → Int → Int → List Int → Option (As [.pr (.int .u16) LBT5, .int .i64])) (b : List Int) (i : Int) (t2 : Int) (t2_2 : Int) (x : Int) (x_2 : Int) (o : List Int) : Option (As [.pr (.int .u16) LBT5, .int .i64]) :=
  if lt i (Int.ofNat (List.length b)) = true then Option.bind (at? b i) fun (y : Int) => need (small (List.length o + 1)) (self2 b (add .i64 i 1) t2 t2_2 x x_2 (o ++ [y])) else j3 t2 t2_2 x x_2 o
def ref05_Parse_m3 (t2 : Int) (t2_2 : Int) (x : Int) (x_2 : Int) (o : List Int) : Option (As [.pr (.int .u16) LBT5, .int .i64]) :=
  some ((x, x_2, o), 0, ())
def ref05_Parse_m0 (j1 : List Int → Bool → Int → Int → Option (As [.pr (.int .u16) LBT5, .int .i64])) (b : List Int) : Option (As [.pr (.int .u16) LBT5, .int .i64]) :=
  if lt (Int.ofNat (List.length b)) 8 = true then j1 b true 0 0 else Option.bind (ref05_long (b, ())) fun (y : Int × Unit) => j1 b (nei y.1 (Int.ofNat (List.length b))) 0 0
def ref05_Parse_K3 (t2 : Int) (t2_2 : Int) (x : Int) (x_2 : Int) (o : List Int) : Option (As [.pr (.int .u16) LBT5, .int .i64]) := ref05_Parse_m3 t2 t2_2 x x_2 o
def ref05_Parse_K2 (b : List Int) (i : Int) (t2 : Int) (t2_2 : Int) (x : Int) (x_2 : Int) (o : List Int) : Option (As [.pr (.int .u16) LBT5, .int .i64]) :=
  loopF (fun (self : (List Int) × (Int) × (Int) × (Int) × (Int) × (Int) × (List Int) → Option (As [.pr (.int .u16) LBT5, .int .i64])) (s : (List Int) × (Int) × (Int) × (Int) × (Int) × (Int) × (List Int)) => ref05_Parse_m2 (ref05_Parse_K3) (fun b i t2 t2_2 x x_2 o => self (b, i, t2, t2_2, x, x_2, o)) s.1 s.2.1 s.2.2.1 s.2.2.2.1 s.2.2.2.2.1 s.2.2.2.2.2.1 s.2.2.2.2.2.2) 18446744073709551616 (b, i, t2, t2_2, x, x_2, o)
def ref05_Parse_K1 (b : List Int) (t15 : Bool) (t2 : Int) (t2_2 : Int) : Option (As [.pr (.int .u16) LBT5, .int .i64]) := ref05_Parse_m1 (ref05_Parse_K2) b t15 t2 t2_2
def ref05_Parse (x : As [.sl (.int .u8)]) : Option (As [.pr (.int .u16) LBT5, .int .i64]) := ref05_Parse_m0 ref05_Parse_K1 x.1
theorem ref05_Parse_c3 (J : Orc (As [.pr (.int .u16) LBT5, .int .i64])) (t2 : Int) (t2_2 : Int) (x : Int) (x_2 : Int) (o : List Int) : pfn Tryz.prog ref05_Parse_e 6 18446744073709551616 (Ev.get ref05_Parse_h) 88 ref05_Parse_s J 15 [] (ref05_Parse_k3 t2 t2_2 x x_2 o) = ref05_Parse_m3 t2 t2_2 x x_2 o := by kernel_rfl
theorem ref05_Parse_c2 (J : Orc (As [.pr (.int .u16) LBT5, .int .i64])) (w2 : St → Option (As [.pr (.int .u16) LBT5, .int .i64])) (b : List Int) (i : Int) (t2 : Int) (t2_2 : Int) (x : Int) (x_2 : Int) (o : List Int) : pfn Tryz.prog ref05_Parse_e 6 18446744073709551616 (Ev.get ref05_Parse_h) 88 ref05_Parse_s J 122 [w2] (ref05_Parse_k2 b i t2 t2_2 x x_2 o) = ref05_Parse_m2 (fun t2 t2_2 x x_2 o => J 15 [] (ref05_Parse_k3 t2 t2_2 x x_2 o)) (fun b i t2 t2_2 x x_2 o => w2 (ref05_Parse_k2 b i t2 t2_2 x x_2 o)) b i t2 t2_2 x x_2 o := by kernel_rfl
theorem ref05_Parse_c1 (J : Orc (As [.pr (.int .u16) LBT5, .int .i64])) (b : List Int) (t15 : Bool) (t2 : Int) (t2_2 : Int) : pfn Tryz.prog ref05_Parse_e 6 18446744073709551616 (Ev.get ref05_Parse_h) 88 ref05_Parse_s J 6 [] (ref05_Parse_k1 b t15 t2 t2_2) = ref05_Parse_m1 (fun b i t2 t2_2 x x_2 o => J 122 [] (ref05_Parse_k2 b i t2 t2_2 x x_2 o)) b t15 t2 t2_2 := by kernel_rfl
theorem ref05_Parse_c0 (J : Orc (As [.pr (.int .u16) LBT5, .int .i64])) (x : As [.sl (.int .u8)]) : rfn Tryz.prog ref05_Parse_e 6 18446744073709551616 (Ev.get ref05_Parse_h) 88 ref05_Parse_s J x = ref05_Parse_m0 (fun b t15 t2 t2_2 => J 6 [] (ref05_Parse_k1 b t15 t2 t2_2)) x.1 := by kernel_rfl
theorem ref05_Parse_g3 (t2 : Int) (t2_2 : Int) (x : Int) (x_2 : Int) (o : List Int) : jfn Tryz.prog ref05_Parse_e 6 18446744073709551616 (Ev.get ref05_Parse_h) 88 ref05_Parse_s 15 [] (ref05_Parse_k3 t2 t2_2 x x_2 o) = ref05_Parse_K3 t2 t2_2 x x_2 o := by
  rw [pfn_eq (by decide)]
  rw [ref05_Parse_c3]
  rfl
theorem ref05_Parse_g2 (b : List Int) (i : Int) (t2 : Int) (t2_2 : Int) (x : Int) (x_2 : Int) (o : List Int) : jfn Tryz.prog ref05_Parse_e 6 18446744073709551616 (Ev.get ref05_Parse_h) 88 ref05_Parse_s 122 [] (ref05_Parse_k2 b i t2 t2_2 x x_2 o) = ref05_Parse_K2 b i t2 t2_2 x x_2 o := by
  rw [pfn_eq (by decide)]
  rw [pfn_loop (by kernel_rfl)]
  refine loopF_sim (σ := (List Int) × (Int) × (Int) × (Int) × (Int) × (Int) × (List Int)) (mk := fun s => ref05_Parse_k2 s.1 s.2.1 s.2.2.1 s.2.2.2.1 s.2.2.2.2.1 s.2.2.2.2.2.1 s.2.2.2.2.2.2) (fun w2 s => ?_) 18446744073709551616 (b, i, t2, t2_2, x, x_2, o)
  have e3 : (fun t2 t2_2 x x_2 o => (jfn Tryz.prog ref05_Parse_e 6 18446744073709551616 (Ev.get ref05_Parse_h) 88 ref05_Parse_s) 15 [] (ref05_Parse_k3 t2 t2_2 x x_2 o)) = ref05_Parse_K3 := funext fun t2 => funext fun t2_2 => funext fun x => funext fun x_2 => funext fun o => ref05_Parse_g3 t2 t2_2 x x_2 o
  refine (ref05_Parse_c2 _ w2 s.1 s.2.1 s.2.2.1 s.2.2.2.1 s.2.2.2.2.1 s.2.2.2.2.2.1 s.2.2.2.2.2.2).trans ?_
  rw [e3]
theorem ref05_Parse_g1 (b : List Int) (t15 : Bool) (t2 : Int) (t2_2 : Int) : jfn Tryz.prog ref05_Parse_e 6 18446744073709551616 (Ev.get ref05_Parse_h) 88 ref05_Parse_s 6 [] (ref05_Parse_k1 b t15 t2 t2_2) = ref05_Parse_K1 b t15 t2 t2_2 := by
  rw [pfn_eq (by decide)]
  have e2 : (fun b i t2 t2_2 x x_2 o => (jfn Tryz.prog ref05_Parse_e 6 18446744073709551616 (Ev.get ref05_Parse_h) 88 ref05_Parse_s) 122 [] (ref05_Parse_k2 b i t2 t2_2 x x_2 o)) = ref05_Parse_K2 := funext fun b => funext fun i => funext fun t2 => funext fun t2_2 => funext fun x => funext fun x_2 => funext fun o => ref05_Parse_g2 b i t2 t2_2 x x_2 o
  rw [ref05_Parse_c1, e2]
  rfl
theorem ref05_Parse_t (x : As [.sl (.int .u8)]) : evT Tryz.prog ref05_Parse_e 6 18446744073709551616 (Ev.get ref05_Parse_h) 88 ref05_Parse_s x = ref05_Parse x := by
  have e1 : (fun b t15 t2 t2_2 => (jfn Tryz.prog ref05_Parse_e 6 18446744073709551616 (Ev.get ref05_Parse_h) 88 ref05_Parse_s) 6 [] (ref05_Parse_k1 b t15 t2 t2_2)) = ref05_Parse_K1 := funext fun b => funext fun t15 => funext fun t2 => funext fun t2_2 => ref05_Parse_g1 b t15 t2 t2_2
  rw [rfn_eq, ref05_Parse_c0, e1]
  rfl
theorem ref05_Parse_ok : CtOk Tryz.prog (fun _ => True) 88 ⟨ref05_Parse_s, ref05_Parse⟩ := ct_of_ev (env_cons ref05_long_ok env_nil) ref05_Parse_t
/-! ref03_Same -/
@[reducible] def ref03_Same_s : Sh := ⟨[.d (.pr (.int .u8) LBT1), .d (.pr (.int .u8) LBT1)], [], [.pr (.int .u8) LBT1, .pr (.int .u8) LBT1], [.d (.bool)], [], 0, [.bool]⟩
def ref03_Same_e : Env := (cts [])
def ref03_Same_h : List (Nat × Hint) := [(7, ⟨[], [2, 3]⟩), (122, ⟨[], [2, 3, 6]⟩), (58, ⟨[], [2, 3, 5]⟩), (6, ⟨[], [2, 3, 50]⟩)]
def ref03_Same_k1 (t50 : Bool) (a : ZoBq0) (b : ZoBq0) : St := { fr := [(2, .pb 0 0), (3, .pb 1 0), (50, .d .bool t50)], nt := 87, up := [], own := [(0, .box 46 [.d (.int .u8) a.1, .d (.int .u8) a.2.1, .d (.sl .bool) a.2.2.1, .d (.sl (.int .u16)) a.2.2.2.1, .d (.int .u16) a.2.2.2.2.1, .d (.int .u16) a.2.2.2.2.2]), (1, .box 46 [.d (.int .u8) b.1, .d (.int .u8) b.2.1, .d (.sl .bool) b.2.2.1, .d (.sl (.int .u16)) b.2.2.2.1, .d (.int .u16) b.2.2.2.2.1, .d (.int .u16) b.2.2.2.2.2])], nx := 2, log := [], ln := 0 }
def ref03_Same_k2 (i : Int) (a : ZoBq0) (b : ZoBq0) : St := { fr := [(2, .pb 0 0), (3, .pb 1 0), (5, .d (.int .i64) i)], nt := 87, up := [], own := [(0, .box 46 [.d (.int .u8) a.1, .d (.int .u8) a.2.1, .d (.sl .bool) a.2.2.1, .d (.sl (.int .u16)) a.2.2.2.1, .d (.int .u16) a.2.2.2.2.1, .d (.int .u16) a.2.2.2.2.2]), (1, .box 46 [.d (.int .u8) b.1, .d (.int .u8) b.2.1, .d (.sl .bool) b.2.2.1, .d (.sl (.int .u16)) b.2.2.2.1, .d (.int .u16) b.2.2.2.2.1, .d (.int .u16) b.2.2.2.2.2])], nx := 2, log := [], ln := 0 }
def ref03_Same_k3 (a : ZoBq0) (b : ZoBq0) : St := { fr := [(2, .pb 0 0), (3, .pb 1 0)], nt := 87, up := [], own := [(0, .box 46 [.d (.int .u8) a.1, .d (.int .u8) a.2.1, .d (.sl .bool) a.2.2.1, .d (.sl (.int .u16)) a.2.2.2.1, .d (.int .u16) a.2.2.2.2.1, .d (.int .u16) a.2.2.2.2.2]), (1, .box 46 [.d (.int .u8) b.1, .d (.int .u8) b.2.1, .d (.sl .bool) b.2.2.1, .d (.sl (.int .u16)) b.2.2.2.1, .d (.int .u16) b.2.2.2.2.1, .d (.int .u16) b.2.2.2.2.2])], nx := 2, log := [], ln := 0 }
def ref03_Same_k4 (i : Int) (a : ZoBq0) (b : ZoBq0) : St := { fr := [(2, .pb 0 0), (3, .pb 1 0), (6, .d (.int .i64) i)], nt := 87, up := [], own := [(0, .box 46 [.d (.int .u8) a.1, .d (.int .u8) a.2.1, .d (.sl .bool) a.2.2.1, .d (.sl (.int .u16)) a.2.2.2.1, .d (.int .u16) a.2.2.2.2.1, .d (.int .u16) a.2.2.2.2.2]), (1, .box 46 [.d (.int .u8) b.1, .d (.int .u8) b.2.1, .d (.sl .bool) b.2.2.1, .d (.sl (.int .u16)) b.2.2.2.1, .d (.int .u16) b.2.2.2.2.1, .d (.int .u16) b.2.2.2.2.2])], nx := 2, log := [], ln := 0 }
def ref03_Same_m1 (j2 : Int → ZoBq0 → ZoBq0 → Option (As [.bool])) (t50 : Bool) (a : ZoBq0) (b : ZoBq0) : Option (As [.bool]) :=
  if t50 = true then some (false, ()) else j2 0 a b
def ref03_Same_m2 (j3 : ZoBq0 → ZoBq0 → Option (As [.bool])) (self2 : Int → ZoBq0 → ZoBq0 → Option (As [.bool])) (i : Int) (a : ZoBq0) (b : ZoBq0) : Option (As [.bool]) :=
  if lt i (Int.ofNat (List.length a.2.2.2.1)) = true then Option.bind (at? a.2.2.2.1 i) fun (y : Int) => Option.bind (at? b.2.2.2.1 i) fun (y_1 : Int) => if nei y y_1 = true then some (false, ()) else self2 (add .i64 i 1) a b else j3 a b
def ref03_Same_m3 (j4 : Int → ZoBq0 → ZoBq0 → Option (As [.bool])) (a : ZoBq0) (b : ZoBq0) : Option (As [.bool]) :=
  j4 0 a b
def ref03_Same_m4 (self4 : Int → ZoBq0 → ZoBq0 → Option (As [.bool])) (i : Int) (a : ZoBq0) (b : ZoBq0) : Option (As [.bool]) :=
  if lt i (Int.ofNat (List.length a.2.2.1)) = true then Option.bind (at? a.2.2.1 i) fun (y : Bool) => Option.bind (at? b.2.2.1 i) fun (y_1 : Bool) => if Sx.neb y y_1 = true then some (false, ()) else self4 (add .i64 i 1) a b else some (true, ())
def ref03_Same_m0 (j1 : Bool → ZoBq0 → ZoBq0 → Option (As [.bool])) (a : ZoBq0) (b : ZoBq0) : Option (As [.bool]) :=
  if nei a.1 b.1 = true then j1 true a b else if nei a.2.1 b.2.1 = true then j1 true a b else if nei a.2.2.2.2.1 b.2.2.2.2.1 = true then j1 true a b else if nei a.2.2.2.2.2 b.2.2.2.2.2 = true then j1 true a b else if nei (Int.ofNat (List.length a.2.2.2.1)) (Int.ofNat (List.length b.2.2.2.1)) = true then j1 true a b else j1 (nei (Int.ofNat (List.length a.2.2.1)) (Int.ofNat (List.length b.2.2.1))) a b
def ref03_Same_K4 (i : Int) (a : ZoBq0) (b : ZoBq0) : Option (As [.bool]) :=
  loopF (fun (self : (Int) × LBT4 × LBT4 → Option (As [.bool])) (s : (Int) × LBT4 × LBT4) => ref03_Same_m4 (fun i a b => self (i, a, b)) s.1 s.2.1 s.2.2) 18446744073709551616 (i, a, b)
def ref03_Same_K3 (a : ZoBq0) (b : ZoBq0) : Option (As [.bool]) := ref03_Same_m3 (ref03_Same_K4) a b
def ref03_Same_K2 (i : Int) (a : ZoBq0) (b : ZoBq0) : Option (As [.bool]) :=
  loopF (fun (self : (Int) × LBT4 × LBT4 → Option (As [.bool])) (s : (Int) × LBT4 × LBT4) => ref03_Same_m2 (ref03_Same_K3) (fun i a b => self (i, a, b)) s.1 s.2.1 s.2.2) 18446744073709551616 (i, a, b)
def ref03_Same_K1 (t50 : Bool) (a : ZoBq0) (b : ZoBq0) : Option (As [.bool]) := ref03_Same_m1 (ref03_Same_K2) t50 a b
def ref03_Same (x : As [.pr (.int .u8) LBT1, .pr (.int .u8) LBT1]) : Option (As [.bool]) := ref03_Same_m0 ref03_Same_K1 x.1 x.2.1
theorem ref03_Same_c4 (J : Orc (As [.bool])) (w4 : St → Option (As [.bool])) (i : Int) (a : ZoBq0) (b : ZoBq0) : pfn Tryz.prog ref03_Same_e 6 18446744073709551616 (Ev.get ref03_Same_h) 25 ref03_Same_s J 122 [w4] (ref03_Same_k4 i a b) = ref03_Same_m4 (fun i a b => w4 (ref03_Same_k4 i a b)) i a b := by kernel_rfl
theorem ref03_Same_c3 (J : Orc (As [.bool])) (a : ZoBq0) (b : ZoBq0) : pfn Tryz.prog ref03_Same_e 6 18446744073709551616 (Ev.get ref03_Same_h) 25 ref03_Same_s J 7 [] (ref03_Same_k3 a b) = ref03_Same_m3 (fun i a b => J 122 [] (ref03_Same_k4 i a b)) a b := by kernel_rfl
theorem ref03_Same_c2 (J : Orc (As [.bool])) (w2 : St → Option (As [.bool])) (i : Int) (a : ZoBq0) (b : ZoBq0) : pfn Tryz.prog ref03_Same_e 6 18446744073709551616 (Ev.get ref03_Same_h) 25 ref03_Same_s J 58 [w2] (ref03_Same_k2 i a b) = ref03_Same_m2 (fun a b => J 7 [] (ref03_Same_k3 a b)) (fun i a b => w2 (ref03_Same_k2 i a b)) i a b := by kernel_rfl
theorem ref03_Same_c1 (J : Orc (As [.bool])) (t50 : Bool) (a : ZoBq0) (b : ZoBq0) : pfn Tryz.prog ref03_Same_e 6 18446744073709551616 (Ev.get ref03_Same_h) 25 ref03_Same_s J 6 [] (ref03_Same_k1 t50 a b) = ref03_Same_m1 (fun i a b => J 58 [] (ref03_Same_k2 i a b)) t50 a b := by kernel_rfl
theorem ref03_Same_c0 (J : Orc (As [.bool])) (x : As [.pr (.int .u8) LBT1, .pr (.int .u8) LBT1]) : rfn Tryz.prog ref03_Same_e 6 18446744073709551616 (Ev.get ref03_Same_h) 25 ref03_Same_s J x = ref03_Same_m0 (fun t50 a b => J 6 [] (ref03_Same_k1 t50 a b)) x.1 x.2.1 := by kernel_rfl
theorem ref03_Same_g4 (i : Int) (a : ZoBq0) (b : ZoBq0) : jfn Tryz.prog ref03_Same_e 6 18446744073709551616 (Ev.get ref03_Same_h) 25 ref03_Same_s 122 [] (ref03_Same_k4 i a b) = ref03_Same_K4 i a b := by
  rw [pfn_eq (by decide)]
  rw [pfn_loop (by kernel_rfl)]
  refine loopF_sim (σ := (Int) × LBT4 × LBT4) (mk := fun s => ref03_Same_k4 s.1 s.2.1 s.2.2) (fun w4 s => ?_) 18446744073709551616 (i, a, b)
  refine (ref03_Same_c4 _ w4 s.1 s.2.1 s.2.2).trans ?_
  rfl
theorem ref03_Same_g3 (a : ZoBq0) (b : ZoBq0) : jfn Tryz.prog ref03_Same_e 6 18446744073709551616 (Ev.get ref03_Same_h) 25 ref03_Same_s 7 [] (ref03_Same_k3 a b) = ref03_Same_K3 a b := by
  rw [pfn_eq (by decide)]
  have e4 : (fun i a b => (jfn Tryz.prog ref03_Same_e 6 18446744073709551616 (Ev.get ref03_Same_h) 25 ref03_Same_s) 122 [] (ref03_Same_k4 i a b)) = ref03_Same_K4 := funext fun i => funext fun a => funext fun b => ref03_Same_g4 i a b
  rw [ref03_Same_c3, e4]
  rfl
theorem ref03_Same_g2 (i : Int) (a : ZoBq0) (b : ZoBq0) : jfn Tryz.prog ref03_Same_e 6 18446744073709551616 (Ev.get ref03_Same_h) 25 ref03_Same_s 58 [] (ref03_Same_k2 i a b) = ref03_Same_K2 i a b := by
  rw [pfn_eq (by decide)]
  rw [pfn_loop (by kernel_rfl)]
  refine loopF_sim (σ := (Int) × LBT4 × LBT4) (mk := fun s => ref03_Same_k2 s.1 s.2.1 s.2.2) (fun w2 s => ?_) 18446744073709551616 (i, a, b)
  have e3 : (fun a b => (jfn Tryz.prog ref03_Same_e 6 18446744073709551616 (Ev.get ref03_Same_h) 25 ref03_Same_s) 7 [] (ref03_Same_k3 a b)) = ref03_Same_K3 := funext fun a => funext fun b => ref03_Same_g3 a b
  refine (ref03_Same_c2 _ w2 s.1 s.2.1 s.2.2).trans ?_
  rw [e3]
theorem ref03_Same_g1 (t50 : Bool) (a : ZoBq0) (b : ZoBq0) : jfn Tryz.prog ref03_Same_e 6 18446744073709551616 (Ev.get ref03_Same_h) 25 ref03_Same_s 6 [] (ref03_Same_k1 t50 a b) = ref03_Same_K1 t50 a b := by
  rw [pfn_eq (by decide)]
  have e2 : (fun i a b => (jfn Tryz.prog ref03_Same_e 6 18446744073709551616 (Ev.get ref03_Same_h) 25 ref03_Same_s) 58 [] (ref03_Same_k2 i a b)) = ref03_Same_K2 := funext fun i => funext fun a => funext fun b => ref03_Same_g2 i a b
  rw [ref03_Same_c1, e2]
  rfl
theorem ref03_Same_t (x : As [.pr (.int .u8) LBT1, .pr (.int .u8) LBT1]) : evT Tryz.prog ref03_Same_e 6 18446744073709551616 (Ev.get ref03_Same_h) 25 ref03_Same_s x = ref03_Same x := by
  have e1 : (fun t50 a b => (jfn Tryz.prog ref03_Same_e 6 18446744073709551616 (Ev.get ref03_Same_h) 25 ref03_Same_s) 6 [] (ref03_Same_k1 t50 a b)) = ref03_Same_K1 := funext fun t50 => funext fun a => funext fun b => ref03_Same_g1 t50 a b
  rw [rfn_eq, ref03_Same_c0, e1]
  rfl
theorem ref03_Same_ok : CtOk Tryz.prog (fun _ => True) 25 ⟨ref03_Same_s, ref03_Same⟩ := ct_of_ev env_nil ref03_Same_t
/-! ref03_Echo -/
@[reducible] def ref03_Echo_s : Sh := ⟨[.d (.pr (.int .u8) LBT2)], [], [.pr (.int .u8) LBT2], [.d (.pr (.int .u8) LBT1), .d (.bool)], [], 0, [.pr (.int .u8) LBT1, .bool]⟩
def ref03_Echo_e : Env := (cts [(80, (⟨ref02_Right_s, ref02_Right⟩ : Ct))])
def ref03_Echo_h : List (Nat × Hint) := [(62, ⟨[], [1, 2, 37]⟩)]
def ref03_Echo_k1 (t37 : Bool) (a : Int × Int × Int × Int × List Int × List Bool) (t2 : Int) (t2_2 : Int) (t2_3 : Int) (t2_4 : Int) : St := { fr := [(1, .pb 0 0), (2, .pb 1 0), (37, .d .bool t37)], nt := 46, up := [], own := [(0, .box 27 [.d (.int .u8) a.1, .d (.int .u16) a.2.1, .d (.int .u16) a.2.2.1, .d (.int .u16) a.2.2.2.1, .d (.sl (.int .u16)) a.2.2.2.2.1, .d (.sl .bool) a.2.2.2.2.2]), (1, .box 46 [.d (.int .u8) t2, .d (.int .u8) t2_2, .k (Go.Value.slice Option.none 0 0), .k (Go.Value.slice Option.none 0 0), .d (.int .u16) t2_3, .d (.int .u16) t2_4])], nx := 2, log := [], ln := 0 }
def ref03_Echo_m1 (t37 : Bool) (a : Int × Int × Int × Int × List Int × List Bool) (t2 : Int) (t2_2 : Int) (t2_3 : Int) (t2_4 : Int) : Option (As [.pr (.int .u8) LBT1, .bool]) :=
  if t37 = true then some ((a.1, 0, [], [], a.2.1, a.2.2.1), true, ()) else some ((0, 0, [], [], 0, 0), false, ())
def ref03_Echo_m0 (j1 : Bool → Int × Int × Int × Int × List Int × List Bool → Int → Int → Int → Int → Option (As [.pr (.int .u8) LBT1, .bool])) (a : Int × Int × Int × Int × List Int × List Bool) : Option (As [.pr (.int .u8) LBT1, .bool]) :=
  Option.bind (ref02_Right (a, ())) fun (y : Bool × Unit) => if (!y.1) = true then some ((0, 0, [], [], 0, 0), false, ()) else if eqi a.1 5 = true then Option.bind (at? a.2.2.2.2.2 0) fun (y : Bool) => some ((5, 0, [y], [], a.2.1, 0), true, ()) else if eqi a.1 6 = true then Option.bind (at? a.2.2.2.2.1 0) fun (y : Int) => some ((6, 0, [], [y], a.2.1, 0), true, ()) else if eqi a.1 15 = true then j1 true a 0 0 0 0 else j1 (eqi a.1 16) a 0 0 0 0
def ref03_Echo_K1 (t37 : Bool) (a : Int × Int × Int × Int × List Int × List Bool) (t2 : Int) (t2_2 : Int) (t2_3 : Int) (t2_4 : Int) : Option (As [.pr (.int .u8) LBT1, .bool]) := ref03_Echo_m1 t37 a t2 t2_2 t2_3 t2_4
def ref03_Echo (x : As [.pr (.int .u8) LBT2]) : Option (As [.pr (.int .u8) LBT1, .bool]) := ref03_Echo_m0 ref03_Echo_K1 x.1
theorem ref03_Echo_c1 (J : Orc (As [.pr (.int .u8) LBT1, .bool])) (t37 : Bool) (a : Int × Int × Int × Int × List Int × List Bool) (t2 : Int) (t2_2 : Int) (t2_3 : Int) (t2_4 : Int) : pfn Tryz.prog ref03_Echo_e 6 18446744073709551616 (Ev.get ref03_Echo_h) 135 ref03_Echo_s J 62 [] (ref03_Echo_k1 t37 a t2 t2_2 t2_3 t2_4) = ref03_Echo_m1 t37 a t2 t2_2 t2_3 t2_4 := by kernel_rfl
theorem ref03_Echo_c0 (J : Orc (As [.pr (.int .u8) LBT1, .bool])) (x : As [.pr (.int .u8) LBT2]) : rfn Tryz.prog ref03_Echo_e 6 18446744073709551616 (Ev.get ref03_Echo_h) 135 ref03_Echo_s J x = ref03_Echo_m0 (fun t37 a t2 t2_2 t2_3 t2_4 => J 62 [] (ref03_Echo_k1 t37 a t2 t2_2 t2_3 t2_4)) x.1 := by kernel_rfl
theorem ref03_Echo_g1 (t37 : Bool) (a : Int × Int × Int × Int × List Int × List Bool) (t2 : Int) (t2_2 : Int) (t2_3 : Int) (t2_4 : Int) : jfn Tryz.prog ref03_Echo_e 6 18446744073709551616 (Ev.get ref03_Echo_h) 135 ref03_Echo_s 62 [] (ref03_Echo_k1 t37 a t2 t2_2 t2_3 t2_4) = ref03_Echo_K1 t37 a t2 t2_2 t2_3 t2_4 := by
  rw [pfn_eq (by decide)]
  rw [ref03_Echo_c1]
  rfl
theorem ref03_Echo_t (x : As [.pr (.int .u8) LBT2]) : evT Tryz.prog ref03_Echo_e 6 18446744073709551616 (Ev.get ref03_Echo_h) 135 ref03_Echo_s x = ref03_Echo x := by
  have e1 : (fun t37 a t2 t2_2 t2_3 t2_4 => (jfn Tryz.prog ref03_Echo_e 6 18446744073709551616 (Ev.get ref03_Echo_h) 135 ref03_Echo_s) 62 [] (ref03_Echo_k1 t37 a t2 t2_2 t2_3 t2_4)) = ref03_Echo_K1 := funext fun t37 => funext fun a => funext fun t2 => funext fun t2_2 => funext fun t2_3 => funext fun t2_4 => ref03_Echo_g1 t37 a t2 t2_2 t2_3 t2_4
  rw [rfn_eq, ref03_Echo_c0, e1]
  rfl
theorem ref03_Echo_ok : CtOk Tryz.prog (fun _ => True) 135 ⟨ref03_Echo_s, ref03_Echo⟩ := ct_of_ev (env_cons ref02_Right_ok env_nil) ref03_Echo_t
/-! ref03_Fits -/
@[reducible] def ref03_Fits_s : Sh := ⟨[.d (.pr (.int .u8) LBT2), .d (.pr (.int .u8) LBT1)], [], [.pr (.int .u8) LBT2, .pr (.int .u8) LBT1], [.d (.bool)], [], 0, [.bool]⟩
def ref03_Fits_e : Env := (cts [(25, (⟨ref03_Same_s, ref03_Same⟩ : Ct)), (80, (⟨ref02_Right_s, ref02_Right⟩ : Ct)), (135, (⟨ref03_Echo_s, ref03_Echo⟩ : Ct)), (168, (⟨ref03_Right_s, ref03_Right⟩ : Ct))])
def ref03_Fits_h : List (Nat × Hint) := [(4090, ⟨[], [3, 8]⟩), (510, ⟨[], [3, 7, 59]⟩), (6, ⟨[], [2, 3, 23, 53, 54, 55, 56, 57, 58]⟩)]
def ref03_Fits_k1 (t23 : Bool) (a : Int × Int × Int × Int × List Int × List Bool) (r : ZoBq0) : St := { fr := [(2, .pb 0 0), (3, .pb 1 0), (23, .d .bool t23)], nt := 73, up := [], own := [(0, .box 27 [.d (.int .u8) a.1, .d (.int .u16) a.2.1, .d (.int .u16) a.2.2.1, .d (.int .u16) a.2.2.2.1, .d (.sl (.int .u16)) a.2.2.2.2.1, .d (.sl .bool) a.2.2.2.2.2]), (1, .box 46 [.d (.int .u8) r.1, .d (.int .u8) r.2.1, .d (.sl .bool) r.2.2.1, .d (.sl (.int .u16)) r.2.2.2.1, .d (.int .u16) r.2.2.2.2.1, .d (.int .u16) r.2.2.2.2.2])], nx := 2, log := [], ln := 0 }
def ref03_Fits_k2 (n : Int) (t59 : Bool) (r : ZoBq0) : St := { fr := [(3, .pb 0 0), (7, .d (.int .i64) n), (59, .d .bool t59)], nt := 73, up := [], own := [(0, .box 46 [.d (.int .u8) r.1, .d (.int .u8) r.2.1, .d (.sl .bool) r.2.2.1, .d (.sl (.int .u16)) r.2.2.2.1, .d (.int .u16) r.2.2.2.2.1, .d (.int .u16) r.2.2.2.2.2])], nx := 1, log := [], ln := 0 }
def ref03_Fits_k3 (i : Int) (r : ZoBq0) : St := { fr := [(3, .pb 0 0), (8, .d (.int .i64) i)], nt := 73, up := [], own := [(0, .box 46 [.d (.int .u8) r.1, .d (.int .u8) r.2.1, .d (.sl .bool) r.2.2.1, .d (.sl (.int .u16)) r.2.2.2.1, .d (.int .u16) r.2.2.2.2.1, .d (.int .u16) r.2.2.2.2.2])], nx := 1, log := [], ln := 0 }
def ref03_Fits_m1 (j2 : Int → Bool → ZoBq0 → Option (As [.bool])) (t23 : Bool) (a : Int × Int × Int × Int × List Int × List Bool) (r : ZoBq0) : Option (As [.bool]) :=
  if t23 = true then some (false, ()) else if nei r.2.1 0 = true then some (true, ()) else Option.bind (ref03_Echo (a, ())) fun (y : LBT4 × Bool × Unit) => if y.2.1 = true then Option.bind (ref03_Same (y.1, r, ())) fun (y : Bool × Unit) => some (y.1, ()) else if gt a.1 2 = true then some (eqi (Int.ofNat (List.length r.2.2.2.1)) (cvt .i64 a.2.2.1), ()) else if lt (Int.ofNat (List.length r.2.2.1)) (cvt .i64 a.2.2.1) = true then j2 (cvt .i64 a.2.2.1) true r else j2 (cvt .i64 a.2.2.1) (ge (Int.ofNat (List.length r.2.2.1)) (add .i64 (cvt .i64 a.2.2.1) 8)) r
def ref03_Fits_m2 (j3 : Int → ZoBq0 → Option (As [.bool])) (n : Int) (t59 : Bool) (r : ZoBq0) : Option (As [.bool]) :=
  if t59 = true then some (false, ()) else j3 n r
def ref03_Fits_m3 (self3 : Int → ZoBq0 → Option (As [.bool])) (i : Int) (r : ZoBq0) : Option (As [.bool]) :=
  if lt i (Int.ofNat (List.length r.2.2.1)) = true then Option.bind (at? r.2.2.1 i) fun (y : Bool) => if y = true then some (false, ()) else self3 (add .i64 i 1) r else some (true, ())
def ref03_Fits_m0 (j1 : Bool → Int × Int × Int × Int × List Int × List Bool → ZoBq0 → Option (As [.bool])) (a : Int × Int × Int × Int × List Int × List Bool) (r : ZoBq0) : Option (As [.bool]) :=
  Option.bind (ref02_Right (a, ())) fun (y : Bool × Unit) => if (!y.1) = true then j1 true a r else Option.bind (ref03_Right (r, ())) fun (y : Bool × Unit) => if (!y.1) = true then j1 true a r else j1 (nei a.1 r.1) a r
def ref03_Fits_K3 (i : Int) (r : ZoBq0) : Option (As [.bool]) :=
  loopF (fun (self : (Int) × LBT4 → Option (As [.bool])) (s : (Int) × LBT4) => ref03_Fits_m3 (fun i r => self (i, r)) s.1 s.2) 18446744073709551616 (i, r)
def ref03_Fits_K2 (n : Int) (t59 : Bool) (r : ZoBq0) : Option (As [.bool]) := ref03_Fits_m2 (ref03_Fits_K3) n t59 r
def ref03_Fits_K1 (t23 : Bool) (a : Int × Int × Int × Int × List Int × List Bool) (r : ZoBq0) : Option (As [.bool]) := ref03_Fits_m1 (ref03_Fits_K2) t23 a r
def ref03_Fits (x : As [.pr (.int .u8) LBT2, .pr (.int .u8) LBT1]) : Option (As [.bool]) := ref03_Fits_m0 ref03_Fits_K1 x.1 x.2.1
theorem ref03_Fits_c3 (J : Orc (As [.bool])) (w3 : St → Option (As [.bool])) (i : Int) (r : ZoBq0) : pfn Tryz.prog ref03_Fits_e 6 18446744073709551616 (Ev.get ref03_Fits_h) 90 ref03_Fits_s J 4090 [w3] (ref03_Fits_k3 i r) = ref03_Fits_m3 (fun i r => w3 (ref03_Fits_k3 i r)) i r := by kernel_rfl
theorem ref03_Fits_c2 (J : Orc (As [.bool])) (n : Int) (t59 : Bool) (r : ZoBq0) : pfn Tryz.prog ref03_Fits_e 6 18446744073709551616 (Ev.get ref03_Fits_h) 90 ref03_Fits_s J 510 [] (ref03_Fits_k2 n t59 r) = ref03_Fits_m2 (fun i r => J 4090 [] (ref03_Fits_k3 i r)) n t59 r := by kernel_rfl
theorem ref03_Fits_c1 (J : Orc (As [.bool])) (t23 : Bool) (a : Int × Int × Int × Int × List Int × List Bool) (r : ZoBq0) : pfn Tryz.prog ref03_Fits_e 6 18446744073709551616 (Ev.get ref03_Fits_h) 90 ref03_Fits_s J 6 [] (ref03_Fits_k1 t23 a r) = ref03_Fits_m1 (fun n t59 r => J 510 [] (ref03_Fits_k2 n t59 r)) t23 a r := by kernel_rfl
theorem ref03_Fits_c0 (J : Orc (As [.bool])) (x : As [.pr (.int .u8) LBT2, .pr (.int .u8) LBT1]) : rfn Tryz.prog ref03_Fits_e 6 18446744073709551616 (Ev.get ref03_Fits_h) 90 ref03_Fits_s J x = ref03_Fits_m0 (fun t23 a r => J 6 [] (ref03_Fits_k1 t23 a r)) x.1 x.2.1 := by kernel_rfl
theorem ref03_Fits_g3 (i : Int) (r : ZoBq0) : jfn Tryz.prog ref03_Fits_e 6 18446744073709551616 (Ev.get ref03_Fits_h) 90 ref03_Fits_s 4090 [] (ref03_Fits_k3 i r) = ref03_Fits_K3 i r := by
  rw [pfn_eq (by decide)]
  rw [pfn_loop (by kernel_rfl)]
  refine loopF_sim (σ := (Int) × LBT4) (mk := fun s => ref03_Fits_k3 s.1 s.2) (fun w3 s => ?_) 18446744073709551616 (i, r)
  refine (ref03_Fits_c3 _ w3 s.1 s.2).trans ?_
  rfl
theorem ref03_Fits_g2 (n : Int) (t59 : Bool) (r : ZoBq0) : jfn Tryz.prog ref03_Fits_e 6 18446744073709551616 (Ev.get ref03_Fits_h) 90 ref03_Fits_s 510 [] (ref03_Fits_k2 n t59 r) = ref03_Fits_K2 n t59 r := by
  rw [pfn_eq (by decide)]
  have e3 : (fun i r => (jfn Tryz.prog ref03_Fits_e 6 18446744073709551616 (Ev.get ref03_Fits_h) 90 ref03_Fits_s) 4090 [] (ref03_Fits_k3 i r)) = ref03_Fits_K3 := funext fun i => funext fun r => ref03_Fits_g3 i r
  rw [ref03_Fits_c2, e3]
  rfl
theorem ref03_Fits_g1 (t23 : Bool) (a : Int × Int × Int × Int × List Int × List Bool) (r : ZoBq0) : jfn Tryz.prog ref03_Fits_e 6 18446744073709551616 (Ev.get ref03_Fits_h) 90 ref03_Fits_s 6 [] (ref03_Fits_k1 t23 a r) = ref03_Fits_K1 t23 a r := by
  rw [pfn_eq (by decide)]
  have e2 : (fun n t59 r => (jfn Tryz.prog ref03_Fits_e 6 18446744073709551616 (Ev.get ref03_Fits_h) 90 ref03_Fits_s) 510 [] (ref03_Fits_k2 n t59 r)) = ref03_Fits_K2 := funext fun n => funext fun t59 => funext fun r => ref03_Fits_g2 n t59 r
  rw [ref03_Fits_c1, e2]
  rfl
theorem ref03_Fits_t (x : As [.pr (.int .u8) LBT2, .pr (.int .u8) LBT1]) : evT Tryz.prog ref03_Fits_e 6 18446744073709551616 (Ev.get ref03_Fits_h) 90 ref03_Fits_s x = ref03_Fits x := by
  have e1 : (fun t23 a r => (jfn Tryz.prog ref03_Fits_e 6 18446744073709551616 (Ev.get ref03_Fits_h) 90 ref03_Fits_s) 6 [] (ref03_Fits_k1 t23 a r)) = ref03_Fits_K1 := funext fun t23 => funext fun a => funext fun r => ref03_Fits_g1 t23 a r
  rw [rfn_eq, ref03_Fits_c0, e1]
  rfl
theorem ref03_Fits_ok : CtOk Tryz.prog (fun _ => True) 90 ⟨ref03_Fits_s, ref03_Fits⟩ := ct_of_ev (env_cons ref03_Same_ok (env_cons ref02_Right_ok (env_cons ref03_Echo_ok (env_cons ref03_Right_ok env_nil)))) ref03_Fits_t
/-! ref22_Take -/
@[reducible] def ref22_Take_s : Sh := ⟨[.d (.pr (.int .u8) LBT0), .d (.sl (.int .u8))], [], [.pr (.int .u8) LBT0, .sl (.int .u8)], [.d (.pr (.int .u8) LBT0), .d (.pr (.int .u8) LBT1), .d (.bool)], [], 0, [.pr (.int .u8) LBT0, .pr (.int .u8) LBT1, .bool]⟩
def ref22_Take_e : Env := (cts [(29, (⟨ref22_Drop_s, ref22_Drop⟩ : Ct)), (87, (⟨ref04_Reply_s, ref04_Reply⟩ : Ct)), (88, (⟨ref05_Parse_s, ref05_Parse⟩ : Ct)), (89, (⟨ref03_Parse_s, ref03_Parse⟩ : Ct)), (90, (⟨ref03_Fits_s, ref03_Fits⟩ : Ct))])
def ref22_Take_h : List (Nat × Hint) := [(31, ⟨[], [2, 4, 5, 7, 8]⟩), (1006, ⟨[], [2, 4, 5, 7, 8, 11, 57]⟩)]
def ref22_Take_k1 (p : ZoBq1) (t4 : Int) (t4_2 : Int) (t4_3 : Int) (t4_4 : Int) (t4_5 : Bool) (t4_6 : Int) (t4_7 : Int) (t4_8 : Int) (t4_9 : Int) (t4_10 : Int) (t4_11 : Int) (t4_12 : Int) (t5 : Int) (t5_2 : Int) (t5_3 : Int) (t5_4 : Int) (none' : Int) (none'_2 : Int) (none'_3 : Int) (none'_4 : Int) (r : ZoBq0) : St := { fr := [(2, .pb 0 0), (4, .pb 1 0), (5, .pb 2 0), (7, .pb 3 0), (8, .pb 4 0)], nt := 81, up := [], own := [(0, .box 29 [.d (.int .u8) p.1, .d (.int .u8) p.2.1, .d (.int .i64) p.2.2.1, .d (.int .i64) p.2.2.2.1, .d .bool p.2.2.2.2.1, .d (.int .u8) p.2.2.2.2.2.1.1, .d (.int .u16) p.2.2.2.2.2.1.2.1, .d (.int .u16) p.2.2.2.2.2.1.2.2.1, .d (.int .u16) p.2.2.2.2.2.1.2.2.2.1, .d (.sl (.int .u16)) p.2.2.2.2.2.1.2.2.2.2.1, .d (.sl .bool) p.2.2.2.2.2.1.2.2.2.2.2, .d (.int .u16) p.2.2.2.2.2.2.1, .d (.int .i64) p.2.2.2.2.2.2.2.1, .d (.int .i64) p.2.2.2.2.2.2.2.2]), (1, .box 29 [.d (.int .u8) t4, .d (.int .u8) t4_2, .d (.int .i64) t4_3, .d (.int .i64) t4_4, .d .bool t4_5, .d (.int .u8) t4_6, .d (.int .u16) t4_7, .d (.int .u16) t4_8, .d (.int .u16) t4_9, .k (Go.Value.slice Option.none 0 0), .k (Go.Value.slice Option.none 0 0), .d (.int .u16) t4_10, .d (.int .i64) t4_11, .d (.int .i64) t4_12]), (2, .box 46 [.d (.int .u8) t5, .d (.int .u8) t5_2, .k (Go.Value.slice Option.none 0 0), .k (Go.Value.slice Option.none 0 0), .d (.int .u16) t5_3, .d (.int .u16) t5_4]), (3, .box 46 [.d (.int .u8) none', .d (.int .u8) none'_2, .k (Go.Value.slice Option.none 0 0), .k (Go.Value.slice Option.none 0 0), .d (.int .u16) none'_3, .d (.int .u16) none'_4]), (4, .box 46 [.d (.int .u8) r.1, .d (.int .u8) r.2.1, .d (.sl .bool) r.2.2.1, .d (.sl (.int .u16)) r.2.2.2.1, .d (.int .u16) r.2.2.2.2.1, .d (.int .u16) r.2.2.2.2.2])], nx := 5, log := [], ln := 0 }
def ref22_Take_k2 (t57 : Bool) (p : ZoBq1) (t4 : Int) (t4_2 : Int) (t4_3 : Int) (t4_4 : Int) (t4_5 : Bool) (t4_6 : Int) (t4_7 : Int) (t4_8 : Int) (t4_9 : Int) (t4_10 : Int) (t4_11 : Int) (t4_12 : Int) (t5 : Int) (t5_2 : Int) (t5_3 : Int) (t5_4 : Int) (none' : Int) (none'_2 : Int) (none'_3 : Int) (none'_4 : Int) (r : ZoBq0) (x : Int × Int × List Int) : St := { fr := [(2, .pb 0 0), (4, .pb 1 0), (5, .pb 2 0), (7, .pb 3 0), (8, .pb 4 0), (11, .pb 5 0), (57, .d .bool t57)], nt := 81, up := [], own := [(0, .box 29 [.d (.int .u8) p.1, .d (.int .u8) p.2.1, .d (.int .i64) p.2.2.1, .d (.int .i64) p.2.2.2.1, .d .bool p.2.2.2.2.1, .d (.int .u8) p.2.2.2.2.2.1.1, .d (.int .u16) p.2.2.2.2.2.1.2.1, .d (.int .u16) p.2.2.2.2.2.1.2.2.1, .d (.int .u16) p.2.2.2.2.2.1.2.2.2.1, .d (.sl (.int .u16)) p.2.2.2.2.2.1.2.2.2.2.1, .d (.sl .bool) p.2.2.2.2.2.1.2.2.2.2.2, .d (.int .u16) p.2.2.2.2.2.2.1, .d (.int .i64) p.2.2.2.2.2.2.2.1, .d (.int .i64) p.2.2.2.2.2.2.2.2]), (1, .box 29 [.d (.int .u8) t4, .d (.int .u8) t4_2, .d (.int .i64) t4_3, .d (.int .i64) t4_4, .d .bool t4_5, .d (.int .u8) t4_6, .d (.int .u16) t4_7, .d (.int .u16) t4_8, .d (.int .u16) t4_9, .k (Go.Value.slice Option.none 0 0), .k (Go.Value.slice Option.none 0 0), .d (.int .u16) t4_10, .d (.int .i64) t4_11, .d (.int .i64) t4_12]), (2, .box 46 [.d (.int .u8) t5, .d (.int .u8) t5_2, .k (Go.Value.slice Option.none 0 0), .k (Go.Value.slice Option.none 0 0), .d (.int .u16) t5_3, .d (.int .u16) t5_4]), (3, .box 46 [.d (.int .u8) none', .d (.int .u8) none'_2, .k (Go.Value.slice Option.none 0 0), .k (Go.Value.slice Option.none 0 0), .d (.int .u16) none'_3, .d (.int .u16) none'_4]), (4, .box 46 [.d (.int .u8) r.1, .d (.int .u8) r.2.1, .d (.sl .bool) r.2.2.1, .d (.sl (.int .u16)) r.2.2.2.1, .d (.int .u16) r.2.2.2.2.1, .d (.int .u16) r.2.2.2.2.2]), (5, .box 143 [.d (.int .u16) x.1, .d (.int .u8) x.2.1, .d (.sl (.int .u8)) x.2.2])], nx := 6, log := [], ln := 0 }
def ref22_Take_m1 (p : ZoBq1) (t4 : Int) (t4_2 : Int) (t4_3 : Int) (t4_4 : Int) (t4_5 : Bool) (t4_6 : Int) (t4_7 : Int) (t4_8 : Int) (t4_9 : Int) (t4_10 : Int) (t4_11 : Int) (t4_12 : Int) (t5 : Int) (t5_2 : Int) (t5_3 : Int) (t5_4 : Int) (none' : Int) (none'_2 : Int) (none'_3 : Int) (none'_4 : Int) (r : ZoBq0) : Option (As [.pr (.int .u8) LBT0, .pr (.int .u8) LBT1, .bool]) :=
  Option.bind (ref03_Fits (p.2.2.2.2.2.1, r, ())) fun (y : Bool × Unit) => if (!y.1) = true then some (p, (none', none'_2, [], [], none'_3, none'_4), false, ()) else Option.bind (ref22_Drop (p, ())) fun (y : (ZoBq1) × Unit) => some (y.1, r, true, ())
def ref22_Take_m2 (j1 : ZoBq1 → Int → Int → Int → Int → Bool → Int → Int → Int → Int → Int → Int → Int → Int → Int → Int → Int → Int → Int → Int → Int → ZoBq0 → Option (As [.pr (.int .u8) LBT0, .pr (.int .u8) LBT1, .bool])) (t57 : Bool) (p : ZoBq1) (t4 : Int) (t4_2 : Int) (t4_3 : Int) (t4_4 : Int) (t4_5 : Bool) (t4_6 : Int) (t4_7 : Int) (t4_8 : Int) (t4_9 : Int) (t4_10 : Int) (t4_11 : Int) (t4_12 : Int) (t5 : Int) (t5_2 : Int) (t5_3 : Int) (t5_4 : Int) (none' : Int) (none'_2 : Int) (none'_3 : Int) (none'_4 : Int) (r : ZoBq0) (x : Int × Int × List Int) : Option (As [.pr (.int .u8) LBT0, .pr (.int .u8) LBT1, .bool]) :=
  if t57 = true then some (p, (none', none'_2, [], [], none'_3, none'_4), false, ()) else Option.bind (ref03_Parse (x.2.2, ())) fun (y : LBT4 × Int × Unit) => if nei y.2.1 0 = true then some (p, (none', none'_2, [], [], none'_3, none'_4), false, ()) else j1 p t4 t4_2 t4_3 t4_4 t4_5 t4_6 t4_7 t4_8 t4_9 t4_10 t4_11 t4_12 t5 t5_2 t5_3 t5_4 none' none'_2 none'_3 none'_4 y.1
def ref22_Take_m0 (j1 : ZoBq1 → Int → Int → Int → Int → Bool → Int → Int → Int → Int → Int → Int → Int → Int → Int → Int → Int → Int → Int → Int → Int → ZoBq0 → Option (As [.pr (.int .u8) LBT0, .pr (.int .u8) LBT1, .bool])) (j2 : Bool → ZoBq1 → Int → Int → Int → Int → Bool → Int → Int → Int → Int → Int → Int → Int → Int → Int → Int → Int → Int → Int → Int → Int → ZoBq0 → Int × Int × List Int → Option (As [.pr (.int .u8) LBT0, .pr (.int .u8) LBT1, .bool])) (p : ZoBq1) (frame : List Int) : Option (As [.pr (.int .u8) LBT0, .pr (.int .u8) LBT1, .bool]) :=
  if (!p.2.2.2.2.1) = true then some (p, (0, 0, [], [], 0, 0), false, ()) else if eqi p.2.1 1 = true then Option.bind (ref04_Reply (p.1, frame, ())) fun (y : LBT4 × Int × Unit) => if nei y.2.1 0 = true then some (p, (0, 0, [], [], 0, 0), false, ()) else j1 p 0 0 0 0 false 0 0 0 0 0 0 0 0 0 0 0 0 0 0 0 y.1 else Option.bind (ref05_Parse (frame, ())) fun (y : (Int × Int × List Int) × Int × Unit) => if nei y.2.1 0 = true then j2 true p 0 0 0 0 false 0 0 0 0 0 0 0 0 0 0 0 0 0 0 0 (0, 0, [], [], 0, 0) y.1 else if nei y.1.2.1 p.1 = true then j2 true p 0 0 0 0 false 0 0 0 0 0 0 0 0 0 0 0 0 0 0 0 (0, 0, [], [], 0, 0) y.1 else j2 (nei y.1.1 p.2.2.2.2.2.2.1) p 0 0 0 0 false 0 0 0 0 0 0 0 0 0 0 0 0 0 0 0 (0, 0, [], [], 0, 0) y.1
def ref22_Take_K1 (p : ZoBq1) (t4 : Int) (t4_2 : Int) (t4_3 : Int) (t4_4 : Int) (t4_5 : Bool) (t4_6 : Int) (t4_7 : Int) (t4_8 : Int) (t4_9 : Int) (t4_10 : Int) (t4_11 : Int) (t4_12 : Int) (t5 : Int) (t5_2 : Int) (t5_3 : Int) (t5_4 : Int) (none' : Int) (none'_2 : Int) (none'_3 : Int) (none'_4 : Int) (r : ZoBq0) : Option (As [.pr (.int .u8) LBT0, .pr (.int .u8) LBT1, .bool]) := ref22_Take_m1 p t4 t4_2 t4_3 t4_4 t4_5 t4_6 t4_7 t4_8 t4_9 t4_10 t4_11 t4_12 t5 t5_2 t5_3 t5_4 none' none'_2 none'_3 none'_4 r
def ref22_Take_K2 (t57 : Bool) (p : ZoBq1) (t4 : Int) (t4_2 : Int) (t4_3 : Int) (t4_4 : Int) (t4_5 : Bool) (t4_6 : Int) (t4_7 : Int) (t4_8 : Int) (t4_9 : Int) (t4_10 : Int) (t4_11 : Int) (t4_12 : Int) (t5 : Int) (t5_2 : Int) (t5_3 : Int) (t5_4 : Int) (none' : Int) (none'_2 : Int) (none'_3 : Int) (none'_4 : Int) (r : ZoBq0) (x : Int × Int × List Int) : Option (As [.pr (.int .u8) LBT0, .pr (.int .u8) LBT1, .bool]) := ref22_Take_m2 (ref22_Take_K1) t57 p t4 t4_2 t4_3 t4_4 t4_5 t4_6 t4_7 t4_8 t4_9 t4_10 t4_11 t4_12 t5 t5_2 t5_3 t5_4 none' none'_2 none'_3 none'_4 r x
def ref22_Take (x : As [.pr (.int .u8) LBT0, .sl (.int .u8)]) : Option (As [.pr (.int .u8) LBT0, .pr (.int .u8) LBT1, .bool]) := ref22_Take_m0 ref22_Take_K1 ref22_Take_K2 x.1 x.2.1
theorem ref22_Take_c1 (J : Orc (As [.pr (.int .u8) LBT0, .pr (.int .u8) LBT1, .bool])) (p : ZoBq1) (t4 : Int) (t4_2 : Int) (t4_3 : Int) (t4_4 : Int) (t4_5 : Bool) (t4_6 : Int) (t4_7 : Int) (t4_8 : Int) (t4_9 : Int) (t4_10 : Int) (t4_11 : Int) (t4_12 : Int) (t5 : Int) (t5_2 : Int) (t5_3 : Int) (t5_4 : Int) (none' : Int) (none'_2 : Int) (none'_3 : Int) (none'_4 : Int) (r : ZoBq0) : pfn Tryz.prog ref22_Take_e 6 18446744073709551616 (Ev.get ref22_Take_h) 24 ref22_Take_s J 31 [] (ref22_Take_k1 p t4 t4_2 t4_3 t4_4 t4_5 t4_6 t4_7 t4_8 t4_9 t4_10 t4_11 t4_12 t5 t5_2 t5_3 t5_4 none' none'_2 none'_3 none'_4 r) = ref22_Take_m1 p t4 t4_2 t4_3 t4_4 t4_5 t4_6 t4_7 t4_8 t4_9 t4_10 t4_11 t4_12 t5 t5_2 t5_3 t5_4 none' none'_2 none'_3 none'_4 r := by kernel_rfl
theorem ref22_Take_c2 (J : Orc (As [.pr (.int .u8) LBT0, .pr (.int .u8) LBT1, .bool])) (t57 : Bool) (p : ZoBq1) (t4 : Int) (t4_2 : Int) (t4_3 : Int) (t4_4 : Int) (t4_5 : Bool) (t4_6 : Int) (t4_7 : Int) (t4_8 : Int) (t4_9 : Int) (t4_10 : Int) (t4_11 : Int) (t4_12 : Int) (t5 : Int) (t5_2 : Int) (t5_3 : Int) (t5_4 : Int) (none' : Int) (none'_2 : Int) (none'_3 : Int) (none'_4 : Int) (r : ZoBq0) (x : Int × Int × List Int) : pfn Tryz.prog ref22_Take_e 6 18446744073709551616 (Ev.get ref22_Take_h) 24 ref22_Take_s J 1006 [] (ref22_Take_k2 t57 p t4 t4_2 t4_3 t4_4 t4_5 t4_6 t4_7 t4_8 t4_9 t4_10 t4_11 t4_12 t5 t5_2 t5_3 t5_4 none' none'_2 none'_3 none'_4 r x) = ref22_Take_m2 (fun p t4 t4_2 t4_3 t4_4 t4_5 t4_6 t4_7 t4_8 t4_9 t4_10 t4_11 t4_12 t5 t5_2 t5_3 t5_4 none' none'_2 none'_3 none'_4 r => J 31 [] (ref22_Take_k1 p t4 t4_2 t4_3 t4_4 t4_5 t4_6 t4_7 t4_8 t4_9 t4_10 t4_11 t4_12 t5 t5_2 t5_3 t5_4 none' none'_2 none'_3 none'_4 r)) t57 p t4 t4_2 t4_3 t4_4 t4_5 t4_6 t4_7 t4_8 t4_9 t4_10 t4_11 t4_12 t5 t5_2 t5_3 t5_4 none' none'_2 none'_3 none'_4 r x := by kernel_rfl
theorem ref22_Take_c0 (J : Orc (As [.pr (.int .u8) LBT0, .pr (.int .u8) LBT1, .bool])) (x : As [.pr (.int .u8) LBT0, .sl (.int .u8)]) : rfn Tryz.prog ref22_Take_e 6 18446744073709551616 (Ev.get ref22_Take_h) 24 ref22_Take_s J x = ref22_Take_m0 (fun p t4 t4_2 t4_3 t4_4 t4_5 t4_6 t4_7 t4_8 t4_9 t4_10 t4_11 t4_12 t5 t5_2 t5_3 t5_4 none' none'_2 none'_3 none'_4 r => J 31 [] (ref22_Take_k1 p t4 t4_2 t4_3 t4_4 t4_5 t4_6 t4_7 t4_8 t4_9 t4_10 t4_11 t4_12 t5 t5_2 t5_3 t5_4 none' none'_2 none'_3 none'_4 r)) (fun t57 p t4 t4_2 t4_3 t4_4 t4_5 t4_6 t4_7 t4_8 t4_9 t4_10 t4_11 t4_12 t5 t5_2 t5_3 t5_4 none' none'_2 none'_3 none'_4 r x => J 1006 [] (ref22_Take_k2 t57 p t4 t4_2 t4_3 t4_4 t4_5 t4_6 t4_7 t4_8 t4_9 t4_10 t4_11 t4_12 t5 t5_2 t5_3 t5_4 none' none'_2 none'_3 none'_4 r x)) x.1 x.2.1 := by kernel_rfl
theorem ref22_Take_g1 (p : ZoBq1) (t4 : Int) (t4_2 : Int) (t4_3 : Int) (t4_4 : Int) (t4_5 : Bool) (t4_6 : Int) (t4_7 : Int) (t4_8 : Int) (t4_9 : Int) (t4_10 : Int) (t4_11 : Int) (t4_12 : Int) (t5 : Int) (t5_2 : Int) (t5_3 : Int) (t5_4 : Int) (none' : Int) (none'_2 : Int) (none'_3 : Int) (none'_4 : Int) (r : ZoBq0) : jfn Tryz.prog ref22_Take_e 6 18446744073709551616 (Ev.get ref22_Take_h) 24 ref22_Take_s 31 [] (ref22_Take_k1 p t4 t4_2 t4_3 t4_4 t4_5 t4_6 t4_7 t4_8 t4_9 t4_10 t4_11 t4_12 t5 t5_2 t5_3 t5_4 none' none'_2 none'_3 none'_4 r) = ref22_Take_K1 p t4 t4_2 t4_3 t4_4 t4_5 t4_6 t4_7 t4_8 t4_9 t4_10 t4_11 t4_12 t5 t5_2 t5_3 t5_4 none' none'_2 none'_3 none'_4 r := by
  rw [pfn_eq (by decide)]
  rw [ref22_Take_c1]
  rfl
theorem ref22_Take_g2 (t57 : Bool) (p : ZoBq1) (t4 : Int) (t4_2 : Int) (t4_3 : Int) (t4_4 : Int) (t4_5 : Bool) (t4_6 : Int) (t4_7 : Int) (t4_8 : Int) (t4_9 : Int) (t4_10 : Int) (t4_11 : Int) (t4_12 : Int) (t5 : Int) (t5_2 : Int) (t5_3 : Int) (t5_4 : Int) (none' : Int) (none'_2 : Int) (none'_3 : Int) (none'_4 : Int) (r : ZoBq0) (x : Int × Int × List Int) : jfn Tryz.prog ref22_Take_e 6 18446744073709551616 (Ev.get ref22_Take_h) 24 ref22_Take_s 1006 [] (ref22_Take_k2 t57 p t4 t4_2 t4_3 t4_4 t4_5 t4_6 t4_7 t4_8 t4_9 t4_10 t4_11 t4_12 t5 t5_2 t5_3 t5_4 none' none'_2 none'_3 none'_4 r x) = ref22_Take_K2 t57 p t4 t4_2 t4_3 t4_4 t4_5 t4_6 t4_7 t4_8 t4_9 t4_10 t4_11 t4_12 t5 t5_2 t5_3 t5_4 none' none'_2 none'_3 none'_4 r x := by
  rw [pfn_eq (by decide)]
  have e1 : (fun p t4 t4_2 t4_3 t4_4 t4_5 t4_6 t4_7 t4_8 t4_9 t4_10 t4_11 t4_12 t5 t5_2 t5_3 t5_4 none' none'_2 none'_3 none'_4 r => (jfn Tryz.prog ref22_Take_e 6 18446744073709551616 (Ev.get ref22_Take_h) 24 ref22_Take_s) 31 [] (ref22_Take_k1 p t4 t4_2 t4_3 t4_4 t4_5 t4_6 t4_7 t4_8 t4_9 t4_10 t4_11 t4_12 t5 t5_2 t5_3 t5_4 none' none'_2 none'_3 none'_4 r)) = ref22_Take_K1 := funext fun p => funext fun t4 => funext fun t4_2 => funext fun t4_3 => funext fun t4_4 => funext fun t4_5 => funext fun t4_6 => funext fun t4_7 => funext fun t4_8 => funext fun t4_9 => funext fun t4_10 => funext fun t4_11 => funext fun t4_12 => funext fun t5 => funext fun t5_2 => funext fun t5_3 => funext fun t5_4 => funext fun none' => funext fun none'_2 => funext fun none'_3 => funext fun none'_4 => funext fun r => ref22_Take_g1 p t4 t4_2 t4_3 t4_4 t4_5 t4_6 t4_7 t4_8 t4_9 t4_10 t4_11 t4_12 t5 t5_2 t5_3 t5_4 none' none'_2 none'_3 none'_4 r
  rw [ref22_Take_c2, e1]
  rfl
theorem ref22_Take_t (x : As [.pr (.int .u8) LBT0, .sl (.int .u8)]) : evT Tryz.prog ref22_Take_e 6 18446744073709551616 (Ev.get ref22_Take_h) 24 ref22_Take_s x = ref22_Take x := by
  have e1 : (fun p t4 t4_2 t4_3 t4_4 t4_5 t4_6 t4_7 t4_8 t4_9 t4_10 t4_11 t4_12 t5 t5_2 t5_3 t5_4 none' none'_2 none'_3 none'_4 r => (jfn Tryz.prog ref22_Take_e 6 18446744073709551616 (Ev.get ref22_Take_h) 24 ref22_Take_s) 31 [] (ref22_Take_k1 p t4 t4_2 t4_3 t4_4 t4_5 t4_6 t4_7 t4_8 t4_9 t4_10 t4_11 t4_12 t5 t5_2 t5_3 t5_4 none' none'_2 none'_3 none'_4 r)) = ref22_Take_K1 := funext fun p => funext fun t4 => funext fun t4_2 => funext fun t4_3 => funext fun t4_4 => funext fun t4_5 => funext fun t4_6 => funext fun t4_7 => funext fun t4_8 => funext fun t4_9 => funext fun t4_10 => funext fun t4_11 => funext fun t4_12 => funext fun t5 => funext fun t5_2 => funext fun t5_3 => funext fun t5_4 => funext fun none' => funext fun none'_2 => funext fun none'_3 => funext fun none'_4 => funext fun r => ref22_Take_g1 p t4 t4_2 t4_3 t4_4 t4_5 t4_6 t4_7 t4_8 t4_9 t4_10 t4_11 t4_12 t5 t5_2 t5_3 t5_4 none' none'_2 none'_3 none'_4 r
  have e2 : (fun t57 p t4 t4_2 t4_3 t4_4 t4_5 t4_6 t4_7 t4_8 t4_9 t4_10 t4_11 t4_12 t5 t5_2 t5_3 t5_4 none' none'_2 none'_3 none'_4 r x => (jfn Tryz.prog ref22_Take_e 6 18446744073709551616 (Ev.get ref22_Take_h) 24 ref22_Take_s) 1006 [] (ref22_Take_k2 t57 p t4 t4_2 t4_3 t4_4 t4_5 t4_6 t4_7 t4_8 t4_9 t4_10 t4_11 t4_12 t5 t5_2 t5_3 t5_4 none' none'_2 none'_3 none'_4 r x)) = ref22_Take_K2 := funext fun t57 => funext fun p => funext fun t4 => funext fun t4_2 => funext fun t4_3 => funext fun t4_4 => funext fun t4_5 => funext fun t4_6 => funext fun t4_7 => funext fun t4_8 => funext fun t4_9 => funext fun t4_10 => funext fun t4_11 => funext fun t4_12 => funext fun t5 => funext fun t5_2 => funext fun t5_3 => funext fun t5_4 => funext fun none' => funext fun none'_2 => funext fun none'_3 => funext fun none'_4 => funext fun r => funext fun x => ref22_Take_g2 t57 p t4 t4_2 t4_3 t4_4 t4_5 t4_6 t4_7 t4_8 t4_9 t4_10 t4_11 t4_12 t5 t5_2 t5_3 t5_4 none' none'_2 none'_3 none'_4 r x
  rw [rfn_eq, ref22_Take_c0, e1, e2]
  rfl
theorem ref22_Take_ok : CtOk Tryz.prog (fun _ => True) 24 ⟨ref22_Take_s, ref22_Take⟩ := ct_of_ev (env_cons ref22_Drop_ok (env_cons ref04_Reply_ok (env_cons ref05_Parse_ok (env_cons ref03_Parse_ok (env_cons ref03_Fits_ok env_nil))))) ref22_Take_t
/-! ref22_Tick -/
@[reducible] def ref22_Tick_s : Sh := ⟨[.d (.pr (.int .u8) LBT0)], [], [.pr (.int .u8) LBT0], [.d (.pr (.int .u8) LBT0), .d (.sl (.int .u8)), .d (.bool)], [], 0, [.pr (.int .u8) LBT0, .sl (.int .u8), .bool]⟩
def ref22_Tick_e : Env := (cts [(19, (⟨ref22_Copy_s, ref22_Copy⟩ : Ct)), (29, (⟨ref22_Drop_s, ref22_Drop⟩ : Ct)), (85, (⟨ref22_sends_s, ref22_sends⟩ : Ct))])
def ref22_Tick_h : List (Nat × Hint) := []
def ref22_Tick_m0 (p : ZoBq1) : Option (As [.pr (.int .u8) LBT0, .sl (.int .u8), .bool]) :=
  if (!p.2.2.2.2.1) = true then some (p, [], false, ()) else Option.bind (ref22_Copy (p, ())) fun (y : (ZoBq1) × Unit) => if gt (Sx.sub .i64 y.1.2.2.2.2.2.2.2.1 1) 0 = true then some ((y.1.1, y.1.2.1, y.1.2.2.1, y.1.2.2.2.1, y.1.2.2.2.2.1, y.1.2.2.2.2.2.1, y.1.2.2.2.2.2.2.1, Sx.sub .i64 y.1.2.2.2.2.2.2.2.1 1, y.1.2.2.2.2.2.2.2.2), [], false, ()) else if eqi y.1.2.2.2.2.2.2.2.2 0 = true then Option.bind (ref22_Drop ((y.1.1, y.1.2.1, y.1.2.2.1, y.1.2.2.2.1, y.1.2.2.2.2.1, y.1.2.2.2.2.2.1, y.1.2.2.2.2.2.2.1, Sx.sub .i64 y.1.2.2.2.2.2.2.2.1 1, y.1.2.2.2.2.2.2.2.2), ())) fun (y : (ZoBq1) × Unit) => some (y.1, [], true, ()) else Option.bind (ref22_sends ((y.1.1, y.1.2.1, y.1.2.2.1, y.1.2.2.2.1, y.1.2.2.2.2.1, y.1.2.2.2.2.2.1, y.1.2.2.2.2.2.2.1, Sx.sub .i64 y.1.2.2.2.2.2.2.2.1 1, Sx.sub .i64 y.1.2.2.2.2.2.2.2.2 1), ())) fun (y : (ZoBq1) × List Int × Unit) => some (y.1, y.2.1, false, ())
def ref22_Tick (x : As [.pr (.int .u8) LBT0]) : Option (As [.pr (.int .u8) LBT0, .sl (.int .u8), .bool]) := ref22_Tick_m0 x.1
theorem ref22_Tick_c0 (J : Orc (As [.pr (.int .u8) LBT0, .sl (.int .u8), .bool])) (x : As [.pr (.int .u8) LBT0]) : rfn Tryz.prog ref22_Tick_e 6 18446744073709551616 (Ev.get ref22_Tick_h) 27 ref22_Tick_s J x = ref22_Tick_m0 x.1 := by kernel_rfl
theorem ref22_Tick_t (x : As [.pr (.int .u8) LBT0]) : evT Tryz.prog ref22_Tick_e 6 18446744073709551616 (Ev.get ref22_Tick_h) 27 ref22_Tick_s x = ref22_Tick x := by
  rw [rfn_eq, ref22_Tick_c0]
  rfl
theorem ref22_Tick_ok : CtOk Tryz.prog (fun _ => True) 27 ⟨ref22_Tick_s, ref22_Tick⟩ := ct_of_ev (env_cons ref22_Copy_ok (env_cons ref22_Drop_ok (env_cons ref22_sends_ok env_nil))) ref22_Tick_t
end Go.Proofs.Lx

end

section
/- Contracts, made by a program. -/
open Go Go.Proofs Ev Sx
set_option maxRecDepth 100000
namespace Go.Proofs.Lx
abbrev LCT0 : Type := (Int × Int × Int × Int × List Int × List Bool)
abbrev LCT1 : Ty := (.pr (.int .u8) (.pr (.int .u16) (.pr (.int .u16) (.pr (.int .u16) (.pr (.sl (.int .u16)) (.sl .bool))))))
abbrev LCT2 : Ty := (.pr (.int .u16) (.pr (.int .i64) (.int .i64)))
abbrev LCT3 : Ty := (.pr (.sl (.int .u8)) (.int .u8))
abbrev ZoCq0 : Type := Int × Int × Int × Int × Bool × LCT0 × Int × Int × Int
abbrev ZoCq1 : Type := Int × LCT0 × List Int × Int
/-! law22_PollTells -/
@[reducible] def law22_PollTells_s : Sh := ⟨[.d (.int .u8), .d (.int .u8), .d (.int .i64), .d (.int .i64), .d (.sl (.pr (.int .u8) (.pr LCT1 LCT3))), .d (.pr (.int .u8) (.pr (.int .u8) (.pr (.int .i64) (.pr (.int .i64) (.pr .bool (.pr LCT1 LCT2)))))), .d (.pr (.int .u8) (.pr (.int .u8) (.pr (.int .i64) (.pr (.int .i64) (.pr .bool (.pr LCT1 LCT2))))))], [], [.int .u8, .int .u8, .int .i64, .int .i64, .sl (.pr (.int .u8) (.pr LCT1 LCT3)), .pr (.int .u8) (.pr (.int .u8) (.pr (.int .i64) (.pr (.int .i64) (.pr .bool (.pr LCT1 LCT2))))), .pr (.int .u8) (.pr (.int .u8) (.pr (.int .i64) (.pr (.int .i64) (.pr .bool (.pr LCT1 LCT2)))))], [.d (.bool)], [], 0, [.bool]⟩
def law22_PollTells_e : Env := (cts [(10, (⟨law22_Few_s, law22_Few⟩ : Ct)), (11, (⟨low_Few_s, low_Few⟩ : Ct)), (12, (⟨law22_awake_s, law22_awake⟩ : Ct)), (13, (⟨poll_New_s, poll_New⟩ : Ct)), (14, (⟨ref22_New_s, ref22_New⟩ : Ct)), (15, (⟨poll_Right_s, poll_Right⟩ : Ct)), (16, (⟨ref22_Right_s, ref22_Right⟩ : Ct)), (17, (⟨poll_Same_s, poll_Same⟩ : Ct)), (18, (⟨ref22_Same_s, ref22_Same⟩ : Ct)), (19, (⟨ref22_Copy_s, ref22_Copy⟩ : Ct)), (20, (⟨poll_Send_s, poll_Send⟩ : Ct)), (21, (⟨ref22_Send_s, ref22_Send⟩ : Ct)), (22, (⟨low_Same_s, low_Same⟩ : Ct)), (23, (⟨poll_Take_s, poll_Take⟩ : Ct)), (24, (⟨ref22_Take_s, ref22_Take⟩ : Ct)), (25, (⟨ref03_Same_s, ref03_Same⟩ : Ct)), (26, (⟨poll_Tick_s, poll_Tick⟩ : Ct)), (27, (⟨ref22_Tick_s, ref22_Tick⟩ : Ct)), (28, (⟨poll_Drop_s, poll_Drop⟩ : Ct)), (29, (⟨ref22_Drop_s, ref22_Drop⟩ : Ct))])
def law22_PollTells_h : List (Nat × Hint) := [(63, ⟨[], [4, 15, 16, 17, 147, 148, 149, 150, 176, 177, 178, 179, 206, 207, 208, 209, 217, 218, 219, 220]⟩), (2042, ⟨[], [15, 17, 107, 108, 109, 147, 148, 149, 150, 176, 177, 178, 179, 206, 207, 208, 209, 217, 218, 219, 220]⟩), (522855, ⟨[], [15, 17, 21, 22, 107, 108, 109, 147, 148, 149, 150, 176, 177, 178, 179, 206, 207, 208, 209, 217, 218, 219, 220]⟩), (2091422, ⟨[], [15, 17, 22, 107, 108, 109, 221]⟩), (1070807802, ⟨[], [15, 17, 21, 22, 107, 108, 109, 147, 148, 149, 150, 176, 177, 178, 179, 185, 186, 206, 207, 208, 209, 217, 218, 219, 220]⟩), (274126797415, ⟨[], [15, 17, 21, 22, 107, 108, 109, 185, 186, 210]⟩), (535403895, ⟨[], [15, 17, 21, 22, 107, 108, 109, 180]⟩), (133850967, ⟨[], [15, 17, 21, 22, 107, 108, 109, 151]⟩), (62, ⟨[], [4, 12, 15, 16, 17, 99, 147, 148, 149, 150, 176, 177, 178, 179, 206, 207, 208, 209, 217, 218, 219, 220]⟩), (6, ⟨[], [0, 1, 2, 3, 4, 12, 13, 63, 85, 86, 87, 88, 89, 92, 93, 94, 95, 96, 97, 98, 147, 148, 149, 150, 176, 177, 178, 179, 206, 207, 208, 209, 217, 218, 219, 220]⟩)]
def law22_PollTells_k1 (unit : Int) (link : Int) (timeout : Int) (retries : Int) (l : List (ZoCq1)) (t63 : Bool) (o : ZoCq0) (u : ZoCq0) : St := { fr := [(0, .d (.int .u8) unit), (1, .d (.int .u8) link), (2, .d (.int .i64) timeout), (3, .d (.int .i64) retries), (4, .d (.sl (.pr (.int .u8) (.pr LCT1 LCT3))) l), (12, .pb 0 0), (13, .pb 1 0), (63, .d .bool t63)], nt := 225, up := [], own := [(0, .box 29 [.d (.int .u8) o.1, .d (.int .u8) o.2.1, .d (.int .i64) o.2.2.1, .d (.int .i64) o.2.2.2.1, .d .bool o.2.2.2.2.1, .d (.int .u8) o.2.2.2.2.2.1.1, .d (.int .u16) o.2.2.2.2.2.1.2.1, .d (.int .u16) o.2.2.2.2.2.1.2.2.1, .d (.int .u16) o.2.2.2.2.2.1.2.2.2.1, .d (.sl (.int .u16)) o.2.2.2.2.2.1.2.2.2.2.1, .d (.sl .bool) o.2.2.2.2.2.1.2.2.2.2.2, .d (.int .u16) o.2.2.2.2.2.2.1, .d (.int .i64) o.2.2.2.2.2.2.2.1, .d (.int .i64) o.2.2.2.2.2.2.2.2]), (1, .box 29 [.d (.int .u8) u.1, .d (.int .u8) u.2.1, .d (.int .i64) u.2.2.1, .d (.int .i64) u.2.2.2.1, .d .bool u.2.2.2.2.1, .d (.int .u8) u.2.2.2.2.2.1.1, .d (.int .u16) u.2.2.2.2.2.1.2.1, .d (.int .u16) u.2.2.2.2.2.1.2.2.1, .d (.int .u16) u.2.2.2.2.2.1.2.2.2.1, .d (.sl (.int .u16)) u.2.2.2.2.2.1.2.2.2.2.1, .d (.sl .bool) u.2.2.2.2.2.1.2.2.2.2.2, .d (.int .u16) u.2.2.2.2.2.2.1, .d (.int .i64) u.2.2.2.2.2.2.2.1, .d (.int .i64) u.2.2.2.2.2.2.2.2])], nx := 2, log := [], ln := 0 }
def law22_PollTells_k2 (l : List (ZoCq1)) (e : Int) (t99 : Bool) (o : ZoCq0) (p : ZoCq0) (q : ZoCq0) : St := { fr := [(4, .d (.sl (.pr (.int .u8) (.pr LCT1 LCT3))) l), (12, .pb 0 0), (15, .pb 1 0), (16, .d (.int .i64) e), (17, .pb 2 0), (99, .d .bool t99)], nt := 225, up := [], own := [(0, .box 29 [.d (.int .u8) o.1, .d (.int .u8) o.2.1, .d (.int .i64) o.2.2.1, .d (.int .i64) o.2.2.2.1, .d .bool o.2.2.2.2.1, .d (.int .u8) o.2.2.2.2.2.1.1, .d (.int .u16) o.2.2.2.2.2.1.2.1, .d (.int .u16) o.2.2.2.2.2.1.2.2.1, .d (.int .u16) o.2.2.2.2.2.1.2.2.2.1, .d (.sl (.int .u16)) o.2.2.2.2.2.1.2.2.2.2.1, .d (.sl .bool) o.2.2.2.2.2.1.2.2.2.2.2, .d (.int .u16) o.2.2.2.2.2.2.1, .d (.int .i64) o.2.2.2.2.2.2.2.1, .d (.int .i64) o.2.2.2.2.2.2.2.2]), (1, .box 29 [.d (.int .u8) p.1, .d (.int .u8) p.2.1, .d (.int .i64) p.2.2.1, .d (.int .i64) p.2.2.2.1, .d .bool p.2.2.2.2.1, .d (.int .u8) p.2.2.2.2.2.1.1, .d (.int .u16) p.2.2.2.2.2.1.2.1, .d (.int .u16) p.2.2.2.2.2.1.2.2.1, .d (.int .u16) p.2.2.2.2.2.1.2.2.2.1, .d (.sl (.int .u16)) p.2.2.2.2.2.1.2.2.2.2.1, .d (.sl .bool) p.2.2.2.2.2.1.2.2.2.2.2, .d (.int .u16) p.2.2.2.2.2.2.1, .d (.int .i64) p.2.2.2.2.2.2.2.1, .d (.int .i64) p.2.2.2.2.2.2.2.2]), (2, .box 29 [.d (.int .u8) q.1, .d (.int .u8) q.2.1, .d (.int .i64) q.2.2.1, .d (.int .i64) q.2.2.2.1, .d .bool q.2.2.2.2.1, .d (.int .u8) q.2.2.2.2.2.1.1, .d (.int .u16) q.2.2.2.2.2.1.2.1, .d (.int .u16) q.2.2.2.2.2.1.2.2.1, .d (.int .u16) q.2.2.2.2.2.1.2.2.2.1, .d (.sl (.int .u16)) q.2.2.2.2.2.1.2.2.2.2.1, .d (.sl .bool) q.2.2.2.2.2.1.2.2.2.2.2, .d (.int .u16) q.2.2.2.2.2.2.1, .d (.int .i64) q.2.2.2.2.2.2.2.1, .d (.int .i64) q.2.2.2.2.2.2.2.2])], nx := 3, log := [], ln := 0 }
def law22_PollTells_k3 (l : List (ZoCq1)) (e : Int) (p : ZoCq0) (q : ZoCq0) : St := { fr := [(4, .d (.sl (.pr (.int .u8) (.pr LCT1 LCT3))) l), (15, .pb 0 0), (16, .d (.int .i64) e), (17, .pb 1 0)], nt := 225, up := [], own := [(0, .box 29 [.d (.int .u8) p.1, .d (.int .u8) p.2.1, .d (.int .i64) p.2.2.1, .d (.int .i64) p.2.2.2.1, .d .bool p.2.2.2.2.1, .d (.int .u8) p.2.2.2.2.2.1.1, .d (.int .u16) p.2.2.2.2.2.1.2.1, .d (.int .u16) p.2.2.2.2.2.1.2.2.1, .d (.int .u16) p.2.2.2.2.2.1.2.2.2.1, .d (.sl (.int .u16)) p.2.2.2.2.2.1.2.2.2.2.1, .d (.sl .bool) p.2.2.2.2.2.1.2.2.2.2.2, .d (.int .u16) p.2.2.2.2.2.2.1, .d (.int .i64) p.2.2.2.2.2.2.2.1, .d (.int .i64) p.2.2.2.2.2.2.2.2]), (1, .box 29 [.d (.int .u8) q.1, .d (.int .u8) q.2.1, .d (.int .i64) q.2.2.1, .d (.int .i64) q.2.2.2.1, .d .bool q.2.2.2.2.1, .d (.int .u8) q.2.2.2.2.2.1.1, .d (.int .u16) q.2.2.2.2.2.1.2.1, .d (.int .u16) q.2.2.2.2.2.1.2.2.1, .d (.int .u16) q.2.2.2.2.2.1.2.2.2.1, .d (.sl (.int .u16)) q.2.2.2.2.2.1.2.2.2.2.1, .d (.sl .bool) q.2.2.2.2.2.1.2.2.2.2.2, .d (.int .u16) q.2.2.2.2.2.2.1, .d (.int .i64) q.2.2.2.2.2.2.2.1, .d (.int .i64) q.2.2.2.2.2.2.2.2])], nx := 2, log := [], ln := 0 }
def law22_PollTells_k4 (t107 : List (ZoCq1)) (t108 : Int) (t109 : Int) (p : ZoCq0) (q : ZoCq0) : St := { fr := [(15, .pb 0 0), (17, .pb 1 0), (107, .d (.sl (.pr (.int .u8) (.pr LCT1 LCT3))) t107), (108, .d (.int .i64) t108), (109, .d (.int .i64) t109)], nt := 225, up := [], own := [(0, .box 29 [.d (.int .u8) p.1, .d (.int .u8) p.2.1, .d (.int .i64) p.2.2.1, .d (.int .i64) p.2.2.2.1, .d .bool p.2.2.2.2.1, .d (.int .u8) p.2.2.2.2.2.1.1, .d (.int .u16) p.2.2.2.2.2.1.2.1, .d (.int .u16) p.2.2.2.2.2.1.2.2.1, .d (.int .u16) p.2.2.2.2.2.1.2.2.2.1, .d (.sl (.int .u16)) p.2.2.2.2.2.1.2.2.2.2.1, .d (.sl .bool) p.2.2.2.2.2.1.2.2.2.2.2, .d (.int .u16) p.2.2.2.2.2.2.1, .d (.int .i64) p.2.2.2.2.2.2.2.1, .d (.int .i64) p.2.2.2.2.2.2.2.2]), (1, .box 29 [.d (.int .u8) q.1, .d (.int .u8) q.2.1, .d (.int .i64) q.2.2.1, .d (.int .i64) q.2.2.2.1, .d .bool q.2.2.2.2.1, .d (.int .u8) q.2.2.2.2.2.1.1, .d (.int .u16) q.2.2.2.2.2.1.2.1, .d (.int .u16) q.2.2.2.2.2.1.2.2.1, .d (.int .u16) q.2.2.2.2.2.1.2.2.2.1, .d (.sl (.int .u16)) q.2.2.2.2.2.1.2.2.2.2.1, .d (.sl .bool) q.2.2.2.2.2.1.2.2.2.2.2, .d (.int .u16) q.2.2.2.2.2.2.1, .d (.int .i64) q.2.2.2.2.2.2.2.1, .d (.int .i64) q.2.2.2.2.2.2.2.2])], nx := 2, log := [], ln := 0 }
def law22_PollTells_k5 (t107 : List (ZoCq1)) (t108 : Int) (t109 : Int) (t151 : Bool) (p : ZoCq0) (q : ZoCq0) (was : ZoCq0) (next : ZoCq0) : St := { fr := [(15, .pb 0 0), (17, .pb 1 0), (21, .pb 2 0), (22, .pb 3 0), (107, .d (.sl (.pr (.int .u8) (.pr LCT1 LCT3))) t107), (108, .d (.int .i64) t108), (109, .d (.int .i64) t109), (151, .d .bool t151)], nt := 225, up := [], own := [(0, .box 29 [.d (.int .u8) p.1, .d (.int .u8) p.2.1, .d (.int .i64) p.2.2.1, .d (.int .i64) p.2.2.2.1, .d .bool p.2.2.2.2.1, .d (.int .u8) p.2.2.2.2.2.1.1, .d (.int .u16) p.2.2.2.2.2.1.2.1, .d (.int .u16) p.2.2.2.2.2.1.2.2.1, .d (.int .u16) p.2.2.2.2.2.1.2.2.2.1, .d (.sl (.int .u16)) p.2.2.2.2.2.1.2.2.2.2.1, .d (.sl .bool) p.2.2.2.2.2.1.2.2.2.2.2, .d (.int .u16) p.2.2.2.2.2.2.1, .d (.int .i64) p.2.2.2.2.2.2.2.1, .d (.int .i64) p.2.2.2.2.2.2.2.2]), (1, .box 29 [.d (.int .u8) q.1, .d (.int .u8) q.2.1, .d (.int .i64) q.2.2.1, .d (.int .i64) q.2.2.2.1, .d .bool q.2.2.2.2.1, .d (.int .u8) q.2.2.2.2.2.1.1, .d (.int .u16) q.2.2.2.2.2.1.2.1, .d (.int .u16) q.2.2.2.2.2.1.2.2.1, .d (.int .u16) q.2.2.2.2.2.1.2.2.2.1, .d (.sl (.int .u16)) q.2.2.2.2.2.1.2.2.2.2.1, .d (.sl .bool) q.2.2.2.2.2.1.2.2.2.2.2, .d (.int .u16) q.2.2.2.2.2.2.1, .d (.int .i64) q.2.2.2.2.2.2.2.1, .d (.int .i64) q.2.2.2.2.2.2.2.2]), (2, .box 29 [.d (.int .u8) was.1, .d (.int .u8) was.2.1, .d (.int .i64) was.2.2.1, .d (.int .i64) was.2.2.2.1, .d .bool was.2.2.2.2.1, .d (.int .u8) was.2.2.2.2.2.1.1, .d (.int .u16) was.2.2.2.2.2.1.2.1, .d (.int .u16) was.2.2.2.2.2.1.2.2.1, .d (.int .u16) was.2.2.2.2.2.1.2.2.2.1, .d (.sl (.int .u16)) was.2.2.2.2.2.1.2.2.2.2.1, .d (.sl .bool) was.2.2.2.2.2.1.2.2.2.2.2, .d (.int .u16) was.2.2.2.2.2.2.1, .d (.int .i64) was.2.2.2.2.2.2.2.1, .d (.int .i64) was.2.2.2.2.2.2.2.2]), (3, .box 29 [.d (.int .u8) next.1, .d (.int .u8) next.2.1, .d (.int .i64) next.2.2.1, .d (.int .i64) next.2.2.2.1, .d .bool next.2.2.2.2.1, .d (.int .u8) next.2.2.2.2.2.1.1, .d (.int .u16) next.2.2.2.2.2.1.2.1, .d (.int .u16) next.2.2.2.2.2.1.2.2.1, .d (.int .u16) next.2.2.2.2.2.1.2.2.2.1, .d (.sl (.int .u16)) next.2.2.2.2.2.1.2.2.2.2.1, .d (.sl .bool) next.2.2.2.2.2.1.2.2.2.2.2, .d (.int .u16) next.2.2.2.2.2.2.1, .d (.int .i64) next.2.2.2.2.2.2.2.1, .d (.int .i64) next.2.2.2.2.2.2.2.2])], nx := 4, log := [], ln := 0 }
def law22_PollTells_k6 (t107 : List (ZoCq1)) (t108 : Int) (t109 : Int) (t180 : Bool) (p : ZoCq0) (q : ZoCq0) (was : ZoCq0) (next : ZoCq0) : St := { fr := [(15, .pb 0 0), (17, .pb 1 0), (21, .pb 2 0), (22, .pb 3 0), (107, .d (.sl (.pr (.int .u8) (.pr LCT1 LCT3))) t107), (108, .d (.int .i64) t108), (109, .d (.int .i64) t109), (180, .d .bool t180)], nt := 225, up := [], own := [(0, .box 29 [.d (.int .u8) p.1, .d (.int .u8) p.2.1, .d (.int .i64) p.2.2.1, .d (.int .i64) p.2.2.2.1, .d .bool p.2.2.2.2.1, .d (.int .u8) p.2.2.2.2.2.1.1, .d (.int .u16) p.2.2.2.2.2.1.2.1, .d (.int .u16) p.2.2.2.2.2.1.2.2.1, .d (.int .u16) p.2.2.2.2.2.1.2.2.2.1, .d (.sl (.int .u16)) p.2.2.2.2.2.1.2.2.2.2.1, .d (.sl .bool) p.2.2.2.2.2.1.2.2.2.2.2, .d (.int .u16) p.2.2.2.2.2.2.1, .d (.int .i64) p.2.2.2.2.2.2.2.1, .d (.int .i64) p.2.2.2.2.2.2.2.2]), (1, .box 29 [.d (.int .u8) q.1, .d (.int .u8) q.2.1, .d (.int .i64) q.2.2.1, .d (.int .i64) q.2.2.2.1, .d .bool q.2.2.2.2.1, .d (.int .u8) q.2.2.2.2.2.1.1, .d (.int .u16) q.2.2.2.2.2.1.2.1, .d (.int .u16) q.2.2.2.2.2.1.2.2.1, .d (.int .u16) q.2.2.2.2.2.1.2.2.2.1, .d (.sl (.int .u16)) q.2.2.2.2.2.1.2.2.2.2.1, .d (.sl .bool) q.2.2.2.2.2.1.2.2.2.2.2, .d (.int .u16) q.2.2.2.2.2.2.1, .d (.int .i64) q.2.2.2.2.2.2.2.1, .d (.int .i64) q.2.2.2.2.2.2.2.2]), (2, .box 29 [.d (.int .u8) was.1, .d (.int .u8) was.2.1, .d (.int .i64) was.2.2.1, .d (.int .i64) was.2.2.2.1, .d .bool was.2.2.2.2.1, .d (.int .u8) was.2.2.2.2.2.1.1, .d (.int .u16) was.2.2.2.2.2.1.2.1, .d (.int .u16) was.2.2.2.2.2.1.2.2.1, .d (.int .u16) was.2.2.2.2.2.1.2.2.2.1, .d (.sl (.int .u16)) was.2.2.2.2.2.1.2.2.2.2.1, .d (.sl .bool) was.2.2.2.2.2.1.2.2.2.2.2, .d (.int .u16) was.2.2.2.2.2.2.1, .d (.int .i64) was.2.2.2.2.2.2.2.1, .d (.int .i64) was.2.2.2.2.2.2.2.2]), (3, .box 29 [.d (.int .u8) next.1, .d (.int .u8) next.2.1, .d (.int .i64) next.2.2.1, .d (.int .i64) next.2.2.2.1, .d .bool next.2.2.2.2.1, .d (.int .u8) next.2.2.2.2.2.1.1, .d (.int .u16) next.2.2.2.2.2.1.2.1, .d (.int .u16) next.2.2.2.2.2.1.2.2.1, .d (.int .u16) next.2.2.2.2.2.1.2.2.2.1, .d (.sl (.int .u16)) next.2.2.2.2.2.1.2.2.2.2.1, .d (.sl .bool) next.2.2.2.2.2.1.2.2.2.2.2, .d (.int .u16) next.2.2.2.2.2.2.1, .d (.int .i64) next.2.2.2.2.2.2.2.1, .d (.int .i64) next.2.2.2.2.2.2.2.2])], nx := 4, log := [], ln := 0 }
def law22_PollTells_k7 (t107 : List (ZoCq1)) (t108 : Int) (t109 : Int) (t185 : Int) (t186 : Int) (p : ZoCq0) (q : ZoCq0) (was : ZoCq0) (next : ZoCq0) : St := { fr := [(15, .pb 0 0), (17, .pb 1 0), (21, .pb 2 0), (22, .pb 3 0), (107, .d (.sl (.pr (.int .u8) (.pr LCT1 LCT3))) t107), (108, .d (.int .i64) t108), (109, .d (.int .i64) t109), (185, .d (.int .u8) t185), (186, .d (.int .u8) t186)], nt := 225, up := [], own := [(0, .box 29 [.d (.int .u8) p.1, .d (.int .u8) p.2.1, .d (.int .i64) p.2.2.1, .d (.int .i64) p.2.2.2.1, .d .bool p.2.2.2.2.1, .d (.int .u8) p.2.2.2.2.2.1.1, .d (.int .u16) p.2.2.2.2.2.1.2.1, .d (.int .u16) p.2.2.2.2.2.1.2.2.1, .d (.int .u16) p.2.2.2.2.2.1.2.2.2.1, .d (.sl (.int .u16)) p.2.2.2.2.2.1.2.2.2.2.1, .d (.sl .bool) p.2.2.2.2.2.1.2.2.2.2.2, .d (.int .u16) p.2.2.2.2.2.2.1, .d (.int .i64) p.2.2.2.2.2.2.2.1, .d (.int .i64) p.2.2.2.2.2.2.2.2]), (1, .box 29 [.d (.int .u8) q.1, .d (.int .u8) q.2.1, .d (.int .i64) q.2.2.1, .d (.int .i64) q.2.2.2.1, .d .bool q.2.2.2.2.1, .d (.int .u8) q.2.2.2.2.2.1.1, .d (.int .u16) q.2.2.2.2.2.1.2.1, .d (.int .u16) q.2.2.2.2.2.1.2.2.1, .d (.int .u16) q.2.2.2.2.2.1.2.2.2.1, .d (.sl (.int .u16)) q.2.2.2.2.2.1.2.2.2.2.1, .d (.sl .bool) q.2.2.2.2.2.1.2.2.2.2.2, .d (.int .u16) q.2.2.2.2.2.2.1, .d (.int .i64) q.2.2.2.2.2.2.2.1, .d (.int .i64) q.2.2.2.2.2.2.2.2]), (2, .box 29 [.d (.int .u8) was.1, .d (.int .u8) was.2.1, .d (.int .i64) was.2.2.1, .d (.int .i64) was.2.2.2.1, .d .bool was.2.2.2.2.1, .d (.int .u8) was.2.2.2.2.2.1.1, .d (.int .u16) was.2.2.2.2.2.1.2.1, .d (.int .u16) was.2.2.2.2.2.1.2.2.1, .d (.int .u16) was.2.2.2.2.2.1.2.2.2.1, .d (.sl (.int .u16)) was.2.2.2.2.2.1.2.2.2.2.1, .d (.sl .bool) was.2.2.2.2.2.1.2.2.2.2.2, .d (.int .u16) was.2.2.2.2.2.2.1, .d (.int .i64) was.2.2.2.2.2.2.2.1, .d (.int .i64) was.2.2.2.2.2.2.2.2]), (3, .box 29 [.d (.int .u8) next.1, .d (.int .u8) next.2.1, .d (.int .i64) next.2.2.1, .d (.int .i64) next.2.2.2.1, .d .bool next.2.2.2.2.1, .d (.int .u8) next.2.2.2.2.2.1.1, .d (.int .u16) next.2.2.2.2.2.1.2.1, .d (.int .u16) next.2.2.2.2.2.1.2.2.1, .d (.int .u16) next.2.2.2.2.2.1.2.2.2.1, .d (.sl (.int .u16)) next.2.2.2.2.2.1.2.2.2.2.1, .d (.sl .bool) next.2.2.2.2.2.1.2.2.2.2.2, .d (.int .u16) next.2.2.2.2.2.2.1, .d (.int .i64) next.2.2.2.2.2.2.2.1, .d (.int .i64) next.2.2.2.2.2.2.2.2])], nx := 4, log := [], ln := 0 }
def law22_PollTells_k8 (t107 : List (ZoCq1)) (t108 : Int) (t109 : Int) (p : ZoCq0) (q : ZoCq0) (was : ZoCq0) (next : ZoCq0) : St := { fr := [(15, .pb 0 0), (17, .pb 1 0), (21, .pb 2 0), (22, .pb 3 0), (107, .d (.sl (.pr (.int .u8) (.pr LCT1 LCT3))) t107), (108, .d (.int .i64) t108), (109, .d (.int .i64) t109)], nt := 225, up := [], own := [(0, .box 29 [.d (.int .u8) p.1, .d (.int .u8) p.2.1, .d (.int .i64) p.2.2.1, .d (.int .i64) p.2.2.2.1, .d .bool p.2.2.2.2.1, .d (.int .u8) p.2.2.2.2.2.1.1, .d (.int .u16) p.2.2.2.2.2.1.2.1, .d (.int .u16) p.2.2.2.2.2.1.2.2.1, .d (.int .u16) p.2.2.2.2.2.1.2.2.2.1, .d (.sl (.int .u16)) p.2.2.2.2.2.1.2.2.2.2.1, .d (.sl .bool) p.2.2.2.2.2.1.2.2.2.2.2, .d (.int .u16) p.2.2.2.2.2.2.1, .d (.int .i64) p.2.2.2.2.2.2.2.1, .d (.int .i64) p.2.2.2.2.2.2.2.2]), (1, .box 29 [.d (.int .u8) q.1, .d (.int .u8) q.2.1, .d (.int .i64) q.2.2.1, .d (.int .i64) q.2.2.2.1, .d .bool q.2.2.2.2.1, .d (.int .u8) q.2.2.2.2.2.1.1, .d (.int .u16) q.2.2.2.2.2.1.2.1, .d (.int .u16) q.2.2.2.2.2.1.2.2.1, .d (.int .u16) q.2.2.2.2.2.1.2.2.2.1, .d (.sl (.int .u16)) q.2.2.2.2.2.1.2.2.2.2.1, .d (.sl .bool) q.2.2.2.2.2.1.2.2.2.2.2, .d (.int .u16) q.2.2.2.2.2.2.1, .d (.int .i64) q.2.2.2.2.2.2.2.1, .d (.int .i64) q.2.2.2.2.2.2.2.2]), (2, .box 29 [.d (.int .u8) was.1, .d (.int .u8) was.2.1, .d (.int .i64) was.2.2.1, .d (.int .i64) was.2.2.2.1, .d .bool was.2.2.2.2.1, .d (.int .u8) was.2.2.2.2.2.1.1, .d (.int .u16) was.2.2.2.2.2.1.2.1, .d (.int .u16) was.2.2.2.2.2.1.2.2.1, .d (.int .u16) was.2.2.2.2.2.1.2.2.2.1, .d (.sl (.int .u16)) was.2.2.2.2.2.1.2.2.2.2.1, .d (.sl .bool) was.2.2.2.2.2.1.2.2.2.2.2, .d (.int .u16) was.2.2.2.2.2.2.1, .d (.int .i64) was.2.2.2.2.2.2.2.1, .d (.int .i64) was.2.2.2.2.2.2.2.2]), (3, .box 29 [.d (.int .u8) next.1, .d (.int .u8) next.2.1, .d (.int .i64) next.2.2.1, .d (.int .i64) next.2.2.2.1, .d .bool next.2.2.2.2.1, .d (.int .u8) next.2.2.2.2.2.1.1, .d (.int .u16) next.2.2.2.2.2.1.2.1, .d (.int .u16) next.2.2.2.2.2.1.2.2.1, .d (.int .u16) next.2.2.2.2.2.1.2.2.2.1, .d (.sl (.int .u16)) next.2.2.2.2.2.1.2.2.2.2.1, .d (.sl .bool) next.2.2.2.2.2.1.2.2.2.2.2, .d (.int .u16) next.2.2.2.2.2.2.1, .d (.int .i64) next.2.2.2.2.2.2.2.1, .d (.int .i64) next.2.2.2.2.2.2.2.2])], nx := 4, log := [], ln := 0 }
def law22_PollTells_k9 (t107 : List (ZoCq1)) (t108 : Int) (t109 : Int) (t185 : Int) (t186 : Int) (t210 : Bool) (p : ZoCq0) (q : ZoCq0) (was : ZoCq0) (next : ZoCq0) : St := { fr := [(15, .pb 0 0), (17, .pb 1 0), (21, .pb 2 0), (22, .pb 3 0), (107, .d (.sl (.pr (.int .u8) (.pr LCT1 LCT3))) t107), (108, .d (.int .i64) t108), (109, .d (.int .i64) t109), (185, .d (.int .u8) t185), (186, .d (.int .u8) t186), (210, .d .bool t210)], nt := 225, up := [], own := [(0, .box 29 [.d (.int .u8) p.1, .d (.int .u8) p.2.1, .d (.int .i64) p.2.2.1, .d (.int .i64) p.2.2.2.1, .d .bool p.2.2.2.2.1, .d (.int .u8) p.2.2.2.2.2.1.1, .d (.int .u16) p.2.2.2.2.2.1.2.1, .d (.int .u16) p.2.2.2.2.2.1.2.2.1, .d (.int .u16) p.2.2.2.2.2.1.2.2.2.1, .d (.sl (.int .u16)) p.2.2.2.2.2.1.2.2.2.2.1, .d (.sl .bool) p.2.2.2.2.2.1.2.2.2.2.2, .d (.int .u16) p.2.2.2.2.2.2.1, .d (.int .i64) p.2.2.2.2.2.2.2.1, .d (.int .i64) p.2.2.2.2.2.2.2.2]), (1, .box 29 [.d (.int .u8) q.1, .d (.int .u8) q.2.1, .d (.int .i64) q.2.2.1, .d (.int .i64) q.2.2.2.1, .d .bool q.2.2.2.2.1, .d (.int .u8) q.2.2.2.2.2.1.1, .d (.int .u16) q.2.2.2.2.2.1.2.1, .d (.int .u16) q.2.2.2.2.2.1.2.2.1, .d (.int .u16) q.2.2.2.2.2.1.2.2.2.1, .d (.sl (.int .u16)) q.2.2.2.2.2.1.2.2.2.2.1, .d (.sl .bool) q.2.2.2.2.2.1.2.2.2.2.2, .d (.int .u16) q.2.2.2.2.2.2.1, .d (.int .i64) q.2.2.2.2.2.2.2.1, .d (.int .i64) q.2.2.2.2.2.2.2.2]), (2, .box 29 [.d (.int .u8) was.1, .d (.int .u8) was.2.1, .d (.int .i64) was.2.2.1, .d (.int .i64) was.2.2.2.1, .d .bool was.2.2.2.2.1, .d (.int .u8) was.2.2.2.2.2.1.1, .d (.int .u16) was.2.2.2.2.2.1.2.1, .d (.int .u16) was.2.2.2.2.2.1.2.2.1, .d (.int .u16) was.2.2.2.2.2.1.2.2.2.1, .d (.sl (.int .u16)) was.2.2.2.2.2.1.2.2.2.2.1, .d (.sl .bool) was.2.2.2.2.2.1.2.2.2.2.2, .d (.int .u16) was.2.2.2.2.2.2.1, .d (.int .i64) was.2.2.2.2.2.2.2.1, .d (.int .i64) was.2.2.2.2.2.2.2.2]), (3, .box 29 [.d (.int .u8) next.1, .d (.int .u8) next.2.1, .d (.int .i64) next.2.2.1, .d (.int .i64) next.2.2.2.1, .d .bool next.2.2.2.2.1, .d (.int .u8) next.2.2.2.2.2.1.1, .d (.int .u16) next.2.2.2.2.2.1.2.1, .d (.int .u16) next.2.2.2.2.2.1.2.2.1, .d (.int .u16) next.2.2.2.2.2.1.2.2.2.1, .d (.sl (.int .u16)) next.2.2.2.2.2.1.2.2.2.2.1, .d (.sl .bool) next.2.2.2.2.2.1.2.2.2.2.2, .d (.int .u16) next.2.2.2.2.2.2.1, .d (.int .i64) next.2.2.2.2.2.2.2.1, .d (.int .i64) next.2.2.2.2.2.2.2.2])], nx := 4, log := [], ln := 0 }
def law22_PollTells_k10 (t107 : List (ZoCq1)) (t108 : Int) (t109 : Int) (t221 : Bool) (p : ZoCq0) (q : ZoCq0) (next : ZoCq0) : St := { fr := [(15, .pb 0 0), (17, .pb 1 0), (22, .pb 2 0), (107, .d (.sl (.pr (.int .u8) (.pr LCT1 LCT3))) t107), (108, .d (.int .i64) t108), (109, .d (.int .i64) t109), (221, .d .bool t221)], nt := 225, up := [], own := [(0, .box 29 [.d (.int .u8) p.1, .d (.int .u8) p.2.1, .d (.int .i64) p.2.2.1, .d (.int .i64) p.2.2.2.1, .d .bool p.2.2.2.2.1, .d (.int .u8) p.2.2.2.2.2.1.1, .d (.int .u16) p.2.2.2.2.2.1.2.1, .d (.int .u16) p.2.2.2.2.2.1.2.2.1, .d (.int .u16) p.2.2.2.2.2.1.2.2.2.1, .d (.sl (.int .u16)) p.2.2.2.2.2.1.2.2.2.2.1, .d (.sl .bool) p.2.2.2.2.2.1.2.2.2.2.2, .d (.int .u16) p.2.2.2.2.2.2.1, .d (.int .i64) p.2.2.2.2.2.2.2.1, .d (.int .i64) p.2.2.2.2.2.2.2.2]), (1, .box 29 [.d (.int .u8) q.1, .d (.int .u8) q.2.1, .d (.int .i64) q.2.2.1, .d (.int .i64) q.2.2.2.1, .d .bool q.2.2.2.2.1, .d (.int .u8) q.2.2.2.2.2.1.1, .d (.int .u16) q.2.2.2.2.2.1.2.1, .d (.int .u16) q.2.2.2.2.2.1.2.2.1, .d (.int .u16) q.2.2.2.2.2.1.2.2.2.1, .d (.sl (.int .u16)) q.2.2.2.2.2.1.2.2.2.2.1, .d (.sl .bool) q.2.2.2.2.2.1.2.2.2.2.2, .d (.int .u16) q.2.2.2.2.2.2.1, .d (.int .i64) q.2.2.2.2.2.2.2.1, .d (.int .i64) q.2.2.2.2.2.2.2.2]), (2, .box 29 [.d (.int .u8) next.1, .d (.int .u8) next.2.1, .d (.int .i64) next.2.2.1, .d (.int .i64) next.2.2.2.1, .d .bool next.2.2.2.2.1, .d (.int .u8) next.2.2.2.2.2.1.1, .d (.int .u16) next.2.2.2.2.2.1.2.1, .d (.int .u16) next.2.2.2.2.2.1.2.2.1, .d (.int .u16) next.2.2.2.2.2.1.2.2.2.1, .d (.sl (.int .u16)) next.2.2.2.2.2.1.2.2.2.2.1, .d (.sl .bool) next.2.2.2.2.2.1.2.2.2.2.2, .d (.int .u16) next.2.2.2.2.2.2.1, .d (.int .i64) next.2.2.2.2.2.2.2.1, .d (.int .i64) next.2.2.2.2.2.2.2.2])], nx := 3, log := [], ln := 0 }
def law22_PollTells_m1 (j2 : List (ZoCq1) → Int → Bool → ZoCq0 → ZoCq0 → ZoCq0 → Option (As [.bool])) (unit : Int) (link : Int) (timeout : Int) (retries : Int) (l : List (ZoCq1)) (t63 : Bool) (o : ZoCq0) (u : ZoCq0) : Option (As [.bool]) :=
  if t63 = true then Option.bind (law22_awake ()) fun (y : Bool × Unit) => some (y.1, ()) else Option.bind (poll_New (unit, link, timeout, retries, ())) fun (y : (ZoCq0) × Int × Unit) => Option.bind (ref22_New (unit, link, timeout, retries, ())) fun (y_1 : (ZoCq0) × Int × Unit) => if nei y.2.1 y_1.2.1 = true then j2 l y.2.1 true o y.1 y_1.1 else Option.bind (poll_Right (o, ())) fun (y_2 : Bool × Unit) => Option.bind (ref22_Right (o, ())) fun (y_3 : Bool × Unit) => if Sx.neb y_2.1 y_3.1 = true then j2 l y.2.1 true o y.1 y_1.1 else Option.bind (poll_Same (o, u, ())) fun (y_4 : Bool × Unit) => Option.bind (ref22_Same (o, u, ())) fun (y_5 : Bool × Unit) => j2 l y.2.1 (Sx.neb y_4.1 y_5.1) o y.1 y_1.1
def law22_PollTells_m2 (j3 : List (ZoCq1) → Int → ZoCq0 → ZoCq0 → Option (As [.bool])) (l : List (ZoCq1)) (e : Int) (t99 : Bool) (o : ZoCq0) (p : ZoCq0) (q : ZoCq0) : Option (As [.bool]) :=
  if t99 = true then some (false, ()) else Option.bind (ref22_Right (o, ())) fun (y : Bool × Unit) => if y.1 = true then j3 l 0 o o else j3 l e p q
def law22_PollTells_m3 (j4 : List (ZoCq1) → Int → Int → ZoCq0 → ZoCq0 → Option (As [.bool])) (l : List (ZoCq1)) (e : Int) (p : ZoCq0) (q : ZoCq0) : Option (As [.bool]) :=
  if nei e 0 = true then Option.bind (law22_awake ()) fun (y : Bool × Unit) => some (y.1, ()) else j4 l (Int.ofNat (List.length l)) 0 p q
def law22_PollTells_m4 (j5 : List (ZoCq1) → Int → Int → Bool → ZoCq0 → ZoCq0 → ZoCq0 → ZoCq0 → Option (As [.bool])) (j6 : List (ZoCq1) → Int → Int → Bool → ZoCq0 → ZoCq0 → ZoCq0 → ZoCq0 → Option (As [.bool])) (j7 : List (ZoCq1) → Int → Int → Int → Int → ZoCq0 → ZoCq0 → ZoCq0 → ZoCq0 → Option (As [.bool])) (j8 : List (ZoCq1) → Int → Int → ZoCq0 → ZoCq0 → ZoCq0 → ZoCq0 → Option (As [.bool])) (self4 : List (ZoCq1) → Int → Int → ZoCq0 → ZoCq0 → Option (As [.bool])) (t107 : List (ZoCq1)) (t108 : Int) (t109 : Int) (p : ZoCq0) (q : ZoCq0) : Option (As [.bool]) :=
  if lt t109 t108 = true then Option.bind (at? t107 t109) fun (y : ZoCq1) => Option.bind (ref22_Copy (p, ())) fun (y_1 : (ZoCq0) × Unit) => if eqi (rem y.1 4) 0 = true then Option.bind (poll_Send (p, y.2.1, ())) fun (y_2 : (ZoCq0) × List Int × Int × Unit) => Option.bind (ref22_Send (q, y.2.1, ())) fun (y : (ZoCq0) × List Int × Int × Unit) => if nei y_2.2.2.1 y.2.2.1 = true then j5 t107 t108 t109 true p y.1 y_1.1 y_2.1 else Option.bind (low_Same (y_2.2.1, y.2.1, ())) fun (y_3 : Bool × Unit) => j5 t107 t108 t109 (!y_3.1) p y.1 y_1.1 y_2.1 else if eqi (rem y.1 4) 1 = true then Option.bind (poll_Take (p, y.2.2.1, ())) fun (y_2 : (ZoCq0) × (Int × Int × List Bool × List Int × Int × Int) × Bool × Unit) => Option.bind (ref22_Take (q, y.2.2.1, ())) fun (y : (ZoCq0) × (Int × Int × List Bool × List Int × Int × Int) × Bool × Unit) => if Sx.neb y_2.2.2.1 y.2.2.1 = true then j6 t107 t108 t109 true p y.1 y_1.1 y_2.1 else Option.bind (ref03_Same (y_2.2.1, y.2.1, ())) fun (y_3 : Bool × Unit) => j6 t107 t108 t109 (!y_3.1) p y.1 y_1.1 y_2.1 else if eqi (rem y.1 4) 2 = true then j7 t107 t108 t109 (rem y.2.2.2 31) 0 p q y_1.1 p else Option.bind (poll_Drop (p, ())) fun (y : (ZoCq0) × Unit) => Option.bind (ref22_Drop (q, ())) fun (y_2 : (ZoCq0) × Unit) => j8 t107 t108 t109 p y_2.1 y_1.1 y.1 else Option.bind (law22_awake ()) fun (y : Bool × Unit) => some (y.1, ())
def law22_PollTells_m5 (j8 : List (ZoCq1) → Int → Int → ZoCq0 → ZoCq0 → ZoCq0 → ZoCq0 → Option (As [.bool])) (self4 : List (ZoCq1) → Int → Int → ZoCq0 → ZoCq0 → Option (As [.bool])) (t107 : List (ZoCq1)) (t108 : Int) (t109 : Int) (t151 : Bool) (p : ZoCq0) (q : ZoCq0) (was : ZoCq0) (next : ZoCq0) : Option (As [.bool]) :=
  if t151 = true then some (false, ()) else j8 t107 t108 t109 p q was next
def law22_PollTells_m6 (j8 : List (ZoCq1) → Int → Int → ZoCq0 → ZoCq0 → ZoCq0 → ZoCq0 → Option (As [.bool])) (self4 : List (ZoCq1) → Int → Int → ZoCq0 → ZoCq0 → Option (As [.bool])) (t107 : List (ZoCq1)) (t108 : Int) (t109 : Int) (t180 : Bool) (p : ZoCq0) (q : ZoCq0) (was : ZoCq0) (next : ZoCq0) : Option (As [.bool]) :=
  if t180 = true then some (false, ()) else j8 t107 t108 t109 p q was next
def law22_PollTells_m7 (j9 : List (ZoCq1) → Int → Int → Int → Int → Bool → ZoCq0 → ZoCq0 → ZoCq0 → ZoCq0 → Option (As [.bool])) (j8 : List (ZoCq1) → Int → Int → ZoCq0 → ZoCq0 → ZoCq0 → ZoCq0 → Option (As [.bool])) (self4 : List (ZoCq1) → Int → Int → ZoCq0 → ZoCq0 → Option (As [.bool])) (self7 : List (ZoCq1) → Int → Int → Int → Int → ZoCq0 → ZoCq0 → ZoCq0 → ZoCq0 → Option (As [.bool])) (t107 : List (ZoCq1)) (t108 : Int) (t109 : Int) (t185 : Int) (t186 : Int) (p : ZoCq0) (q : ZoCq0) (was : ZoCq0) (next : ZoCq0) : Option (As [.bool]) :=
  if lt t186 t185 = true then Option.bind (poll_Tick (next, ())) fun (y : (ZoCq0) × List Int × Bool × Unit) => Option.bind (ref22_Tick (q, ())) fun (y_1 : (ZoCq0) × List Int × Bool × Unit) => if Sx.neb y.2.2.1 y_1.2.2.1 = true then j9 t107 t108 t109 t185 t186 true p y_1.1 was y.1 else Option.bind (low_Same (y.2.1, y_1.2.1, ())) fun (y_2 : Bool × Unit) => j9 t107 t108 t109 t185 t186 (!y_2.1) p y_1.1 was y.1 else j8 t107 t108 t109 p q was next
def law22_PollTells_m8 (j10 : List (ZoCq1) → Int → Int → Bool → ZoCq0 → ZoCq0 → ZoCq0 → Option (As [.bool])) (self4 : List (ZoCq1) → Int → Int → ZoCq0 → ZoCq0 → Option (As [.bool])) (t107 : List (ZoCq1)) (t108 : Int) (t109 : Int) (p : ZoCq0) (q : ZoCq0) (was : ZoCq0) (next : ZoCq0) : Option (As [.bool]) :=
  Option.bind (ref22_Same (next, q, ())) fun (y : Bool × Unit) => if (!y.1) = true then j10 t107 t108 t109 true p q next else Option.bind (ref22_Same (p, was, ())) fun (y : Bool × Unit) => j10 t107 t108 t109 (!y.1) p q next
def law22_PollTells_m9 (self4 : List (ZoCq1) → Int → Int → ZoCq0 → ZoCq0 → Option (As [.bool])) (self7 : List (ZoCq1) → Int → Int → Int → Int → ZoCq0 → ZoCq0 → ZoCq0 → ZoCq0 → Option (As [.bool])) (t107 : List (ZoCq1)) (t108 : Int) (t109 : Int) (t185 : Int) (t186 : Int) (t210 : Bool) (p : ZoCq0) (q : ZoCq0) (was : ZoCq0) (next : ZoCq0) : Option (As [.bool]) :=
  if t210 = true then some (false, ()) else self7 t107 t108 t109 t185 (add .u8 t186 1) p q was next
def law22_PollTells_m10 (self4 : List (ZoCq1) → Int → Int → ZoCq0 → ZoCq0 → Option (As [.bool])) (t107 : List (ZoCq1)) (t108 : Int) (t109 : Int) (t221 : Bool) (p : ZoCq0) (q : ZoCq0) (next : ZoCq0) : Option (As [.bool]) :=
  if t221 = true then some (false, ()) else self4 t107 t108 (add .i64 t109 1) next q
def law22_PollTells_m0 (j1 : Int → Int → Int → Int → List (ZoCq1) → Bool → ZoCq0 → ZoCq0 → Option (As [.bool])) (unit : Int) (link : Int) (timeout : Int) (retries : Int) (l : List (ZoCq1)) (o : ZoCq0) (u : ZoCq0) : Option (As [.bool]) :=
  Option.bind (law22_Few (l, 60, ())) fun (y : Bool × Unit) => if (!y.1) = true then j1 unit link timeout retries l true o u else Option.bind (low_Few (o.2.2.2.2.2.1.2.2.2.2.1, o.2.2.2.2.2.1.2.2.2.2.2, ())) fun (y : Bool × Unit) => if (!y.1) = true then j1 unit link timeout retries l true o u else Option.bind (low_Few (u.2.2.2.2.2.1.2.2.2.2.1, u.2.2.2.2.2.1.2.2.2.2.2, ())) fun (y : Bool × Unit) => j1 unit link timeout retries l (!y.1) o u
def law22_PollTells_K10 (u4 : List (ZoCq1) → Int → Int → ZoCq0 → ZoCq0 → Option (As [.bool])) (t107 : List (ZoCq1)) (t108 : Int) (t109 : Int) (t221 : Bool) (p : ZoCq0) (q : ZoCq0) (next : ZoCq0) : Option (As [.bool]) := law22_PollTells_m10 u4 t107 t108 t109 t221 p q next
def law22_PollTells_K8 (u4 : List (ZoCq1) → Int → Int → ZoCq0 → ZoCq0 → Option (As [.bool])) (t107 : List (ZoCq1)) (t108 : Int) (t109 : Int) (p : ZoCq0) (q : ZoCq0) (was : ZoCq0) (next : ZoCq0) : Option (As [.bool]) := law22_PollTells_m8 (law22_PollTells_K10 u4) u4 t107 t108 t109 p q was next
def law22_PollTells_K5 (u4 : List (ZoCq1) → Int → Int → ZoCq0 → ZoCq0 → Option (As [.bool])) (t107 : List (ZoCq1)) (t108 : Int) (t109 : Int) (t151 : Bool) (p : ZoCq0) (q : ZoCq0) (was : ZoCq0) (next : ZoCq0) : Option (As [.bool]) := law22_PollTells_m5 (law22_PollTells_K8 u4) u4 t107 t108 t109 t151 p q was next
def law22_PollTells_K6 (u4 : List (ZoCq1) → Int → Int → ZoCq0 → ZoCq0 → Option (As [.bool])) (t107 : List (ZoCq1)) (t108 : Int) (t109 : Int) (t180 : Bool) (p : ZoCq0) (q : ZoCq0) (was : ZoCq0) (next : ZoCq0) : Option (As [.bool]) := law22_PollTells_m6 (law22_PollTells_K8 u4) u4 t107 t108 t109 t180 p q was next
def law22_PollTells_K9 (u4 : List (ZoCq1) → Int → Int → ZoCq0 → ZoCq0 → Option (As [.bool])) (u7 : List (ZoCq1) → Int → Int → Int → Int → ZoCq0 → ZoCq0 → ZoCq0 → ZoCq0 → Option (As [.bool])) (t107 : List (ZoCq1)) (t108 : Int) (t109 : Int) (t185 : Int) (t186 : Int) (t210 : Bool) (p : ZoCq0) (q : ZoCq0) (was : ZoCq0) (next : ZoCq0) : Option (As [.bool]) := law22_PollTells_m9 u4 u7 t107 t108 t109 t185 t186 t210 p q was next
def law22_PollTells_K7 (u4 : List (ZoCq1) → Int → Int → ZoCq0 → ZoCq0 → Option (As [.bool])) (t107 : List (ZoCq1)) (t108 : Int) (t109 : Int) (t185 : Int) (t186 : Int) (p : ZoCq0) (q : ZoCq0) (was : ZoCq0) (next : ZoCq0) : Option (As [.bool]) :=
  loopF (fun (self : (List (ZoCq1)) × (Int) × (Int) × (Int) × (Int) × (ZoCq0) × (ZoCq0) × (ZoCq0) × (ZoCq0) → Option (As [.bool])) (s : (List (ZoCq1)) × (Int) × (Int) × (Int) × (Int) × (ZoCq0) × (ZoCq0) × (ZoCq0) × (ZoCq0)) => law22_PollTells_m7 (law22_PollTells_K9 u4 (fun t107 t108 t109 t185 t186 p q was next => self (t107, t108, t109, t185, t186, p, q, was, next))) (law22_PollTells_K8 u4) u4 (fun t107 t108 t109 t185 t186 p q was next => self (t107, t108, t109, t185, t186, p, q, was, next)) s.1 s.2.1 s.2.2.1 s.2.2.2.1 s.2.2.2.2.1 s.2.2.2.2.2.1 s.2.2.2.2.2.2.1 s.2.2.2.2.2.2.2.1 s.2.2.2.2.2.2.2.2) 18446744073709551616 (t107, t108, t109, t185, t186, p, q, was, next)
def law22_PollTells_K4 (t107 : List (ZoCq1)) (t108 : Int) (t109 : Int) (p : ZoCq0) (q : ZoCq0) : Option (As [.bool]) :=
  loopF (fun (self : (List (ZoCq1)) × (Int) × (Int) × (ZoCq0) × (ZoCq0) → Option (As [.bool])) (s : (List (ZoCq1)) × (Int) × (Int) × (ZoCq0) × (ZoCq0)) => law22_PollTells_m4 (law22_PollTells_K5 (fun t107 t108 t109 p q => self (t107, t108, t109, p, q))) (law22_PollTells_K6 (fun t107 t108 t109 p q => self (t107, t108, t109, p, q))) (law22_PollTells_K7 (fun t107 t108 t109 p q => self (t107, t108, t109, p, q))) (law22_PollTells_K8 (fun t107 t108 t109 p q => self (t107, t108, t109, p, q))) (fun t107 t108 t109 p q => self (t107, t108, t109, p, q)) s.1 s.2.1 s.2.2.1 s.2.2.2.1 s.2.2.2.2) 18446744073709551616 (t107, t108, t109, p, q)
def law22_PollTells_K3 (l : List (ZoCq1)) (e : Int) (p : ZoCq0) (q : ZoCq0) : Option (As [.bool]) := law22_PollTells_m3 (law22_PollTells_K4) l e p q
def law22_PollTells_K2 (l : List (ZoCq1)) (e : Int) (t99 : Bool) (o : ZoCq0) (p : ZoCq0) (q : ZoCq0) : Option (As [.bool]) := law22_PollTells_m2 (law22_PollTells_K3) l e t99 o p q
def law22_PollTells_K1 (unit : Int) (link : Int) (timeout : Int) (retries : Int) (l : List (ZoCq1)) (t63 : Bool) (o : ZoCq0) (u : ZoCq0) : Option (As [.bool]) := law22_PollTells_m1 (law22_PollTells_K2) unit link timeout retries l t63 o u
def law22_PollTells (x : As [.int .u8, .int .u8, .int .i64, .int .i64, .sl (.pr (.int .u8) (.pr LCT1 LCT3)), .pr (.int .u8) (.pr (.int .u8) (.pr (.int .i64) (.pr (.int .i64) (.pr .bool (.pr LCT1 LCT2))))), .pr (.int .u8) (.pr (.int .u8) (.pr (.int .i64) (.pr (.int .i64) (.pr .bool (.pr LCT1 LCT2)))))]) : Option (As [.bool]) := law22_PollTells_m0 law22_PollTells_K1 x.1 x.2.1 x.2.2.1 x.2.2.2.1 x.2.2.2.2.1 x.2.2.2.2.2.1 x.2.2.2.2.2.2.1
theorem law22_PollTells_c10 (J : Orc (As [.bool])) (w4 : St → Option (As [.bool])) (t107 : List (ZoCq1)) (t108 : Int) (t109 : Int) (t221 : Bool) (p : ZoCq0) (q : ZoCq0) (next : ZoCq0) : pfn Tryz.prog law22_PollTells_e 6 18446744073709551616 (Ev.get law22_PollTells_h) 3 law22_PollTells_s J 2091422 [w4] (law22_PollTells_k10 t107 t108 t109 t221 p q next) = law22_PollTells_m10 (fun t107 t108 t109 p q => w4 (law22_PollTells_k4 t107 t108 t109 p q)) t107 t108 t109 t221 p q next := by kernel_rfl
theorem law22_PollTells_c8 (J : Orc (As [.bool])) (w4 : St → Option (As [.bool])) (t107 : List (ZoCq1)) (t108 : Int) (t109 : Int) (p : ZoCq0) (q : ZoCq0) (was : ZoCq0) (next : ZoCq0) : pfn Tryz.prog law22_PollTells_e 6 18446744073709551616 (Ev.get law22_PollTells_h) 3 law22_PollTells_s J 522855 [w4] (law22_PollTells_k8 t107 t108 t109 p q was next) = law22_PollTells_m8 (fun t107 t108 t109 t221 p q next => J 2091422 [w4] (law22_PollTells_k10 t107 t108 t109 t221 p q next)) (fun t107 t108 t109 p q => w4 (law22_PollTells_k4 t107 t108 t109 p q)) t107 t108 t109 p q was next := by kernel_rfl
theorem law22_PollTells_c5 (J : Orc (As [.bool])) (w4 : St → Option (As [.bool])) (t107 : List (ZoCq1)) (t108 : Int) (t109 : Int) (t151 : Bool) (p : ZoCq0) (q : ZoCq0) (was : ZoCq0) (next : ZoCq0) : pfn Tryz.prog law22_PollTells_e 6 18446744073709551616 (Ev.get law22_PollTells_h) 3 law22_PollTells_s J 133850967 [w4] (law22_PollTells_k5 t107 t108 t109 t151 p q was next) = law22_PollTells_m5 (fun t107 t108 t109 p q was next => J 522855 [w4] (law22_PollTells_k8 t107 t108 t109 p q was next)) (fun t107 t108 t109 p q => w4 (law22_PollTells_k4 t107 t108 t109 p q)) t107 t108 t109 t151 p q was next := by kernel_rfl
theorem law22_PollTells_c6 (J : Orc (As [.bool])) (w4 : St → Option (As [.bool])) (t107 : List (ZoCq1)) (t108 : Int) (t109 : Int) (t180 : Bool) (p : ZoCq0) (q : ZoCq0) (was : ZoCq0) (next : ZoCq0) : pfn Tryz.prog law22_PollTells_e 6 18446744073709551616 (Ev.get law22_PollTells_h) 3 law22_PollTells_s J 535403895 [w4] (law22_PollTells_k6 t107 t108 t109 t180 p q was next) = law22_PollTells_m6 (fun t107 t108 t109 p q was next => J 522855 [w4] (law22_PollTells_k8 t107 t108 t109 p q was next)) (fun t107 t108 t109 p q => w4 (law22_PollTells_k4 t107 t108 t109 p q)) t107 t108 t109 t180 p q was next := by kernel_rfl
theorem law22_PollTells_c9 (J : Orc (As [.bool])) (w4 : St → Option (As [.bool])) (w7 : St → Option (As [.bool])) (t107 : List (ZoCq1)) (t108 : Int) (t109 : Int) (t185 : Int) (t186 : Int) (t210 : Bool) (p : ZoCq0) (q : ZoCq0) (was : ZoCq0) (next : ZoCq0) : pfn Tryz.prog law22_PollTells_e 6 18446744073709551616 (Ev.get law22_PollTells_h) 3 law22_PollTells_s J 274126797415 [w4, w7] (law22_PollTells_k9 t107 t108 t109 t185 t186 t210 p q was next) = law22_PollTells_m9 (fun t107 t108 t109 p q => w4 (law22_PollTells_k4 t107 t108 t109 p q)) (fun t107 t108 t109 t185 t186 p q was next => w7 (law22_PollTells_k7 t107 t108 t109 t185 t186 p q was next)) t107 t108 t109 t185 t186 t210 p q was next := by kernel_rfl
theorem law22_PollTells_c7 (J : Orc (As [.bool])) (w4 : St → Option (As [.bool])) (w7 : St → Option (As [.bool])) (t107 : List (ZoCq1)) (t108 : Int) (t109 : Int) (t185 : Int) (t186 : Int) (p : ZoCq0) (q : ZoCq0) (was : ZoCq0) (next : ZoCq0) : pfn Tryz.prog law22_PollTells_e 6 18446744073709551616 (Ev.get law22_PollTells_h) 3 law22_PollTells_s J 1070807802 [w4, w7] (law22_PollTells_k7 t107 t108 t109 t185 t186 p q was next) = law22_PollTells_m7 (fun t107 t108 t109 t185 t186 t210 p q was next => J 274126797415 [w4, w7] (law22_PollTells_k9 t107 t108 t109 t185 t186 t210 p q was next)) (fun t107 t108 t109 p q was next => J 522855 [w4] (law22_PollTells_k8 t107 t108 t109 p q was next)) (fun t107 t108 t109 p q => w4 (law22_PollTells_k4 t107 t108 t109 p q)) (fun t107 t108 t109 t185 t186 p q was next => w7 (law22_PollTells_k7 t107 t108 t109 t185 t186 p q was next)) t107 t108 t109 t185 t186 p q was next := by kernel_rfl
theorem law22_PollTells_c4 (J : Orc (As [.bool])) (w4 : St → Option (As [.bool])) (t107 : List (ZoCq1)) (t108 : Int) (t109 : Int) (p : ZoCq0) (q : ZoCq0) : pfn Tryz.prog law22_PollTells_e 6 18446744073709551616 (Ev.get law22_PollTells_h) 3 law22_PollTells_s J 2042 [w4] (law22_PollTells_k4 t107 t108 t109 p q) = law22_PollTells_m4 (fun t107 t108 t109 t151 p q was next => J 133850967 [w4] (law22_PollTells_k5 t107 t108 t109 t151 p q was next)) (fun t107 t108 t109 t180 p q was next => J 535403895 [w4] (law22_PollTells_k6 t107 t108 t109 t180 p q was next)) (fun t107 t108 t109 t185 t186 p q was next => J 1070807802 [w4] (law22_PollTells_k7 t107 t108 t109 t185 t186 p q was next)) (fun t107 t108 t109 p q was next => J 522855 [w4] (law22_PollTells_k8 t107 t108 t109 p q was next)) (fun t107 t108 t109 p q => w4 (law22_PollTells_k4 t107 t108 t109 p q)) t107 t108 t109 p q := by kernel_rfl
theorem law22_PollTells_c3 (J : Orc (As [.bool])) (l : List (ZoCq1)) (e : Int) (p : ZoCq0) (q : ZoCq0) : pfn Tryz.prog law22_PollTells_e 6 18446744073709551616 (Ev.get law22_PollTells_h) 3 law22_PollTells_s J 63 [] (law22_PollTells_k3 l e p q) = law22_PollTells_m3 (fun t107 t108 t109 p q => J 2042 [] (law22_PollTells_k4 t107 t108 t109 p q)) l e p q := by kernel_rfl
theorem law22_PollTells_c2 (J : Orc (As [.bool])) (l : List (ZoCq1)) (e : Int) (t99 : Bool) (o : ZoCq0) (p : ZoCq0) (q : ZoCq0) : pfn Tryz.prog law22_PollTells_e 6 18446744073709551616 (Ev.get law22_PollTells_h) 3 law22_PollTells_s J 62 [] (law22_PollTells_k2 l e t99 o p q) = law22_PollTells_m2 (fun l e p q => J 63 [] (law22_PollTells_k3 l e p q)) l e t99 o p q := by kernel_rfl
theorem law22_PollTells_c1 (J : Orc (As [.bool])) (unit : Int) (link : Int) (timeout : Int) (retries : Int) (l : List (ZoCq1)) (t63 : Bool) (o : ZoCq0) (u : ZoCq0) : pfn Tryz.prog law22_PollTells_e 6 18446744073709551616 (Ev.get law22_PollTells_h) 3 law22_PollTells_s J 6 [] (law22_PollTells_k1 unit link timeout retries l t63 o u) = law22_PollTells_m1 (fun l e t99 o p q => J 62 [] (law22_PollTells_k2 l e t99 o p q)) unit link timeout retries l t63 o u := by kernel_rfl
theorem law22_PollTells_c0 (J : Orc (As [.bool])) (x : As [.int .u8, .int .u8, .int .i64, .int .i64, .sl (.pr (.int .u8) (.pr LCT1 LCT3)), .pr (.int .u8) (.pr (.int .u8) (.pr (.int .i64) (.pr (.int .i64) (.pr .bool (.pr LCT1 LCT2))))), .pr (.int .u8) (.pr (.int .u8) (.pr (.int .i64) (.pr (.int .i64) (.pr .bool (.pr LCT1 LCT2)))))]) : rfn Tryz.prog law22_PollTells_e 6 18446744073709551616 (Ev.get law22_PollTells_h) 3 law22_PollTells_s J x = law22_PollTells_m0 (fun unit link timeout retries l t63 o u => J 6 [] (law22_PollTells_k1 unit link timeout retries l t63 o u)) x.1 x.2.1 x.2.2.1 x.2.2.2.1 x.2.2.2.2.1 x.2.2.2.2.2.1 x.2.2.2.2.2.2.1 := by kernel_rfl
theorem law22_PollTells_g10 (w4 : St → Option (As [.bool])) (t107 : List (ZoCq1)) (t108 : Int) (t109 : Int) (t221 : Bool) (p : ZoCq0) (q : ZoCq0) (next : ZoCq0) : jfn Tryz.prog law22_PollTells_e 6 18446744073709551616 (Ev.get law22_PollTells_h) 3 law22_PollTells_s 2091422 [w4] (law22_PollTells_k10 t107 t108 t109 t221 p q next) = law22_PollTells_K10 (fun t107 t108 t109 p q => w4 (law22_PollTells_k4 t107 t108 t109 p q)) t107 t108 t109 t221 p q next := by
  rw [pfn_eq (by decide)]
  rw [law22_PollTells_c10]
  rfl
theorem law22_PollTells_g8 (w4 : St → Option (As [.bool])) (t107 : List (ZoCq1)) (t108 : Int) (t109 : Int) (p : ZoCq0) (q : ZoCq0) (was : ZoCq0) (next : ZoCq0) : jfn Tryz.prog law22_PollTells_e 6 18446744073709551616 (Ev.get law22_PollTells_h) 3 law22_PollTells_s 522855 [w4] (law22_PollTells_k8 t107 t108 t109 p q was next) = law22_PollTells_K8 (fun t107 t108 t109 p q => w4 (law22_PollTells_k4 t107 t108 t109 p q)) t107 t108 t109 p q was next := by
  rw [pfn_eq (by decide)]
  have e10 : (fun t107 t108 t109 t221 p q next => (jfn Tryz.prog law22_PollTells_e 6 18446744073709551616 (Ev.get law22_PollTells_h) 3 law22_PollTells_s) 2091422 [w4] (law22_PollTells_k10 t107 t108 t109 t221 p q next)) = law22_PollTells_K10 (fun t107 t108 t109 p q => w4 (law22_PollTells_k4 t107 t108 t109 p q)) := funext fun t107 => funext fun t108 => funext fun t109 => funext fun t221 => funext fun p => funext fun q => funext fun next => law22_PollTells_g10 w4 t107 t108 t109 t221 p q next
  rw [law22_PollTells_c8, e10]
  rfl
theorem law22_PollTells_g5 (w4 : St → Option (As [.bool])) (t107 : List (ZoCq1)) (t108 : Int) (t109 : Int) (t151 : Bool) (p : ZoCq0) (q : ZoCq0) (was : ZoCq0) (next : ZoCq0) : jfn Tryz.prog law22_PollTells_e 6 18446744073709551616 (Ev.get law22_PollTells_h) 3 law22_PollTells_s 133850967 [w4] (law22_PollTells_k5 t107 t108 t109 t151 p q was next) = law22_PollTells_K5 (fun t107 t108 t109 p q => w4 (law22_PollTells_k4 t107 t108 t109 p q)) t107 t108 t109 t151 p q was next := by
  rw [pfn_eq (by decide)]
  have e8 : (fun t107 t108 t109 p q was next => (jfn Tryz.prog law22_PollTells_e 6 18446744073709551616 (Ev.get law22_PollTells_h) 3 law22_PollTells_s) 522855 [w4] (law22_PollTells_k8 t107 t108 t109 p q was next)) = law22_PollTells_K8 (fun t107 t108 t109 p q => w4 (law22_PollTells_k4 t107 t108 t109 p q)) := funext fun t107 => funext fun t108 => funext fun t109 => funext fun p => funext fun q => funext fun was => funext fun next => law22_PollTells_g8 w4 t107 t108 t109 p q was next
  rw [law22_PollTells_c5, e8]
  rfl
theorem law22_PollTells_g6 (w4 : St → Option (As [.bool])) (t107 : List (ZoCq1)) (t108 : Int) (t109 : Int) (t180 : Bool) (p : ZoCq0) (q : ZoCq0) (was : ZoCq0) (next : ZoCq0) : jfn Tryz.prog law22_PollTells_e 6 18446744073709551616 (Ev.get law22_PollTells_h) 3 law22_PollTells_s 535403895 [w4] (law22_PollTells_k6 t107 t108 t109 t180 p q was next) = law22_PollTells_K6 (fun t107 t108 t109 p q => w4 (law22_PollTells_k4 t107 t108 t109 p q)) t107 t108 t109 t180 p q was next := by
  rw [pfn_eq (by decide)]
  have e8 : (fun t107 t108 t109 p q was next => (jfn Tryz.prog law22_PollTells_e 6 18446744073709551616 (Ev.get law22_PollTells_h) 3 law22_PollTells_s) 522855 [w4] (law22_PollTells_k8 t107 t108 t109 p q was next)) = law22_PollTells_K8 (fun t107 t108 t109 p q => w4 (law22_PollTells_k4 t107 t108 t109 p q)) := funext fun t107 => funext fun t108 => funext fun t109 => funext fun p => funext fun q => funext fun was => funext fun next => law22_PollTells_g8 w4 t107 t108 t109 p q was next
  rw [law22_PollTells_c6, e8]
  rfl
theorem law22_PollTells_g9 (w4 : St → Option (As [.bool])) (w7 : St → Option (As [.bool])) (t107 : List (ZoCq1)) (t108 : Int) (t109 : Int) (t185 : Int) (t186 : Int) (t210 : Bool) (p : ZoCq0) (q : ZoCq0) (was : ZoCq0) (next : ZoCq0) : jfn Tryz.prog law22_PollTells_e 6 18446744073709551616 (Ev.get law22_PollTells_h) 3 law22_PollTells_s 274126797415 [w4, w7] (law22_PollTells_k9 t107 t108 t109 t185 t186 t210 p q was next) = law22_PollTells_K9 (fun t107 t108 t109 p q => w4 (law22_PollTells_k4 t107 t108 t109 p q)) (fun t107 t108 t109 t185 t186 p q was next => w7 (law22_PollTells_k7 t107 t108 t109 t185 t186 p q was next)) t107 t108 t109 t185 t186 t210 p q was next := by
  rw [pfn_eq (by decide)]
  rw [law22_PollTells_c9]
  rfl
theorem law22_PollTells_g7 (w4 : St → Option (As [.bool])) (t107 : List (ZoCq1)) (t108 : Int) (t109 : Int) (t185 : Int) (t186 : Int) (p : ZoCq0) (q : ZoCq0) (was : ZoCq0) (next : ZoCq0) : jfn Tryz.prog law22_PollTells_e 6 18446744073709551616 (Ev.get law22_PollTells_h) 3 law22_PollTells_s 1070807802 [w4] (law22_PollTells_k7 t107 t108 t109 t185 t186 p q was next) = law22_PollTells_K7 (fun t107 t108 t109 p q => w4 (law22_PollTells_k4 t107 t108 t109 p q)) t107 t108 t109 t185 t186 p q was next := by
  rw [pfn_eq (by decide)]
  rw [pfn_loop (by kernel_rfl)]
  refine loopF_sim (σ := (List (ZoCq1)) × (Int) × (Int) × (Int) × (Int) × (ZoCq0) × (ZoCq0) × (ZoCq0) × (ZoCq0)) (mk := fun s => law22_PollTells_k7 s.1 s.2.1 s.2.2.1 s.2.2.2.1 s.2.2.2.2.1 s.2.2.2.2.2.1 s.2.2.2.2.2.2.1 s.2.2.2.2.2.2.2.1 s.2.2.2.2.2.2.2.2) (fun w7 s => ?_) 18446744073709551616 (t107, t108, t109, t185, t186, p, q, was, next)
  have e9 : (fun t107 t108 t109 t185 t186 t210 p q was next => (jfn Tryz.prog law22_PollTells_e 6 18446744073709551616 (Ev.get law22_PollTells_h) 3 law22_PollTells_s) 274126797415 [w4, w7] (law22_PollTells_k9 t107 t108 t109 t185 t186 t210 p q was next)) = law22_PollTells_K9 (fun t107 t108 t109 p q => w4 (law22_PollTells_k4 t107 t108 t109 p q)) (fun t107 t108 t109 t185 t186 p q was next => w7 (law22_PollTells_k7 t107 t108 t109 t185 t186 p q was next)) := funext fun t107 => funext fun t108 => funext fun t109 => funext fun t185 => funext fun t186 => funext fun t210 => funext fun p => funext fun q => funext fun was => funext fun next => law22_PollTells_g9 w4 w7 t107 t108 t109 t185 t186 t210 p q was next
  have e8 : (fun t107 t108 t109 p q was next => (jfn Tryz.prog law22_PollTells_e 6 18446744073709551616 (Ev.get law22_PollTells_h) 3 law22_PollTells_s) 522855 [w4] (law22_PollTells_k8 t107 t108 t109 p q was next)) = law22_PollTells_K8 (fun t107 t108 t109 p q => w4 (law22_PollTells_k4 t107 t108 t109 p q)) := funext fun t107 => funext fun t108 => funext fun t109 => funext fun p => funext fun q => funext fun was => funext fun next => law22_PollTells_g8 w4 t107 t108 t109 p q was next
  refine (law22_PollTells_c7 _ w4 w7 s.1 s.2.1 s.2.2.1 s.2.2.2.1 s.2.2.2.2.1 s.2.2.2.2.2.1 s.2.2.2.2.2.2.1 s.2.2.2.2.2.2.2.1 s.2.2.2.2.2.2.2.2).trans ?_
  rw [e9, e8]
theorem law22_PollTells_g4 (t107 : List (ZoCq1)) (t108 : Int) (t109 : Int) (p : ZoCq0) (q : ZoCq0) : jfn Tryz.prog law22_PollTells_e 6 18446744073709551616 (Ev.get law22_PollTells_h) 3 law22_PollTells_s 2042 [] (law22_PollTells_k4 t107 t108 t109 p q) = law22_PollTells_K4 t107 t108 t109 p q := by
  rw [pfn_eq (by decide)]
  rw [pfn_loop (by kernel_rfl)]
  refine loopF_sim (σ := (List (ZoCq1)) × (Int) × (Int) × (ZoCq0) × (ZoCq0)) (mk := fun s => law22_PollTells_k4 s.1 s.2.1 s.2.2.1 s.2.2.2.1 s.2.2.2.2) (fun w4 s => ?_) 18446744073709551616 (t107, t108, t109, p, q)
  have e5 : (fun t107 t108 t109 t151 p q was next => (jfn Tryz.prog law22_PollTells_e 6 18446744073709551616 (Ev.get law22_PollTells_h) 3 law22_PollTells_s) 133850967 [w4] (law22_PollTells_k5 t107 t108 t109 t151 p q was next)) = law22_PollTells_K5 (fun t107 t108 t109 p q => w4 (law22_PollTells_k4 t107 t108 t109 p q)) := funext fun t107 => funext fun t108 => funext fun t109 => funext fun t151 => funext fun p => funext fun q => funext fun was => funext fun next => law22_PollTells_g5 w4 t107 t108 t109 t151 p q was next
  have e6 : (fun t107 t108 t109 t180 p q was next => (jfn Tryz.prog law22_PollTells_e 6 18446744073709551616 (Ev.get law22_PollTells_h) 3 law22_PollTells_s) 535403895 [w4] (law22_PollTells_k6 t107 t108 t109 t180 p q was next)) = law22_PollTells_K6 (fun t107 t108 t109 p q => w4 (law22_PollTells_k4 t107 t108 t109 p q)) := funext fun t107 => funext fun t108 => funext fun t109 => funext fun t180 => funext fun p => funext fun q => funext fun was => funext fun next => law22_PollTells_g6 w4 t107 t108 t109 t180 p q was next
  have e7 : (fun t107 t108 t109 t185 t186 p q was next => (jfn Tryz.prog law22_PollTells_e 6 18446744073709551616 (Ev.get law22_PollTells_h) 3 law22_PollTells_s) 1070807802 [w4] (law22_PollTells_k7 t107 t108 t109 t185 t186 p q was next)) = law22_PollTells_K7 (fun t107 t108 t109 p q => w4 (law22_PollTells_k4 t107 t108 t109 p q)) := funext fun t107 => funext fun t108 => funext fun t109 => funext fun t185 => funext fun t186 => funext fun p => funext fun q => funext fun was => funext fun next => law22_PollTells_g7 w4 t107 t108 t109 t185 t186 p q was next
  have e8 : (fun t107 t108 t109 p q was next => (jfn Tryz.prog law22_PollTells_e 6 18446744073709551616 (Ev.get law22_PollTells_h) 3 law22_PollTells_s) 522855 [w4] (law22_PollTells_k8 t107 t108 t109 p q was next)) = law22_PollTells_K8 (fun t107 t108 t109 p q => w4 (law22_PollTells_k4 t107 t108 t109 p q)) := funext fun t107 => funext fun t108 => funext fun t109 => funext fun p => funext fun q => funext fun was => funext fun next => law22_PollTells_g8 w4 t107 t108 t109 p q was next
  refine (law22_PollTells_c4 _ w4 s.1 s.2.1 s.2.2.1 s.2.2.2.1 s.2.2.2.2).trans ?_
  rw [e5, e6, e7, e8]
theorem law22_PollTells_g3 (l : List (ZoCq1)) (e : Int) (p : ZoCq0) (q : ZoCq0) : jfn Tryz.prog law22_PollTells_e 6 18446744073709551616 (Ev.get law22_PollTells_h) 3 law22_PollTells_s 63 [] (law22_PollTells_k3 l e p q) = law22_PollTells_K3 l e p q := by
  rw [pfn_eq (by decide)]
  have e4 : (fun t107 t108 t109 p q => (jfn Tryz.prog law22_PollTells_e 6 18446744073709551616 (Ev.get law22_PollTells_h) 3 law22_PollTells_s) 2042 [] (law22_PollTells_k4 t107 t108 t109 p q)) = law22_PollTells_K4 := funext fun t107 => funext fun t108 => funext fun t109 => funext fun p => funext fun q => law22_PollTells_g4 t107 t108 t109 p q
  rw [law22_PollTells_c3, e4]
  rfl
theorem law22_PollTells_g2 (l : List (ZoCq1)) (e : Int) (t99 : Bool) (o : ZoCq0) (p : ZoCq0) (q : ZoCq0) : jfn Tryz.prog law22_PollTells_e 6 18446744073709551616 (Ev.get law22_PollTells_h) 3 law22_PollTells_s 62 [] (law22_PollTells_k2 l e t99 o p q) = law22_PollTells_K2 l e t99 o p q := by
  rw [pfn_eq (by decide)]
  have e3 : (fun l e p q => (jfn Tryz.prog law22_PollTells_e 6 18446744073709551616 (Ev.get law22_PollTells_h) 3 law22_PollTells_s) 63 [] (law22_PollTells_k3 l e p q)) = law22_PollTells_K3 := funext fun l => funext fun e => funext fun p => funext fun q => law22_PollTells_g3 l e p q
  rw [law22_PollTells_c2, e3]
  rfl
theorem law22_PollTells_g1 (unit : Int) (link : Int) (timeout : Int) (retries : Int) (l : List (ZoCq1)) (t63 : Bool) (o : ZoCq0) (u : ZoCq0) : jfn Tryz.prog law22_PollTells_e 6 18446744073709551616 (Ev.get law22_PollTells_h) 3 law22_PollTells_s 6 [] (law22_PollTells_k1 unit link timeout retries l t63 o u) = law22_PollTells_K1 unit link timeout retries l t63 o u := by
  rw [pfn_eq (by decide)]
  have e2 : (fun l e t99 o p q => (jfn Tryz.prog law22_PollTells_e 6 18446744073709551616 (Ev.get law22_PollTells_h) 3 law22_PollTells_s) 62 [] (law22_PollTells_k2 l e t99 o p q)) = law22_PollTells_K2 := funext fun l => funext fun e => funext fun t99 => funext fun o => funext fun p => funext fun q => law22_PollTells_g2 l e t99 o p q
  rw [law22_PollTells_c1, e2]
  rfl
theorem law22_PollTells_t (x : As [.int .u8, .int .u8, .int .i64, .int .i64, .sl (.pr (.int .u8) (.pr LCT1 LCT3)), .pr (.int .u8) (.pr (.int .u8) (.pr (.int .i64) (.pr (.int .i64) (.pr .bool (.pr LCT1 LCT2))))), .pr (.int .u8) (.pr (.int .u8) (.pr (.int .i64) (.pr (.int .i64) (.pr .bool (.pr LCT1 LCT2)))))]) : evT Tryz.prog law22_PollTells_e 6 18446744073709551616 (Ev.get law22_PollTells_h) 3 law22_PollTells_s x = law22_PollTells x := by
  have e1 : (fun unit link timeout retries l t63 o u => (jfn Tryz.prog law22_PollTells_e 6 18446744073709551616 (Ev.get law22_PollTells_h) 3 law22_PollTells_s) 6 [] (law22_PollTells_k1 unit link timeout retries l t63 o u)) = law22_PollTells_K1 := funext fun unit => funext fun link => funext fun timeout => funext fun retries => funext fun l => funext fun t63 => funext fun o => funext fun u => law22_PollTells_g1 unit link timeout retries l t63 o u
  rw [rfn_eq, law22_PollTells_c0, e1]
  rfl
theorem law22_PollTells_ok : CtOk Tryz.prog (fun _ => True) 3 ⟨law22_PollTells_s, law22_PollTells⟩ := ct_of_ev (env_cons law22_Few_ok (env_cons low_Few_ok (env_cons law22_awake_ok (env_cons poll_New_ok (env_cons ref22_New_ok (env_cons poll_Right_ok (env_cons ref22_Right_ok (env_cons poll_Same_ok (env_cons ref22_Same_ok (env_cons ref22_Copy_ok (env_cons poll_Send_ok (env_cons ref22_Send_ok (env_cons low_Same_ok (env_cons poll_Take_ok (env_cons ref22_Take_ok (env_cons ref03_Same_ok (env_cons poll_Tick_ok (env_cons ref22_Tick_ok (env_cons poll_Drop_ok (env_cons ref22_Drop_ok env_nil)))))))))))))))))))) law22_PollTells_t
end Go.Proofs.Lx

end

section
/- Plain laws: a kit of lemmas about what the models are made of. -/
namespace Pl
open Go Ev Sx
set_option maxRecDepth 10000

/-! ### loops -/
theorem loopF_succ {σ R : Type} (F : (σ → Option R) → σ → Option R) (n : Nat) (s : σ) : loopF F (n + 1) s = F (loopF F n) s := rfl
/-! ### numbers -/
theorem w64 {x : Int} (h1 : -9223372036854775808 ≤ x) (h2 : x ≤ 9223372036854775807) : IntKind.i64.wrap x = x := by
  simp only [IntKind.wrap, IntKind.signed, IntKind.bits]
  simp
  omega
theorem wu8 {x : Int} (h1 : 0 ≤ x) (h2 : x ≤ 255) : IntKind.u8.wrap x = x := by
  simp only [IntKind.wrap, IntKind.signed, IntKind.bits]
  simp
  omega
theorem wu16 {x : Int} (h1 : 0 ≤ x) (h2 : x ≤ 65535) : IntKind.u16.wrap x = x := by
  simp only [IntKind.wrap, IntKind.signed, IntKind.bits]
  simp
  omega
theorem add64 {a b : Int} (h1 : -9223372036854775808 ≤ a + b) (h2 : a + b ≤ 9223372036854775807) : add .i64 a b = a + b := w64 h1 h2
theorem sub64 {a b : Int} (h1 : -9223372036854775808 ≤ a - b) (h2 : a - b ≤ 9223372036854775807) : sub .i64 a b = a - b := w64 h1 h2
theorem mul64 {a b : Int} (h1 : -9223372036854775808 ≤ a * b) (h2 : a * b ≤ 9223372036854775807) : mul .i64 a b = a * b := w64 h1 h2
theorem cvt64 {a : Int} (h1 : -9223372036854775808 ≤ a) (h2 : a ≤ 9223372036854775807) : cvt .i64 a = a := w64 h1 h2
theorem succ64 {n : Nat} (h : n < 4611686018427387904) : add .i64 (n : Int) 1 = ((n + 1 : Nat) : Int) := by rw [add64 (by omega) (by omega)]; rfl
theorem addn64 {n m : Nat} (h : n + m < 4611686018427387904) : add .i64 (n : Int) (m : Int) = ((n + m : Nat) : Int) := by rw [add64 (by omega) (by omega)]; rfl
theorem ofNat_eq (n : Nat) : Int.ofNat n = (n : Int) := rfl
theorem lt_iff {a b : Int} : lt a b = true ↔ a < b := by simp [lt]
theorem le_iff {a b : Int} : le a b = true ↔ a ≤ b := by simp [le]
theorem gt_iff {a b : Int} : gt a b = true ↔ b < a := by simp [gt]
theorem ge_iff {a b : Int} : ge a b = true ↔ b ≤ a := by simp [ge]
theorem eqi_iff {a b : Int} : eqi a b = true ↔ a = b := by simp [eqi]
theorem nei_iff {a b : Int} : nei a b = true ↔ a ≠ b := by simp [nei]
theorem eqs_iff {a b : List UInt8} : eqs a b = true ↔ a = b := by simp [eqs]
theorem small_iff {n : Nat} : small n = true ↔ n ≤ 1073741824 := by simp [small]
theorem le_dec (a b : Int) : le a b = decide (a ≤ b) := rfl
theorem ge_dec (a b : Int) : ge a b = decide (b ≤ a) := rfl
theorem need_t {b : Bool} {β : Type} {k : Option β} (h : b = true) : need b k = k := by unfold need; rw [if_pos h]
theorem need_small {n : Nat} {β : Type} {k : Option β} (h : n ≤ 1073741824) : need (small n) k = k := need_t (small_iff.2 h)
/-! ### rows -/
theorem at_get {α : Type} {s : List α} {i : Nat} {c : α} (h : s[i]? = some c) : at? s (i : Int) = some c := by
  unfold at?
  simp [h]
theorem at_zero {α : Type} (c : α) (q : List α) : at? (c :: q) 0 = some c := rfl
theorem drop_nil {α : Type} {s : List α} {i : Nat} (h : s.drop i = []) : s.length ≤ i := by
  have := congrArg List.length h
  simp at this
  omega
theorem cut_nat {α : Type} {xs : List α} {i j : Nat} (h1 : i ≤ j) (h2 : j ≤ xs.length) : cut xs (i : Int) (j : Int) = some ((xs.take j).drop i) := by
  unfold cut
  rw [if_pos ⟨by omega, by omega, by omega⟩]
  simp
theorem cut_from {α : Type} {xs : List α} {i : Nat} (h : i ≤ xs.length) : cut xs (i : Int) (Int.ofNat xs.length) = some (xs.drop i) := by
  rw [ofNat_eq, cut_nat h (Nat.le_refl _)]
  simp
theorem cut_to {α : Type} {xs : List α} {j : Nat} (h : j ≤ xs.length) : cut xs 0 (j : Int) = some (xs.take j) := by
  have := cut_nat (xs := xs) (Nat.zero_le j) h
  simpa using this
theorem cut_one {α : Type} (c : α) (q : List α) : cut (c :: q) 1 (Int.ofNat (c :: q).length) = some q := by
  have := cut_from (xs := c :: q) (i := 1) (by simp)
  simpa using this
/-! ### bytes -/
theorem eqV_refl : ∀ (t : Ty) (x : Vl t), eqV t x x = true := by
  have hl : ∀ {α : Type} {f : α → α → Bool}, (∀ a, f a a = true) → ∀ x : List α, eqL f x x = true := fun h x => by
    induction x with
    | nil => rfl
    | cons a q ih => simp [eqL, h, ih]
  intro t
  induction t with
  | int k => intro x; simp [eqV, eqi]
  | bool => intro x; simp [eqV, eqb]
  | str => intro x; simp [eqV, eqs]
  | sl t ih => intro x; exact hl ih x
  | pr a b iha ihb => intro x; simp [eqV, iha, ihb]
  | wr a ih => intro x; exact ih x
  | un => intro x; rfl
  | ar n t ih => intro x; exact hl ih x
theorem eqAs_refl : ∀ (rs : List Ty) (x : As rs), eqAs rs x x = true
  | [], _ => rfl
  | t :: r, x => by simp [eqAs, eqV_refl, eqAs_refl r]
end Pl

end

section
/- Plain laws: rows walked by loops, numbers of 8 and 16 bits. -/
namespace Pl
open Go Ev Sx
/-! ### loops over rows -/
/-- a loop over a row that gathers something -/
theorem loop_idx {σ R α β : Type} {F : (σ → Option R) → σ → Option R} {mk : Nat → β → σ} {xs : List α} {stp : β → α → β} {fin : β → Option R} (Inv : Nat → β → Prop)
    (hs : ∀ self i acc x, xs[i]? = some x → Inv i acc → F self (mk i acc) = self (mk (i + 1) (stp acc x)))
    (hi : ∀ i acc x, xs[i]? = some x → Inv i acc → Inv (i + 1) (stp acc x))
    (he : ∀ self acc, Inv xs.length acc → F self (mk xs.length acc) = fin acc) :
    ∀ (k i : Nat) (acc : β) (n : Nat), i + k = xs.length → k < n → Inv i acc → loopF F n (mk i acc) = fin ((xs.drop i).foldl stp acc)
  | _, _, _, 0, _, hn, _ => by omega
  | 0, i, acc, n + 1, h, _, hI => by
    have : i = xs.length := by omega
    subst this
    rw [loopF_succ, he _ _ hI, List.drop_length]
    rfl
  | k + 1, i, acc, n + 1, h, hn, hI => by
    have hx : xs[i]? = some (xs[i]'(by omega)) := List.getElem?_eq_getElem (by omega)
    rw [loopF_succ, hs _ _ _ _ hx hI, loop_idx Inv hs hi he k (i + 1) _ n (by omega) (by omega) (hi _ _ _ hx hI), List.drop_eq_getElem_cons (show i < xs.length by omega)]
    rfl
/-- what such a loop is, if it may end early -/
def goL {α β R : Type} (body : β → α → (β → Option R) → Option R) (fin : β → Option R) : List α → β → Option R
  | [], acc => fin acc
  | x :: r, acc => body acc x (goL body fin r)
theorem loop_go {σ R α β : Type} {F : (σ → Option R) → σ → Option R} {mk : Nat → β → σ} {xs : List α} {body : β → α → (β → Option R) → Option R} {fin : β → Option R}
    (hs : ∀ self i acc x, xs[i]? = some x → F self (mk i acc) = body acc x fun a => self (mk (i + 1) a))
    (he : ∀ self acc, F self (mk xs.length acc) = fin acc) :
    ∀ (k i : Nat) (acc : β) (n : Nat), i + k = xs.length → k < n → loopF F n (mk i acc) = goL body fin (xs.drop i) acc
  | _, _, _, 0, _, hn => by omega
  | 0, i, acc, n + 1, h, _ => by
    have : i = xs.length := by omega
    subst this
    rw [loopF_succ, he, List.drop_length]
    rfl
  | k + 1, i, acc, n + 1, h, hn => by
    have hx : xs[i]? = some (xs[i]'(by omega)) := List.getElem?_eq_getElem (by omega)
    rw [loopF_succ, hs _ _ _ _ hx, List.drop_eq_getElem_cons (show i < xs.length by omega)]
    show _ = body acc _ (goL body fin (xs.drop (i + 1)))
    congr 1
    funext a
    exact loop_go hs he k (i + 1) a n (by omega) (by omega)
theorem foldl_app {α β : Type} (f : α → List β) : ∀ (xs : List α) (out : List β), xs.foldl (fun o x => o ++ f x) out = out ++ xs.flatMap f
  | [], out => by simp
  | x :: r, out => by simp [foldl_app f r]
/-! ### numbers of 8 and 16 bits -/
theorem wr8 (x : Int) : IntKind.u8.wrap x = x % 256 := by
  simp only [IntKind.wrap, IntKind.signed, IntKind.bits]
  simp
theorem wr16 (x : Int) : IntKind.u16.wrap x = x % 65536 := by
  simp only [IntKind.wrap, IntKind.signed, IntKind.bits]
  simp
theorem cvt8 (x : Int) : cvt .u8 x = x % 256 := wr8 x
theorem cvt16 (x : Int) : cvt .u16 x = x % 65536 := wr16 x
theorem shr8 (k : IntKind) (x : Int) (hk : 8 ≤ k.bits) : shr k x 8 = x / 256 := by
  unfold shr
  have : min (8 : Int).toNat k.bits = 8 := by
    have : (8 : Int).toNat = 8 := rfl
    omega
  rw [this, Int.fdiv_eq_ediv_of_nonneg _ (by decide)]
  rfl
theorem shr4 (k : IntKind) (x : Int) (hk : 8 ≤ k.bits) : shr k x 4 = x / 16 := by
  unfold shr
  have : min (4 : Int).toNat k.bits = 4 := by
    have : (4 : Int).toNat = 4 := rfl
    omega
  rw [this, Int.fdiv_eq_ediv_of_nonneg _ (by decide)]
  rfl
theorem u16_rng (x : Int) : 0 ≤ IntKind.u16.wrap x ∧ IntKind.u16.wrap x < 65536 := by rw [wr16]; omega
theorem band15 (x : Int) : 0 ≤ band .u16 x 15 ∧ band .u16 x 15 < 16 := by
  have h : (BitVec.ofInt IntKind.u16.bits x &&& BitVec.ofInt IntKind.u16.bits 15).toNat ≤ 15 := by
    rw [BitVec.toNat_and]
    exact Nat.le_trans Nat.and_le_right (by decide)
  unfold band
  rw [wr16]
  omega
end Pl

end

section
/- The check sum, as a plain function. -/
namespace Go.Proofs.Lx
open Go Ev Sx Pl
set_option maxRecDepth 100000
def crcT : List Int := [0, 52225, 55297, 5120, 61441, 15360, 10240, 58369, 40961, 27648, 30720, 46081, 20480, 39937, 34817, 17408]
theorem table_eq : crc_table () = some (crcT, ()) := by kernel_rfl
def tab (i : Int) : Int := crcT.getD i.toNat 0
theorem tab_at {i : Int} (h0 : 0 ≤ i) (h1 : i < 16) : at? crcT i = some (tab i) := by
  obtain ⟨n, rfl⟩ := Int.eq_ofNat_of_zero_le h0
  have : n < crcT.length := by show n < 16; omega
  have e : crcT[n]? = some (crcT[n]'this) := List.getElem?_eq_getElem this
  rw [at_get e]
  unfold tab
  rw [Int.toNat_natCast, List.getD_eq_getElem?_getD, e]
  rfl
def nib (s : Int) : Int := bxor .u16 (shr .u16 s 4) (tab (band .u16 s 15))
def stepV (s c : Int) : Int := nib (nib (bxor .u16 s (cvt .u16 c)))
theorem stepV_rng (s c : Int) : 0 ≤ stepV s c ∧ stepV s c < 65536 := u16_rng _
theorem step_eq (s c : Int) : crc_step (s, c, crcT, ()) = some (stepV s c, crcT, ()) := by
  show crc_step_m0 s c crcT = _
  unfold crc_step_m0
  have h1 := band15 (bxor .u16 s (cvt .u16 c))
  rw [need_t (lt_iff.2 h1.2), tab_at h1.1 h1.2, Option.bind_some, Option.bind_some]
  have h2 := band15 (bxor .u16 (shr .u16 (bxor .u16 s (cvt .u16 c)) 4) (tab (band .u16 (bxor .u16 s (cvt .u16 c)) 15)))
  rw [need_t (lt_iff.2 h2.2), tab_at h2.1 h2.2, Option.bind_some, Option.bind_some]
  rfl
def sumV (b : List Int) : Int := b.foldl stepV 65535
theorem sumV_rng (b : List Int) : 0 ≤ sumV b ∧ sumV b < 65536 := by
  unfold sumV
  have : ∀ (b : List Int) (s : Int), (0 ≤ s ∧ s < 65536) → 0 ≤ b.foldl stepV s ∧ b.foldl stepV s < 65536 := by
    intro b
    induction b with
    | nil => exact fun s h => h
    | cons c r ih => exact fun s _ => ih _ (stepV_rng s c)
  exact this b _ (by decide)
theorem sum_eq {b : List Int} (h : b.length < 4611686018427387904) : crc_Sum (b, ()) = some (sumV b, ()) := by
  show crc_Sum_m0 crc_Sum_K1 b = _
  unfold crc_Sum_m0
  rw [table_eq, Option.bind_some]
  rw [need_t (by rfl), need_t (by rfl)]
  unfold crc_Sum_K1
  refine (loop_idx (xs := b) (mk := fun i acc => (b, acc, Int.ofNat b.length, (i : Int), crcT)) (stp := stepV) (fin := fun acc => some (acc, ())) (fun _ _ => True) ?_ (fun _ _ _ _ _ => trivial) ?_ b.length 0 65535 _ (by omega) (by omega) trivial).trans ?_
  · intro self i acc x hx _
    have hi := (List.getElem?_eq_some_iff.1 hx).1
    show crc_Sum_m1 _ b acc (Int.ofNat b.length) (i : Int) crcT = _
    unfold crc_Sum_m1
    rw [if_pos (by rw [lt_iff, ofNat_eq]; omega), at_get hx, Option.bind_some, step_eq, Option.bind_some, succ64 (by omega)]
  · intro self acc _
    show crc_Sum_m1 _ b acc (Int.ofNat b.length) (b.length : Int) crcT = _
    unfold crc_Sum_m1
    rw [if_neg (by rw [lt_iff, ofNat_eq]; omega)]
  · rfl
theorem capOk_0 {n : Int} (h : 0 ≤ n) : capOk 0 n = true := by
  unfold capOk
  split
  · rfl
  · exact decide_eq_true h
theorem capOk_self (n : Int) : capOk n n = true := by
  unfold capOk
  rw [if_pos rfl]
def two (x : Int) : List Int := [x / 256 % 256, x % 256]
def putV (b : List Int) : List Int := b ++ [sumV b % 256, sumV b / 256]
theorem put_eq {b : List Int} (h : b.length < 1000000) : crc_Put (b, ()) = some (putV b, ()) := by
  show crc_Put_m0 b = _
  unfold crc_Put_m0
  have hs := sumV_rng b
  have e : add .i64 (Int.ofNat b.length) 2 = ((b.length + 2 : Nat) : Int) := by rw [ofNat_eq]; exact addn64 (m := 2) (by omega)
  rw [sum_eq (by omega), Option.bind_some, e, need_t (capOk_0 (by omega)), need_t (by rw [small_iff]; omega), need_small (by omega), need_small (by simp; omega), cvt8, cvt8, shr8 _ _ (by decide)]
  have e2 : sumV b / 256 % 256 = sumV b / 256 := by omega
  rw [e2]
  rfl
end Go.Proofs.Lx

end

section
/- Requests: which are right, and their bytes. -/
namespace Go.Proofs.Lx
open Go Ev Sx Pl
set_option maxRecDepth 100000
abbrev TA := Int × Int × Int × Int × List Int × List Bool
structure OkA (a : TA) : Prop where
  f0 : 0 ≤ a.1
  f1 : a.1 ≤ 255
  at0 : 0 ≤ a.2.1
  at1 : a.2.1 ≤ 65535
  m0 : 0 ≤ a.2.2.1
  m1 : a.2.2.1 ≤ 65535
  t0 : 0 ≤ a.2.2.2.1
  t1 : a.2.2.2.1 ≤ 65535
  w : ∀ x ∈ a.2.2.2.2.1, 0 ≤ x ∧ x ≤ 65535
  lw : a.2.2.2.2.1.length ≤ 100000
  lb : a.2.2.2.2.2.length ≤ 100000
def shp (f : Int) : Option (Int × Int × Int × Bool × Bool) :=
  if eqi 1 f = true then some (2000, 0, 0, false, false) else if eqi 2 f = true then some (2000, 0, 0, false, false) else if eqi 3 f = true then some (125, 0, 0, false, false) else
  if eqi 4 f = true then some (125, 0, 0, false, false) else if eqi 5 f = true then some (0, 1, 0, false, false) else if eqi 6 f = true then some (0, 0, 1, false, false) else
  if eqi 15 f = true then some (1968, 1968, 0, false, true) else if eqi 16 f = true then some (123, 0, 123, false, true) else if eqi 23 f = true then some (125, 0, 121, true, false) else none
def shpD (f : Int) : Int × Int × Int × Bool × Bool := (shp f).getD (0, 0, 0, false, false)
theorem shape_eq (f : Int) : ask_shape (f, ()) = some (shpD f, (shp f).isSome, ()) := rfl
theorem shp_cases (f : Int) : ((f = 1 ∨ f = 2) ∧ shp f = some (2000, 0, 0, false, false)) ∨ ((f = 3 ∨ f = 4) ∧ shp f = some (125, 0, 0, false, false)) ∨ (f = 5 ∧ shp f = some (0, 1, 0, false, false)) ∨
    (f = 6 ∧ shp f = some (0, 0, 1, false, false)) ∨ (f = 15 ∧ shp f = some (1968, 1968, 0, false, true)) ∨ (f = 16 ∧ shp f = some (123, 0, 123, false, true)) ∨ (f = 23 ∧ shp f = some (125, 0, 121, true, false)) ∨
    ((f ≠ 1 ∧ f ≠ 2 ∧ f ≠ 3 ∧ f ≠ 4 ∧ f ≠ 5 ∧ f ≠ 6 ∧ f ≠ 15 ∧ f ≠ 16 ∧ f ≠ 23) ∧ shp f = none) := by
  by_cases h1 : f = 1
  · subst h1; exact .inl ⟨.inl rfl, rfl⟩
  by_cases h2 : f = 2
  · subst h2; exact .inl ⟨.inr rfl, rfl⟩
  by_cases h3 : f = 3
  · subst h3; exact .inr (.inl ⟨.inl rfl, rfl⟩)
  by_cases h4 : f = 4
  · subst h4; exact .inr (.inl ⟨.inr rfl, rfl⟩)
  by_cases h5 : f = 5
  · subst h5; exact .inr (.inr (.inl ⟨rfl, rfl⟩))
  by_cases h6 : f = 6
  · subst h6; exact .inr (.inr (.inr (.inl ⟨rfl, rfl⟩)))
  by_cases h7 : f = 15
  · subst h7; exact .inr (.inr (.inr (.inr (.inl ⟨rfl, rfl⟩))))
  by_cases h8 : f = 16
  · subst h8; exact .inr (.inr (.inr (.inr (.inr (.inl ⟨rfl, rfl⟩)))))
  by_cases h9 : f = 23
  · subst h9; exact .inr (.inr (.inr (.inr (.inr (.inr (.inl ⟨rfl, rfl⟩))))))
  refine .inr (.inr (.inr (.inr (.inr (.inr (.inr ⟨⟨h1, h2, h3, h4, h5, h6, h7, h8, h9⟩, ?_⟩))))))
  have e : ∀ n : Int, f ≠ n → ¬ eqi n f = true := fun n hn h => hn (eqi_iff.1 h).symm
  unfold shp
  rw [if_neg (e _ h1), if_neg (e _ h2), if_neg (e _ h3), if_neg (e _ h4), if_neg (e _ h5), if_neg (e _ h6), if_neg (e _ h7), if_neg (e _ h8), if_neg (e _ h9)]
def withinV (n most : Int) : Bool := if eqi most 0 = true then eqi n 0 else if ge n 1 = true then le n most else false
theorem within_eq (n most : Int) : ask_within (n, most, ()) = some (withinV n most, ()) := by
  show ask_within_m0 n most = _
  unfold ask_within_m0 withinV
  split
  · rfl
  · split <;> rfl
def rightS (a : TA) (s : Int × Int × Int × Bool × Bool) : Bool := (s.2.2.2.1 || eqi a.2.2.2.1 0) && (withinV a.2.2.1 s.1 && (withinV (Int.ofNat a.2.2.2.2.2.length) s.2.1 && (withinV (Int.ofNat a.2.2.2.2.1.length) s.2.2.1 &&
  (!s.2.2.2.2 || eqi (Int.ofNat a.2.2.2.2.2.length + Int.ofNat a.2.2.2.2.1.length) a.2.2.1))))
def rightA (a : TA) : Bool := match shp a.1 with
  | none => false
  | some s => rightS a s
theorem right_K2 (t : Bool) (a1 a2 a3 a4 : Int) (a5 : List Int) (a6 : List Bool) (s1 s2 s3 : Int) (s4 s5 : Bool) :
    ask_Right_K2 t a1 a2 a3 a4 a5 a6 s1 s2 s3 s4 s5 = some (!t && (!s5 || eqi (add .i64 (Int.ofNat a6.length) (Int.ofNat a5.length)) (cvt .i64 a3)), ()) := by
  unfold ask_Right_K2 ask_Right_m2
  cases t <;> cases s5 <;> rfl
theorem right_K1 (t : Bool) (a1 a2 a3 a4 : Int) (a5 : List Int) (a6 : List Bool) (s1 s2 s3 : Int) (s4 s5 : Bool) :
    ask_Right_K1 t a1 a2 a3 a4 a5 a6 s1 s2 s3 s4 s5 = some (!t && (withinV (cvt .i64 a3) s1 && (withinV (Int.ofNat a6.length) s2 && (withinV (Int.ofNat a5.length) s3 && (!s5 || eqi (add .i64 (Int.ofNat a6.length) (Int.ofNat a5.length)) (cvt .i64 a3))))), ()) := by
  unfold ask_Right_K1 ask_Right_m1
  rw [within_eq, within_eq, within_eq]
  simp only [Option.bind_some, right_K2]
  cases t <;> cases withinV (cvt .i64 a3) s1 <;> cases withinV (Int.ofNat a6.length) s2 <;> cases withinV (Int.ofNat a5.length) s3 <;> rfl
theorem right_eq {a : TA} (h : OkA a) : ask_Right (a, ()) = some (rightA a, ()) := by
  show ask_Right_m0 ask_Right_K1 a = _
  unfold ask_Right_m0
  have h1 := h.m0
  have h2 := h.m1
  have h3 := h.lw
  have h4 := h.lb
  rw [shape_eq, Option.bind_some]
  simp only [right_K1]
  rw [cvt64 (by omega) (by omega), add64 (by rw [ofNat_eq, ofNat_eq]; omega) (by rw [ofNat_eq, ofNat_eq]; omega)]
  unfold rightA shpD
  cases shp a.1 with
  | none => rfl
  | some s =>
    obtain ⟨s1, s2, s3, s4, s5⟩ := s
    unfold rightS
    have e : nei a.2.2.2.1 0 = !eqi a.2.2.2.1 0 := rfl
    rw [e]
    cases s4 <;> cases eqi a.2.2.2.1 0 <;> rfl
theorem two_eq {y : Int} : ([cvt .u8 (shr .u16 y 8), cvt .u8 y] : List Int) = two y := by
  rw [cvt8, cvt8, shr8 _ _ (by decide)]
  rfl
theorem numbers_eq {l out : List Int} (h : out.length + 2 * l.length ≤ 1000000) : ask_numbers (l, out, ()) = some (out ++ l.flatMap two, ()) := by
  show ask_numbers_m0 ask_numbers_K1 l out = _
  unfold ask_numbers_m0 ask_numbers_K1
  refine (loop_idx (xs := l) (mk := fun i acc => (l, Int.ofNat l.length, (i : Int), acc)) (stp := fun o y => o ++ two y) (fin := fun acc => some (acc, ())) (fun i acc => acc.length ≤ out.length + 2 * i) ?_ ?_ ?_ l.length 0 out _ (by omega) (by omega) (by omega)).trans ?_
  · intro self i acc x hx hI
    have hi := (List.getElem?_eq_some_iff.1 hx).1
    show ask_numbers_m1 _ l (Int.ofNat l.length) (i : Int) acc = _
    unfold ask_numbers_m1
    rw [if_pos (by rw [lt_iff, ofNat_eq]; omega), at_get hx, Option.bind_some, need_small (by omega), two_eq, succ64 (by omega)]
  · intro i acc x hx hI
    simp [two]
    omega
  · intro self acc _
    show ask_numbers_m1 _ l (Int.ofNat l.length) (l.length : Int) acc = _
    unfold ask_numbers_m1
    rw [if_neg (by rw [lt_iff, ofNat_eq]; omega)]
  · rw [List.drop_zero, foldl_app]
end Go.Proofs.Lx

end

section
/- Packed bits, lists of numbers. -/
namespace Pl
open Go Ev Sx
/-- a loop whose states are known -/
theorem loop_det {σ R : Type} {F : (σ → Option R) → σ → Option R} {mk : Nat → σ} {N : Nat} {r : Option R} (hs : ∀ self i, i < N → F self (mk i) = self (mk (i + 1))) (he : ∀ self, F self (mk N) = r) :
    ∀ (k i n : Nat), i + k = N → k < n → loopF F n (mk i) = r
  | _, _, 0, _, h => by omega
  | 0, i, n + 1, h, _ => by
    have : i = N := by omega
    subst this
    rw [loopF_succ, he]
  | k + 1, i, n + 1, h, hn => by rw [loopF_succ, hs _ _ (by omega), loop_det hs he k (i + 1) n (by omega) (by omega)]
theorem quo_nat {i d : Nat} (hi : i < 4611686018427387904) : quo .i64 (i : Int) (d : Int) = ((i / d : Nat) : Int) := by
  unfold quo
  have h := Nat.div_le_self i d
  have e : (i : Int).tdiv (d : Int) = ((i / d : Nat) : Int) := by rw [Int.ofNat_tdiv]
  rw [e]
  generalize i / d = q at h ⊢
  exact w64 (by omega) (by omega)
theorem rem_nat {i d : Nat} : rem (i : Int) (d : Int) = ((i % d : Nat) : Int) := by
  unfold rem
  rw [Int.ofNat_tmod]
/-- what is filled, place by place -/
theorem fill_step {α : Type} {f : Nat → α} {init : List α} {i : Nat} (hi : i < init.length) : ((List.range i).map f ++ init.drop i).set i (f i) = (List.range (i + 1)).map f ++ init.drop (i + 1) := by
  rw [List.drop_eq_getElem_cons hi, List.set_append_right _ _ (by simp)]
  simp only [List.length_map, List.length_range, Nat.sub_self, List.set_cons_zero, List.range_succ, List.map_append, List.map_cons, List.map_nil, List.append_assoc, List.singleton_append]
end Pl
namespace Go.Proofs.Lx
open Go Ev Sx Pl
set_option maxRecDepth 100000
def byteV : List Bool → Int
  | [] => 0
  | b :: r => (if b = true then 1 else 0) + 2 * byteV r
theorem byteV_rng : ∀ t : List Bool, 0 ≤ byteV t ∧ byteV t < 2 ^ t.length
  | [] => by simp [byteV]
  | b :: r => by
    have := byteV_rng r
    rw [List.length_cons, Int.pow_succ]
    unfold byteV
    split <;> omega
theorem byteV_snoc (b : Bool) : ∀ t : List Bool, byteV (t ++ [b]) = byteV t + (if b = true then 2 ^ t.length else 0)
  | [] => by cases b <;> rfl
  | a :: r => by
    rw [List.cons_append]
    unfold byteV
    rw [byteV_snoc b r, List.length_cons, Int.pow_succ]
    cases b <;> simp <;> omega
def packN (n : Nat) : Nat := (n + 7) / 8
def packP (bits : List Bool) (i : Nat) : List Int := (List.range (packN bits.length)).map fun j => byteV (((bits.take i).drop (8 * j)).take 8)
def packS (bits : List Bool) : List Int := (List.range (packN bits.length)).map fun j => byteV ((bits.drop (8 * j)).take 8)
theorem packP_len (bits : List Bool) (i : Nat) : (packP bits i).length = packN bits.length := by simp [packP]
theorem packS_len (bits : List Bool) : (packS bits).length = packN bits.length := by simp [packS]
theorem packP_all (bits : List Bool) : packP bits bits.length = packS bits := by unfold packP packS; rw [List.take_length]
theorem packP_zero (bits : List Bool) : packP bits 0 = List.replicate (packN bits.length) 0 := by
  unfold packP
  rw [List.take_zero]
  simp only [List.drop_nil, List.take_nil, byteV]
  exact List.map_const' ..|>.trans (by simp)
theorem chunk_next {bits : List Bool} {i j : Nat} {y : Bool} (hy : bits[i]? = some y) : ((bits.take (i + 1)).drop (8 * j)).take 8 = ((bits.take i).drop (8 * j)).take 8 ++ (if j = i / 8 then [y] else []) := by
  have hi := (List.getElem?_eq_some_iff.1 hy).1
  have e : bits.take (i + 1) = bits.take i ++ [y] := by rw [List.take_add_one, hy]; rfl
  have hl : (bits.take i).length = i := by rw [List.length_take]; omega
  by_cases h : j = i / 8
  · rw [if_pos h, e, List.drop_append_of_le_length (by omega)]
    have h1 : ((bits.take i).drop (8 * j) ++ [y]).length ≤ 8 := by rw [List.length_append, List.length_drop, hl, List.length_singleton]; omega
    rw [List.take_of_length_le h1, List.take_of_length_le (l := (bits.take i).drop (8 * j)) (by rw [List.length_drop, hl]; omega)]
  · rw [if_neg h, List.append_nil]
    by_cases h2 : 8 * j ≤ i
    · rw [e, List.drop_append_of_le_length (by omega), List.take_append_of_le_length (by simp; omega)]
    · rw [List.drop_of_length_le (by simp; omega), List.drop_of_length_le (by simp; omega)]
theorem packP_next {bits : List Bool} {i : Nat} {y : Bool} (hy : bits[i]? = some y) :
    ∃ v, (packP bits i)[i / 8]? = some v ∧ 0 ≤ v ∧ v < 2 ^ (i % 8) ∧ packP bits (i + 1) = (if y = true then (packP bits i).set (i / 8) (v + 2 ^ (i % 8)) else packP bits i) := by
  have hi := (List.getElem?_eq_some_iff.1 hy).1
  have hm : i / 8 < packN bits.length := by unfold packN; omega
  have hlen : ((((bits.take i).drop (8 * (i / 8))).take 8)).length = i % 8 := by simp; omega
  refine ⟨byteV (((bits.take i).drop (8 * (i / 8))).take 8), ?_, (byteV_rng _).1, ?_, ?_⟩
  · unfold packP
    rw [List.getElem?_map, List.getElem?_range hm]
    rfl
  · have := (byteV_rng (((bits.take i).drop (8 * (i / 8))).take 8)).2
    rwa [hlen] at this
  · apply List.ext_getElem?
    intro j
    have hj : ∀ q, (packP bits q)[j]? = if j < packN bits.length then some (byteV (((bits.take q).drop (8 * j)).take 8)) else none := by
      intro q
      unfold packP
      rw [List.getElem?_map]
      split
      · rename_i h; rw [List.getElem?_range h]; rfl
      · rename_i h; rw [List.getElem?_eq_none (by simp; omega)]; rfl
    rw [hj]
    by_cases hjm : j < packN bits.length
    · rw [if_pos hjm, chunk_next hy]
      by_cases hji : j = i / 8
      · rw [if_pos hji, byteV_snoc]
        cases y with
        | true =>
          rw [if_pos rfl, if_pos rfl, hji, hlen, List.getElem?_set_self (by rw [packP_len]; exact hm)]
        | false =>
          rw [if_neg (by decide), if_neg (by decide), hj, if_pos hjm, Int.add_zero]
      · rw [if_neg hji, List.append_nil]
        cases y with
        | true => rw [if_pos rfl, List.getElem?_set_ne (by omega), hj, if_pos hjm]
        | false => rw [if_neg (by decide), hj, if_pos hjm]
    · rw [if_neg hjm]
      cases y with
      | true => rw [if_pos rfl, List.getElem?_set_ne (by omega), hj, if_neg hjm]
      | false => rw [if_neg (by decide), hj, if_neg hjm]
theorem bor_bit {v : Int} {k : Nat} (h0 : 0 ≤ v) (h1 : v < 2 ^ k) (hk : k < 8) : bor .u8 v (shl .u8 1 (k : Int)) = v + 2 ^ k := by
  have key : ∀ (k : Fin 8) (v : Fin 128), v.1 < 2 ^ k.1 → bor .u8 (v.1 : Int) (shl .u8 1 (k.1 : Int)) = (v.1 : Int) + 2 ^ k.1 := by decide +kernel
  obtain ⟨n, rfl⟩ := Int.eq_ofNat_of_zero_le h0
  have h2 : n < 2 ^ k := by exact_mod_cast h1
  have h3 : 2 ^ k ≤ 2 ^ 7 := Nat.pow_le_pow_right (by decide) (by omega)
  exact key ⟨k, hk⟩ ⟨n, by omega⟩ h2
theorem pack_eq {bits : List Bool} (h : bits.length ≤ 100000) : ask_Pack (bits, ()) = some (packS bits, ()) := by
  show ask_Pack_m0 ask_Pack_K1 bits = _
  have hK : ask_Pack_K1 bits (packN bits.length : Int) = some (packS bits, ()) := by
    unfold ask_Pack_K1 ask_Pack_m1
    have hN : packN bits.length ≤ 100000 := by unfold packN; omega
    rw [need_t (by rw [ge_iff]; omega), need_t (capOk_self _), Int.toNat_natCast, need_small (by omega)]
    unfold ask_Pack_K2
    rw [← packP_zero, ← packP_all]
    refine loop_det (mk := fun i => (bits, Int.ofNat bits.length, (i : Int), packP bits i)) (N := bits.length) ?_ ?_ bits.length 0 _ (by omega) (by omega)
    · intro self i hi
      have hy : bits[i]? = some (bits[i]'hi) := List.getElem?_eq_getElem hi
      obtain ⟨v, hv, h0, h1, e⟩ := packP_next hy
      show ask_Pack_m2 _ bits (Int.ofNat bits.length) (i : Int) (packP bits i) = _
      unfold ask_Pack_m2
      have hq : quo .i64 (i : Int) 8 = ((i / 8 : Nat) : Int) := quo_nat (d := 8) (by omega)
      have hr : rem (i : Int) 8 = ((i % 8 : Nat) : Int) := rem_nat (d := 8)
      rw [if_pos (by rw [lt_iff, ofNat_eq]; omega), at_get hy, Option.bind_some, hq, hr, at_get hv, succ64 (by omega)]
      simp only [Option.bind_some]
      rw [need_t (by rw [ge_iff]; omega), bor_bit h0 h1 (Nat.mod_lt _ (by decide)), Int.toNat_natCast, e]
      split <;> rfl
    · intro self
      show ask_Pack_m2 _ bits (Int.ofNat bits.length) (bits.length : Int) (packP bits bits.length) = _
      unfold ask_Pack_m2
      rw [if_neg (by rw [lt_iff, ofNat_eq]; omega)]
  unfold ask_Pack_m0
  have hq : quo .i64 (Int.ofNat bits.length) 8 = ((bits.length / 8 : Nat) : Int) := quo_nat (d := 8) (by omega)
  rw [hq]
  split
  · rename_i h1
    rw [gt_iff, ofNat_eq] at h1
    rw [succ64 (by omega)]
    have : bits.length / 8 + 1 = packN bits.length := by unfold packN; omega
    rw [this]
    exact hK
  · rename_i h1
    rw [gt_iff, ofNat_eq] at h1
    have : bits.length / 8 = packN bits.length := by unfold packN; omega
    rw [this]
    exact hK
def bitV (y : Int) (k : Nat) : Bool := eqi (band .u8 (shr .u8 y (k : Int)) 1) 1
theorem bitV_eq {y : Int} {k : Nat} (h0 : 0 ≤ y) (h1 : y < 256) (hk : k < 8) : bitV y k = decide (y / 2 ^ k % 2 = 1) := by
  have key : ∀ (k : Fin 8) (v : Fin 256), bitV (v.1 : Int) k.1 = decide ((v.1 : Int) / 2 ^ k.1 % 2 = 1) := by decide +kernel
  obtain ⟨n, rfl⟩ := Int.eq_ofNat_of_zero_le h0
  exact key ⟨k, hk⟩ ⟨n, by omega⟩
def unpackS (b : List Int) : List Bool := (List.range (8 * b.length)).map fun i => bitV (b.getD (i / 8) 0) (i % 8)
theorem unpack_eq {b : List Int} (h : b.length ≤ 100000) : ask_Unpack (b, ()) = some (unpackS b, ()) := by
  show ask_Unpack_m0 ask_Unpack_K1 b = _
  unfold ask_Unpack_m0
  have hm : mul .i64 8 (Int.ofNat b.length) = ((8 * b.length : Nat) : Int) := by
    rw [mul64 (by rw [ofNat_eq]; omega) (by rw [ofNat_eq]; omega)]
    simp
  rw [hm, need_t (by rw [ge_iff]; omega), need_t (capOk_self _), Int.toNat_natCast, need_small (by omega), List.length_replicate]
  unfold ask_Unpack_K1 unpackS
  refine (loop_det (mk := fun i => (b, Int.ofNat (8 * b.length), (i : Int), (List.range i).map (fun i => bitV (b.getD (i / 8) 0) (i % 8)) ++ (List.replicate (8 * b.length) false).drop i)) (N := 8 * b.length) ?_ ?_ (8 * b.length) 0 _ (by omega) (by omega))
  · intro self i hi
    show ask_Unpack_m1 _ b (Int.ofNat (8 * b.length)) (i : Int) _ = _
    unfold ask_Unpack_m1
    have hq : quo .i64 (i : Int) 8 = ((i / 8 : Nat) : Int) := quo_nat (d := 8) (by omega)
    have hr : rem (i : Int) 8 = ((i % 8 : Nat) : Int) := rem_nat (d := 8)
    have hlt : i / 8 < b.length := by omega
    have hb : b[i / 8]? = some (b[i / 8]'hlt) := List.getElem?_eq_getElem hlt
    have hlen : ((List.range i).map (fun i => bitV (b.getD (i / 8) 0) (i % 8)) ++ (List.replicate (8 * b.length) false).drop i).length = 8 * b.length := by simp; omega
    have ho : ((List.range i).map (fun i => bitV (b.getD (i / 8) 0) (i % 8)) ++ (List.replicate (8 * b.length) false).drop i)[i]? = some (((List.range i).map (fun i => bitV (b.getD (i / 8) 0) (i % 8)) ++ (List.replicate (8 * b.length) false).drop i)[i]'(by omega)) := List.getElem?_eq_getElem (by omega)
    rw [if_pos (by rw [lt_iff, ofNat_eq]; omega), hq, hr, at_get hb, Option.bind_some, need_t (by rw [ge_iff]; omega), at_get ho, Option.bind_some, Option.bind_some, succ64 (by omega), Int.toNat_natCast]
    have e : eqi (band .u8 (shr .u8 (b[i / 8]'hlt) ((i % 8 : Nat) : Int)) 1) 1 = bitV (b.getD (i / 8) 0) (i % 8) := by
      rw [List.getD_eq_getElem?_getD, hb]
      rfl
    rw [e, fill_step (f := fun i => bitV (b.getD (i / 8) 0) (i % 8)) (by simp; omega)]
  · intro self
    show ask_Unpack_m1 _ b (Int.ofNat (8 * b.length)) ((8 * b.length : Nat) : Int) _ = _
    unfold ask_Unpack_m1
    rw [if_neg (by rw [lt_iff, ofNat_eq]; omega), List.drop_of_length_le (by simp), List.append_nil]
end Go.Proofs.Lx

end

section
/- The bytes of requests. -/
namespace Go.Proofs.Lx
open Go Ev Sx Pl
set_option maxRecDepth 100000
/-- what a right request is -/
inductive RA : TA → Prop where
  | bits (f p n : Int) (hf : f = 1 ∨ f = 2) (h1 : 1 ≤ n) (h2 : n ≤ 2000) : RA (f, p, n, 0, [], [])
  | words (f p n : Int) (hf : f = 3 ∨ f = 4) (h1 : 1 ≤ n) (h2 : n ≤ 125) : RA (f, p, n, 0, [], [])
  | coil (p : Int) (b : Bool) : RA (5, p, 0, 0, [], [b])
  | word (p : Int) (x : Int) : RA (6, p, 0, 0, [x], [])
  | coils (p : Int) (l : List Bool) (h1 : 1 ≤ l.length) (h2 : l.length ≤ 1968) : RA (15, p, (l.length : Int), 0, [], l)
  | regs (p : Int) (l : List Int) (h1 : 1 ≤ l.length) (h2 : l.length ≤ 123) : RA (16, p, (l.length : Int), 0, l, [])
  | swap (p n t : Int) (l : List Int) (h1 : 1 ≤ l.length) (h2 : l.length ≤ 121) (h3 : 1 ≤ n) (h4 : n ≤ 125) : RA (23, p, n, t, l, [])
theorem within0 {n : Int} (h : withinV n 0 = true) : n = 0 := eqi_iff.1 h
theorem within1 {n m : Int} (hm : 0 < m) (h : withinV n m = true) : 1 ≤ n ∧ n ≤ m := by
  unfold withinV at h
  rw [if_neg (by rw [eqi_iff]; omega)] at h
  split at h
  · rename_i h1; exact ⟨ge_iff.1 h1, le_iff.1 h⟩
  · cases h
theorem len0 {α : Type} {l : List α} (h : Int.ofNat l.length = 0) : l = [] := by
  rw [ofNat_eq] at h
  exact List.eq_nil_of_length_eq_zero (by omega)
theorem len1 {α : Type} {l : List α} (h : 1 ≤ Int.ofNat l.length ∧ Int.ofNat l.length ≤ 1) : ∃ x, l = [x] := by
  rw [ofNat_eq] at h
  exact List.length_eq_one_iff.1 (by omega)
theorem rightA_RA {a : TA} (hr : rightA a = true) : RA a := by
  obtain ⟨f, p, n, t, ws, bs⟩ := a
  unfold rightA at hr
  simp only at hr
  rcases shp_cases f with ⟨hf, e⟩ | ⟨hf, e⟩ | ⟨hf, e⟩ | ⟨hf, e⟩ | ⟨hf, e⟩ | ⟨hf, e⟩ | ⟨hf, e⟩ | ⟨hf, e⟩ <;> rw [e] at hr <;> simp only [rightS, Bool.and_eq_true, Bool.false_or, Bool.true_or, Bool.not_false, Bool.not_true, true_and, and_true] at hr
  · obtain ⟨h1, h2, h3, h4⟩ := hr
    have h2 := within1 (by decide) h2
    rw [eqi_iff.1 h1, len0 (within0 h3), len0 (within0 h4)]
    exact .bits f p n hf h2.1 h2.2
  · obtain ⟨h1, h2, h3, h4⟩ := hr
    have h2 := within1 (by decide) h2
    rw [eqi_iff.1 h1, len0 (within0 h3), len0 (within0 h4)]
    exact .words f p n hf h2.1 h2.2
  · obtain ⟨h1, h2, h3, h4⟩ := hr
    obtain ⟨b, rfl⟩ := len1 (within1 (by decide) h3)
    rw [eqi_iff.1 h1, within0 h2, len0 (within0 h4), hf]
    exact .coil p b
  · obtain ⟨h1, h2, h3, h4⟩ := hr
    obtain ⟨b, rfl⟩ := len1 (within1 (by decide) h4)
    rw [eqi_iff.1 h1, within0 h2, len0 (within0 h3), hf]
    exact .word p b
  · obtain ⟨h1, h2, h3, h4, h5⟩ := hr
    have h3 := within1 (by decide) h3
    have e4 := len0 (within0 h4)
    subst e4
    rw [eqi_iff.1 h1, ← eqi_iff.1 h5, hf]
    rw [ofNat_eq] at h3
    exact .coils p bs (by omega) (by omega)
  · obtain ⟨h1, h2, h3, h4, h5⟩ := hr
    have h4 := within1 (by decide) h4
    have e3 := len0 (within0 h3)
    subst e3
    have e5 : (ws.length : Int) = n := by have := eqi_iff.1 h5; simpa using this
    rw [eqi_iff.1 h1, ← e5, hf]
    rw [ofNat_eq] at h4
    exact .regs p ws (by omega) (by omega)
  · obtain ⟨h2, h3, h4⟩ := hr
    have h2 := within1 (by decide) h2
    have h4 := within1 (by decide) h4
    rw [len0 (within0 h3), hf]
    rw [ofNat_eq] at h4
    exact .swap p n t ws (by omega) (by omega) h2.1 h2.2
  · cases hr
def askB (a : TA) : List Int :=
  if a.1 = 5 then a.1 :: two a.2.1 ++ two (if a.2.2.2.2.2.headD false = true then 65280 else 0)
  else if a.1 = 6 then a.1 :: two a.2.1 ++ a.2.2.2.2.1.flatMap two
  else if a.1 = 15 then a.1 :: two a.2.1 ++ two a.2.2.1 ++ [(packN a.2.2.2.2.2.length : Int)] ++ packS a.2.2.2.2.2
  else if a.1 = 16 then a.1 :: two a.2.1 ++ two a.2.2.1 ++ [2 * (a.2.2.2.2.1.length : Int)] ++ a.2.2.2.2.1.flatMap two
  else if a.1 = 23 then a.1 :: two a.2.1 ++ two a.2.2.1 ++ two a.2.2.2.1 ++ two (a.2.2.2.2.1.length : Int) ++ [2 * (a.2.2.2.2.1.length : Int)] ++ a.2.2.2.2.1.flatMap two
  else a.1 :: two a.2.1 ++ two a.2.2.1
theorem flat_two_len (l : List Int) : (l.flatMap two).length = 2 * l.length := by
  induction l with
  | nil => rfl
  | cons x r ih => rw [List.flatMap_cons, List.length_append, ih]; simp [two]; omega
theorem two_len (x : Int) : (two x).length = 2 := rfl
theorem askB_len {a : TA} (h : RA a) : 5 ≤ (askB a).length ∧ (askB a).length ≤ 253 := by
  cases h with
  | bits f p n hf h1 h2 => rcases hf with rfl | rfl <;> exact ⟨Nat.le.refl, (by decide : 5 ≤ 253)⟩
  | words f p n hf h1 h2 => rcases hf with rfl | rfl <;> exact ⟨Nat.le.refl, (by decide : 5 ≤ 253)⟩
  | coil p b => exact ⟨Nat.le.refl, (by decide : 5 ≤ 253)⟩
  | word p x => exact ⟨Nat.le.refl, (by decide : 5 ≤ 253)⟩
  | coils p l h1 h2 =>
    show 5 ≤ ((15 : Int) :: two p ++ two _ ++ [_] ++ packS l).length ∧ ((15 : Int) :: two p ++ two _ ++ [_] ++ packS l).length ≤ 253
    simp only [List.length_append, List.length_cons, List.length_nil, packS_len, two_len]
    unfold packN
    omega
  | regs p l h1 h2 =>
    show 5 ≤ ((16 : Int) :: two p ++ two _ ++ [_] ++ l.flatMap two).length ∧ ((16 : Int) :: two p ++ two _ ++ [_] ++ l.flatMap two).length ≤ 253
    simp only [List.length_append, List.length_cons, List.length_nil, flat_two_len, two_len]
    omega
  | swap p n t l h1 h2 h3 h4 =>
    show 5 ≤ ((23 : Int) :: two p ++ two _ ++ two _ ++ two _ ++ [_] ++ l.flatMap two).length ∧ ((23 : Int) :: two p ++ two _ ++ two _ ++ two _ ++ [_] ++ l.flatMap two).length ≤ 253
    simp only [List.length_append, List.length_cons, List.length_nil, flat_two_len, two_len]
    omega
abbrev BO := Option (As [.sl (.int .u8), .int .i64])
theorem bK0 (f p n : Int) (s1 : Int) (out : List Int) (h5 : f = 1 ∨ f = 2 ∨ f = 3 ∨ f = 4) : ask_Bytes_K1 f p n 0 [] [] s1 0 0 false false out = some (out, 0, ()) := by
  rcases h5 with rfl | rfl | rfl | rfl <;> rfl
theorem bK5 (p : Int) (b : Bool) (out : List Int) : ask_Bytes_K1 5 p 0 0 [] [b] 0 1 0 false false out = Option.bind (ask_numbers ([if b = true then 65280 else 0], out, ())) fun y => (some (y.1, 0, ()) : BO) := by
  cases b <;> rfl
theorem bK6 (p x : Int) (out : List Int) : ask_Bytes_K1 6 p 0 0 [x] [] 0 0 1 false false out = Option.bind (ask_numbers ([x], out, ())) fun y => (some (y.1, 0, ()) : BO) := rfl
theorem bK15 (p n : Int) (l : List Bool) (out : List Int) : ask_Bytes_K1 15 p n 0 [] l 1968 1968 0 false true out =
    Option.bind (ask_Pack (l, ())) fun y => need (small (out.length + 1)) (need (small ((out ++ [Int.ofNat (y.1.length % 256)]).length + y.1.length)) (some (out ++ [Int.ofNat (y.1.length % 256)] ++ y.1, 0, ()) : BO)) := rfl
theorem bK16 (p n : Int) (l : List Int) (out : List Int) : ask_Bytes_K1 16 p n 0 l [] 123 0 123 false true out =
    need (small (out.length + 1)) (Option.bind (ask_numbers (l, out ++ [cvt .u8 (mul .i64 2 (Int.ofNat l.length))], ())) fun y => (some (y.1, 0, ()) : BO)) := rfl
theorem bK23 (p n t : Int) (l : List Int) (out : List Int) : ask_Bytes_K1 23 p n t l [] 125 0 121 true false out =
    Option.bind (ask_numbers ([t, Int.ofNat (l.length % 65536)], out, ())) fun y => need (small (y.1.length + 1)) (Option.bind (ask_numbers (l, y.1 ++ [cvt .u8 (mul .i64 2 (Int.ofNat l.length))], ())) fun y => (some (y.1, 0, ()) : BO)) := rfl
theorem nums1 (x : Int) {out : List Int} (h : out.length ≤ 900000) : ask_numbers ([x], out, ()) = some (out ++ two x, ()) := by
  rw [numbers_eq (by simp; omega)]
  simp
theorem bytes_eq {a : TA} (h : OkA a) : ask_Bytes (a, ()) = if rightA a = true then some (askB a, 0, ()) else some ([], 12, ()) := by
  show ask_Bytes_m0 ask_Bytes_K1 a = _
  unfold ask_Bytes_m0
  rw [right_eq h, Option.bind_some]
  cases hr : rightA a with
  | false => rfl
  | true =>
    have hra := rightA_RA hr
    rw [if_neg (by decide), if_pos rfl, shape_eq, Option.bind_some]
    clear hr h
    have hin : ∀ f p : Int, ask_numbers ([p], [f], ()) = some (f :: two p, ()) := fun f p => nums1 p (by simp)
    have hin2 : ∀ f p n : Int, ask_numbers ([n], f :: two p, ()) = some (f :: two p ++ two n, ()) := fun f p n => nums1 n (by simp [two])
    cases hra with
    | bits f p n hf h1 h2 =>
      rcases hf with rfl | rfl <;> rw [hin, Option.bind_some, if_pos (by rfl), hin2, Option.bind_some]
      · exact bK0 1 p n 2000 _ (.inl rfl)
      · exact bK0 2 p n 2000 _ (.inr (.inl rfl))
    | words f p n hf h1 h2 =>
      rcases hf with rfl | rfl <;> rw [hin, Option.bind_some, if_pos (by rfl), hin2, Option.bind_some]
      · exact bK0 3 p n 125 _ (.inr (.inr (.inl rfl)))
      · exact bK0 4 p n 125 _ (.inr (.inr (.inr rfl)))
    | coil p b =>
      rw [hin, Option.bind_some, if_neg (by show ¬ gt 0 0 = true; decide)]
      exact (bK5 p b _).trans (by rw [nums1 _ (by simp [two]), Option.bind_some]; rfl)
    | word p x =>
      rw [hin, Option.bind_some, if_neg (by show ¬ gt 0 0 = true; decide)]
      exact (bK6 p x _).trans (by rw [nums1 _ (by simp [two]), Option.bind_some]; simp [askB])
    | coils p l h1 h2 =>
      rw [hin, Option.bind_some, if_pos (by rfl), hin2, Option.bind_some]
      refine (bK15 p _ l _).trans ?_
      rw [pack_eq (by omega), Option.bind_some, need_small (by simp [two]), need_small (by simp [two, packS_len, packN]; omega)]
      refine congrArg (fun x => some (x, 0, ())) ?_
      have e : packN l.length % 256 = packN l.length := by unfold packN; omega
      rw [packS_len, e]
      rfl
    | regs p l h1 h2 =>
      rw [hin, Option.bind_some, if_pos (by rfl), hin2, Option.bind_some]
      refine (bK16 p _ l _).trans ?_
      rw [need_small (by simp [two]), mul64 (by rw [ofNat_eq]; omega) (by rw [ofNat_eq]; omega), cvt8, numbers_eq (by simp [two]; omega), Option.bind_some]
      refine congrArg (fun x => some (x, 0, ())) ?_
      have e : (2 * Int.ofNat l.length) % 256 = 2 * (l.length : Int) := by rw [ofNat_eq]; omega
      rw [e]
      rfl
    | swap p n t l h1 h2 h3 h4 =>
      rw [hin, Option.bind_some, if_pos (by rfl), hin2, Option.bind_some]
      refine (bK23 p n t l _).trans ?_
      rw [numbers_eq (by simp [two]), Option.bind_some, need_small (by simp [two]), mul64 (by rw [ofNat_eq]; omega) (by rw [ofNat_eq]; omega), cvt8, numbers_eq (by simp [two]; omega), Option.bind_some]
      refine congrArg (fun x => some (x, 0, ())) ?_
      have e : (2 * Int.ofNat l.length) % 256 = 2 * (l.length : Int) := by rw [ofNat_eq]; omega
      have e2 : Int.ofNat (l.length % 65536) = (l.length : Int) := by rw [ofNat_eq]; omega
      rw [e, e2]
      simp [askB]
end Go.Proofs.Lx

end

section
/- Polls: what they send, by ticks, and which are the same. -/
namespace Pl
open Go Ev Sx
theorem zip_at {α β : Type} {s1 : List α} {s2 : List β} (h : s1.length = s2.length) {i : Nat} {x : α × β} (hx : (s1.zip s2)[i]? = some x) : s1[i]? = some x.1 ∧ s2[i]? = some x.2 := by
  rw [List.getElem?_zip_eq_some] at hx
  exact hx
/-- two rows are compared, element by element -/
theorem goL_eq {α : Type} [DecidableEq α] {ne : α → α → Bool} (hne : ∀ a b, ne a b = !decide (a = b)) : ∀ (s1 s2 : List α), s1.length = s2.length →
    goL (R := Bool × Unit) (fun (_ : Unit) (x : α × α) k => if ne x.1 x.2 = true then some (false, ()) else k ()) (fun _ => some (true, ())) (s1.zip s2) () = some (decide (s1 = s2), ())
  | [], [], _ => rfl
  | a :: r, b :: q, h => by
    rw [List.zip_cons_cons]
    show (if ne a b = true then some (false, ()) else goL _ _ (r.zip q) ()) = _
    rw [hne]
    by_cases e : a = b
    · subst e
      rw [if_neg (by simp), goL_eq hne r q (by simpa using h)]
      simp
    · rw [if_pos (by simp [e])]
      simp [e]
end Pl
namespace Go.Proofs.Lx
open Go Ev Sx Pl
set_option maxRecDepth 100000
theorem equalW_eq {s1 s2 : List Int} (h : s1.length ≤ 1000000) : slices_Equal_Guint16 (s1, s2, ()) = some (decide (s1 = s2), ()) := by
  show slices_Equal_Guint16_m0 slices_Equal_Guint16_K1 s1 s2 = _
  unfold slices_Equal_Guint16_m0
  by_cases hl : s1.length = s2.length
  · rw [if_neg (by rw [nei_iff, ofNat_eq, ofNat_eq]; omega)]
    unfold slices_Equal_Guint16_K1
    have hz : (s1.zip s2).length = s1.length := by rw [List.length_zip]; omega
    rw [← goL_eq (ne := nei) (fun a b => by simp [nei]; rfl) s1 s2 hl]
    refine loop_go (xs := s1.zip s2) (mk := fun i _ => (s1, s2, Int.ofNat s1.length, (i : Int))) ?_ ?_ s1.length 0 () _ (by rw [hz]; omega) (by omega)
    · intro self i acc x hx
      have hi := (List.getElem?_eq_some_iff.1 hx).1
      obtain ⟨h1, h2⟩ := zip_at hl hx
      show slices_Equal_Guint16_m1 _ s1 s2 (Int.ofNat s1.length) (i : Int) = _
      unfold slices_Equal_Guint16_m1
      rw [if_pos (by rw [lt_iff, ofNat_eq]; omega), at_get h1, Option.bind_some, at_get h2, Option.bind_some, succ64 (by omega)]
    · intro self acc
      show slices_Equal_Guint16_m1 _ s1 s2 (Int.ofNat s1.length) (((s1.zip s2).length : Nat) : Int) = _
      unfold slices_Equal_Guint16_m1
      rw [if_neg (by rw [lt_iff, ofNat_eq]; omega)]
  · rw [if_pos (by rw [nei_iff, ofNat_eq, ofNat_eq]; omega), decide_eq_false (fun e => hl (by rw [e]))]
theorem equalB_eq {s1 s2 : List Bool} (h : s1.length ≤ 1000000) : slices_Equal_Gbool (s1, s2, ()) = some (decide (s1 = s2), ()) := by
  show slices_Equal_Gbool_m0 slices_Equal_Gbool_K1 s1 s2 = _
  unfold slices_Equal_Gbool_m0
  by_cases hl : s1.length = s2.length
  · rw [if_neg (by rw [nei_iff, ofNat_eq, ofNat_eq]; omega)]
    unfold slices_Equal_Gbool_K1
    have hz : (s1.zip s2).length = s1.length := by rw [List.length_zip]; omega
    rw [← goL_eq (ne := neb) (fun a b => by cases a <;> cases b <;> rfl) s1 s2 hl]
    refine loop_go (xs := s1.zip s2) (mk := fun i _ => (s1, s2, Int.ofNat s1.length, (i : Int))) ?_ ?_ s1.length 0 () _ (by rw [hz]; omega) (by omega)
    · intro self i acc x hx
      have hi := (List.getElem?_eq_some_iff.1 hx).1
      obtain ⟨h1, h2⟩ := zip_at hl hx
      show slices_Equal_Gbool_m1 _ s1 s2 (Int.ofNat s1.length) (i : Int) = _
      unfold slices_Equal_Gbool_m1
      rw [if_pos (by rw [lt_iff, ofNat_eq]; omega), at_get h1, Option.bind_some, at_get h2, Option.bind_some, succ64 (by omega)]
    · intro self acc
      show slices_Equal_Gbool_m1 _ s1 s2 (Int.ofNat s1.length) (((s1.zip s2).length : Nat) : Int) = _
      unfold slices_Equal_Gbool_m1
      rw [if_neg (by rw [lt_iff, ofNat_eq]; omega)]
  · rw [if_pos (by rw [nei_iff, ofNat_eq, ofNat_eq]; omega), decide_eq_false (fun e => hl (by rw [e]))]
abbrev BB := Option (As [.bool])
theorem if_dec {p : Prop} [Decidable p] {b : Bool} {k : BB} {q : Bool} (h : b = true ↔ p) (hk : p → k = some (q, ())) : (if b = true then k else some (false, ())) = some (decide p && q, ()) := by
  by_cases hp : p
  · rw [if_pos (h.2 hp), hk hp, decide_eq_true hp]; rfl
  · rw [if_neg (fun e => hp (h.1 e)), decide_eq_false hp]; rfl
instance decA5 : DecidableEq (Int × Int × Int × List Int × List Bool) := inferInstance
instance decA : DecidableEq TA := inferInstance
theorem sameA_eq {a b : TA} (h1 : a.2.2.2.2.1.length ≤ 1000000) (h2 : a.2.2.2.2.2.length ≤ 1000000) : ask_Same (a, b, ()) = some (decide (a = b), ()) := by
  show ask_Same_m0 a b = _
  unfold ask_Same_m0
  rw [equalW_eq h1, Option.bind_some, equalB_eq h2, Option.bind_some]
  obtain ⟨a1, a2, a3, a4, a5, a6⟩ := a
  obtain ⟨b1, b2, b3, b4, b5, b6⟩ := b
  rw [if_dec (eqi_iff) fun _ => if_dec (eqi_iff) fun _ => if_dec (eqi_iff) fun _ => if_dec (eqi_iff) fun _ => if_dec (p := a5 = b5) (by simp) fun _ => rfl]
  refine congrArg (fun x => some (x, ())) ?_
  rw [Bool.eq_iff_iff]
  simp [Prod.ext_iff]
abbrev TP := Int × Int × Int × Int × Bool × TA × Int × Int × Int
instance decP1 : DecidableEq (TA × Int × Int × Int) := inferInstance
instance decP2 : DecidableEq (Int × Bool × TA × Int × Int × Int) := inferInstance
instance decP : DecidableEq TP := inferInstance
theorem eqb_iff {a b : Bool} : eqb a b = true ↔ a = b := by cases a <;> cases b <;> decide
theorem samep_eq {a b : TP} (h1 : a.2.2.2.2.2.1.2.2.2.2.1.length ≤ 1000000) (h2 : a.2.2.2.2.2.1.2.2.2.2.2.length ≤ 1000000) : poll_Same (a, b, ()) = some (decide (a = b), ()) := by
  show poll_Same_m0 a b = _
  unfold poll_Same_m0
  rw [sameA_eq h1 h2, Option.bind_some]
  obtain ⟨a1, a2, a3, a4, a5, a6, a7, a8, a9⟩ := a
  obtain ⟨b1, b2, b3, b4, b5, b6, b7, b8, b9⟩ := b
  rw [if_dec (eqi_iff) fun _ => if_dec (eqi_iff) fun _ => if_dec (eqi_iff) fun _ => if_dec (eqi_iff) fun _ => if_dec (eqb_iff) fun _ => if_dec (eqi_iff) fun _ => if_dec (eqi_iff) fun _ => if_dec (eqi_iff) fun _ => rfl]
  refine congrArg (fun x => some (x, ())) ?_
  rw [Bool.eq_iff_iff]
  simp only [Bool.and_eq_true, decide_eq_true_eq, Prod.ext_iff]
  constructor
  · rintro ⟨h1, h2, h3, h4, h5, h6, h7, h8, h9⟩; exact ⟨h1, h2, h3, h4, h5, h9, h6, h7, h8⟩
  · rintro ⟨h1, h2, h3, h4, h5, h9, h6, h7, h8⟩; exact ⟨h1, h2, h3, h4, h5, h6, h7, h8, h9⟩
theorem cloneW_eq {s : List Int} (h : s.length ≤ 1000000) : slices_Clone_Guint16 (s, ()) = some (s, ()) := by
  show slices_Clone_Guint16_m0 s = _
  unfold slices_Clone_Guint16_m0
  split
  · rename_i h0
    rw [len0 (eqi_iff.1 h0)]
    rfl
  · rw [need_small (by omega)]
    rfl
theorem cloneB_eq {s : List Bool} (h : s.length ≤ 1000000) : slices_Clone_Gbool (s, ()) = some (s, ()) := by
  show slices_Clone_Gbool_m0 s = _
  unfold slices_Clone_Gbool_m0
  split
  · rename_i h0
    rw [len0 (eqi_iff.1 h0)]
    rfl
  · rw [need_small (by omega)]
    rfl
theorem copied_eq {a : TA} (h1 : a.2.2.2.2.1.length ≤ 1000000) (h2 : a.2.2.2.2.2.length ≤ 1000000) : poll_copied (a, ()) = some (a, ()) := by
  show poll_copied_m0 a = _
  unfold poll_copied_m0
  rw [cloneW_eq h1, Option.bind_some, cloneB_eq h2, Option.bind_some]
theorem own_eq {p : TP} (h1 : p.2.2.2.2.2.1.2.2.2.2.1.length ≤ 1000000) (h2 : p.2.2.2.2.2.1.2.2.2.2.2.length ≤ 1000000) : poll_own (p, ()) = some (p, ()) := by
  show poll_own_m0 p = _
  unfold poll_own_m0
  rw [copied_eq h1 h2, Option.bind_some]
/-! ### frames -/
def mbapV (tx unit : Int) (pdu : List Int) : List Int := [tx / 256 % 256, tx % 256, 0, 0, 0, (pdu.length + 1 : Nat) % 256, unit] ++ pdu
theorem mbap_eq {tx unit : Int} {pdu : List Int} (h1 : 1 ≤ pdu.length) (h2 : pdu.length ≤ 253) : mbap_Pack ((tx, unit, pdu), ()) = some (mbapV tx unit pdu, 0, ()) := by
  show mbap_Pack_m0 mbap_Pack_K1 (tx, unit, pdu) = _
  unfold mbap_Pack_m0
  rw [if_neg (by rw [lt_iff]; simp only [ofNat_eq]; omega)]
  show mbap_Pack_m1 (Int.ofNat pdu.length) (gt (Int.ofNat pdu.length) 253) tx unit pdu = _
  unfold mbap_Pack_m1
  have e : add .i64 7 (Int.ofNat pdu.length) = ((7 + pdu.length : Nat) : Int) := addn64 (n := 7) (by omega)
  rw [if_neg (by rw [gt_iff, ofNat_eq]; omega), e, need_t (capOk_0 (by omega)), need_t (by rw [small_iff]; omega), need_small (by omega), need_small (by simp; omega), cvt8, cvt8, cvt8, shr8 _ _ (by decide), ofNat_eq, succ64 (by omega)]
  rfl
def frameV (link unit tx : Int) (a : TA) : List Int := if link = 2 then mbapV tx unit (askB a) else putV (unit :: askB a)
theorem tcpf_eq {unit tx : Int} {a : TA} (h : OkA a) (hr : rightA a = true) : poll_tcp_frame ((), unit, tx, a, ()) = some (mbapV tx unit (askB a), ()) := by
  show poll_tcp_frame_m0 () unit tx a = _
  unfold poll_tcp_frame_m0
  have hl := askB_len (rightA_RA hr)
  rw [bytes_eq h, if_pos hr, Option.bind_some, if_neg (by show ¬ nei 0 0 = true; decide)]
  dsimp only
  rw [mbap_eq (by omega) (by omega), Option.bind_some, if_neg (by show ¬ nei 0 0 = true; decide)]
theorem rtub_eq {unit : Int} {pdu : List Int} (hu : 1 ≤ unit) (hu2 : unit ≤ 247) (h1 : 1 ≤ pdu.length) (h2 : pdu.length ≤ 253) : rtu_Bytes (unit, pdu, ()) = some (putV (unit :: pdu), 0, ()) := by
  show rtu_Bytes_m0 rtu_Bytes_K1 unit pdu = _
  unfold rtu_Bytes_m0
  have e : rtu_isUnit (unit, ()) = some (true, ()) := by
    show rtu_isUnit_m0 unit = _
    unfold rtu_isUnit_m0
    rw [if_pos (ge_iff.2 hu), le_iff.2 hu2]
  rw [e, Option.bind_some, if_neg (by decide), if_neg (by rw [lt_iff, ofNat_eq]; omega)]
  show rtu_Bytes_m1 unit pdu (gt (Int.ofNat pdu.length) 253) = _
  unfold rtu_Bytes_m1
  rw [if_neg (by rw [gt_iff, ofNat_eq]; omega), need_small (by omega), put_eq (by simp; omega), Option.bind_some]
theorem serf_eq {unit tx : Int} {a : TA} (h : OkA a) (hr : rightA a = true) (hu : 1 ≤ unit) (hu2 : unit ≤ 247) : poll_serial_frame ((), unit, tx, a, ()) = some (putV (unit :: askB a), ()) := by
  show poll_serial_frame_m0 () unit tx a = _
  unfold poll_serial_frame_m0
  have hl := askB_len (rightA_RA hr)
  have e : rtu_Ask (unit, a, ()) = some (putV (unit :: askB a), 0, ()) := by
    show rtu_Ask_m0 unit a = _
    unfold rtu_Ask_m0
    rw [bytes_eq h, if_pos hr, Option.bind_some, if_neg (by show ¬ nei 0 0 = true; decide)]
    dsimp only
    rw [rtub_eq hu hu2 (by omega) (by omega), Option.bind_some]
  rw [e, Option.bind_some, if_neg (by show ¬ nei 0 0 = true; decide)]
/-- a poll that may be -/
structure OkP (p : TP) : Prop where
  u0 : 1 ≤ p.1
  u1 : p.1 ≤ 247
  l : p.2.1 = 1 ∨ p.2.1 = 2
  t0 : 1 ≤ p.2.2.1
  t1 : p.2.2.1 ≤ 100000
  r0 : 0 ≤ p.2.2.2.1
  r1 : p.2.2.2.1 ≤ 1000
  a : OkA p.2.2.2.2.2.1
  x0 : 0 ≤ p.2.2.2.2.2.2.1
  x1 : p.2.2.2.2.2.2.1 ≤ 65535
def nextV (link tx : Int) : Int := if link = 2 then (tx + 1) % 65536 else tx
def sentP (p : TP) : TP := (p.1, p.2.1, p.2.2.1, p.2.2.2.1, p.2.2.2.2.1, p.2.2.2.2.2.1, nextV p.2.1 p.2.2.2.2.2.2.1, p.2.2.1, p.2.2.2.2.2.2.2.2)
def sentB (p : TP) : List Int := frameV p.2.1 p.1 (nextV p.2.1 p.2.2.2.2.2.2.1) p.2.2.2.2.2.1
theorem sent_eq {p : TP} (h : OkP p) (hr : rightA p.2.2.2.2.2.1 = true) : poll_sent (p, ()) = some (sentP p, sentB p, ()) := by
  show poll_sent_m0 p = _
  unfold poll_sent_m0 sentP sentB frameV nextV
  by_cases hl : p.2.1 = 2
  · have e : poll_tcp_next ((), p.2.2.2.2.2.2.1, ()) = some ((p.2.2.2.2.2.2.1 + 1) % 65536, ()) := congrArg (fun x => some (x, ())) (wr16 _)
    rw [if_pos (eqi_iff.2 hl), e, Option.bind_some, tcpf_eq h.a hr, Option.bind_some, if_pos hl, if_pos hl]
  · have e : poll_serial_next ((), p.2.2.2.2.2.2.1, ()) = some (p.2.2.2.2.2.2.1, ()) := rfl
    rw [if_neg (fun e => hl (eqi_iff.1 e)), e, Option.bind_some, serf_eq h.a hr h.u0 h.u1, Option.bind_some, if_neg hl, if_neg hl]
/-! ### what is done with a poll -/
def zA : TA := (0, 0, 0, 0, [], [])
def waitP (p : TP) (a : TA) : TP := (p.1, p.2.1, p.2.2.1, p.2.2.2.1, true, a, p.2.2.2.2.2.2.1, p.2.2.2.2.2.2.2.1, p.2.2.2.1)
theorem send_eq {p : TP} {a : TA} (h : OkP p) (ha : OkA a) : poll_Send (p, a, ()) =
    if p.2.2.2.2.1 = true then some (p, [], 30, ()) else if rightA a = true then some (sentP (waitP p a), sentB (waitP p a), 0, ()) else some (p, [], 12, ()) := by
  show poll_Send_m0 p a = _
  unfold poll_Send_m0
  have h1 := h.a.lw
  have h2 := h.a.lb
  have h3 := ha.lw
  have h4 := ha.lb
  rw [own_eq (by omega) (by omega), Option.bind_some, right_eq ha, Option.bind_some]
  split
  · rfl
  · cases hr : rightA a with
    | false => rfl
    | true =>
      rw [if_neg (by decide), if_pos rfl, copied_eq (by omega) (by omega), Option.bind_some]
      dsimp only
      have hw : OkP (waitP p a) := ⟨h.u0, h.u1, h.l, h.t0, h.t1, h.r0, h.r1, ha, h.x0, h.x1⟩
      have e := sent_eq hw hr
      unfold waitP at e
      rw [e]
      rfl
def dropP (p : TP) : TP := (p.1, p.2.1, p.2.2.1, p.2.2.2.1, false, zA, p.2.2.2.2.2.2.1, 0, 0)
theorem drop_eq (p : TP) : poll_Drop (p, ()) = some (dropP p, ()) := rfl
def leftP (p : TP) (n : Int) : TP := (p.1, p.2.1, p.2.2.1, p.2.2.2.1, p.2.2.2.2.1, p.2.2.2.2.2.1, p.2.2.2.2.2.2.1, n, p.2.2.2.2.2.2.2.2)
def againP (p : TP) (n m : Int) : TP := (p.1, p.2.1, p.2.2.1, p.2.2.2.1, p.2.2.2.2.1, p.2.2.2.2.2.1, p.2.2.2.2.2.2.1, n, m)
def tickV (p : TP) : TP × List Int × Bool :=
  if p.2.2.2.2.1 = true then
    if p.2.2.2.2.2.2.2.1 = 1 then
      if 0 < p.2.2.2.2.2.2.2.2 then (sentP (againP p 0 (p.2.2.2.2.2.2.2.2 - 1)), sentB (againP p 0 (p.2.2.2.2.2.2.2.2 - 1)), false)
      else (dropP p, [], true)
    else (leftP p (p.2.2.2.2.2.2.2.1 - 1), [], false)
  else (p, [], false)
theorem tick_eq {p : TP} (h : OkP p) (hr : p.2.2.2.2.1 = true → rightA p.2.2.2.2.2.1 = true ∧ 1 ≤ p.2.2.2.2.2.2.2.1 ∧ p.2.2.2.2.2.2.2.1 ≤ 100000 ∧ 0 ≤ p.2.2.2.2.2.2.2.2 ∧ p.2.2.2.2.2.2.2.2 ≤ 1000) :
    poll_Tick (p, ()) = some ((tickV p).1, (tickV p).2.1, (tickV p).2.2, ()) := by
  show poll_Tick_m0 p = _
  unfold poll_Tick_m0
  have h1 := h.a.lw
  have h2 := h.a.lb
  rw [own_eq (by omega) (by omega), Option.bind_some]
  dsimp only
  unfold tickV
  by_cases hw : p.2.2.2.2.1 = true
  · obtain ⟨q1, q2, q3, q4, q5⟩ := hr hw
    rw [if_neg (by rw [hw]; decide), if_pos hw, sub64 (by omega) (by omega)]
    by_cases hl : p.2.2.2.2.2.2.2.1 = 1
    · rw [if_neg (by rw [nei_iff]; omega), if_pos hl]
      by_cases hg : 0 < p.2.2.2.2.2.2.2.2
      · rw [if_pos (by rw [gt_iff]; omega), if_pos hg, sub64 (by omega) (by omega), hl]
        have e0 : (1 : Int) - 1 = 0 := rfl
        rw [e0]
        have hw' : OkP (againP p 0 (p.2.2.2.2.2.2.2.2 - 1)) := ⟨h.u0, h.u1, h.l, h.t0, h.t1, h.r0, h.r1, h.a, h.x0, h.x1⟩
        have e := sent_eq hw' q1
        unfold againP at e
        rw [e]
        rfl
      · rw [if_neg (by rw [gt_iff]; omega), if_neg hg, drop_eq, Option.bind_some]
        rfl
    · rw [if_pos (by rw [nei_iff]; omega), if_neg hl]
      rfl
  · have hw' : p.2.2.2.2.1 = false := by simpa using hw
    rw [if_pos (by rw [hw']; rfl), if_neg hw]
def rangesV (u l t r : Int) : Bool := decide ((1 ≤ u ∧ u ≤ 247) ∧ (l = 1 ∨ l = 2) ∧ (1 ≤ t ∧ t ≤ 100000) ∧ 0 ≤ r ∧ r ≤ 1000)
theorem ranges_eq (u l t r : Int) : poll_ranges (u, l, t, r, ()) = some (rangesV u l t r, ()) := by
  show poll_ranges_m0 u l t r = _
  unfold poll_ranges_m0 rangesV
  simp only [ge_iff, le_iff, eqi_iff]
  by_cases h1 : 1 ≤ u <;> by_cases h2 : u ≤ 247 <;> by_cases h5 : 1 ≤ t <;> by_cases h6 : t ≤ 100000 <;> by_cases h7 : 0 ≤ r <;> simp only [h1, h2, h5, h6, h7, if_true, if_false, true_and, false_and, and_false, and_true] <;>
    by_cases h3 : l = 1 <;> by_cases h4 : l = 2 <;> simp [h3, h4, le] <;> omega
def zP : TP := (0, 0, 0, 0, false, zA, 0, 0, 0)
theorem new_eq (u l t r : Int) : poll_New (u, l, t, r, ()) = if rangesV u l t r = true then some ((u, l, t, r, false, zA, 0, 0, 0), 0, ()) else some (zP, 2, ()) := by
  show poll_New_m0 u l t r = _
  unfold poll_New_m0
  rw [ranges_eq, Option.bind_some]
  cases rangesV u l t r <;> rfl
end Go.Proofs.Lx

end
