/- Proved in the last of these 6 parts (this is part 5): for every input StatusWrong returns true: a line that is an order's and a byte more is none of that order, a number says an order just in its digits, and words that are no orders say none. Conditions: those of the given statement, and no others. -/
import Derived.Test.YtchfbdfmphoebaaDoorPartd
import Derived.Test.YtchfbdfmphoebaaDoorProg
import Derived.Stop.LaidErr
import Derived.Lib.LaidTab
set_option linter.unusedVariables false
set_option linter.unusedSimpArgs false
set_option linter.unusedSectionVars false
section
/- Contracts, made by a program. -/
open Go Go.Proofs Ev Sx
set_option maxRecDepth 100000
namespace Go.Proofs.Lx
abbrev LDT0 : Ty := (.pr (.int .u32) (.pr (.int .u8) (.pr (.sl (.int .u8)) (.int .u8))))
abbrev LDT1 : Type := (Int × Int × List Int × Int)
/-! status_plain -/
@[reducible] def status_plain_s : Sh := ⟨[.d (.str)], [], [.str], [.d (.bool)], [], 0, [.bool]⟩
def status_plain_e : Env := (cts [])
def status_plain_h : List (Nat × Hint) := [(58, ⟨[], [0, 9, 10, 19, 20, 21, 22, 23, 24]⟩), (7475, ⟨[], [0, 9, 10, 25]⟩)]
def status_plain_k1 (text : List UInt8) (t9 : Int) (t10 : Int) : St := { fr := [(0, .d .str text), (9, .d (.int .i64) t9), (10, .d (.int .i64) t10)], nt := 27, up := [], own := [], nx := 0, log := [], ln := 0 }
def status_plain_k2 (text : List UInt8) (t9 : Int) (t10 : Int) (t25 : Bool) : St := { fr := [(0, .d .str text), (9, .d (.int .i64) t9), (10, .d (.int .i64) t10), (25, .d .bool t25)], nt := 27, up := [], own := [], nx := 0, log := [], ln := 0 }
def status_plain_m1 (j2 : List UInt8 → Int → Int → Bool → Option (As [.bool])) (self1 : List UInt8 → Int → Int → Option (As [.bool])) (text : List UInt8) (t9 : Int) (t10 : Int) : Option (As [.bool]) :=
  if lt t10 t9 = true then Option.bind (at? text t10) fun (c : UInt8) => if nei (Int.ofNat (UInt8.toNat c)) 10 = true then if lt (Int.ofNat (UInt8.toNat c)) 32 = true then j2 text t9 t10 true else j2 text t9 t10 (gt (Int.ofNat (UInt8.toNat c)) 126) else j2 text t9 t10 false else some (true, ())
def status_plain_m2 (self1 : List UInt8 → Int → Int → Option (As [.bool])) (text : List UInt8) (t9 : Int) (t10 : Int) (t25 : Bool) : Option (As [.bool]) :=
  if t25 = true then some (false, ()) else self1 text t9 (add .i64 t10 1)
def status_plain_m0 (j1 : List UInt8 → Int → Int → Option (As [.bool])) (text : List UInt8) : Option (As [.bool]) :=
  if gt (Int.ofNat (List.length text)) 8192 = true then some (false, ()) else j1 text (Int.ofNat (List.length text)) 0
def status_plain_K2 (u1 : List UInt8 → Int → Int → Option (As [.bool])) (text : List UInt8) (t9 : Int) (t10 : Int) (t25 : Bool) : Option (As [.bool]) := status_plain_m2 u1 text t9 t10 t25
def status_plain_K1 (text : List UInt8) (t9 : Int) (t10 : Int) : Option (As [.bool]) :=
  loopF (fun (self : (List UInt8) × (Int) × (Int) → Option (As [.bool])) (s : (List UInt8) × (Int) × (Int)) => status_plain_m1 (status_plain_K2 (fun text t9 t10 => self (text, t9, t10))) (fun text t9 t10 => self (text, t9, t10)) s.1 s.2.1 s.2.2) 18446744073709551616 (text, t9, t10)
def status_plain (x : As [.str]) : Option (As [.bool]) := status_plain_m0 status_plain_K1 x.1
theorem status_plain_c2 (J : Orc (As [.bool])) (w1 : St → Option (As [.bool])) (text : List UInt8) (t9 : Int) (t10 : Int) (t25 : Bool) : pfn Tryd.prog status_plain_e 6 18446744073709551616 (Ev.get status_plain_h) 71 status_plain_s J 7475 [w1] (status_plain_k2 text t9 t10 t25) = status_plain_m2 (fun text t9 t10 => w1 (status_plain_k1 text t9 t10)) text t9 t10 t25 := by kernel_rfl
theorem status_plain_c1 (J : Orc (As [.bool])) (w1 : St → Option (As [.bool])) (text : List UInt8) (t9 : Int) (t10 : Int) : pfn Tryd.prog status_plain_e 6 18446744073709551616 (Ev.get status_plain_h) 71 status_plain_s J 58 [w1] (status_plain_k1 text t9 t10) = status_plain_m1 (fun text t9 t10 t25 => J 7475 [w1] (status_plain_k2 text t9 t10 t25)) (fun text t9 t10 => w1 (status_plain_k1 text t9 t10)) text t9 t10 := by kernel_rfl
theorem status_plain_c0 (J : Orc (As [.bool])) (x : As [.str]) : rfn Tryd.prog status_plain_e 6 18446744073709551616 (Ev.get status_plain_h) 71 status_plain_s J x = status_plain_m0 (fun text t9 t10 => J 58 [] (status_plain_k1 text t9 t10)) x.1 := by kernel_rfl
theorem status_plain_g2 (w1 : St → Option (As [.bool])) (text : List UInt8) (t9 : Int) (t10 : Int) (t25 : Bool) : jfn Tryd.prog status_plain_e 6 18446744073709551616 (Ev.get status_plain_h) 71 status_plain_s 7475 [w1] (status_plain_k2 text t9 t10 t25) = status_plain_K2 (fun text t9 t10 => w1 (status_plain_k1 text t9 t10)) text t9 t10 t25 := by
  rw [pfn_eq (by decide)]
  rw [status_plain_c2]
  rfl
theorem status_plain_g1 (text : List UInt8) (t9 : Int) (t10 : Int) : jfn Tryd.prog status_plain_e 6 18446744073709551616 (Ev.get status_plain_h) 71 status_plain_s 58 [] (status_plain_k1 text t9 t10) = status_plain_K1 text t9 t10 := by
  rw [pfn_eq (by decide)]
  rw [pfn_loop (by kernel_rfl)]
  refine loopF_sim (σ := (List UInt8) × (Int) × (Int)) (mk := fun s => status_plain_k1 s.1 s.2.1 s.2.2) (fun w1 s => ?_) 18446744073709551616 (text, t9, t10)
  have e2 : (fun text t9 t10 t25 => (jfn Tryd.prog status_plain_e 6 18446744073709551616 (Ev.get status_plain_h) 71 status_plain_s) 7475 [w1] (status_plain_k2 text t9 t10 t25)) = status_plain_K2 (fun text t9 t10 => w1 (status_plain_k1 text t9 t10)) := funext fun text => funext fun t9 => funext fun t10 => funext fun t25 => status_plain_g2 w1 text t9 t10 t25
  refine (status_plain_c1 _ w1 s.1 s.2.1 s.2.2).trans ?_
  rw [e2]
theorem status_plain_t (x : As [.str]) : evT Tryd.prog status_plain_e 6 18446744073709551616 (Ev.get status_plain_h) 71 status_plain_s x = status_plain x := by
  have e1 : (fun text t9 t10 => (jfn Tryd.prog status_plain_e 6 18446744073709551616 (Ev.get status_plain_h) 71 status_plain_s) 58 [] (status_plain_k1 text t9 t10)) = status_plain_K1 := funext fun text => funext fun t9 => funext fun t10 => status_plain_g1 text t9 t10
  rw [rfn_eq, status_plain_c0, e1]
  rfl
theorem status_plain_ok : CtOk Tryd.prog I0 71 ⟨status_plain_s, status_plain⟩ := ct_of_ev env_nil status_plain_t
/-! status_right -/
@[reducible] def status_right_s : Sh := ⟨[.d (.pr (.int .u8) (.pr (.int .u32) .str))], [], [.pr (.int .u8) (.pr (.int .u32) .str)], [.d (.bool)], [], 0, [.bool]⟩
def status_right_e : Env := (cts [(71, (⟨status_plain_s, status_plain⟩ : Ct))])
def status_right_h : List (Nat × Hint) := [(107, ⟨[], [1, 4, 15, 22, 23, 24, 33, 34, 35]⟩), (431, ⟨[], [1, 26, 33, 34, 35]⟩)]
def status_right_k1 (t4 : Int) (t15 : Bool) (o : Int × Int × List UInt8) : St := { fr := [(1, .pb 0 0), (4, .d (.int .u8) t4), (15, .d .bool t15)], nt := 37, up := [], own := [(0, .box 25 [.d (.int .u8) o.1, .d (.int .u32) o.2.1, .d .str o.2.2])], nx := 1, log := [], ln := 0 }
def status_right_k2 (t26 : Bool) (o : Int × Int × List UInt8) : St := { fr := [(1, .pb 0 0), (26, .d .bool t26)], nt := 37, up := [], own := [(0, .box 25 [.d (.int .u8) o.1, .d (.int .u32) o.2.1, .d .str o.2.2])], nx := 1, log := [], ln := 0 }
def status_right_m1 (j2 : Bool → Int × Int × List UInt8 → Option (As [.bool])) (t4 : Int) (t15 : Bool) (o : Int × Int × List UInt8) : Option (As [.bool]) :=
  if t15 = true then if gt o.2.1 0 = true then some (eqs o.2.2 [], ()) else some (false, ()) else if eqi t4 4 = true then j2 true o else j2 (eqi t4 5) o
def status_right_m2 (t26 : Bool) (o : Int × Int × List UInt8) : Option (As [.bool]) :=
  if t26 = true then if eqi o.2.1 0 = true then some (eqs o.2.2 [], ()) else some (false, ()) else some (false, ())
def status_right_m0 (j1 : Int → Bool → Int × Int × List UInt8 → Option (As [.bool])) (o : Int × Int × List UInt8) : Option (As [.bool]) :=
  if eqi o.1 1 = true then if eqi o.2.1 0 = true then Option.bind (status_plain (o.2.2, ())) fun (y : Bool × Unit) => some (y.1, ()) else some (false, ()) else if eqi o.1 2 = true then j1 o.1 true o else j1 o.1 (eqi o.1 3) o
def status_right_K2 (t26 : Bool) (o : Int × Int × List UInt8) : Option (As [.bool]) := status_right_m2 t26 o
def status_right_K1 (t4 : Int) (t15 : Bool) (o : Int × Int × List UInt8) : Option (As [.bool]) := status_right_m1 (status_right_K2) t4 t15 o
def status_right (x : As [.pr (.int .u8) (.pr (.int .u32) .str)]) : Option (As [.bool]) := status_right_m0 status_right_K1 x.1
theorem status_right_c2 (J : Orc (As [.bool])) (t26 : Bool) (o : Int × Int × List UInt8) : pfn Tryd.prog status_right_e 6 18446744073709551616 (Ev.get status_right_h) 36 status_right_s J 431 [] (status_right_k2 t26 o) = status_right_m2 t26 o := by kernel_rfl
theorem status_right_c1 (J : Orc (As [.bool])) (t4 : Int) (t15 : Bool) (o : Int × Int × List UInt8) : pfn Tryd.prog status_right_e 6 18446744073709551616 (Ev.get status_right_h) 36 status_right_s J 107 [] (status_right_k1 t4 t15 o) = status_right_m1 (fun t26 o => J 431 [] (status_right_k2 t26 o)) t4 t15 o := by kernel_rfl
theorem status_right_c0 (J : Orc (As [.bool])) (x : As [.pr (.int .u8) (.pr (.int .u32) .str)]) : rfn Tryd.prog status_right_e 6 18446744073709551616 (Ev.get status_right_h) 36 status_right_s J x = status_right_m0 (fun t4 t15 o => J 107 [] (status_right_k1 t4 t15 o)) x.1 := by kernel_rfl
theorem status_right_g2 (t26 : Bool) (o : Int × Int × List UInt8) : jfn Tryd.prog status_right_e 6 18446744073709551616 (Ev.get status_right_h) 36 status_right_s 431 [] (status_right_k2 t26 o) = status_right_K2 t26 o := by
  rw [pfn_eq (by decide)]
  rw [status_right_c2]
  rfl
theorem status_right_g1 (t4 : Int) (t15 : Bool) (o : Int × Int × List UInt8) : jfn Tryd.prog status_right_e 6 18446744073709551616 (Ev.get status_right_h) 36 status_right_s 107 [] (status_right_k1 t4 t15 o) = status_right_K1 t4 t15 o := by
  rw [pfn_eq (by decide)]
  have e2 : (fun t26 o => (jfn Tryd.prog status_right_e 6 18446744073709551616 (Ev.get status_right_h) 36 status_right_s) 431 [] (status_right_k2 t26 o)) = status_right_K2 := funext fun t26 => funext fun o => status_right_g2 t26 o
  rw [status_right_c1, e2]
  rfl
theorem status_right_t (x : As [.pr (.int .u8) (.pr (.int .u32) .str)]) : evT Tryd.prog status_right_e 6 18446744073709551616 (Ev.get status_right_h) 36 status_right_s x = status_right x := by
  have e1 : (fun t4 t15 o => (jfn Tryd.prog status_right_e 6 18446744073709551616 (Ev.get status_right_h) 36 status_right_s) 107 [] (status_right_k1 t4 t15 o)) = status_right_K1 := funext fun t4 => funext fun t15 => funext fun o => status_right_g1 t4 t15 o
  rw [rfn_eq, status_right_c0, e1]
  rfl
theorem status_right_ok : CtOk Tryd.prog I0 36 ⟨status_right_s, status_right⟩ := ct_of_ev (env_cons status_plain_ok env_nil) status_right_t
/-! status_written -/
@[reducible] def status_written_s : Sh := ⟨[.d (.str)], [], [.str], [.d (.str)], [], 0, [.str]⟩
def status_written_e : Env := (cts [])
def status_written_h : List (Nat × Hint) := [(58, ⟨[.rwb 3 1 5, .slf 3 0], [0, 3, 6, 7]⟩)]
def status_written_k1 (text : List UInt8) (t6 : Int) (t7 : Int) (b : Bool) (o : List Int) : St := { fr := [(0, .d .str text), (3, .pb 0 0), (6, .d (.int .i64) t6), (7, .d (.int .i64) t7)], nt := 25, up := [], own := [(0, .box 102 [.opb b 0 0, .row 1]), (1, .row (.int .u8) 5 o)], nx := 2, log := [], ln := 0 }
def status_written_m1 (self1 : List UInt8 → Int → Int → Bool → List Int → Option (As [.str])) (text : List UInt8) (t6 : Int) (t7 : Int) (b : Bool) (o : List Int) : Option (As [.str]) :=
  if lt t7 t6 = true then Option.bind (at? text t7) fun (c : UInt8) => if eqi (Int.ofNat (UInt8.toNat c)) 10 = true then if b = true then if b = true then need (small (List.length o + 2)) (self1 text t6 (add .i64 t7 1) b (o ++ [92, 110])) else Option.none else need (small (List.length o + 2)) (self1 text t6 (add .i64 t7 1) true (o ++ [92, 110])) else if eqi (Int.ofNat (UInt8.toNat c)) 92 = true then if b = true then if b = true then need (small (List.length o + 2)) (self1 text t6 (add .i64 t7 1) b (o ++ [92, 92])) else Option.none else need (small (List.length o + 2)) (self1 text t6 (add .i64 t7 1) true (o ++ [92, 92])) else Option.bind (at? text t7) fun (c : UInt8) => if b = true then if b = true then need (small (List.length o + Nat.succ 0)) (self1 text t6 (add .i64 t7 1) b (o ++ [Int.ofNat (UInt8.toNat c)])) else Option.none else need (small (List.length o + Nat.succ 0)) (self1 text t6 (add .i64 t7 1) true (o ++ [Int.ofNat (UInt8.toNat c)])) else need (eqi (Int.ofNat (List.length o)) (Int.ofNat (List.length o))) (need (small (List.length o)) (need (Ev.u8s o) (some (Sx.toS o, ()))))
def status_written_m0 (j1 : List UInt8 → Int → Int → Bool → List Int → Option (As [.str])) (text : List UInt8) : Option (As [.str]) :=
  j1 text (Int.ofNat (List.length text)) 0 false []
def status_written_K1 (text : List UInt8) (t6 : Int) (t7 : Int) (b : Bool) (o : List Int) : Option (As [.str]) :=
  loopF (fun (self : (List UInt8) × (Int) × (Int) × (Bool) × (List Int) → Option (As [.str])) (s : (List UInt8) × (Int) × (Int) × (Bool) × (List Int)) => status_written_m1 (fun text t6 t7 b o => self (text, t6, t7, b, o)) s.1 s.2.1 s.2.2.1 s.2.2.2.1 s.2.2.2.2) 18446744073709551616 (text, t6, t7, b, o)
def status_written (x : As [.str]) : Option (As [.str]) := status_written_m0 status_written_K1 x.1
theorem status_written_c1 (J : Orc (As [.str])) (w1 : St → Option (As [.str])) (text : List UInt8) (t6 : Int) (t7 : Int) (b : Bool) (o : List Int) : pfn Tryd.prog status_written_e 6 18446744073709551616 (Ev.get status_written_h) 38 status_written_s J 58 [w1] (status_written_k1 text t6 t7 b o) = status_written_m1 (fun text t6 t7 b o => w1 (status_written_k1 text t6 t7 b o)) text t6 t7 b o := by kernel_rfl
theorem status_written_c0 (J : Orc (As [.str])) (x : As [.str]) : rfn Tryd.prog status_written_e 6 18446744073709551616 (Ev.get status_written_h) 38 status_written_s J x = status_written_m0 (fun text t6 t7 b o => J 58 [] (status_written_k1 text t6 t7 b o)) x.1 := by kernel_rfl
theorem status_written_g1 (text : List UInt8) (t6 : Int) (t7 : Int) (b : Bool) (o : List Int) : jfn Tryd.prog status_written_e 6 18446744073709551616 (Ev.get status_written_h) 38 status_written_s 58 [] (status_written_k1 text t6 t7 b o) = status_written_K1 text t6 t7 b o := by
  rw [pfn_eq (by decide)]
  rw [pfn_loop (by kernel_rfl)]
  refine loopF_sim (σ := (List UInt8) × (Int) × (Int) × (Bool) × (List Int)) (mk := fun s => status_written_k1 s.1 s.2.1 s.2.2.1 s.2.2.2.1 s.2.2.2.2) (fun w1 s => ?_) 18446744073709551616 (text, t6, t7, b, o)
  refine (status_written_c1 _ w1 s.1 s.2.1 s.2.2.1 s.2.2.2.1 s.2.2.2.2).trans ?_
  rfl
theorem status_written_t (x : As [.str]) : evT Tryd.prog status_written_e 6 18446744073709551616 (Ev.get status_written_h) 38 status_written_s x = status_written x := by
  have e1 : (fun text t6 t7 b o => (jfn Tryd.prog status_written_e 6 18446744073709551616 (Ev.get status_written_h) 38 status_written_s) 58 [] (status_written_k1 text t6 t7 b o)) = status_written_K1 := funext fun text => funext fun t6 => funext fun t7 => funext fun b => funext fun o => status_written_g1 text t6 t7 b o
  rw [rfn_eq, status_written_c0, e1]
  rfl
theorem status_written_ok : CtOk Tryd.prog I0 38 ⟨status_written_s, status_written⟩ := ct_of_ev env_nil status_written_t
/-! strconv_FormatUint -/
@[reducible] def strconv_FormatUint_s : Sh := ⟨[.d (.int .u64), .d (.int .i64)], [], [.int .u64, .int .i64], [.d (.str)], [], 0, [.str]⟩
def strconv_FormatUint_e : Env := (cts [(41, (⟨istrconv_FormatUint_s, istrconv_FormatUint⟩ : Ct))])
def strconv_FormatUint_h : List (Nat × Hint) := []
def strconv_FormatUint_m0 (i : Int) (base : Int) : Option (As [.str]) :=
  Option.bind (istrconv_FormatUint (i, base, ())) fun (y : List UInt8 × Unit) => some (y.1, ())
def strconv_FormatUint (x : As [.int .u64, .int .i64]) : Option (As [.str]) := strconv_FormatUint_m0 x.1 x.2.1
theorem strconv_FormatUint_c0 (J : Orc (As [.str])) (x : As [.int .u64, .int .i64]) : rfn Tryd.prog strconv_FormatUint_e 6 18446744073709551616 (Ev.get strconv_FormatUint_h) 9 strconv_FormatUint_s J x = strconv_FormatUint_m0 x.1 x.2.1 := by kernel_rfl
theorem strconv_FormatUint_t (x : As [.int .u64, .int .i64]) : evT Tryd.prog strconv_FormatUint_e 6 18446744073709551616 (Ev.get strconv_FormatUint_h) 9 strconv_FormatUint_s x = strconv_FormatUint x := by
  rw [rfn_eq, strconv_FormatUint_c0]
  rfl
theorem strconv_FormatUint_ok : CtOk Tryd.prog I0 9 ⟨strconv_FormatUint_s, strconv_FormatUint⟩ := ct_of_ev (env_cons istrconv_FormatUint_ok env_nil) strconv_FormatUint_t
/-! status_digits -/
@[reducible] def status_digits_s : Sh := ⟨[.d (.int .u32)], [], [.int .u32], [.d (.str)], [], 0, [.str]⟩
def status_digits_e : Env := (cts [(9, (⟨strconv_FormatUint_s, strconv_FormatUint⟩ : Ct))])
def status_digits_h : List (Nat × Hint) := []
def status_digits_m0 (tx : Int) : Option (As [.str]) :=
  Option.bind (strconv_FormatUint (cvt .u64 tx, 10, ())) fun (y : List UInt8 × Unit) => some (y.1, ())
def status_digits (x : As [.int .u32]) : Option (As [.str]) := status_digits_m0 x.1
theorem status_digits_c0 (J : Orc (As [.str])) (x : As [.int .u32]) : rfn Tryd.prog status_digits_e 6 18446744073709551616 (Ev.get status_digits_h) 39 status_digits_s J x = status_digits_m0 x.1 := by kernel_rfl
theorem status_digits_t (x : As [.int .u32]) : evT Tryd.prog status_digits_e 6 18446744073709551616 (Ev.get status_digits_h) 39 status_digits_s x = status_digits x := by
  rw [rfn_eq, status_digits_c0]
  rfl
theorem status_digits_ok : CtOk Tryd.prog I0 39 ⟨status_digits_s, status_digits⟩ := ct_of_ev (env_cons strconv_FormatUint_ok env_nil) status_digits_t
/-! istringslite_HasPrefix -/
@[reducible] def istringslite_HasPrefix_s : Sh := ⟨[.d (.str), .d (.str)], [], [.str, .str], [.d (.bool)], [], 0, [.bool]⟩
def istringslite_HasPrefix_e : Env := (cts [])
def istringslite_HasPrefix_h : List (Nat × Hint) := []
def istringslite_HasPrefix_m0 (s : List UInt8) (prefixV : List UInt8) : Option (As [.bool]) :=
  if ge (Int.ofNat (List.length s)) (Int.ofNat (List.length prefixV)) = true then Option.bind (cut s 0 (Int.ofNat (List.length prefixV))) fun (y : List UInt8) => some (eqs y prefixV, ()) else some (false, ())
def istringslite_HasPrefix (x : As [.str, .str]) : Option (As [.bool]) := istringslite_HasPrefix_m0 x.1 x.2.1
theorem istringslite_HasPrefix_c0 (J : Orc (As [.bool])) (x : As [.str, .str]) : rfn Tryd.prog istringslite_HasPrefix_e 6 18446744073709551616 (Ev.get istringslite_HasPrefix_h) 91 istringslite_HasPrefix_s J x = istringslite_HasPrefix_m0 x.1 x.2.1 := by kernel_rfl
theorem istringslite_HasPrefix_t (x : As [.str, .str]) : evT Tryd.prog istringslite_HasPrefix_e 6 18446744073709551616 (Ev.get istringslite_HasPrefix_h) 91 istringslite_HasPrefix_s x = istringslite_HasPrefix x := by
  rw [rfn_eq, istringslite_HasPrefix_c0]
  rfl
theorem istringslite_HasPrefix_ok : CtOk Tryd.prog I0 91 ⟨istringslite_HasPrefix_s, istringslite_HasPrefix⟩ := ct_of_ev env_nil istringslite_HasPrefix_t
/-! istringslite_CutPrefix -/
@[reducible] def istringslite_CutPrefix_s : Sh := ⟨[.d (.str), .d (.str)], [], [.str, .str], [.d (.str), .d (.bool)], [], 0, [.str, .bool]⟩
def istringslite_CutPrefix_e : Env := (cts [(91, (⟨istringslite_HasPrefix_s, istringslite_HasPrefix⟩ : Ct))])
def istringslite_CutPrefix_h : List (Nat × Hint) := []
def istringslite_CutPrefix_m0 (s : List UInt8) (prefixV : List UInt8) : Option (As [.str, .bool]) :=
  Option.bind (istringslite_HasPrefix (s, prefixV, ())) fun (y : Bool × Unit) => if (!y.1) = true then some (s, false, ()) else Option.bind (cut s (Int.ofNat (List.length prefixV)) (Int.ofNat (List.length s))) fun (y : List UInt8) => some (y, true, ())
def istringslite_CutPrefix (x : As [.str, .str]) : Option (As [.str, .bool]) := istringslite_CutPrefix_m0 x.1 x.2.1
theorem istringslite_CutPrefix_c0 (J : Orc (As [.str, .bool])) (x : As [.str, .str]) : rfn Tryd.prog istringslite_CutPrefix_e 6 18446744073709551616 (Ev.get istringslite_CutPrefix_h) 76 istringslite_CutPrefix_s J x = istringslite_CutPrefix_m0 x.1 x.2.1 := by kernel_rfl
theorem istringslite_CutPrefix_t (x : As [.str, .str]) : evT Tryd.prog istringslite_CutPrefix_e 6 18446744073709551616 (Ev.get istringslite_CutPrefix_h) 76 istringslite_CutPrefix_s x = istringslite_CutPrefix x := by
  rw [rfn_eq, istringslite_CutPrefix_c0]
  rfl
theorem istringslite_CutPrefix_ok : CtOk Tryd.prog I0 76 ⟨istringslite_CutPrefix_s, istringslite_CutPrefix⟩ := ct_of_ev (env_cons istringslite_HasPrefix_ok env_nil) istringslite_CutPrefix_t
/-! strings_CutPrefix -/
@[reducible] def strings_CutPrefix_s : Sh := ⟨[.d (.str), .d (.str)], [], [.str, .str], [.d (.str), .d (.bool)], [], 0, [.str, .bool]⟩
def strings_CutPrefix_e : Env := (cts [(76, (⟨istringslite_CutPrefix_s, istringslite_CutPrefix⟩ : Ct))])
def strings_CutPrefix_h : List (Nat × Hint) := []
def strings_CutPrefix_m0 (s : List UInt8) (prefixV : List UInt8) : Option (As [.str, .bool]) :=
  Option.bind (istringslite_CutPrefix (s, prefixV, ())) fun (y : List UInt8 × Bool × Unit) => some (y.1, y.2.1, ())
def strings_CutPrefix (x : As [.str, .str]) : Option (As [.str, .bool]) := strings_CutPrefix_m0 x.1 x.2.1
theorem strings_CutPrefix_c0 (J : Orc (As [.str, .bool])) (x : As [.str, .str]) : rfn Tryd.prog strings_CutPrefix_e 6 18446744073709551616 (Ev.get strings_CutPrefix_h) 40 strings_CutPrefix_s J x = strings_CutPrefix_m0 x.1 x.2.1 := by kernel_rfl
theorem strings_CutPrefix_t (x : As [.str, .str]) : evT Tryd.prog strings_CutPrefix_e 6 18446744073709551616 (Ev.get strings_CutPrefix_h) 40 strings_CutPrefix_s x = strings_CutPrefix x := by
  rw [rfn_eq, strings_CutPrefix_c0]
  rfl
theorem strings_CutPrefix_ok : CtOk Tryd.prog I0 40 ⟨strings_CutPrefix_s, strings_CutPrefix⟩ := ct_of_ev (env_cons istringslite_CutPrefix_ok env_nil) strings_CutPrefix_t
/-! status_unwritten -/
@[reducible] def status_unwritten_s : Sh := ⟨[.d (.str)], [], [.str], [.d (.str), .d (.bool)], [], 0, [.str, .bool]⟩
def status_unwritten_e : Env := (cts [])
def status_unwritten_h : List (Nat × Hint) := [(7, ⟨[], [4]⟩), (58, ⟨[.rwb 4 1 5, .slf 4 0], [0, 4, 5]⟩), (233, ⟨[.slf 4 0], [0, 4, 5]⟩)]
def status_unwritten_k1 (s : List UInt8) (i : Int) (b : Bool) (o : List Int) : St := { fr := [(0, .d .str s), (4, .pb 0 0), (5, .d (.int .i64) i)], nt := 36, up := [], own := [(0, .box 102 [.opb b 0 0, .row 1]), (1, .row (.int .u8) 5 o)], nx := 2, log := [], ln := 0 }
def status_unwritten_k2 (s : List UInt8) (i : Int) (b : Bool) (o : List Int) : St := { fr := [(0, .d .str s), (4, .pb 0 0), (5, .d (.int .i64) i)], nt := 36, up := [], own := [(0, .box 102 [.opb b 0 0, .row 1]), (1, .row (.int .u8) 5 o)], nx := 2, log := [], ln := 0 }
def status_unwritten_k3 (b : Bool) (o : List Int) : St := { fr := [(4, .pb 0 0)], nt := 36, up := [], own := [(0, .box 102 [.opb b 0 0, .row 1]), (1, .row (.int .u8) 5 o)], nx := 2, log := [], ln := 0 }
def status_unwritten_m1 (j2 : List UInt8 → Int → Bool → List Int → Option (As [.str, .bool])) (j3 : Bool → List Int → Option (As [.str, .bool])) (self1 : List UInt8 → Int → Bool → List Int → Option (As [.str, .bool])) (s : List UInt8) (i : Int) (b : Bool) (o : List Int) : Option (As [.str, .bool]) :=
  if lt i (Int.ofNat (List.length s)) = true then Option.bind (at? s i) fun (c : UInt8) => if eqi (Int.ofNat (UInt8.toNat c)) 10 = true then some ([], false, ()) else if eqi (Int.ofNat (UInt8.toNat c)) 92 = true then if eqi (add .i64 i 1) (Int.ofNat (List.length s)) = true then some ([], false, ()) else Option.bind (at? s (add .i64 i 1)) fun (c_1 : UInt8) => if eqi (Int.ofNat (UInt8.toNat c_1)) 110 = true then if b = true then if b = true then need (small (List.length o + 1)) (j2 s (add .i64 i 1) b (o ++ [10])) else Option.none else need (small (List.length o + 1)) (j2 s (add .i64 i 1) true (o ++ [10])) else if eqi (Int.ofNat (UInt8.toNat c_1)) 92 = true then if b = true then if b = true then need (small (List.length o + Nat.succ 0)) (j2 s (add .i64 i 1) b (o ++ [Int.ofNat (UInt8.toNat c)])) else Option.none else need (small (List.length o + Nat.succ 0)) (j2 s (add .i64 i 1) true (o ++ [Int.ofNat (UInt8.toNat c)])) else some ([], false, ()) else if b = true then if b = true then need (small (List.length o + Nat.succ 0)) (j2 s i b (o ++ [Int.ofNat (UInt8.toNat c)])) else Option.none else need (small (List.length o + Nat.succ 0)) (j2 s i true (o ++ [Int.ofNat (UInt8.toNat c)])) else j3 b o
def status_unwritten_m2 (self1 : List UInt8 → Int → Bool → List Int → Option (As [.str, .bool])) (s : List UInt8) (i : Int) (b : Bool) (o : List Int) : Option (As [.str, .bool]) :=
  self1 s (add .i64 i 1) b o
def status_unwritten_m3 (b : Bool) (o : List Int) : Option (As [.str, .bool]) :=
  need (eqi (Int.ofNat (List.length o)) (Int.ofNat (List.length o))) (need (small (List.length o)) (need (Ev.u8s o) (some (Sx.toS o, true, ()))))
def status_unwritten_m0 (j1 : List UInt8 → Int → Bool → List Int → Option (As [.str, .bool])) (s : List UInt8) : Option (As [.str, .bool]) :=
  j1 s 0 false []
def status_unwritten_K2 (u1 : List UInt8 → Int → Bool → List Int → Option (As [.str, .bool])) (s : List UInt8) (i : Int) (b : Bool) (o : List Int) : Option (As [.str, .bool]) := status_unwritten_m2 u1 s i b o
def status_unwritten_K3 (b : Bool) (o : List Int) : Option (As [.str, .bool]) := status_unwritten_m3 b o
def status_unwritten_K1 (s : List UInt8) (i : Int) (b : Bool) (o : List Int) : Option (As [.str, .bool]) :=
  loopF (fun (self : (List UInt8) × (Int) × (Bool) × (List Int) → Option (As [.str, .bool])) (s : (List UInt8) × (Int) × (Bool) × (List Int)) => status_unwritten_m1 (status_unwritten_K2 (fun s i b o => self (s, i, b, o))) (status_unwritten_K3) (fun s i b o => self (s, i, b, o)) s.1 s.2.1 s.2.2.1 s.2.2.2) 18446744073709551616 (s, i, b, o)
def status_unwritten (x : As [.str]) : Option (As [.str, .bool]) := status_unwritten_m0 status_unwritten_K1 x.1
theorem status_unwritten_c2 (J : Orc (As [.str, .bool])) (w1 : St → Option (As [.str, .bool])) (s : List UInt8) (i : Int) (b : Bool) (o : List Int) : pfn Tryd.prog status_unwritten_e 6 18446744073709551616 (Ev.get status_unwritten_h) 98 status_unwritten_s J 233 [w1] (status_unwritten_k2 s i b o) = status_unwritten_m2 (fun s i b o => w1 (status_unwritten_k1 s i b o)) s i b o := by kernel_rfl
theorem status_unwritten_c3 (J : Orc (As [.str, .bool])) (b : Bool) (o : List Int) : pfn Tryd.prog status_unwritten_e 6 18446744073709551616 (Ev.get status_unwritten_h) 98 status_unwritten_s J 7 [] (status_unwritten_k3 b o) = status_unwritten_m3 b o := by kernel_rfl
theorem status_unwritten_c1 (J : Orc (As [.str, .bool])) (w1 : St → Option (As [.str, .bool])) (s : List UInt8) (i : Int) (b : Bool) (o : List Int) : pfn Tryd.prog status_unwritten_e 6 18446744073709551616 (Ev.get status_unwritten_h) 98 status_unwritten_s J 58 [w1] (status_unwritten_k1 s i b o) = status_unwritten_m1 (fun s i b o => J 233 [w1] (status_unwritten_k2 s i b o)) (fun b o => J 7 [] (status_unwritten_k3 b o)) (fun s i b o => w1 (status_unwritten_k1 s i b o)) s i b o := by kernel_rfl
theorem status_unwritten_c0 (J : Orc (As [.str, .bool])) (x : As [.str]) : rfn Tryd.prog status_unwritten_e 6 18446744073709551616 (Ev.get status_unwritten_h) 98 status_unwritten_s J x = status_unwritten_m0 (fun s i b o => J 58 [] (status_unwritten_k1 s i b o)) x.1 := by kernel_rfl
theorem status_unwritten_g2 (w1 : St → Option (As [.str, .bool])) (s : List UInt8) (i : Int) (b : Bool) (o : List Int) : jfn Tryd.prog status_unwritten_e 6 18446744073709551616 (Ev.get status_unwritten_h) 98 status_unwritten_s 233 [w1] (status_unwritten_k2 s i b o) = status_unwritten_K2 (fun s i b o => w1 (status_unwritten_k1 s i b o)) s i b o := by
  rw [pfn_eq (by decide)]
  rw [status_unwritten_c2]
  rfl
theorem status_unwritten_g3 (b : Bool) (o : List Int) : jfn Tryd.prog status_unwritten_e 6 18446744073709551616 (Ev.get status_unwritten_h) 98 status_unwritten_s 7 [] (status_unwritten_k3 b o) = status_unwritten_K3 b o := by
  rw [pfn_eq (by decide)]
  rw [status_unwritten_c3]
  rfl
theorem status_unwritten_g1 (s : List UInt8) (i : Int) (b : Bool) (o : List Int) : jfn Tryd.prog status_unwritten_e 6 18446744073709551616 (Ev.get status_unwritten_h) 98 status_unwritten_s 58 [] (status_unwritten_k1 s i b o) = status_unwritten_K1 s i b o := by
  rw [pfn_eq (by decide)]
  rw [pfn_loop (by kernel_rfl)]
  refine loopF_sim (σ := (List UInt8) × (Int) × (Bool) × (List Int)) (mk := fun s => status_unwritten_k1 s.1 s.2.1 s.2.2.1 s.2.2.2) (fun w1 s => ?_) 18446744073709551616 (s, i, b, o)
  have e2 : (fun s i b o => (jfn Tryd.prog status_unwritten_e 6 18446744073709551616 (Ev.get status_unwritten_h) 98 status_unwritten_s) 233 [w1] (status_unwritten_k2 s i b o)) = status_unwritten_K2 (fun s i b o => w1 (status_unwritten_k1 s i b o)) := funext fun s => funext fun i => funext fun b => funext fun o => status_unwritten_g2 w1 s i b o
  have e3 : (fun b o => (jfn Tryd.prog status_unwritten_e 6 18446744073709551616 (Ev.get status_unwritten_h) 98 status_unwritten_s) 7 [] (status_unwritten_k3 b o)) = status_unwritten_K3 := funext fun b => funext fun o => status_unwritten_g3 b o
  refine (status_unwritten_c1 _ w1 s.1 s.2.1 s.2.2.1 s.2.2.2).trans ?_
  rw [e2, e3]
theorem status_unwritten_t (x : As [.str]) : evT Tryd.prog status_unwritten_e 6 18446744073709551616 (Ev.get status_unwritten_h) 98 status_unwritten_s x = status_unwritten x := by
  have e1 : (fun s i b o => (jfn Tryd.prog status_unwritten_e 6 18446744073709551616 (Ev.get status_unwritten_h) 98 status_unwritten_s) 58 [] (status_unwritten_k1 s i b o)) = status_unwritten_K1 := funext fun s => funext fun i => funext fun b => funext fun o => status_unwritten_g1 s i b o
  rw [rfn_eq, status_unwritten_c0, e1]
  rfl
theorem status_unwritten_ok : CtOk Tryd.prog I0 98 ⟨status_unwritten_s, status_unwritten⟩ := ct_of_ev env_nil status_unwritten_t
/-! status_readText -/
@[reducible] def status_readText_s : Sh := ⟨[.d (.int .u8), .d (.str)], [], [.int .u8, .str], [.d (.pr (.int .u8) (.pr (.int .u32) .str)), .d (.bool)], [], 0, [.pr (.int .u8) (.pr (.int .u32) .str), .bool]⟩
def status_readText_e : Env := (cts [(40, (⟨strings_CutPrefix_s, strings_CutPrefix⟩ : Ct)), (98, (⟨status_unwritten_s, status_unwritten⟩ : Ct))])
def status_readText_h : List (Nat × Hint) := []
def status_readText_m0 (what : Int) (rest : List UInt8) : Option (As [.pr (.int .u8) (.pr (.int .u32) .str), .bool]) :=
  Option.bind (strings_CutPrefix (rest, [32], ())) fun (y : List UInt8 × Bool × Unit) => if (!y.2.1) = true then some ((0, 0, []), false, ()) else Option.bind (status_unwritten (y.1, ())) fun (y : List UInt8 × Bool × Unit) => some ((what, 0, y.1), y.2.1, ())
def status_readText (x : As [.int .u8, .str]) : Option (As [.pr (.int .u8) (.pr (.int .u32) .str), .bool]) := status_readText_m0 x.1 x.2.1
theorem status_readText_c0 (J : Orc (As [.pr (.int .u8) (.pr (.int .u32) .str), .bool])) (x : As [.int .u8, .str]) : rfn Tryd.prog status_readText_e 6 18446744073709551616 (Ev.get status_readText_h) 72 status_readText_s J x = status_readText_m0 x.1 x.2.1 := by kernel_rfl
theorem status_readText_t (x : As [.int .u8, .str]) : evT Tryd.prog status_readText_e 6 18446744073709551616 (Ev.get status_readText_h) 72 status_readText_s x = status_readText x := by
  rw [rfn_eq, status_readText_c0]
  rfl
theorem status_readText_ok : CtOk Tryd.prog I0 72 ⟨status_readText_s, status_readText⟩ := ct_of_ev (env_cons strings_CutPrefix_ok (env_cons status_unwritten_ok env_nil)) status_readText_t
/-! status_readNumber -/
@[reducible] def status_readNumber_s : Sh := ⟨[.d (.int .u8), .d (.str)], [], [.int .u8, .str], [.d (.pr (.int .u8) (.pr (.int .u32) .str)), .d (.bool)], [], 0, [.pr (.int .u8) (.pr (.int .u32) .str), .bool]⟩
def status_readNumber_e : Env := (cts [(39, (⟨status_digits_s, status_digits⟩ : Ct)), (40, (⟨strings_CutPrefix_s, strings_CutPrefix⟩ : Ct)), (99, (⟨strconv_ParseUint_ok_s, strconv_ParseUint_ok⟩ : Ct)), (99, (⟨strconv_ParseUint_er_s, strconv_ParseUint_er⟩ : Ct))])
def status_readNumber_h : List (Nat × Hint) := [(62, ⟨[], [0, 4, 8, 35]⟩)]
def status_readNumber_k1 (what : Int) (n : Int) (t35 : Bool) (t4 : Int × Int × List UInt8) : St := { fr := [(0, .d (.int .u8) what), (4, .pb 0 0), (8, .d (.int .u64) n), (35, .d .bool t35)], nt := 41, up := [], own := [(0, .box 25 [.d (.int .u8) t4.1, .d (.int .u32) t4.2.1, .d .str t4.2.2])], nx := 1, log := [], ln := 0 }
def status_readNumber_m1 (what : Int) (n : Int) (t35 : Bool) (t4 : Int × Int × List UInt8) : Option (As [.pr (.int .u8) (.pr (.int .u32) .str), .bool]) :=
  if t35 = true then some ((0, 0, []), false, ()) else some ((what, cvt .u32 n, []), true, ())
def status_readNumber_m0 (j1 : Int → Int → Bool → Int × Int × List UInt8 → Option (As [.pr (.int .u8) (.pr (.int .u32) .str), .bool])) (what : Int) (rest : List UInt8) : Option (As [.pr (.int .u8) (.pr (.int .u32) .str), .bool]) :=
  Option.bind (strings_CutPrefix (rest, [32], ())) fun (y : List UInt8 × Bool × Unit) => if (!y.2.1) = true then some ((0, 0, []), false, ()) else orE (Option.bind (strconv_ParseUint_ok (y.1, 10, 32, ())) fun (y_1 : Int × Unit) => if eqi y_1.1 0 = true then j1 what y_1.1 true (0, 0, []) else Option.bind (status_digits (cvt .u32 y_1.1, ())) fun (y_2 : List UInt8 × Unit) => j1 what y_1.1 (nes y_2.1 y.1) (0, 0, [])) (Option.bind (strconv_ParseUint_er (y.1, 10, 32, ())) fun (y : Int × Unit × Unit) => j1 what y.1 true (0, 0, []))
def status_readNumber_K1 (what : Int) (n : Int) (t35 : Bool) (t4 : Int × Int × List UInt8) : Option (As [.pr (.int .u8) (.pr (.int .u32) .str), .bool]) := status_readNumber_m1 what n t35 t4
def status_readNumber (x : As [.int .u8, .str]) : Option (As [.pr (.int .u8) (.pr (.int .u32) .str), .bool]) := status_readNumber_m0 status_readNumber_K1 x.1 x.2.1
theorem status_readNumber_c1 (J : Orc (As [.pr (.int .u8) (.pr (.int .u32) .str), .bool])) (what : Int) (n : Int) (t35 : Bool) (t4 : Int × Int × List UInt8) : pfn Tryd.prog status_readNumber_e 6 18446744073709551616 (Ev.get status_readNumber_h) 73 status_readNumber_s J 62 [] (status_readNumber_k1 what n t35 t4) = status_readNumber_m1 what n t35 t4 := by kernel_rfl
theorem status_readNumber_c0 (J : Orc (As [.pr (.int .u8) (.pr (.int .u32) .str), .bool])) (x : As [.int .u8, .str]) : rfn Tryd.prog status_readNumber_e 6 18446744073709551616 (Ev.get status_readNumber_h) 73 status_readNumber_s J x = status_readNumber_m0 (fun what n t35 t4 => J 62 [] (status_readNumber_k1 what n t35 t4)) x.1 x.2.1 := by kernel_rfl
theorem status_readNumber_g1 (what : Int) (n : Int) (t35 : Bool) (t4 : Int × Int × List UInt8) : jfn Tryd.prog status_readNumber_e 6 18446744073709551616 (Ev.get status_readNumber_h) 73 status_readNumber_s 62 [] (status_readNumber_k1 what n t35 t4) = status_readNumber_K1 what n t35 t4 := by
  rw [pfn_eq (by decide)]
  rw [status_readNumber_c1]
  rfl
theorem status_readNumber_t (x : As [.int .u8, .str]) : evT Tryd.prog status_readNumber_e 6 18446744073709551616 (Ev.get status_readNumber_h) 73 status_readNumber_s x = status_readNumber x := by
  have e1 : (fun what n t35 t4 => (jfn Tryd.prog status_readNumber_e 6 18446744073709551616 (Ev.get status_readNumber_h) 73 status_readNumber_s) 62 [] (status_readNumber_k1 what n t35 t4)) = status_readNumber_K1 := funext fun what => funext fun n => funext fun t35 => funext fun t4 => status_readNumber_g1 what n t35 t4
  rw [rfn_eq, status_readNumber_c0, e1]
  rfl
theorem status_readNumber_ok : CtOk Tryd.prog I0 73 ⟨status_readNumber_s, status_readNumber⟩ := ct_of_ev (env_cons status_digits_ok (env_cons strings_CutPrefix_ok (env_cons strconv_ParseUint_ok_ok (env_cons strconv_ParseUint_er_ok env_nil)))) status_readNumber_t
/-! status_readNothing -/
@[reducible] def status_readNothing_s : Sh := ⟨[.d (.int .u8), .d (.str)], [], [.int .u8, .str], [.d (.pr (.int .u8) (.pr (.int .u32) .str)), .d (.bool)], [], 0, [.pr (.int .u8) (.pr (.int .u32) .str), .bool]⟩
def status_readNothing_e : Env := (cts [])
def status_readNothing_h : List (Nat × Hint) := []
def status_readNothing_m0 (what : Int) (rest : List UInt8) : Option (As [.pr (.int .u8) (.pr (.int .u32) .str), .bool]) :=
  some ((what, 0, []), eqs rest [], ())
def status_readNothing (x : As [.int .u8, .str]) : Option (As [.pr (.int .u8) (.pr (.int .u32) .str), .bool]) := status_readNothing_m0 x.1 x.2.1
theorem status_readNothing_c0 (J : Orc (As [.pr (.int .u8) (.pr (.int .u32) .str), .bool])) (x : As [.int .u8, .str]) : rfn Tryd.prog status_readNothing_e 6 18446744073709551616 (Ev.get status_readNothing_h) 74 status_readNothing_s J x = status_readNothing_m0 x.1 x.2.1 := by kernel_rfl
theorem status_readNothing_t (x : As [.int .u8, .str]) : evT Tryd.prog status_readNothing_e 6 18446744073709551616 (Ev.get status_readNothing_h) 74 status_readNothing_s x = status_readNothing x := by
  rw [rfn_eq, status_readNothing_c0]
  rfl
theorem status_readNothing_ok : CtOk Tryd.prog I0 74 ⟨status_readNothing_s, status_readNothing⟩ := ct_of_ev env_nil status_readNothing_t
/-! status_Print -/
@[reducible] def status_Print_s : Sh := ⟨[.d (.pr (.int .u8) (.pr (.int .u32) .str))], [], [.pr (.int .u8) (.pr (.int .u32) .str)], [.d (.str), .d (.bool)], [], 0, [.str, .bool]⟩
def status_Print_e : Env := (cts [(36, (⟨status_right_s, status_right⟩ : Ct)), (38, (⟨status_written_s, status_written⟩ : Ct)), (39, (⟨status_digits_s, status_digits⟩ : Ct)), (72, (⟨status_readText_s, status_readText⟩ : Ct)), (73, (⟨status_readNumber_s, status_readNumber⟩ : Ct)), (74, (⟨status_readNothing_s, status_readNothing⟩ : Ct))])
def status_Print_h : List (Nat × Hint) := [(58, ⟨[], [1, 9, 10]⟩)]
def status_Print_k1 (t9 : Int) (t9_2 : List UInt8) (t9_3 : Int) (t9_4 : List UInt8) (t9_5 : Int) (t9_6 : List UInt8) (t9_7 : Int) (t9_8 : List UInt8) (t9_9 : Int) (t9_10 : List UInt8) (t10 : Int) (o : Int × Int × List UInt8) : St := { fr := [(1, .pb 0 0), (9, .agg [.d (.int .u8) t9, .d .str t9_2, .fn (.func 72) [] [], .d (.int .u8) t9_3, .d .str t9_4, .fn (.func 73) [] [], .d (.int .u8) t9_5, .d .str t9_6, .fn (.func 73) [] [], .d (.int .u8) t9_7, .d .str t9_8, .fn (.func 74) [] [], .d (.int .u8) t9_9, .d .str t9_10, .fn (.func 74) [] []]), (10, .d (.int .i64) t10)], nt := 42, up := [], own := [(0, .box 25 [.d (.int .u8) o.1, .d (.int .u32) o.2.1, .d .str o.2.2])], nx := 1, log := [], ln := 0 }
def status_Print_m1 (self1 : Int → List UInt8 → Int → List UInt8 → Int → List UInt8 → Int → List UInt8 → Int → List UInt8 → Int → Int × Int × List UInt8 → Option (As [.str, .bool])) (t9 : Int) (t9_2 : List UInt8) (t9_3 : Int) (t9_4 : List UInt8) (t9_5 : Int) (t9_6 : List UInt8) (t9_7 : Int) (t9_8 : List UInt8) (t9_9 : Int) (t9_10 : List UInt8) (t10 : Int) (o : Int × Int × List UInt8) : Option (As [.str, .bool]) :=
  if lt t10 5 = true then if eqi t10 4 = true then if nei t9_9 o.1 = true then self1 t9 t9_2 t9_3 t9_4 t9_5 t9_6 t9_7 t9_8 t9_9 t9_10 (add .i64 t10 1) o else if eqi o.1 1 = true then need (small (List.length t9_10 + 1)) (Option.bind (status_written (o.2.2, ())) fun (y : List UInt8 × Unit) => need (small (List.length (t9_10 ++ [32]) + List.length y.1)) (some (t9_10 ++ [32] ++ y.1, true, ()))) else if eqi o.1 2 = true then need (small (List.length t9_10 + 1)) (Option.bind (status_digits (o.2.1, ())) fun (y : List UInt8 × Unit) => need (small (List.length (t9_10 ++ [32]) + List.length y.1)) (some (t9_10 ++ [32] ++ y.1, true, ()))) else if eqi o.1 3 = true then need (small (List.length t9_10 + 1)) (Option.bind (status_digits (o.2.1, ())) fun (y : List UInt8 × Unit) => need (small (List.length (t9_10 ++ [32]) + List.length y.1)) (some (t9_10 ++ [32] ++ y.1, true, ()))) else some (t9_10, true, ()) else if eqi t10 3 = true then if nei t9_7 o.1 = true then self1 t9 t9_2 t9_3 t9_4 t9_5 t9_6 t9_7 t9_8 t9_9 t9_10 (add .i64 t10 1) o else if eqi o.1 1 = true then need (small (List.length t9_8 + 1)) (Option.bind (status_written (o.2.2, ())) fun (y : List UInt8 × Unit) => need (small (List.length (t9_8 ++ [32]) + List.length y.1)) (some (t9_8 ++ [32] ++ y.1, true, ()))) else if eqi o.1 2 = true then need (small (List.length t9_8 + 1)) (Option.bind (status_digits (o.2.1, ())) fun (y : List UInt8 × Unit) => need (small (List.length (t9_8 ++ [32]) + List.length y.1)) (some (t9_8 ++ [32] ++ y.1, true, ()))) else if eqi o.1 3 = true then need (small (List.length t9_8 + 1)) (Option.bind (status_digits (o.2.1, ())) fun (y : List UInt8 × Unit) => need (small (List.length (t9_8 ++ [32]) + List.length y.1)) (some (t9_8 ++ [32] ++ y.1, true, ()))) else some (t9_8, true, ()) else if eqi t10 2 = true then if nei t9_5 o.1 = true then self1 t9 t9_2 t9_3 t9_4 t9_5 t9_6 t9_7 t9_8 t9_9 t9_10 (add .i64 t10 1) o else if eqi o.1 1 = true then need (small (List.length t9_6 + 1)) (Option.bind (status_written (o.2.2, ())) fun (y : List UInt8 × Unit) => need (small (List.length (t9_6 ++ [32]) + List.length y.1)) (some (t9_6 ++ [32] ++ y.1, true, ()))) else if eqi o.1 2 = true then need (small (List.length t9_6 + 1)) (Option.bind (status_digits (o.2.1, ())) fun (y : List UInt8 × Unit) => need (small (List.length (t9_6 ++ [32]) + List.length y.1)) (some (t9_6 ++ [32] ++ y.1, true, ()))) else if eqi o.1 3 = true then need (small (List.length t9_6 + 1)) (Option.bind (status_digits (o.2.1, ())) fun (y : List UInt8 × Unit) => need (small (List.length (t9_6 ++ [32]) + List.length y.1)) (some (t9_6 ++ [32] ++ y.1, true, ()))) else some (t9_6, true, ()) else if eqi t10 1 = true then if nei t9_3 o.1 = true then self1 t9 t9_2 t9_3 t9_4 t9_5 t9_6 t9_7 t9_8 t9_9 t9_10 (add .i64 t10 1) o else if eqi o.1 1 = true then need (small (List.length t9_4 + 1)) (Option.bind (status_written (o.2.2, ())) fun (y : List UInt8 × Unit) => need (small (List.length (t9_4 ++ [32]) + List.length y.1)) (some (t9_4 ++ [32] ++ y.1, true, ()))) else if eqi o.1 2 = true then need (small (List.length t9_4 + 1)) (Option.bind (status_digits (o.2.1, ())) fun (y : List UInt8 × Unit) => need (small (List.length (t9_4 ++ [32]) + List.length y.1)) (some (t9_4 ++ [32] ++ y.1, true, ()))) else if eqi o.1 3 = true then need (small (List.length t9_4 + 1)) (Option.bind (status_digits (o.2.1, ())) fun (y : List UInt8 × Unit) => need (small (List.length (t9_4 ++ [32]) + List.length y.1)) (some (t9_4 ++ [32] ++ y.1, true, ()))) else some (t9_4, true, ()) else if eqi t10 0 = true then if nei t9 o.1 = true then self1 t9 t9_2 t9_3 t9_4 t9_5 t9_6 t9_7 t9_8 t9_9 t9_10 (add .i64 t10 1) o else if eqi o.1 1 = true then need (small (List.length t9_2 + 1)) (Option.bind (status_written (o.2.2, ())) fun (y : List UInt8 × Unit) => need (small (List.length (t9_2 ++ [32]) + List.length y.1)) (some (t9_2 ++ [32] ++ y.1, true, ()))) else if eqi o.1 2 = true then need (small (List.length t9_2 + 1)) (Option.bind (status_digits (o.2.1, ())) fun (y : List UInt8 × Unit) => need (small (List.length (t9_2 ++ [32]) + List.length y.1)) (some (t9_2 ++ [32] ++ y.1, true, ()))) else if eqi o.1 3 = true then need (small (List.length t9_2 + 1)) (Option.bind (status_digits (o.2.1, ())) fun (y : List UInt8 × Unit) => need (small (List.length (t9_2 ++ [32]) + List.length y.1)) (some (t9_2 ++ [32] ++ y.1, true, ()))) else some (t9_2, true, ()) else Option.none else some ([], false, ())
def status_Print_m0 (j1 : Int → List UInt8 → Int → List UInt8 → Int → List UInt8 → Int → List UInt8 → Int → List UInt8 → Int → Int × Int × List UInt8 → Option (As [.str, .bool])) (o : Int × Int × List UInt8) : Option (As [.str, .bool]) :=
  Option.bind (status_right (o, ())) fun (y : Bool × Unit) => if (!y.1) = true then some ([], false, ()) else j1 1 [115, 117, 98, 109, 105, 116] 2 [99, 97, 110, 99, 101, 108] 3 [115, 116, 97, 116, 117, 115] 4 [104, 105, 115, 116, 111, 114, 121] 5 [115, 108, 97, 118, 101, 115] 0 o
def status_Print_K1 (t9 : Int) (t9_2 : List UInt8) (t9_3 : Int) (t9_4 : List UInt8) (t9_5 : Int) (t9_6 : List UInt8) (t9_7 : Int) (t9_8 : List UInt8) (t9_9 : Int) (t9_10 : List UInt8) (t10 : Int) (o : Int × Int × List UInt8) : Option (As [.str, .bool]) :=
  loopF (fun (self : (Int) × (List UInt8) × (Int) × (List UInt8) × (Int) × (List UInt8) × (Int) × (List UInt8) × (Int) × (List UInt8) × (Int) × (Int × Int × List UInt8) → Option (As [.str, .bool])) (s : (Int) × (List UInt8) × (Int) × (List UInt8) × (Int) × (List UInt8) × (Int) × (List UInt8) × (Int) × (List UInt8) × (Int) × (Int × Int × List UInt8)) => status_Print_m1 (fun t9 t9_2 t9_3 t9_4 t9_5 t9_6 t9_7 t9_8 t9_9 t9_10 t10 o => self (t9, t9_2, t9_3, t9_4, t9_5, t9_6, t9_7, t9_8, t9_9, t9_10, t10, o)) s.1 s.2.1 s.2.2.1 s.2.2.2.1 s.2.2.2.2.1 s.2.2.2.2.2.1 s.2.2.2.2.2.2.1 s.2.2.2.2.2.2.2.1 s.2.2.2.2.2.2.2.2.1 s.2.2.2.2.2.2.2.2.2.1 s.2.2.2.2.2.2.2.2.2.2.1 s.2.2.2.2.2.2.2.2.2.2.2) 18446744073709551616 (t9, t9_2, t9_3, t9_4, t9_5, t9_6, t9_7, t9_8, t9_9, t9_10, t10, o)
def status_Print (x : As [.pr (.int .u8) (.pr (.int .u32) .str)]) : Option (As [.str, .bool]) := status_Print_m0 status_Print_K1 x.1
theorem status_Print_c1 (J : Orc (As [.str, .bool])) (w1 : St → Option (As [.str, .bool])) (t9 : Int) (t9_2 : List UInt8) (t9_3 : Int) (t9_4 : List UInt8) (t9_5 : Int) (t9_6 : List UInt8) (t9_7 : Int) (t9_8 : List UInt8) (t9_9 : Int) (t9_10 : List UInt8) (t10 : Int) (o : Int × Int × List UInt8) : pfn Tryd.prog status_Print_e 6 18446744073709551616 (Ev.get status_Print_h) 7 status_Print_s J 58 [w1] (status_Print_k1 t9 t9_2 t9_3 t9_4 t9_5 t9_6 t9_7 t9_8 t9_9 t9_10 t10 o) = status_Print_m1 (fun t9 t9_2 t9_3 t9_4 t9_5 t9_6 t9_7 t9_8 t9_9 t9_10 t10 o => w1 (status_Print_k1 t9 t9_2 t9_3 t9_4 t9_5 t9_6 t9_7 t9_8 t9_9 t9_10 t10 o)) t9 t9_2 t9_3 t9_4 t9_5 t9_6 t9_7 t9_8 t9_9 t9_10 t10 o := by kernel_rfl
theorem status_Print_c0 (J : Orc (As [.str, .bool])) (x : As [.pr (.int .u8) (.pr (.int .u32) .str)]) : rfn Tryd.prog status_Print_e 6 18446744073709551616 (Ev.get status_Print_h) 7 status_Print_s J x = status_Print_m0 (fun t9 t9_2 t9_3 t9_4 t9_5 t9_6 t9_7 t9_8 t9_9 t9_10 t10 o => J 58 [] (status_Print_k1 t9 t9_2 t9_3 t9_4 t9_5 t9_6 t9_7 t9_8 t9_9 t9_10 t10 o)) x.1 := by kernel_rfl
theorem status_Print_g1 (t9 : Int) (t9_2 : List UInt8) (t9_3 : Int) (t9_4 : List UInt8) (t9_5 : Int) (t9_6 : List UInt8) (t9_7 : Int) (t9_8 : List UInt8) (t9_9 : Int) (t9_10 : List UInt8) (t10 : Int) (o : Int × Int × List UInt8) : jfn Tryd.prog status_Print_e 6 18446744073709551616 (Ev.get status_Print_h) 7 status_Print_s 58 [] (status_Print_k1 t9 t9_2 t9_3 t9_4 t9_5 t9_6 t9_7 t9_8 t9_9 t9_10 t10 o) = status_Print_K1 t9 t9_2 t9_3 t9_4 t9_5 t9_6 t9_7 t9_8 t9_9 t9_10 t10 o := by
  rw [pfn_eq (by decide)]
  rw [pfn_loop (by kernel_rfl)]
  refine loopF_sim (σ := (Int) × (List UInt8) × (Int) × (List UInt8) × (Int) × (List UInt8) × (Int) × (List UInt8) × (Int) × (List UInt8) × (Int) × (Int × Int × List UInt8)) (mk := fun s => status_Print_k1 s.1 s.2.1 s.2.2.1 s.2.2.2.1 s.2.2.2.2.1 s.2.2.2.2.2.1 s.2.2.2.2.2.2.1 s.2.2.2.2.2.2.2.1 s.2.2.2.2.2.2.2.2.1 s.2.2.2.2.2.2.2.2.2.1 s.2.2.2.2.2.2.2.2.2.2.1 s.2.2.2.2.2.2.2.2.2.2.2) (fun w1 s => ?_) 18446744073709551616 (t9, t9_2, t9_3, t9_4, t9_5, t9_6, t9_7, t9_8, t9_9, t9_10, t10, o)
  refine (status_Print_c1 _ w1 s.1 s.2.1 s.2.2.1 s.2.2.2.1 s.2.2.2.2.1 s.2.2.2.2.2.1 s.2.2.2.2.2.2.1 s.2.2.2.2.2.2.2.1 s.2.2.2.2.2.2.2.2.1 s.2.2.2.2.2.2.2.2.2.1 s.2.2.2.2.2.2.2.2.2.2.1 s.2.2.2.2.2.2.2.2.2.2.2).trans ?_
  rfl
theorem status_Print_t (x : As [.pr (.int .u8) (.pr (.int .u32) .str)]) : evT Tryd.prog status_Print_e 6 18446744073709551616 (Ev.get status_Print_h) 7 status_Print_s x = status_Print x := by
  have e1 : (fun t9 t9_2 t9_3 t9_4 t9_5 t9_6 t9_7 t9_8 t9_9 t9_10 t10 o => (jfn Tryd.prog status_Print_e 6 18446744073709551616 (Ev.get status_Print_h) 7 status_Print_s) 58 [] (status_Print_k1 t9 t9_2 t9_3 t9_4 t9_5 t9_6 t9_7 t9_8 t9_9 t9_10 t10 o)) = status_Print_K1 := funext fun t9 => funext fun t9_2 => funext fun t9_3 => funext fun t9_4 => funext fun t9_5 => funext fun t9_6 => funext fun t9_7 => funext fun t9_8 => funext fun t9_9 => funext fun t9_10 => funext fun t10 => funext fun o => status_Print_g1 t9 t9_2 t9_3 t9_4 t9_5 t9_6 t9_7 t9_8 t9_9 t9_10 t10 o
  rw [rfn_eq, status_Print_c0, e1]
  rfl
theorem status_Print_ok : CtOk Tryd.prog I0 7 ⟨status_Print_s, status_Print⟩ := ct_of_ev (env_cons status_right_ok (env_cons status_written_ok (env_cons status_digits_ok (env_cons status_readText_ok (env_cons status_readNumber_ok (env_cons status_readNothing_ok env_nil)))))) status_Print_t
/-! status_Parse -/
@[reducible] def status_Parse_s : Sh := ⟨[.d (.str)], [], [.str], [.d (.pr (.int .u8) (.pr (.int .u32) .str)), .d (.int .i64)], [], 0, [.pr (.int .u8) (.pr (.int .u32) .str), .int .i64]⟩
def status_Parse_e : Env := (cts [(36, (⟨status_right_s, status_right⟩ : Ct)), (40, (⟨strings_CutPrefix_s, strings_CutPrefix⟩ : Ct)), (72, (⟨status_readText_s, status_readText⟩ : Ct)), (73, (⟨status_readNumber_s, status_readNumber⟩ : Ct)), (74, (⟨status_readNothing_s, status_readNothing⟩ : Ct))])
def status_Parse_h : List (Nat × Hint) := [(3, ⟨[], [2]⟩), (26, ⟨[], [0, 2, 9, 10, 33, 34]⟩), (13519, ⟨[], [0, 2, 8, 9, 10, 35]⟩)]
def status_Parse_k1 (line : List UInt8) (t9 : Int) (t9_2 : List UInt8) (t9_3 : Int) (t9_4 : List UInt8) (t9_5 : Int) (t9_6 : List UInt8) (t9_7 : Int) (t9_8 : List UInt8) (t9_9 : Int) (t9_10 : List UInt8) (t10 : Int) (t2 : Int × Int × List UInt8) : St := { fr := [(0, .d .str line), (2, .pb 0 0), (9, .agg [.d (.int .u8) t9, .d .str t9_2, .fn (.func 72) [] [], .d (.int .u8) t9_3, .d .str t9_4, .fn (.func 73) [] [], .d (.int .u8) t9_5, .d .str t9_6, .fn (.func 73) [] [], .d (.int .u8) t9_7, .d .str t9_8, .fn (.func 74) [] [], .d (.int .u8) t9_9, .d .str t9_10, .fn (.func 74) [] []]), (10, .d (.int .i64) t10)], nt := 39, up := [], own := [(0, .box 25 [.d (.int .u8) t2.1, .d (.int .u32) t2.2.1, .d .str t2.2.2])], nx := 1, log := [], ln := 0 }
def status_Parse_k2 (line : List UInt8) (t9 : Int) (t9_2 : List UInt8) (t9_3 : Int) (t9_4 : List UInt8) (t9_5 : Int) (t9_6 : List UInt8) (t9_7 : Int) (t9_8 : List UInt8) (t9_9 : Int) (t9_10 : List UInt8) (t10 : Int) (t35 : Bool) (t2 : Int × Int × List UInt8) (o : Int × Int × List UInt8) : St := { fr := [(0, .d .str line), (2, .pb 0 0), (8, .pb 1 0), (9, .agg [.d (.int .u8) t9, .d .str t9_2, .fn (.func 72) [] [], .d (.int .u8) t9_3, .d .str t9_4, .fn (.func 73) [] [], .d (.int .u8) t9_5, .d .str t9_6, .fn (.func 73) [] [], .d (.int .u8) t9_7, .d .str t9_8, .fn (.func 74) [] [], .d (.int .u8) t9_9, .d .str t9_10, .fn (.func 74) [] []]), (10, .d (.int .i64) t10), (35, .d .bool t35)], nt := 39, up := [], own := [(0, .box 25 [.d (.int .u8) t2.1, .d (.int .u32) t2.2.1, .d .str t2.2.2]), (1, .box 25 [.d (.int .u8) o.1, .d (.int .u32) o.2.1, .d .str o.2.2])], nx := 2, log := [], ln := 0 }
def status_Parse_k3 (t2 : Int × Int × List UInt8) : St := { fr := [(2, .pb 0 0)], nt := 39, up := [], own := [(0, .box 25 [.d (.int .u8) t2.1, .d (.int .u32) t2.2.1, .d .str t2.2.2])], nx := 1, log := [], ln := 0 }
def status_Parse_m1 (j2 : List UInt8 → Int → List UInt8 → Int → List UInt8 → Int → List UInt8 → Int → List UInt8 → Int → List UInt8 → Int → Bool → Int × Int × List UInt8 → Int × Int × List UInt8 → Option (As [.pr (.int .u8) (.pr (.int .u32) .str), .int .i64])) (j3 : Int × Int × List UInt8 → Option (As [.pr (.int .u8) (.pr (.int .u32) .str), .int .i64])) (self1 : List UInt8 → Int → List UInt8 → Int → List UInt8 → Int → List UInt8 → Int → List UInt8 → Int → List UInt8 → Int → Int × Int × List UInt8 → Option (As [.pr (.int .u8) (.pr (.int .u32) .str), .int .i64])) (line : List UInt8) (t9 : Int) (t9_2 : List UInt8) (t9_3 : Int) (t9_4 : List UInt8) (t9_5 : Int) (t9_6 : List UInt8) (t9_7 : Int) (t9_8 : List UInt8) (t9_9 : Int) (t9_10 : List UInt8) (t10 : Int) (t2 : Int × Int × List UInt8) : Option (As [.pr (.int .u8) (.pr (.int .u32) .str), .int .i64]) :=
  if lt t10 5 = true then if eqi t10 4 = true then Option.bind (strings_CutPrefix (line, t9_10, ())) fun (y : List UInt8 × Bool × Unit) => if (!y.2.1) = true then self1 line t9 t9_2 t9_3 t9_4 t9_5 t9_6 t9_7 t9_8 t9_9 t9_10 (add .i64 t10 1) t2 else Option.bind (status_readNothing (t9_9, y.1, ())) fun (y : (Int × Int × List UInt8) × Bool × Unit) => if y.2.1 = true then Option.bind (status_right (y.1, ())) fun (y_1 : Bool × Unit) => j2 line t9 t9_2 t9_3 t9_4 t9_5 t9_6 t9_7 t9_8 t9_9 t9_10 t10 y_1.1 t2 y.1 else j2 line t9 t9_2 t9_3 t9_4 t9_5 t9_6 t9_7 t9_8 t9_9 t9_10 t10 false t2 y.1 else if eqi t10 3 = true then Option.bind (strings_CutPrefix (line, t9_8, ())) fun (y : List UInt8 × Bool × Unit) => if (!y.2.1) = true then self1 line t9 t9_2 t9_3 t9_4 t9_5 t9_6 t9_7 t9_8 t9_9 t9_10 (add .i64 t10 1) t2 else Option.bind (status_readNothing (t9_7, y.1, ())) fun (y : (Int × Int × List UInt8) × Bool × Unit) => if y.2.1 = true then Option.bind (status_right (y.1, ())) fun (y_1 : Bool × Unit) => j2 line t9 t9_2 t9_3 t9_4 t9_5 t9_6 t9_7 t9_8 t9_9 t9_10 t10 y_1.1 t2 y.1 else j2 line t9 t9_2 t9_3 t9_4 t9_5 t9_6 t9_7 t9_8 t9_9 t9_10 t10 false t2 y.1 else if eqi t10 2 = true then Option.bind (strings_CutPrefix (line, t9_6, ())) fun (y : List UInt8 × Bool × Unit) => if (!y.2.1) = true then self1 line t9 t9_2 t9_3 t9_4 t9_5 t9_6 t9_7 t9_8 t9_9 t9_10 (add .i64 t10 1) t2 else Option.bind (status_readNumber (t9_5, y.1, ())) fun (y : (Int × Int × List UInt8) × Bool × Unit) => if y.2.1 = true then Option.bind (status_right (y.1, ())) fun (y_1 : Bool × Unit) => j2 line t9 t9_2 t9_3 t9_4 t9_5 t9_6 t9_7 t9_8 t9_9 t9_10 t10 y_1.1 t2 y.1 else j2 line t9 t9_2 t9_3 t9_4 t9_5 t9_6 t9_7 t9_8 t9_9 t9_10 t10 false t2 y.1 else if eqi t10 1 = true then Option.bind (strings_CutPrefix (line, t9_4, ())) fun (y : List UInt8 × Bool × Unit) => if (!y.2.1) = true then self1 line t9 t9_2 t9_3 t9_4 t9_5 t9_6 t9_7 t9_8 t9_9 t9_10 (add .i64 t10 1) t2 else Option.bind (status_readNumber (t9_3, y.1, ())) fun (y : (Int × Int × List UInt8) × Bool × Unit) => if y.2.1 = true then Option.bind (status_right (y.1, ())) fun (y_1 : Bool × Unit) => j2 line t9 t9_2 t9_3 t9_4 t9_5 t9_6 t9_7 t9_8 t9_9 t9_10 t10 y_1.1 t2 y.1 else j2 line t9 t9_2 t9_3 t9_4 t9_5 t9_6 t9_7 t9_8 t9_9 t9_10 t10 false t2 y.1 else if eqi t10 0 = true then Option.bind (strings_CutPrefix (line, t9_2, ())) fun (y : List UInt8 × Bool × Unit) => if (!y.2.1) = true then self1 line t9 t9_2 t9_3 t9_4 t9_5 t9_6 t9_7 t9_8 t9_9 t9_10 (add .i64 t10 1) t2 else Option.bind (status_readText (t9, y.1, ())) fun (y : (Int × Int × List UInt8) × Bool × Unit) => if y.2.1 = true then Option.bind (status_right (y.1, ())) fun (y_1 : Bool × Unit) => j2 line t9 t9_2 t9_3 t9_4 t9_5 t9_6 t9_7 t9_8 t9_9 t9_10 t10 y_1.1 t2 y.1 else j2 line t9 t9_2 t9_3 t9_4 t9_5 t9_6 t9_7 t9_8 t9_9 t9_10 t10 false t2 y.1 else Option.none else j3 t2
def status_Parse_m2 (self1 : List UInt8 → Int → List UInt8 → Int → List UInt8 → Int → List UInt8 → Int → List UInt8 → Int → List UInt8 → Int → Int × Int × List UInt8 → Option (As [.pr (.int .u8) (.pr (.int .u32) .str), .int .i64])) (line : List UInt8) (t9 : Int) (t9_2 : List UInt8) (t9_3 : Int) (t9_4 : List UInt8) (t9_5 : Int) (t9_6 : List UInt8) (t9_7 : Int) (t9_8 : List UInt8) (t9_9 : Int) (t9_10 : List UInt8) (t10 : Int) (t35 : Bool) (t2 : Int × Int × List UInt8) (o : Int × Int × List UInt8) : Option (As [.pr (.int .u8) (.pr (.int .u32) .str), .int .i64]) :=
  if t35 = true then some (o, 0, ()) else self1 line t9 t9_2 t9_3 t9_4 t9_5 t9_6 t9_7 t9_8 t9_9 t9_10 (add .i64 t10 1) t2
def status_Parse_m3 (t2 : Int × Int × List UInt8) : Option (As [.pr (.int .u8) (.pr (.int .u32) .str), .int .i64]) :=
  some ((0, 0, []), 280, ())
def status_Parse_m0 (j1 : List UInt8 → Int → List UInt8 → Int → List UInt8 → Int → List UInt8 → Int → List UInt8 → Int → List UInt8 → Int → Int × Int × List UInt8 → Option (As [.pr (.int .u8) (.pr (.int .u32) .str), .int .i64])) (line : List UInt8) : Option (As [.pr (.int .u8) (.pr (.int .u32) .str), .int .i64]) :=
  j1 line 1 [115, 117, 98, 109, 105, 116] 2 [99, 97, 110, 99, 101, 108] 3 [115, 116, 97, 116, 117, 115] 4 [104, 105, 115, 116, 111, 114, 121] 5 [115, 108, 97, 118, 101, 115] 0 (0, 0, [])
def status_Parse_K2 (u1 : List UInt8 → Int → List UInt8 → Int → List UInt8 → Int → List UInt8 → Int → List UInt8 → Int → List UInt8 → Int → Int × Int × List UInt8 → Option (As [.pr (.int .u8) (.pr (.int .u32) .str), .int .i64])) (line : List UInt8) (t9 : Int) (t9_2 : List UInt8) (t9_3 : Int) (t9_4 : List UInt8) (t9_5 : Int) (t9_6 : List UInt8) (t9_7 : Int) (t9_8 : List UInt8) (t9_9 : Int) (t9_10 : List UInt8) (t10 : Int) (t35 : Bool) (t2 : Int × Int × List UInt8) (o : Int × Int × List UInt8) : Option (As [.pr (.int .u8) (.pr (.int .u32) .str), .int .i64]) := status_Parse_m2 u1 line t9 t9_2 t9_3 t9_4 t9_5 t9_6 t9_7 t9_8 t9_9 t9_10 t10 t35 t2 o
def status_Parse_K3 (t2 : Int × Int × List UInt8) : Option (As [.pr (.int .u8) (.pr (.int .u32) .str), .int .i64]) := status_Parse_m3 t2
def status_Parse_K1 (line : List UInt8) (t9 : Int) (t9_2 : List UInt8) (t9_3 : Int) (t9_4 : List UInt8) (t9_5 : Int) (t9_6 : List UInt8) (t9_7 : Int) (t9_8 : List UInt8) (t9_9 : Int) (t9_10 : List UInt8) (t10 : Int) (t2 : Int × Int × List UInt8) : Option (As [.pr (.int .u8) (.pr (.int .u32) .str), .int .i64]) :=
  loopF (fun (self : (List UInt8) × (Int) × (List UInt8) × (Int) × (List UInt8) × (Int) × (List UInt8) × (Int) × (List UInt8) × (Int) × (List UInt8) × (Int) × (Int × Int × List UInt8) → Option (As [.pr (.int .u8) (.pr (.int .u32) .str), .int .i64])) (s : (List UInt8) × (Int) × (List UInt8) × (Int) × (List UInt8) × (Int) × (List UInt8) × (Int) × (List UInt8) × (Int) × (List UInt8) × (Int) × (Int × Int × List UInt8)) => status_Parse_m1 (status_Parse_K2 (fun line t9 t9_2 t9_3 t9_4 t9_5 t9_6 t9_7 t9_8 t9_9 t9_10 t10 t2 => self (line, t9, t9_2, t9_3, t9_4, t9_5, t9_6, t9_7, t9_8, t9_9, t9_10, t10, t2))) (status_Parse_K3) (fun line t9 t9_2 t9_3 t9_4 t9_5 t9_6 t9_7 t9_8 t9_9 t9_10 t10 t2 => self (line, t9, t9_2, t9_3, t9_4, t9_5, t9_6, t9_7, t9_8, t9_9, t9_10, t10, t2)) s.1 s.2.1 s.2.2.1 s.2.2.2.1 s.2.2.2.2.1 s.2.2.2.2.2.1 s.2.2.2.2.2.2.1 s.2.2.2.2.2.2.2.1 s.2.2.2.2.2.2.2.2.1 s.2.2.2.2.2.2.2.2.2.1 s.2.2.2.2.2.2.2.2.2.2.1 s.2.2.2.2.2.2.2.2.2.2.2.1 s.2.2.2.2.2.2.2.2.2.2.2.2) 18446744073709551616 (line, t9, t9_2, t9_3, t9_4, t9_5, t9_6, t9_7, t9_8, t9_9, t9_10, t10, t2)
def status_Parse (x : As [.str]) : Option (As [.pr (.int .u8) (.pr (.int .u32) .str), .int .i64]) := status_Parse_m0 status_Parse_K1 x.1
theorem status_Parse_c2 (J : Orc (As [.pr (.int .u8) (.pr (.int .u32) .str), .int .i64])) (w1 : St → Option (As [.pr (.int .u8) (.pr (.int .u32) .str), .int .i64])) (line : List UInt8) (t9 : Int) (t9_2 : List UInt8) (t9_3 : Int) (t9_4 : List UInt8) (t9_5 : Int) (t9_6 : List UInt8) (t9_7 : Int) (t9_8 : List UInt8) (t9_9 : Int) (t9_10 : List UInt8) (t10 : Int) (t35 : Bool) (t2 : Int × Int × List UInt8) (o : Int × Int × List UInt8) : pfn Tryd.prog status_Parse_e 6 18446744073709551616 (Ev.get status_Parse_h) 8 status_Parse_s J 13519 [w1] (status_Parse_k2 line t9 t9_2 t9_3 t9_4 t9_5 t9_6 t9_7 t9_8 t9_9 t9_10 t10 t35 t2 o) = status_Parse_m2 (fun line t9 t9_2 t9_3 t9_4 t9_5 t9_6 t9_7 t9_8 t9_9 t9_10 t10 t2 => w1 (status_Parse_k1 line t9 t9_2 t9_3 t9_4 t9_5 t9_6 t9_7 t9_8 t9_9 t9_10 t10 t2)) line t9 t9_2 t9_3 t9_4 t9_5 t9_6 t9_7 t9_8 t9_9 t9_10 t10 t35 t2 o := by kernel_rfl
theorem status_Parse_c3 (J : Orc (As [.pr (.int .u8) (.pr (.int .u32) .str), .int .i64])) (t2 : Int × Int × List UInt8) : pfn Tryd.prog status_Parse_e 6 18446744073709551616 (Ev.get status_Parse_h) 8 status_Parse_s J 3 [] (status_Parse_k3 t2) = status_Parse_m3 t2 := by kernel_rfl
theorem status_Parse_c1 (J : Orc (As [.pr (.int .u8) (.pr (.int .u32) .str), .int .i64])) (w1 : St → Option (As [.pr (.int .u8) (.pr (.int .u32) .str), .int .i64])) (line : List UInt8) (t9 : Int) (t9_2 : List UInt8) (t9_3 : Int) (t9_4 : List UInt8) (t9_5 : Int) (t9_6 : List UInt8) (t9_7 : Int) (t9_8 : List UInt8) (t9_9 : Int) (t9_10 : List UInt8) (t10 : Int) (t2 : Int × Int × List UInt8) : pfn Tryd.prog status_Parse_e 6 18446744073709551616 (Ev.get status_Parse_h) 8 status_Parse_s J 26 [w1] (status_Parse_k1 line t9 t9_2 t9_3 t9_4 t9_5 t9_6 t9_7 t9_8 t9_9 t9_10 t10 t2) = status_Parse_m1 (fun line t9 t9_2 t9_3 t9_4 t9_5 t9_6 t9_7 t9_8 t9_9 t9_10 t10 t35 t2 o => J 13519 [w1] (status_Parse_k2 line t9 t9_2 t9_3 t9_4 t9_5 t9_6 t9_7 t9_8 t9_9 t9_10 t10 t35 t2 o)) (fun t2 => J 3 [] (status_Parse_k3 t2)) (fun line t9 t9_2 t9_3 t9_4 t9_5 t9_6 t9_7 t9_8 t9_9 t9_10 t10 t2 => w1 (status_Parse_k1 line t9 t9_2 t9_3 t9_4 t9_5 t9_6 t9_7 t9_8 t9_9 t9_10 t10 t2)) line t9 t9_2 t9_3 t9_4 t9_5 t9_6 t9_7 t9_8 t9_9 t9_10 t10 t2 := by kernel_rfl
theorem status_Parse_c0 (J : Orc (As [.pr (.int .u8) (.pr (.int .u32) .str), .int .i64])) (x : As [.str]) : rfn Tryd.prog status_Parse_e 6 18446744073709551616 (Ev.get status_Parse_h) 8 status_Parse_s J x = status_Parse_m0 (fun line t9 t9_2 t9_3 t9_4 t9_5 t9_6 t9_7 t9_8 t9_9 t9_10 t10 t2 => J 26 [] (status_Parse_k1 line t9 t9_2 t9_3 t9_4 t9_5 t9_6 t9_7 t9_8 t9_9 t9_10 t10 t2)) x.1 := by kernel_rfl
theorem status_Parse_g2 (w1 : St → Option (As [.pr (.int .u8) (.pr (.int .u32) .str), .int .i64])) (line : List UInt8) (t9 : Int) (t9_2 : List UInt8) (t9_3 : Int) (t9_4 : List UInt8) (t9_5 : Int) (t9_6 : List UInt8) (t9_7 : Int) (t9_8 : List UInt8) (t9_9 : Int) (t9_10 : List UInt8) (t10 : Int) (t35 : Bool) (t2 : Int × Int × List UInt8) (o : Int × Int × List UInt8) : jfn Tryd.prog status_Parse_e 6 18446744073709551616 (Ev.get status_Parse_h) 8 status_Parse_s 13519 [w1] (status_Parse_k2 line t9 t9_2 t9_3 t9_4 t9_5 t9_6 t9_7 t9_8 t9_9 t9_10 t10 t35 t2 o) = status_Parse_K2 (fun line t9 t9_2 t9_3 t9_4 t9_5 t9_6 t9_7 t9_8 t9_9 t9_10 t10 t2 => w1 (status_Parse_k1 line t9 t9_2 t9_3 t9_4 t9_5 t9_6 t9_7 t9_8 t9_9 t9_10 t10 t2)) line t9 t9_2 t9_3 t9_4 t9_5 t9_6 t9_7 t9_8 t9_9 t9_10 t10 t35 t2 o := by
  rw [pfn_eq (by decide)]
  rw [status_Parse_c2]
  rfl
theorem status_Parse_g3 (t2 : Int × Int × List UInt8) : jfn Tryd.prog status_Parse_e 6 18446744073709551616 (Ev.get status_Parse_h) 8 status_Parse_s 3 [] (status_Parse_k3 t2) = status_Parse_K3 t2 := by
  rw [pfn_eq (by decide)]
  rw [status_Parse_c3]
  rfl
theorem status_Parse_g1 (line : List UInt8) (t9 : Int) (t9_2 : List UInt8) (t9_3 : Int) (t9_4 : List UInt8) (t9_5 : Int) (t9_6 : List UInt8) (t9_7 : Int) (t9_8 : List UInt8) (t9_9 : Int) (t9_10 : List UInt8) (t10 : Int) (t2 : Int × Int × List UInt8) : jfn Tryd.prog status_Parse_e 6 18446744073709551616 (Ev.get status_Parse_h) 8 status_Parse_s 26 [] (status_Parse_k1 line t9 t9_2 t9_3 t9_4 t9_5 t9_6 t9_7 t9_8 t9_9 t9_10 t10 t2) = status_Parse_K1 line t9 t9_2 t9_3 t9_4 t9_5 t9_6 t9_7 t9_8 t9_9 t9_10 t10 t2 := by
  rw [pfn_eq (by decide)]
  rw [pfn_loop (by kernel_rfl)]
  refine loopF_sim (σ := (List UInt8) × (Int) × (List UInt8) × (Int) × (List UInt8) × (Int) × (List UInt8) × (Int) × (List UInt8) × (Int) × (List UInt8) × (Int) × (Int × Int × List UInt8)) (mk := fun s => status_Parse_k1 s.1 s.2.1 s.2.2.1 s.2.2.2.1 s.2.2.2.2.1 s.2.2.2.2.2.1 s.2.2.2.2.2.2.1 s.2.2.2.2.2.2.2.1 s.2.2.2.2.2.2.2.2.1 s.2.2.2.2.2.2.2.2.2.1 s.2.2.2.2.2.2.2.2.2.2.1 s.2.2.2.2.2.2.2.2.2.2.2.1 s.2.2.2.2.2.2.2.2.2.2.2.2) (fun w1 s => ?_) 18446744073709551616 (line, t9, t9_2, t9_3, t9_4, t9_5, t9_6, t9_7, t9_8, t9_9, t9_10, t10, t2)
  have e2 : (fun line t9 t9_2 t9_3 t9_4 t9_5 t9_6 t9_7 t9_8 t9_9 t9_10 t10 t35 t2 o => (jfn Tryd.prog status_Parse_e 6 18446744073709551616 (Ev.get status_Parse_h) 8 status_Parse_s) 13519 [w1] (status_Parse_k2 line t9 t9_2 t9_3 t9_4 t9_5 t9_6 t9_7 t9_8 t9_9 t9_10 t10 t35 t2 o)) = status_Parse_K2 (fun line t9 t9_2 t9_3 t9_4 t9_5 t9_6 t9_7 t9_8 t9_9 t9_10 t10 t2 => w1 (status_Parse_k1 line t9 t9_2 t9_3 t9_4 t9_5 t9_6 t9_7 t9_8 t9_9 t9_10 t10 t2)) := funext fun line => funext fun t9 => funext fun t9_2 => funext fun t9_3 => funext fun t9_4 => funext fun t9_5 => funext fun t9_6 => funext fun t9_7 => funext fun t9_8 => funext fun t9_9 => funext fun t9_10 => funext fun t10 => funext fun t35 => funext fun t2 => funext fun o => status_Parse_g2 w1 line t9 t9_2 t9_3 t9_4 t9_5 t9_6 t9_7 t9_8 t9_9 t9_10 t10 t35 t2 o
  have e3 : (fun t2 => (jfn Tryd.prog status_Parse_e 6 18446744073709551616 (Ev.get status_Parse_h) 8 status_Parse_s) 3 [] (status_Parse_k3 t2)) = status_Parse_K3 := funext fun t2 => status_Parse_g3 t2
  refine (status_Parse_c1 _ w1 s.1 s.2.1 s.2.2.1 s.2.2.2.1 s.2.2.2.2.1 s.2.2.2.2.2.1 s.2.2.2.2.2.2.1 s.2.2.2.2.2.2.2.1 s.2.2.2.2.2.2.2.2.1 s.2.2.2.2.2.2.2.2.2.1 s.2.2.2.2.2.2.2.2.2.2.1 s.2.2.2.2.2.2.2.2.2.2.2.1 s.2.2.2.2.2.2.2.2.2.2.2.2).trans ?_
  rw [e2, e3]
theorem status_Parse_t (x : As [.str]) : evT Tryd.prog status_Parse_e 6 18446744073709551616 (Ev.get status_Parse_h) 8 status_Parse_s x = status_Parse x := by
  have e1 : (fun line t9 t9_2 t9_3 t9_4 t9_5 t9_6 t9_7 t9_8 t9_9 t9_10 t10 t2 => (jfn Tryd.prog status_Parse_e 6 18446744073709551616 (Ev.get status_Parse_h) 8 status_Parse_s) 26 [] (status_Parse_k1 line t9 t9_2 t9_3 t9_4 t9_5 t9_6 t9_7 t9_8 t9_9 t9_10 t10 t2)) = status_Parse_K1 := funext fun line => funext fun t9 => funext fun t9_2 => funext fun t9_3 => funext fun t9_4 => funext fun t9_5 => funext fun t9_6 => funext fun t9_7 => funext fun t9_8 => funext fun t9_9 => funext fun t9_10 => funext fun t10 => funext fun t2 => status_Parse_g1 line t9 t9_2 t9_3 t9_4 t9_5 t9_6 t9_7 t9_8 t9_9 t9_10 t10 t2
  rw [rfn_eq, status_Parse_c0, e1]
  rfl
theorem status_Parse_ok : CtOk Tryd.prog I0 8 ⟨status_Parse_s, status_Parse⟩ := ct_of_ev (env_cons status_right_ok (env_cons strings_CutPrefix_ok (env_cons status_readText_ok (env_cons status_readNumber_ok (env_cons status_readNothing_ok env_nil))))) status_Parse_t
/-! law28_none -/
@[reducible] def law28_none_s : Sh := ⟨[.d (.str)], [], [.str], [.d (.bool)], [], 0, [.bool]⟩
def law28_none_e : Env := (cts [(8, (⟨status_Parse_s, status_Parse⟩ : Ct))])
def law28_none_h : List (Nat × Hint) := []
def law28_none_m0 (s : List UInt8) : Option (As [.bool]) :=
  Option.bind (status_Parse (s, ())) fun (y : (Int × Int × List UInt8) × Int × Unit) => if eqi y.2.1 280 = true then some (eqi y.1.1 0 && (eqi y.1.2.1 0 && (eqs y.1.2.2 [] && true)), ()) else some (false, ())
def law28_none (x : As [.str]) : Option (As [.bool]) := law28_none_m0 x.1
theorem law28_none_c0 (J : Orc (As [.bool])) (x : As [.str]) : rfn Tryd.prog law28_none_e 6 18446744073709551616 (Ev.get law28_none_h) 10 law28_none_s J x = law28_none_m0 x.1 := by kernel_rfl
theorem law28_none_t (x : As [.str]) : evT Tryd.prog law28_none_e 6 18446744073709551616 (Ev.get law28_none_h) 10 law28_none_s x = law28_none x := by
  rw [rfn_eq, law28_none_c0]
  rfl
theorem law28_none_ok : CtOk Tryd.prog I0 10 ⟨law28_none_s, law28_none⟩ := ct_of_ev (env_cons status_Parse_ok env_nil) law28_none_t
/-! ledger_at_z1 -/
@[reducible] def ledger_at_z1_s : Sh := ⟨[.d LDT0, .d (.int .u32)], [], [.pr (.int .u32) (.pr (.int .u8) (.pr (.sl (.int .u8)) (.int .u8))), .int .u32], [.d (.int .i64)], [], 0, [.int .i64]⟩
def ledger_at_z1_e : Env := (cts [])
def ledger_at_z1_h : List (Nat × Hint) := []
def ledger_at_z1_m0 (j : Int × Int × List Int × Int) (tx : Int) : Option (As [.int .i64]) :=
  if lt j.1 tx = true then some (-1, ()) else if gt j.1 tx = true then some (1, ()) else some (0, ())
def ledger_at_z1 (x : As [.pr (.int .u32) (.pr (.int .u8) (.pr (.sl (.int .u8)) (.int .u8))), .int .u32]) : Option (As [.int .i64]) := ledger_at_z1_m0 x.1 x.2.1
theorem ledger_at_z1_c0 (J : Orc (As [.int .i64])) (x : As [.pr (.int .u32) (.pr (.int .u8) (.pr (.sl (.int .u8)) (.int .u8))), .int .u32]) : rfn Tryd.prog ledger_at_z1_e 6 18446744073709551616 (Ev.get ledger_at_z1_h) 122 ledger_at_z1_s J x = ledger_at_z1_m0 x.1 x.2.1 := by kernel_rfl
theorem ledger_at_z1_t (x : As [.pr (.int .u32) (.pr (.int .u8) (.pr (.sl (.int .u8)) (.int .u8))), .int .u32]) : evT Tryd.prog ledger_at_z1_e 6 18446744073709551616 (Ev.get ledger_at_z1_h) 122 ledger_at_z1_s x = ledger_at_z1 x := by
  rw [rfn_eq, ledger_at_z1_c0]
  rfl
theorem ledger_at_z1_ok : CtOk Tryd.prog I0 122 ⟨ledger_at_z1_s, ledger_at_z1⟩ := ct_of_ev env_nil ledger_at_z1_t
/-! slices_BinarySearchFunc_Guint32 -/
@[reducible] def slices_BinarySearchFunc_Guint32_s : Sh := ⟨[.d (.sl LDT0), .d (.int .u32), .fn (.func 122) [] []], [], [.sl LDT0, .int .u32], [.d (.int .i64), .d (.bool)], [], 0, [.int .i64, .bool]⟩
def slices_BinarySearchFunc_Guint32_e : Env := (cts [(122, (⟨ledger_at_z1_s, ledger_at_z1⟩ : Ct))])
def slices_BinarySearchFunc_Guint32_h : List (Nat × Hint) := [(15, ⟨[], [0, 1, 2, 8, 9, 40, 41, 42, 43, 44, 45, 46, 47]⟩), (60, ⟨[], [0, 1, 2, 8, 9, 10, 40, 41, 42, 43, 44, 45, 46, 47]⟩)]
def slices_BinarySearchFunc_Guint32_k1 (x : List LDT1) (target : Int) (n : Int) (i : Int) (j : Int) : St := { fr := [(0, .d (.sl LDT0) x), (1, .d (.int .u32) target), (2, .fn (.func 122) [] []), (8, .d (.int .i64) n), (9, .d (.int .i64) i), (10, .d (.int .i64) j)], nt := 49, up := [], own := [], nx := 0, log := [], ln := 0 }
def slices_BinarySearchFunc_Guint32_k2 (x : List LDT1) (target : Int) (n : Int) (i : Int) : St := { fr := [(0, .d (.sl LDT0) x), (1, .d (.int .u32) target), (2, .fn (.func 122) [] []), (8, .d (.int .i64) n), (9, .d (.int .i64) i)], nt := 49, up := [], own := [], nx := 0, log := [], ln := 0 }
def slices_BinarySearchFunc_Guint32_m1 (j2 : List LDT1 → Int → Int → Int → Option (As [.int .i64, .bool])) (self1 : List LDT1 → Int → Int → Int → Int → Option (As [.int .i64, .bool])) (x : List LDT1) (target : Int) (n : Int) (i : Int) (j : Int) : Option (As [.int .i64, .bool]) :=
  if lt i j = true then Option.bind (at? x (cvt .i64 (Sx.shr .u64 (cvt .u64 (add .i64 i j)) 1))) fun (y : Int × Int × List Int × Int) => Option.bind (ledger_at_z1 (y, target, ())) fun (y : Int × Unit) => if lt y.1 0 = true then self1 x target n (add .i64 (cvt .i64 (Sx.shr .u64 (cvt .u64 (add .i64 i j)) 1)) 1) j else self1 x target n i (cvt .i64 (Sx.shr .u64 (cvt .u64 (add .i64 i j)) 1)) else j2 x target n i
def slices_BinarySearchFunc_Guint32_m2 (x : List LDT1) (target : Int) (n : Int) (i : Int) : Option (As [.int .i64, .bool]) :=
  if lt i n = true then Option.bind (at? x i) fun (y : Int × Int × List Int × Int) => Option.bind (ledger_at_z1 (y, target, ())) fun (y : Int × Unit) => some (i, eqi y.1 0, ()) else some (i, false, ())
def slices_BinarySearchFunc_Guint32_m0 (j1 : List LDT1 → Int → Int → Int → Int → Option (As [.int .i64, .bool])) (x : List LDT1) (target : Int) : Option (As [.int .i64, .bool]) :=
  j1 x target (Int.ofNat (List.length x)) 0 (Int.ofNat (List.length x))
def slices_BinarySearchFunc_Guint32_K2 (x : List LDT1) (target : Int) (n : Int) (i : Int) : Option (As [.int .i64, .bool]) := slices_BinarySearchFunc_Guint32_m2 x target n i
def slices_BinarySearchFunc_Guint32_K1 (x : List LDT1) (target : Int) (n : Int) (i : Int) (j : Int) : Option (As [.int .i64, .bool]) :=
  loopF (fun (self : (List LDT1) × (Int) × (Int) × (Int) × (Int) → Option (As [.int .i64, .bool])) (s : (List LDT1) × (Int) × (Int) × (Int) × (Int)) => slices_BinarySearchFunc_Guint32_m1 (slices_BinarySearchFunc_Guint32_K2) (fun x target n i j => self (x, target, n, i, j)) s.1 s.2.1 s.2.2.1 s.2.2.2.1 s.2.2.2.2) 18446744073709551616 (x, target, n, i, j)
def slices_BinarySearchFunc_Guint32 (x : As [.sl LDT0, .int .u32]) : Option (As [.int .i64, .bool]) := slices_BinarySearchFunc_Guint32_m0 slices_BinarySearchFunc_Guint32_K1 x.1 x.2.1
theorem slices_BinarySearchFunc_Guint32_c2 (J : Orc (As [.int .i64, .bool])) (x : List LDT1) (target : Int) (n : Int) (i : Int) : pfn Tryd.prog slices_BinarySearchFunc_Guint32_e 6 18446744073709551616 (Ev.get slices_BinarySearchFunc_Guint32_h) 121 slices_BinarySearchFunc_Guint32_s J 15 [] (slices_BinarySearchFunc_Guint32_k2 x target n i) = slices_BinarySearchFunc_Guint32_m2 x target n i := by kernel_rfl
theorem slices_BinarySearchFunc_Guint32_c1 (J : Orc (As [.int .i64, .bool])) (w1 : St → Option (As [.int .i64, .bool])) (x : List LDT1) (target : Int) (n : Int) (i : Int) (j : Int) : pfn Tryd.prog slices_BinarySearchFunc_Guint32_e 6 18446744073709551616 (Ev.get slices_BinarySearchFunc_Guint32_h) 121 slices_BinarySearchFunc_Guint32_s J 60 [w1] (slices_BinarySearchFunc_Guint32_k1 x target n i j) = slices_BinarySearchFunc_Guint32_m1 (fun x target n i => J 15 [] (slices_BinarySearchFunc_Guint32_k2 x target n i)) (fun x target n i j => w1 (slices_BinarySearchFunc_Guint32_k1 x target n i j)) x target n i j := by kernel_rfl
theorem slices_BinarySearchFunc_Guint32_c0 (J : Orc (As [.int .i64, .bool])) (x : As [.sl LDT0, .int .u32]) : rfn Tryd.prog slices_BinarySearchFunc_Guint32_e 6 18446744073709551616 (Ev.get slices_BinarySearchFunc_Guint32_h) 121 slices_BinarySearchFunc_Guint32_s J x = slices_BinarySearchFunc_Guint32_m0 (fun x target n i j => J 60 [] (slices_BinarySearchFunc_Guint32_k1 x target n i j)) x.1 x.2.1 := by kernel_rfl
theorem slices_BinarySearchFunc_Guint32_g2 (x : List LDT1) (target : Int) (n : Int) (i : Int) : jfn Tryd.prog slices_BinarySearchFunc_Guint32_e 6 18446744073709551616 (Ev.get slices_BinarySearchFunc_Guint32_h) 121 slices_BinarySearchFunc_Guint32_s 15 [] (slices_BinarySearchFunc_Guint32_k2 x target n i) = slices_BinarySearchFunc_Guint32_K2 x target n i := by
  rw [pfn_eq (by decide)]
  rw [slices_BinarySearchFunc_Guint32_c2]
  rfl
theorem slices_BinarySearchFunc_Guint32_g1 (x : List LDT1) (target : Int) (n : Int) (i : Int) (j : Int) : jfn Tryd.prog slices_BinarySearchFunc_Guint32_e 6 18446744073709551616 (Ev.get slices_BinarySearchFunc_Guint32_h) 121 slices_BinarySearchFunc_Guint32_s 60 [] (slices_BinarySearchFunc_Guint32_k1 x target n i j) = slices_BinarySearchFunc_Guint32_K1 x target n i j := by
  rw [pfn_eq (by decide)]
  rw [pfn_loop (by kernel_rfl)]
  refine loopF_sim (σ := (List LDT1) × (Int) × (Int) × (Int) × (Int)) (mk := fun s => slices_BinarySearchFunc_Guint32_k1 s.1 s.2.1 s.2.2.1 s.2.2.2.1 s.2.2.2.2) (fun w1 s => ?_) 18446744073709551616 (x, target, n, i, j)
  have e2 : (fun x target n i => (jfn Tryd.prog slices_BinarySearchFunc_Guint32_e 6 18446744073709551616 (Ev.get slices_BinarySearchFunc_Guint32_h) 121 slices_BinarySearchFunc_Guint32_s) 15 [] (slices_BinarySearchFunc_Guint32_k2 x target n i)) = slices_BinarySearchFunc_Guint32_K2 := funext fun x => funext fun target => funext fun n => funext fun i => slices_BinarySearchFunc_Guint32_g2 x target n i
  refine (slices_BinarySearchFunc_Guint32_c1 _ w1 s.1 s.2.1 s.2.2.1 s.2.2.2.1 s.2.2.2.2).trans ?_
  rw [e2]
theorem slices_BinarySearchFunc_Guint32_t (x : As [.sl LDT0, .int .u32]) : evT Tryd.prog slices_BinarySearchFunc_Guint32_e 6 18446744073709551616 (Ev.get slices_BinarySearchFunc_Guint32_h) 121 slices_BinarySearchFunc_Guint32_s x = slices_BinarySearchFunc_Guint32 x := by
  have e1 : (fun x target n i j => (jfn Tryd.prog slices_BinarySearchFunc_Guint32_e 6 18446744073709551616 (Ev.get slices_BinarySearchFunc_Guint32_h) 121 slices_BinarySearchFunc_Guint32_s) 60 [] (slices_BinarySearchFunc_Guint32_k1 x target n i j)) = slices_BinarySearchFunc_Guint32_K1 := funext fun x => funext fun target => funext fun n => funext fun i => funext fun j => slices_BinarySearchFunc_Guint32_g1 x target n i j
  rw [rfn_eq, slices_BinarySearchFunc_Guint32_c0, e1]
  rfl
theorem slices_BinarySearchFunc_Guint32_ok : CtOk Tryd.prog I0 121 ⟨slices_BinarySearchFunc_Guint32_s, slices_BinarySearchFunc_Guint32⟩ := ct_of_ev (env_cons ledger_at_z1_ok env_nil) slices_BinarySearchFunc_Guint32_t
/-! ledger_at -/
@[reducible] def ledger_at_s : Sh := ⟨[.d (.sl LDT0), .d (.int .u32)], [], [.sl LDT0, .int .u32], [.d (.int .i64)], [], 0, [.int .i64]⟩
def ledger_at_e : Env := (cts [(121, (⟨slices_BinarySearchFunc_Guint32_s, slices_BinarySearchFunc_Guint32⟩ : Ct)), (122, (⟨ledger_at_z1_s, ledger_at_z1⟩ : Ct))])
def ledger_at_h : List (Nat × Hint) := []
def ledger_at_m0 (l : List LDT1) (tx : Int) : Option (As [.int .i64]) :=
  Option.bind (slices_BinarySearchFunc_Guint32 (l, tx, ())) fun (y : Int × Bool × Unit) => some (y.1, ())
def ledger_at (x : As [.sl LDT0, .int .u32]) : Option (As [.int .i64]) := ledger_at_m0 x.1 x.2.1
theorem ledger_at_c0 (J : Orc (As [.int .i64])) (x : As [.sl LDT0, .int .u32]) : rfn Tryd.prog ledger_at_e 6 18446744073709551616 (Ev.get ledger_at_h) 105 ledger_at_s J x = ledger_at_m0 x.1 x.2.1 := by kernel_rfl
theorem ledger_at_t (x : As [.sl LDT0, .int .u32]) : evT Tryd.prog ledger_at_e 6 18446744073709551616 (Ev.get ledger_at_h) 105 ledger_at_s x = ledger_at x := by
  rw [rfn_eq, ledger_at_c0]
  rfl
theorem ledger_at_ok : CtOk Tryd.prog I0 105 ⟨ledger_at_s, ledger_at⟩ := ct_of_ev (env_cons slices_BinarySearchFunc_Guint32_ok (env_cons ledger_at_z1_ok env_nil)) ledger_at_t
/-! ledger_Find -/
@[reducible] def ledger_Find_s : Sh := ⟨[.d (.sl LDT0), .d (.int .u32)], [], [.sl LDT0, .int .u32], [.d (.int .i64), .d (.bool)], [], 0, [.int .i64, .bool]⟩
def ledger_Find_e : Env := (cts [(105, (⟨ledger_at_s, ledger_at⟩ : Ct))])
def ledger_Find_h : List (Nat × Hint) := [(14, ⟨[], [6, 22]⟩)]
def ledger_Find_k1 (i : Int) (t22 : Bool) : St := { fr := [(6, .d (.int .i64) i), (22, .d .bool t22)], nt := 24, up := [], own := [], nx := 0, log := [], ln := 0 }
def ledger_Find_m1 (i : Int) (t22 : Bool) : Option (As [.int .i64, .bool]) :=
  if t22 = true then some (0, false, ()) else some (i, true, ())
def ledger_Find_m0 (j1 : Int → Bool → Option (As [.int .i64, .bool])) (l : List LDT1) (tx : Int) : Option (As [.int .i64, .bool]) :=
  Option.bind (ledger_at (l, tx, ())) fun (y : Int × Unit) => if ge y.1 (Int.ofNat (List.length l)) = true then j1 y.1 true else Option.bind (at? l y.1) fun (y_1 : Int × Int × List Int × Int) => j1 y.1 (nei y_1.1 tx)
def ledger_Find_K1 (i : Int) (t22 : Bool) : Option (As [.int .i64, .bool]) := ledger_Find_m1 i t22
def ledger_Find (x : As [.sl LDT0, .int .u32]) : Option (As [.int .i64, .bool]) := ledger_Find_m0 ledger_Find_K1 x.1 x.2.1
theorem ledger_Find_c1 (J : Orc (As [.int .i64, .bool])) (i : Int) (t22 : Bool) : pfn Tryd.prog ledger_Find_e 6 18446744073709551616 (Ev.get ledger_Find_h) 81 ledger_Find_s J 14 [] (ledger_Find_k1 i t22) = ledger_Find_m1 i t22 := by kernel_rfl
theorem ledger_Find_c0 (J : Orc (As [.int .i64, .bool])) (x : As [.sl LDT0, .int .u32]) : rfn Tryd.prog ledger_Find_e 6 18446744073709551616 (Ev.get ledger_Find_h) 81 ledger_Find_s J x = ledger_Find_m0 (fun i t22 => J 14 [] (ledger_Find_k1 i t22)) x.1 x.2.1 := by kernel_rfl
theorem ledger_Find_g1 (i : Int) (t22 : Bool) : jfn Tryd.prog ledger_Find_e 6 18446744073709551616 (Ev.get ledger_Find_h) 81 ledger_Find_s 14 [] (ledger_Find_k1 i t22) = ledger_Find_K1 i t22 := by
  rw [pfn_eq (by decide)]
  rw [ledger_Find_c1]
  rfl
theorem ledger_Find_t (x : As [.sl LDT0, .int .u32]) : evT Tryd.prog ledger_Find_e 6 18446744073709551616 (Ev.get ledger_Find_h) 81 ledger_Find_s x = ledger_Find x := by
  have e1 : (fun i t22 => (jfn Tryd.prog ledger_Find_e 6 18446744073709551616 (Ev.get ledger_Find_h) 81 ledger_Find_s) 14 [] (ledger_Find_k1 i t22)) = ledger_Find_K1 := funext fun i => funext fun t22 => ledger_Find_g1 i t22
  rw [rfn_eq, ledger_Find_c0, e1]
  rfl
theorem ledger_Find_ok : CtOk Tryd.prog I0 81 ⟨ledger_Find_s, ledger_Find⟩ := ct_of_ev (env_cons ledger_at_ok env_nil) ledger_Find_t
/-! slices_Index_Guint32 -/
@[reducible] def slices_Index_Guint32_s : Sh := ⟨[.d (.sl (.int .u32)), .d (.int .u32)], [], [.sl (.int .u32), .int .u32], [.d (.int .i64)], [], 0, [.int .i64]⟩
def slices_Index_Guint32_e : Env := (cts [])
def slices_Index_Guint32_h : List (Nat × Hint) := [(26, ⟨[], [0, 1, 7, 8]⟩)]
def slices_Index_Guint32_k1 (s : List Int) (v : Int) (t7 : Int) (t8 : Int) : St := { fr := [(0, .d (.sl (.int .u32)) s), (1, .d (.int .u32) v), (7, .d (.int .i64) t7), (8, .d (.int .i64) t8)], nt := 19, up := [], own := [], nx := 0, log := [], ln := 0 }
def slices_Index_Guint32_m1 (self1 : List Int → Int → Int → Int → Option (As [.int .i64])) (s : List Int) (v : Int) (t7 : Int) (t8 : Int) : Option (As [.int .i64]) :=
  if lt t8 t7 = true then Option.bind (at? s t8) fun (y : Int) => if eqi v y = true then some (t8, ()) else self1 s v t7 (add .i64 t8 1) else some (-1, ())
def slices_Index_Guint32_m0 (j1 : List Int → Int → Int → Int → Option (As [.int .i64])) (s : List Int) (v : Int) : Option (As [.int .i64]) :=
  j1 s v (Int.ofNat (List.length s)) 0
def slices_Index_Guint32_K1 (s : List Int) (v : Int) (t7 : Int) (t8 : Int) : Option (As [.int .i64]) :=
  loopF (fun (self : (List Int) × (Int) × (Int) × (Int) → Option (As [.int .i64])) (s : (List Int) × (Int) × (Int) × (Int)) => slices_Index_Guint32_m1 (fun s v t7 t8 => self (s, v, t7, t8)) s.1 s.2.1 s.2.2.1 s.2.2.2) 18446744073709551616 (s, v, t7, t8)
def slices_Index_Guint32 (x : As [.sl (.int .u32), .int .u32]) : Option (As [.int .i64]) := slices_Index_Guint32_m0 slices_Index_Guint32_K1 x.1 x.2.1
theorem slices_Index_Guint32_c1 (J : Orc (As [.int .i64])) (w1 : St → Option (As [.int .i64])) (s : List Int) (v : Int) (t7 : Int) (t8 : Int) : pfn Tryd.prog slices_Index_Guint32_e 6 18446744073709551616 (Ev.get slices_Index_Guint32_h) 106 slices_Index_Guint32_s J 26 [w1] (slices_Index_Guint32_k1 s v t7 t8) = slices_Index_Guint32_m1 (fun s v t7 t8 => w1 (slices_Index_Guint32_k1 s v t7 t8)) s v t7 t8 := by kernel_rfl
theorem slices_Index_Guint32_c0 (J : Orc (As [.int .i64])) (x : As [.sl (.int .u32), .int .u32]) : rfn Tryd.prog slices_Index_Guint32_e 6 18446744073709551616 (Ev.get slices_Index_Guint32_h) 106 slices_Index_Guint32_s J x = slices_Index_Guint32_m0 (fun s v t7 t8 => J 26 [] (slices_Index_Guint32_k1 s v t7 t8)) x.1 x.2.1 := by kernel_rfl
theorem slices_Index_Guint32_g1 (s : List Int) (v : Int) (t7 : Int) (t8 : Int) : jfn Tryd.prog slices_Index_Guint32_e 6 18446744073709551616 (Ev.get slices_Index_Guint32_h) 106 slices_Index_Guint32_s 26 [] (slices_Index_Guint32_k1 s v t7 t8) = slices_Index_Guint32_K1 s v t7 t8 := by
  rw [pfn_eq (by decide)]
  rw [pfn_loop (by kernel_rfl)]
  refine loopF_sim (σ := (List Int) × (Int) × (Int) × (Int)) (mk := fun s => slices_Index_Guint32_k1 s.1 s.2.1 s.2.2.1 s.2.2.2) (fun w1 s => ?_) 18446744073709551616 (s, v, t7, t8)
  refine (slices_Index_Guint32_c1 _ w1 s.1 s.2.1 s.2.2.1 s.2.2.2).trans ?_
  rfl
theorem slices_Index_Guint32_t (x : As [.sl (.int .u32), .int .u32]) : evT Tryd.prog slices_Index_Guint32_e 6 18446744073709551616 (Ev.get slices_Index_Guint32_h) 106 slices_Index_Guint32_s x = slices_Index_Guint32 x := by
  have e1 : (fun s v t7 t8 => (jfn Tryd.prog slices_Index_Guint32_e 6 18446744073709551616 (Ev.get slices_Index_Guint32_h) 106 slices_Index_Guint32_s) 26 [] (slices_Index_Guint32_k1 s v t7 t8)) = slices_Index_Guint32_K1 := funext fun s => funext fun v => funext fun t7 => funext fun t8 => slices_Index_Guint32_g1 s v t7 t8
  rw [rfn_eq, slices_Index_Guint32_c0, e1]
  rfl
theorem slices_Index_Guint32_ok : CtOk Tryd.prog I0 106 ⟨slices_Index_Guint32_s, slices_Index_Guint32⟩ := ct_of_ev env_nil slices_Index_Guint32_t
/-! slices_Contains_Guint32 -/
@[reducible] def slices_Contains_Guint32_s : Sh := ⟨[.d (.sl (.int .u32)), .d (.int .u32)], [], [.sl (.int .u32), .int .u32], [.d (.bool)], [], 0, [.bool]⟩
def slices_Contains_Guint32_e : Env := (cts [(106, (⟨slices_Index_Guint32_s, slices_Index_Guint32⟩ : Ct))])
def slices_Contains_Guint32_h : List (Nat × Hint) := []
def slices_Contains_Guint32_m0 (s : List Int) (v : Int) : Option (As [.bool]) :=
  Option.bind (slices_Index_Guint32 (s, v, ())) fun (y : Int × Unit) => some (ge y.1 0, ())
def slices_Contains_Guint32 (x : As [.sl (.int .u32), .int .u32]) : Option (As [.bool]) := slices_Contains_Guint32_m0 x.1 x.2.1
theorem slices_Contains_Guint32_c0 (J : Orc (As [.bool])) (x : As [.sl (.int .u32), .int .u32]) : rfn Tryd.prog slices_Contains_Guint32_e 6 18446744073709551616 (Ev.get slices_Contains_Guint32_h) 84 slices_Contains_Guint32_s J x = slices_Contains_Guint32_m0 x.1 x.2.1 := by kernel_rfl
theorem slices_Contains_Guint32_t (x : As [.sl (.int .u32), .int .u32]) : evT Tryd.prog slices_Contains_Guint32_e 6 18446744073709551616 (Ev.get slices_Contains_Guint32_h) 84 slices_Contains_Guint32_s x = slices_Contains_Guint32 x := by
  rw [rfn_eq, slices_Contains_Guint32_c0]
  rfl
theorem slices_Contains_Guint32_ok : CtOk Tryd.prog I0 84 ⟨slices_Contains_Guint32_s, slices_Contains_Guint32⟩ := ct_of_ev (env_cons slices_Index_Guint32_ok env_nil) slices_Contains_Guint32_t
/-! status_Tell -/
@[reducible] def status_Tell_s : Sh := ⟨[.d (.sl LDT0), .d (.sl (.int .u32)), .d (.int .u32)], [], [.sl LDT0, .sl (.int .u32), .int .u32], [.d (.str)], [], 0, [.str]⟩
def status_Tell_e : Env := (cts [(81, (⟨ledger_Find_s, ledger_Find⟩ : Ct)), (84, (⟨slices_Contains_Guint32_s, slices_Contains_Guint32⟩ : Ct))])
def status_Tell_h : List (Nat × Hint) := []
def status_Tell_m0 (l : List LDT1) (waits : List Int) (tx : Int) : Option (As [.str]) :=
  Option.bind (ledger_Find (l, tx, ())) fun (y : Int × Bool × Unit) => if (!y.2.1) = true then some ([117, 110, 107, 110, 111, 119, 110], ()) else Option.bind (at? l y.1) fun (y : Int × Int × List Int × Int) => if eqi y.2.2.2 1 = true then Option.bind (slices_Contains_Guint32 (waits, y.1, ())) fun (y_1 : Bool × Unit) => if y_1.1 = true then some ([119, 97, 105, 116, 105, 110, 103], ()) else if ge (cvt .i64 y.2.2.2) 6 = true then some ([], ()) else need (lt y.2.2.2 6) (Option.bind (at? [[], [114, 117, 110, 110, 105, 110, 103], [99, 111, 109, 109, 105, 116, 116, 101, 100], [97, 98, 111, 114, 116, 101, 100], [99, 111, 109, 109, 105, 116, 116, 101, 100, 32, 100, 111, 110, 101], [97, 98, 111, 114, 116, 101, 100, 32, 100, 111, 110, 101]] y.2.2.2) fun (x : List UInt8) => Option.bind (at? [[], [114, 117, 110, 110, 105, 110, 103], [99, 111, 109, 109, 105, 116, 116, 101, 100], [97, 98, 111, 114, 116, 101, 100], [99, 111, 109, 109, 105, 116, 116, 101, 100, 32, 100, 111, 110, 101], [97, 98, 111, 114, 116, 101, 100, 32, 100, 111, 110, 101]] y.2.2.2) fun (y : List UInt8) => some (y, ())) else if ge (cvt .i64 y.2.2.2) 6 = true then some ([], ()) else need (lt y.2.2.2 6) (Option.bind (at? [[], [114, 117, 110, 110, 105, 110, 103], [99, 111, 109, 109, 105, 116, 116, 101, 100], [97, 98, 111, 114, 116, 101, 100], [99, 111, 109, 109, 105, 116, 116, 101, 100, 32, 100, 111, 110, 101], [97, 98, 111, 114, 116, 101, 100, 32, 100, 111, 110, 101]] y.2.2.2) fun (x : List UInt8) => Option.bind (at? [[], [114, 117, 110, 110, 105, 110, 103], [99, 111, 109, 109, 105, 116, 116, 101, 100], [97, 98, 111, 114, 116, 101, 100], [99, 111, 109, 109, 105, 116, 116, 101, 100, 32, 100, 111, 110, 101], [97, 98, 111, 114, 116, 101, 100, 32, 100, 111, 110, 101]] y.2.2.2) fun (y : List UInt8) => some (y, ()))
def status_Tell (x : As [.sl LDT0, .sl (.int .u32), .int .u32]) : Option (As [.str]) := status_Tell_m0 x.1 x.2.1 x.2.2.1
theorem status_Tell_c0 (J : Orc (As [.str])) (x : As [.sl LDT0, .sl (.int .u32), .int .u32]) : rfn Tryd.prog status_Tell_e 6 18446744073709551616 (Ev.get status_Tell_h) 42 status_Tell_s J x = status_Tell_m0 x.1 x.2.1 x.2.2.1 := by kernel_rfl
theorem status_Tell_t (x : As [.sl LDT0, .sl (.int .u32), .int .u32]) : evT Tryd.prog status_Tell_e 6 18446744073709551616 (Ev.get status_Tell_h) 42 status_Tell_s x = status_Tell x := by
  rw [rfn_eq, status_Tell_c0]
  rfl
theorem status_Tell_ok : CtOk Tryd.prog I0 42 ⟨status_Tell_s, status_Tell⟩ := ct_of_ev (env_cons ledger_Find_ok (env_cons slices_Contains_Guint32_ok env_nil)) status_Tell_t
/-! status_Refused -/
@[reducible] def status_Refused_s : Sh := ⟨[.d (.pr (.int .i64) (.int .i64))], [], [.pr (.int .i64) (.int .i64)], [.d (.str)], [], 0, [.str]⟩
def status_Refused_e : Env := (cts [(85, (⟨strconv_Itoa_s, strconv_Itoa⟩ : Ct))])
def status_Refused_h : List (Nat × Hint) := []
def status_Refused_m0 (f : Int × Int) : Option (As [.str]) :=
  Option.bind (strconv_Itoa (f.1, ())) fun (y : List UInt8 × Unit) => need (small (8 + List.length y.1)) (if gt f.2 0 = true then Option.bind (strconv_Itoa (f.2, ())) fun (y_1 : List UInt8 × Unit) => need (small (6 + List.length y_1.1)) (need (small (Nat.succ (Nat.succ (Nat.succ (Nat.succ (Nat.succ (Nat.succ (Nat.succ (Nat.succ (List.length y.1)))))))) + Nat.succ (Nat.succ (Nat.succ (Nat.succ (Nat.succ (Nat.succ (List.length y_1.1)))))))) (some (114 :: 101 :: 102 :: 117 :: 115 :: 101 :: 100 :: 32 :: (y.1 ++ (32 :: 108 :: 105 :: 110 :: 101 :: 32 :: y_1.1)), ()))) else some (114 :: 101 :: 102 :: 117 :: 115 :: 101 :: 100 :: 32 :: y.1, ()))
def status_Refused (x : As [.pr (.int .i64) (.int .i64)]) : Option (As [.str]) := status_Refused_m0 x.1
theorem status_Refused_c0 (J : Orc (As [.str])) (x : As [.pr (.int .i64) (.int .i64)]) : rfn Tryd.prog status_Refused_e 6 18446744073709551616 (Ev.get status_Refused_h) 43 status_Refused_s J x = status_Refused_m0 x.1 := by kernel_rfl
theorem status_Refused_t (x : As [.pr (.int .i64) (.int .i64)]) : evT Tryd.prog status_Refused_e 6 18446744073709551616 (Ev.get status_Refused_h) 43 status_Refused_s x = status_Refused x := by
  rw [rfn_eq, status_Refused_c0]
  rfl
theorem status_Refused_ok : CtOk Tryd.prog I0 43 ⟨status_Refused_s, status_Refused⟩ := ct_of_ev (env_cons strconv_Itoa_ok env_nil) status_Refused_t
/-! law28_awake -/
@[reducible] def law28_awake_s : Sh := ⟨[], [], [], [.d (.bool)], [], 0, [.bool]⟩
def law28_awake_e : Env := (cts [(8, (⟨status_Parse_s, status_Parse⟩ : Ct)), (10, (⟨law28_none_s, law28_none⟩ : Ct)), (42, (⟨status_Tell_s, status_Tell⟩ : Ct)), (43, (⟨status_Refused_s, status_Refused⟩ : Ct))])
def law28_awake_h : List (Nat × Hint) := []
def law28_awake_m0 : Option (As [.bool]) :=
  Option.bind (status_Parse ([115, 117, 98, 109, 105, 116, 32, 114, 101, 99, 105, 112, 101, 32, 97, 92, 110, 115, 108, 97, 118, 101, 32, 98, 92, 110, 101, 110, 100], ())) fun (y : (Int × Int × List UInt8) × Int × Unit) => Option.bind (status_Parse ([99, 97, 110, 99, 101, 108, 32, 55], ())) fun (y_1 : (Int × Int × List UInt8) × Int × Unit) => if eqi y.2.1 0 = true then if (eqi y.1.1 1 && (eqi y.1.2.1 0 && (eqs y.1.2.2 [114, 101, 99, 105, 112, 101, 32, 97, 10, 115, 108, 97, 118, 101, 32, 98, 10, 101, 110, 100] && true))) = true then if eqi y_1.2.1 0 = true then if (eqi y_1.1.1 2 && (eqi y_1.1.2.1 7 && (eqs y_1.1.2.2 [] && true))) = true then Option.bind (law28_none ([99, 97, 110, 99, 101, 108, 32, 48, 55], ())) fun (y : Bool × Unit) => if y.1 = true then Option.bind (law28_none ([99, 97, 110, 99, 101, 108], ())) fun (y : Bool × Unit) => if y.1 = true then Option.bind (law28_none ([115, 116, 97, 116, 117, 115, 32, 48], ())) fun (y : Bool × Unit) => if y.1 = true then Option.bind (law28_none ([104, 105, 115, 116, 111, 114, 121, 32], ())) fun (y : Bool × Unit) => if y.1 = true then Option.bind (law28_none ([115, 117, 98, 109, 105, 116], ())) fun (y : Bool × Unit) => if y.1 = true then Option.bind (status_Tell ([(5, 1, [], 1), (7, 1, [], 2)], [7], 5, ())) fun (y : List UInt8 × Unit) => if eqs y.1 [114, 117, 110, 110, 105, 110, 103] = true then Option.bind (status_Tell ([(5, 1, [], 1), (7, 1, [], 2)], [7], 7, ())) fun (y : List UInt8 × Unit) => if eqs y.1 [99, 111, 109, 109, 105, 116, 116, 101, 100] = true then Option.bind (status_Tell ([(5, 1, [], 1), (7, 1, [], 2)], [], 9, ())) fun (y : List UInt8 × Unit) => if eqs y.1 [117, 110, 107, 110, 111, 119, 110] = true then Option.bind (status_Refused ((140, 3), ())) fun (y : List UInt8 × Unit) => some (eqs y.1 [114, 101, 102, 117, 115, 101, 100, 32, 49, 52, 48, 32, 108, 105, 110, 101, 32, 51], ()) else some (false, ()) else some (false, ()) else some (false, ()) else some (false, ()) else some (false, ()) else some (false, ()) else some (false, ()) else some (false, ()) else some (false, ()) else some (false, ()) else some (false, ()) else some (false, ())
def law28_awake (x : As []) : Option (As [.bool]) := law28_awake_m0
theorem law28_awake_c0 (J : Orc (As [.bool])) (x : As []) : rfn Tryd.prog law28_awake_e 6 18446744073709551616 (Ev.get law28_awake_h) 11 law28_awake_s J x = law28_awake_m0 := by kernel_rfl
theorem law28_awake_t (x : As []) : evT Tryd.prog law28_awake_e 6 18446744073709551616 (Ev.get law28_awake_h) 11 law28_awake_s x = law28_awake x := by
  rw [rfn_eq, law28_awake_c0]
  rfl
theorem law28_awake_ok : CtOk Tryd.prog I0 11 ⟨law28_awake_s, law28_awake⟩ := ct_of_ev (env_cons status_Parse_ok (env_cons law28_none_ok (env_cons status_Tell_ok (env_cons status_Refused_ok env_nil)))) law28_awake_t
/-! law28_StatusWrong -/
@[reducible] def law28_StatusWrong_s : Sh := ⟨[.d (.int .u8), .d (.int .u32), .d (.int .u8), .d (.int .u64)], [], [.int .u8, .int .u32, .int .u8, .int .u64], [.d (.bool)], [], 0, [.bool]⟩
def law28_StatusWrong_e : Env := (cts [(7, (⟨status_Print_s, status_Print⟩ : Ct)), (8, (⟨status_Parse_s, status_Parse⟩ : Ct)), (9, (⟨strconv_FormatUint_s, strconv_FormatUint⟩ : Ct)), (10, (⟨law28_none_s, law28_none⟩ : Ct)), (11, (⟨law28_awake_s, law28_awake⟩ : Ct))])
def law28_StatusWrong_h : List (Nat × Hint) := [(7, ⟨[], [2, 3, 9, 48, 49, 50, 51, 52, 53, 54, 55, 56, 57, 58, 59, 60, 61, 62, 63, 64, 65, 80, 81, 85, 86, 87, 88, 89, 90, 91, 92, 93]⟩), (8186, ⟨[], [95, 96, 97]⟩), (1022, ⟨[], [94]⟩), (253, ⟨[], [3, 66, 80, 81, 85, 86, 87, 88, 89, 90, 91, 92, 93]⟩)]
def law28_StatusWrong_k1 (c : Int) (n : Int) (o : Int × Int × List UInt8) : St := { fr := [(2, .d (.int .u8) c), (3, .d (.int .u64) n), (9, .pb 0 0)], nt := 106, up := [], own := [(0, .box 25 [.d (.int .u8) o.1, .d (.int .u32) o.2.1, .d .str o.2.2])], nx := 1, log := [], ln := 0 }
def law28_StatusWrong_k2 (n : Int) (t66 : Bool) : St := { fr := [(3, .d (.int .u64) n), (66, .d .bool t66)], nt := 106, up := [], own := [], nx := 0, log := [], ln := 0 }
def law28_StatusWrong_k3 (t94 : Bool) : St := { fr := [(94, .d .bool t94)], nt := 106, up := [], own := [], nx := 0, log := [], ln := 0 }
def law28_StatusWrong_k4 (t96 : Int) (t97 : Int) (t95 : List (List UInt8)) : St := { fr := [(95, .row 0), (96, .d (.int .i64) t96), (97, .d (.int .i64) t97)], nt := 106, up := [], own := [(0, .row .str 9 t95)], nx := 1, log := [], ln := 0 }
def law28_StatusWrong_m1 (j2 : Int → Bool → Option (As [.bool])) (c : Int) (n : Int) (o : Int × Int × List UInt8) : Option (As [.bool]) :=
  Option.bind (status_Print (o, ())) fun (y : List UInt8 × Bool × Unit) => if (!y.2.1) = true then some (false, ()) else need (small (List.length y.1 + Nat.succ 0)) (Option.bind (status_Parse (y.1 ++ [UInt8.ofNat (Int.toNat c)], ())) fun (y : (Int × Int × List UInt8) × Int × Unit) => if eqi y.2.1 0 = true then if (eqi y.1.1 o.1 && (eqi y.1.2.1 o.2.1 && (eqs y.1.2.2 o.2.2 && true))) = true then j2 n true else if nei y.1.1 o.1 = true then j2 n true else if lt c 48 = true then j2 n true else j2 n (gt c 57) else j2 n false)
def law28_StatusWrong_m2 (j3 : Bool → Option (As [.bool])) (n : Int) (t66 : Bool) : Option (As [.bool]) :=
  if t66 = true then some (false, ()) else Option.bind (strconv_FormatUint (n, 10, ())) fun (y : List UInt8 × Unit) => need (small (7 + List.length y.1)) (Option.bind (status_Parse (115 :: 116 :: 97 :: 116 :: 117 :: 115 :: 32 :: y.1, ())) fun (y : (Int × Int × List UInt8) × Int × Unit) => if ge n 1 = true then if Sx.neb (eqi y.2.1 0) (lt n 4294967296) = true then j3 true else if eqi y.2.1 0 = true then j3 !(eqi y.1.1 3 && (eqi y.1.2.1 (cvt .u32 n) && (eqs y.1.2.2 [] && true))) else j3 false else if Sx.neb (eqi y.2.1 0) false = true then j3 true else if eqi y.2.1 0 = true then j3 !(eqi y.1.1 3 && (eqi y.1.2.1 (cvt .u32 n) && (eqs y.1.2.2 [] && true))) else j3 false)
def law28_StatusWrong_m3 (j4 : Int → Int → List (List UInt8) → Option (As [.bool])) (t94 : Bool) : Option (As [.bool]) :=
  if t94 = true then some (false, ()) else j4 14 0 [[], [32], [83, 116, 97, 116, 117, 115, 32, 49], [115, 116, 97, 116, 117, 115, 32, 32, 49], [115, 116, 97, 116, 117, 115, 32, 43, 49], [115, 116, 97, 116, 117, 115, 32, 49, 32], [99, 97, 110, 99, 101, 108, 32, 45, 49], [104, 105, 115, 116, 111, 114, 121, 32, 49], [115, 108, 97, 118, 101, 115, 32, 120], [115, 117, 98, 109, 105, 116, 32, 92], [115, 117, 98, 109, 105, 116, 32, 92, 120], [115, 117, 98, 109, 105, 116, 32, 0], [115, 117, 98, 109, 105, 116, 32, 10], [115, 117, 98, 109, 105, 116, 9, 120]]
def law28_StatusWrong_m4 (self4 : Int → Int → List (List UInt8) → Option (As [.bool])) (t96 : Int) (t97 : Int) (t95 : List (List UInt8)) : Option (As [.bool]) :=
  if lt t97 t96 = true then Option.bind (at? t95 t97) fun (x : List UInt8) => Option.bind (at? t95 t97) fun (y : List UInt8) => Option.bind (law28_none (y, ())) fun (y : Bool × Unit) => if (!y.1) = true then some (false, ()) else self4 t96 (add .i64 t97 1) t95 else Option.bind (law28_awake ()) fun (y : Bool × Unit) => some (y.1, ())
def law28_StatusWrong_m0 (j1 : Int → Int → Int × Int × List UInt8 → Option (As [.bool])) (what : Int) (tx : Int) (c : Int) (n : Int) : Option (As [.bool]) :=
  if le (add .u8 2 (rem what 4)) 3 = true then j1 c n (add .u8 2 (rem what 4), if gt 1 tx = true then 1 else tx, []) else j1 c n (add .u8 2 (rem what 4), 0, [])
def law28_StatusWrong_K4 (t96 : Int) (t97 : Int) (t95 : List (List UInt8)) : Option (As [.bool]) :=
  loopF (fun (self : (Int) × (Int) × (List (List UInt8)) → Option (As [.bool])) (s : (Int) × (Int) × (List (List UInt8))) => law28_StatusWrong_m4 (fun t96 t97 t95 => self (t96, t97, t95)) s.1 s.2.1 s.2.2) 18446744073709551616 (t96, t97, t95)
def law28_StatusWrong_K3 (t94 : Bool) : Option (As [.bool]) := law28_StatusWrong_m3 (law28_StatusWrong_K4) t94
def law28_StatusWrong_K2 (n : Int) (t66 : Bool) : Option (As [.bool]) := law28_StatusWrong_m2 (law28_StatusWrong_K3) n t66
def law28_StatusWrong_K1 (c : Int) (n : Int) (o : Int × Int × List UInt8) : Option (As [.bool]) := law28_StatusWrong_m1 (law28_StatusWrong_K2) c n o
def law28_StatusWrong (x : As [.int .u8, .int .u32, .int .u8, .int .u64]) : Option (As [.bool]) := law28_StatusWrong_m0 law28_StatusWrong_K1 x.1 x.2.1 x.2.2.1 x.2.2.2.1
theorem law28_StatusWrong_c4 (J : Orc (As [.bool])) (w4 : St → Option (As [.bool])) (t96 : Int) (t97 : Int) (t95 : List (List UInt8)) : pfn Tryd.prog law28_StatusWrong_e 6 18446744073709551616 (Ev.get law28_StatusWrong_h) 3 law28_StatusWrong_s J 8186 [w4] (law28_StatusWrong_k4 t96 t97 t95) = law28_StatusWrong_m4 (fun t96 t97 t95 => w4 (law28_StatusWrong_k4 t96 t97 t95)) t96 t97 t95 := by kernel_rfl
theorem law28_StatusWrong_c3 (J : Orc (As [.bool])) (t94 : Bool) : pfn Tryd.prog law28_StatusWrong_e 6 18446744073709551616 (Ev.get law28_StatusWrong_h) 3 law28_StatusWrong_s J 1022 [] (law28_StatusWrong_k3 t94) = law28_StatusWrong_m3 (fun t96 t97 t95 => J 8186 [] (law28_StatusWrong_k4 t96 t97 t95)) t94 := by kernel_rfl
theorem law28_StatusWrong_c2 (J : Orc (As [.bool])) (n : Int) (t66 : Bool) : pfn Tryd.prog law28_StatusWrong_e 6 18446744073709551616 (Ev.get law28_StatusWrong_h) 3 law28_StatusWrong_s J 253 [] (law28_StatusWrong_k2 n t66) = law28_StatusWrong_m2 (fun t94 => J 1022 [] (law28_StatusWrong_k3 t94)) n t66 := by kernel_rfl
theorem law28_StatusWrong_c1 (J : Orc (As [.bool])) (c : Int) (n : Int) (o : Int × Int × List UInt8) : pfn Tryd.prog law28_StatusWrong_e 6 18446744073709551616 (Ev.get law28_StatusWrong_h) 3 law28_StatusWrong_s J 7 [] (law28_StatusWrong_k1 c n o) = law28_StatusWrong_m1 (fun n t66 => J 253 [] (law28_StatusWrong_k2 n t66)) c n o := by kernel_rfl
theorem law28_StatusWrong_c0 (J : Orc (As [.bool])) (x : As [.int .u8, .int .u32, .int .u8, .int .u64]) : rfn Tryd.prog law28_StatusWrong_e 6 18446744073709551616 (Ev.get law28_StatusWrong_h) 3 law28_StatusWrong_s J x = law28_StatusWrong_m0 (fun c n o => J 7 [] (law28_StatusWrong_k1 c n o)) x.1 x.2.1 x.2.2.1 x.2.2.2.1 := by kernel_rfl
theorem law28_StatusWrong_g4 (t96 : Int) (t97 : Int) (t95 : List (List UInt8)) : jfn Tryd.prog law28_StatusWrong_e 6 18446744073709551616 (Ev.get law28_StatusWrong_h) 3 law28_StatusWrong_s 8186 [] (law28_StatusWrong_k4 t96 t97 t95) = law28_StatusWrong_K4 t96 t97 t95 := by
  rw [pfn_eq (by decide)]
  rw [pfn_loop (by kernel_rfl)]
  refine loopF_sim (σ := (Int) × (Int) × (List (List UInt8))) (mk := fun s => law28_StatusWrong_k4 s.1 s.2.1 s.2.2) (fun w4 s => ?_) 18446744073709551616 (t96, t97, t95)
  refine (law28_StatusWrong_c4 _ w4 s.1 s.2.1 s.2.2).trans ?_
  rfl
theorem law28_StatusWrong_g3 (t94 : Bool) : jfn Tryd.prog law28_StatusWrong_e 6 18446744073709551616 (Ev.get law28_StatusWrong_h) 3 law28_StatusWrong_s 1022 [] (law28_StatusWrong_k3 t94) = law28_StatusWrong_K3 t94 := by
  rw [pfn_eq (by decide)]
  have e4 : (fun t96 t97 t95 => (jfn Tryd.prog law28_StatusWrong_e 6 18446744073709551616 (Ev.get law28_StatusWrong_h) 3 law28_StatusWrong_s) 8186 [] (law28_StatusWrong_k4 t96 t97 t95)) = law28_StatusWrong_K4 := funext fun t96 => funext fun t97 => funext fun t95 => law28_StatusWrong_g4 t96 t97 t95
  rw [law28_StatusWrong_c3, e4]
  rfl
theorem law28_StatusWrong_g2 (n : Int) (t66 : Bool) : jfn Tryd.prog law28_StatusWrong_e 6 18446744073709551616 (Ev.get law28_StatusWrong_h) 3 law28_StatusWrong_s 253 [] (law28_StatusWrong_k2 n t66) = law28_StatusWrong_K2 n t66 := by
  rw [pfn_eq (by decide)]
  have e3 : (fun t94 => (jfn Tryd.prog law28_StatusWrong_e 6 18446744073709551616 (Ev.get law28_StatusWrong_h) 3 law28_StatusWrong_s) 1022 [] (law28_StatusWrong_k3 t94)) = law28_StatusWrong_K3 := funext fun t94 => law28_StatusWrong_g3 t94
  rw [law28_StatusWrong_c2, e3]
  rfl
theorem law28_StatusWrong_g1 (c : Int) (n : Int) (o : Int × Int × List UInt8) : jfn Tryd.prog law28_StatusWrong_e 6 18446744073709551616 (Ev.get law28_StatusWrong_h) 3 law28_StatusWrong_s 7 [] (law28_StatusWrong_k1 c n o) = law28_StatusWrong_K1 c n o := by
  rw [pfn_eq (by decide)]
  have e2 : (fun n t66 => (jfn Tryd.prog law28_StatusWrong_e 6 18446744073709551616 (Ev.get law28_StatusWrong_h) 3 law28_StatusWrong_s) 253 [] (law28_StatusWrong_k2 n t66)) = law28_StatusWrong_K2 := funext fun n => funext fun t66 => law28_StatusWrong_g2 n t66
  rw [law28_StatusWrong_c1, e2]
  rfl
theorem law28_StatusWrong_t (x : As [.int .u8, .int .u32, .int .u8, .int .u64]) : evT Tryd.prog law28_StatusWrong_e 6 18446744073709551616 (Ev.get law28_StatusWrong_h) 3 law28_StatusWrong_s x = law28_StatusWrong x := by
  have e1 : (fun c n o => (jfn Tryd.prog law28_StatusWrong_e 6 18446744073709551616 (Ev.get law28_StatusWrong_h) 3 law28_StatusWrong_s) 7 [] (law28_StatusWrong_k1 c n o)) = law28_StatusWrong_K1 := funext fun c => funext fun n => funext fun o => law28_StatusWrong_g1 c n o
  rw [rfn_eq, law28_StatusWrong_c0, e1]
  rfl
theorem law28_StatusWrong_ok : CtOk Tryd.prog I0 3 ⟨law28_StatusWrong_s, law28_StatusWrong⟩ := ct_of_ev (env_cons status_Print_ok (env_cons status_Parse_ok (env_cons strconv_FormatUint_ok (env_cons law28_none_ok (env_cons law28_awake_ok env_nil))))) law28_StatusWrong_t
/-! strings_Index -/
def strings_Index_m0 (s : List UInt8) (substr : List UInt8) : Option (As [.int .i64]) :=
  if eqi (Int.ofNat (List.length substr)) 0 = true then some (0, ()) else if eqs substr s = true then some (0, ()) else if eqi (Int.ofNat (List.length substr)) 1 = true then Option.bind (at? substr 0) fun (c : UInt8) => some (Go.Lib.indexByte s (UInt8.ofNat (Int.toNat (Int.ofNat (UInt8.toNat c)))), ()) else if ge (Int.ofNat (List.length substr)) (Int.ofNat (List.length s)) = true then some (-1, ()) else Option.none
def strings_Index (x : As [.str, .str]) : Option (As [.int .i64]) := strings_Index_m0 x.1 x.2.1
/-! strings_Contains -/
def strings_Contains_m0 (s : List UInt8) (substr : List UInt8) : Option (As [.bool]) :=
  Option.bind (strings_Index (s, substr, ())) fun (y : Int × Unit) => some (ge y.1 0, ())
def strings_Contains (x : As [.str, .str]) : Option (As [.bool]) := strings_Contains_m0 x.1 x.2.1
/-! law28_StatusBack -/
def law28_StatusBack_m1 (j2 : Bool → Int × Int × List UInt8 → Int × Int × List UInt8 → Option (As [.bool])) (j3 : Int × Int × List UInt8 → Int × Int × List UInt8 → Option (As [.bool])) (line : List UInt8) (t31 : Bool) (a : Int × Int × List UInt8) (b : Int × Int × List UInt8) : Option (As [.bool]) :=
  if t31 = true then Option.bind (law28_awake ()) fun (y : Bool × Unit) => some (y.1, ()) else Option.bind (status_Parse (line, ())) fun (y : (Int × Int × List UInt8) × Int × Unit) => if eqi y.2.1 0 = true then Option.bind (status_Print (y.1, ())) fun (y : List UInt8 × Bool × Unit) => if (!y.2.1) = true then j2 true a b else j2 (nes y.1 line) a b else j3 a b
def law28_StatusBack_m2 (j3 : Int × Int × List UInt8 → Int × Int × List UInt8 → Option (As [.bool])) (t51 : Bool) (a : Int × Int × List UInt8) (b : Int × Int × List UInt8) : Option (As [.bool]) :=
  if t51 = true then some (false, ()) else j3 a b
def law28_StatusBack_m3 (j4 : List UInt8 → Bool → Bool → Int × Int × List UInt8 → Option (As [.bool])) (a : Int × Int × List UInt8) (b : Int × Int × List UInt8) : Option (As [.bool]) :=
  Option.bind (status_Print (a, ())) fun (y : List UInt8 × Bool × Unit) => Option.bind (status_Print (b, ())) fun (y_1 : List UInt8 × Bool × Unit) => if y.2.1 = true then if y_1.2.1 = true then j4 y.1 y.2.1 (Sx.neb (eqs y.1 y_1.1) (eqi a.1 b.1 && (eqi a.2.1 b.2.1 && (eqs a.2.2 b.2.2 && true)))) a else j4 y.1 y.2.1 false a else j4 y.1 y.2.1 false a
def law28_StatusBack_m4 (s : List UInt8) (x : Bool) (t74 : Bool) (a : Int × Int × List UInt8) : Option (As [.bool]) :=
  if t74 = true then some (false, ()) else if (!x) = true then if eqs s [] = true then Option.bind (law28_awake ()) fun (y : Bool × Unit) => some (y.1, ()) else some (false, ()) else Option.bind (status_Parse (s, ())) fun (y : (Int × Int × List UInt8) × Int × Unit) => if eqi y.2.1 0 = true then if (eqi y.1.1 a.1 && (eqi y.1.2.1 a.2.1 && (eqs y.1.2.2 a.2.2 && true))) = true then Option.bind (strings_Contains (s, [10], ())) fun (y : Bool × Unit) => if (!y.1) = true then Option.bind (law28_awake ()) fun (y : Bool × Unit) => some (y.1, ()) else some (false, ()) else some (false, ()) else some (false, ())
def law28_StatusBack_m0 (j1 : List UInt8 → Bool → Int × Int × List UInt8 → Int × Int × List UInt8 → Option (As [.bool])) (a : Int × Int × List UInt8) (b : Int × Int × List UInt8) (line : List UInt8) : Option (As [.bool]) :=
  if gt (Int.ofNat (List.length a.2.2)) 9000 = true then j1 line true a b else if gt (Int.ofNat (List.length b.2.2)) 9000 = true then j1 line true a b else j1 line (gt (Int.ofNat (List.length line)) 9000) a b
def law28_StatusBack_K4 (s : List UInt8) (x : Bool) (t74 : Bool) (a : Int × Int × List UInt8) : Option (As [.bool]) := law28_StatusBack_m4 s x t74 a
def law28_StatusBack_K3 (a : Int × Int × List UInt8) (b : Int × Int × List UInt8) : Option (As [.bool]) := law28_StatusBack_m3 (law28_StatusBack_K4) a b
def law28_StatusBack_K2 (t51 : Bool) (a : Int × Int × List UInt8) (b : Int × Int × List UInt8) : Option (As [.bool]) := law28_StatusBack_m2 (law28_StatusBack_K3) t51 a b
def law28_StatusBack_K1 (line : List UInt8) (t31 : Bool) (a : Int × Int × List UInt8) (b : Int × Int × List UInt8) : Option (As [.bool]) := law28_StatusBack_m1 (law28_StatusBack_K2) (law28_StatusBack_K3) line t31 a b
def law28_StatusBack (x : As [.pr (.int .u8) (.pr (.int .u32) .str), .pr (.int .u8) (.pr (.int .u32) .str), .str]) : Option (As [.bool]) := law28_StatusBack_m0 law28_StatusBack_K1 x.1 x.2.1 x.2.2.1
end Go.Proofs.Lx

end

section
/- Plain laws: a kit of lemmas about what the models are made of. -/
namespace Pl
open Go Ev Sx
set_option maxRecDepth 10000

/-! ### loops -/
theorem loopF_succ {σ R : Type} (F : (σ → Option R) → σ → Option R) (n : Nat) (s : σ) : loopF F (n + 1) s = F (loopF F n) s := rfl
/-- a loop is G, where each step is, if the next ones are -/
theorem loopF_eq {σ R : Type} {F : (σ → Option R) → σ → Option R} {Inv : σ → Prop} {μ : σ → Nat} {G : σ → Option R}
    (step : ∀ self s, Inv s → (∀ s', Inv s' → μ s' < μ s → self s' = G s') → F self s = G s) : ∀ (n : Nat) (s : σ), Inv s → μ s < n → loopF F n s = G s
  | 0, s, _, h => by omega
  | n + 1, s, hs, h => by
    rw [loopF_succ]
    exact step _ s hs fun s' hs' hlt => loopF_eq step n s' hs' (by omega)
/-! ### numbers -/
theorem w64 {x : Int} (h1 : -9223372036854775808 ≤ x) (h2 : x ≤ 9223372036854775807) : IntKind.i64.wrap x = x := by
  simp only [IntKind.wrap, IntKind.signed, IntKind.bits]
  simp
  omega
theorem wu8 {x : Int} (h1 : 0 ≤ x) (h2 : x ≤ 255) : IntKind.u8.wrap x = x := by
  simp only [IntKind.wrap, IntKind.signed, IntKind.bits]
  simp
  omega
theorem wu32 {x : Int} (h1 : 0 ≤ x) (h2 : x ≤ 4294967295) : IntKind.u32.wrap x = x := by
  simp only [IntKind.wrap, IntKind.signed, IntKind.bits]
  simp
  omega
theorem wu64 {x : Int} (h1 : 0 ≤ x) (h2 : x ≤ 18446744073709551615) : IntKind.u64.wrap x = x := by
  simp only [IntKind.wrap, IntKind.signed, IntKind.bits]
  simp
  omega
theorem add64 {a b : Int} (h1 : -9223372036854775808 ≤ a + b) (h2 : a + b ≤ 9223372036854775807) : add .i64 a b = a + b := w64 h1 h2
theorem succ64 {n : Nat} (h : n < 4611686018427387904) : add .i64 (n : Int) 1 = ((n + 1 : Nat) : Int) := by rw [add64 (by omega) (by omega)]; rfl
theorem ofNat_eq (n : Nat) : Int.ofNat n = (n : Int) := rfl
theorem lt_iff {a b : Int} : lt a b = true ↔ a < b := by simp [lt]
theorem le_iff {a b : Int} : le a b = true ↔ a ≤ b := by simp [le]
theorem gt_iff {a b : Int} : gt a b = true ↔ b < a := by simp [gt]
theorem ge_iff {a b : Int} : ge a b = true ↔ b ≤ a := by simp [ge]
theorem eqi_iff {a b : Int} : eqi a b = true ↔ a = b := by simp [eqi]
theorem nei_iff {a b : Int} : nei a b = true ↔ a ≠ b := by simp [nei]
theorem eqs_iff {a b : List UInt8} : eqs a b = true ↔ a = b := by simp [eqs]
theorem nes_iff {a b : List UInt8} : nes a b = true ↔ a ≠ b := by simp [nes]
theorem small_iff {n : Nat} : small n = true ↔ n ≤ 1073741824 := by simp [small]
theorem need_t {b : Bool} {β : Type} {k : Option β} (h : b = true) : need b k = k := by unfold need; rw [if_pos h]
theorem need_small {n : Nat} {β : Type} {k : Option β} (h : n ≤ 1073741824) : need (small n) k = k := need_t (small_iff.2 h)
/-! ### rows -/
theorem at_get {α : Type} {s : List α} {i : Nat} {c : α} (h : s[i]? = some c) : at? s (i : Int) = some c := by
  unfold at?
  simp [h]
theorem cut_nat {α : Type} {xs : List α} {i j : Nat} (h1 : i ≤ j) (h2 : j ≤ xs.length) : cut xs (i : Int) (j : Int) = some ((xs.take j).drop i) := by
  unfold cut
  rw [if_pos ⟨by omega, by omega, by omega⟩]
  simp
theorem cut_from {α : Type} {xs : List α} {i : Nat} (h : i ≤ xs.length) : cut xs (i : Int) (Int.ofNat xs.length) = some (xs.drop i) := by
  rw [ofNat_eq, cut_nat h (Nat.le_refl _)]
  simp
theorem cut_to {α : Type} {xs : List α} {j : Nat} (h : j ≤ xs.length) : cut xs 0 (j : Int) = some (xs.take j) := by
  have := cut_nat (xs := xs) (Nat.zero_le j) h
  simpa using this
/-! ### bytes -/
end Pl

end

section
/- Plain laws: rows walked by loops, numbers of 8 and 16 bits. -/
namespace Pl
open Go Ev Sx
/-! ### loops over rows -/
/-- a loop over a row that gathers something -/
theorem loop_idx {σ R α β : Type} {F : (σ → Option R) → σ → Option R} {mk : Nat → β → σ} {xs : List α} {stp : β → α → β} {fin : β → Option R} (Inv : Nat → β → Prop)
    (hs : ∀ self i acc x, xs[i]? = some x → Inv i acc → F self (mk i acc) = self (mk (i + 1) (stp acc x)))
    (hi : ∀ i acc x, xs[i]? = some x → Inv i acc → Inv (i + 1) (stp acc x))
    (he : ∀ self acc, Inv xs.length acc → F self (mk xs.length acc) = fin acc) :
    ∀ (k i : Nat) (acc : β) (n : Nat), i + k = xs.length → k < n → Inv i acc → loopF F n (mk i acc) = fin ((xs.drop i).foldl stp acc)
  | _, _, _, 0, _, hn, _ => by omega
  | 0, i, acc, n + 1, h, _, hI => by
    have : i = xs.length := by omega
    subst this
    rw [loopF_succ, he _ _ hI, List.drop_length]
    rfl
  | k + 1, i, acc, n + 1, h, hn, hI => by
    have hx : xs[i]? = some (xs[i]'(by omega)) := List.getElem?_eq_getElem (by omega)
    rw [loopF_succ, hs _ _ _ _ hx hI, loop_idx Inv hs hi he k (i + 1) _ n (by omega) (by omega) (hi _ _ _ hx hI), List.drop_eq_getElem_cons (show i < xs.length by omega)]
    rfl
/-- what such a loop is, if it may end early -/
def goL {α β R : Type} (body : β → α → (β → Option R) → Option R) (fin : β → Option R) : List α → β → Option R
  | [], acc => fin acc
  | x :: r, acc => body acc x (goL body fin r)
theorem loop_go {σ R α β : Type} {F : (σ → Option R) → σ → Option R} {mk : Nat → β → σ} {xs : List α} {body : β → α → (β → Option R) → Option R} {fin : β → Option R}
    (hs : ∀ self i acc x, xs[i]? = some x → F self (mk i acc) = body acc x fun a => self (mk (i + 1) a))
    (he : ∀ self acc, F self (mk xs.length acc) = fin acc) :
    ∀ (k i : Nat) (acc : β) (n : Nat), i + k = xs.length → k < n → loopF F n (mk i acc) = goL body fin (xs.drop i) acc
  | _, _, _, 0, _, hn => by omega
  | 0, i, acc, n + 1, h, _ => by
    have : i = xs.length := by omega
    subst this
    rw [loopF_succ, he, List.drop_length]
    rfl
  | k + 1, i, acc, n + 1, h, hn => by
    have hx : xs[i]? = some (xs[i]'(by omega)) := List.getElem?_eq_getElem (by omega)
    rw [loopF_succ, hs _ _ _ _ hx, List.drop_eq_getElem_cons (show i < xs.length by omega)]
    show _ = body acc _ (goL body fin (xs.drop (i + 1)))
    congr 1
    funext a
    exact loop_go hs he k (i + 1) a n (by omega) (by omega)
/-! ### numbers of 8 and 16 bits -/
end Pl

end

section
/- What the program's functions for orders give, as functions on bytes. -/
namespace Go.Proofs.Lx
open Go Ev Sx Pl
set_option maxRecDepth 100000
theorem c_eq {c : UInt8} {k : Nat} (hk : k < 256) : eqi (Int.ofNat c.toNat) (k : Int) = true ↔ c = UInt8.ofNat k := by
  rw [eqi_iff, ofNat_eq]
  constructor
  · intro h
    have : c.toNat = k := by omega
    rw [← this, UInt8.ofNat_toNat]
  · intro h
    rw [h, UInt8.toNat_ofNat', Nat.mod_eq_of_lt hk]
theorem plain_eq (t : List UInt8) : status_plain (t, ()) = some (plainT t, ()) := by
  show status_plain_m0 status_plain_K1 t = _
  unfold status_plain_m0 plainT
  by_cases hl : t.length ≤ 8192
  · rw [if_neg (by rw [gt_iff, ofNat_eq]; omega), decide_eq_true hl, Bool.true_and]
    have key : ∀ (r : List UInt8), goL (R := Bool × Unit) (fun (_ : Unit) (c : UInt8) k => if okC c = true then k () else some (false, ())) (fun _ => some (true, ())) r () = some (r.all okC, ()) := by
      intro r
      induction r with
      | nil => rfl
      | cons x r ih =>
        show (if okC x = true then goL _ _ r () else some (false, ())) = _
        rw [ih, List.all_cons]
        cases okC x <;> rfl
    rw [← key]
    unfold status_plain_K1
    refine loop_go (xs := t) (mk := fun i _ => (t, Int.ofNat t.length, (i : Int))) ?_ ?_ t.length 0 () _ (by omega) (by omega)
    · intro self i acc c hc
      have hi := (List.getElem?_eq_some_iff.1 hc).1
      show status_plain_m1 _ _ t (Int.ofNat t.length) (i : Int) = _
      unfold status_plain_m1
      rw [if_pos (by rw [lt_iff, ofNat_eq]; omega), at_get hc, Option.bind_some]
      have K : ∀ (b : Bool), status_plain_K2 (fun a b c => self (a, b, c)) t (Int.ofNat t.length) (i : Int) b = if b = true then some (false, ()) else self (t, Int.ofNat t.length, ((i + 1 : Nat) : Int)) := fun b => by
        unfold status_plain_K2 status_plain_m2
        rw [succ64 (by omega)]
      have hb := c.toNat_lt
      unfold okC
      by_cases h10 : c.toNat = 10
      · rw [if_neg (by rw [nei_iff, ofNat_eq]; omega), decide_eq_true h10, Bool.true_or]
        exact K false
      · rw [if_pos (by rw [nei_iff, ofNat_eq]; omega), decide_eq_false h10, Bool.false_or]
        by_cases h32 : 32 ≤ c.toNat
        · rw [if_neg (by rw [lt_iff, ofNat_eq]; omega), decide_eq_true h32, Bool.true_and]
          refine (K _).trans ?_
          by_cases h126 : c.toNat ≤ 126
          · rw [if_neg (by rw [gt_iff, ofNat_eq]; omega), decide_eq_true h126, if_pos rfl]
          · rw [if_pos (by rw [gt_iff, ofNat_eq]; omega), decide_eq_false h126, if_neg (by decide)]
        · rw [if_pos (by rw [lt_iff, ofNat_eq]; omega), decide_eq_false h32]
          exact K true
    · intro self acc
      show status_plain_m1 _ _ t (Int.ofNat t.length) (t.length : Int) = _
      unfold status_plain_m1
      rw [if_neg (by rw [lt_iff, ofNat_eq]; omega)]
  · rw [if_pos (by rw [gt_iff, ofNat_eq]; omega), decide_eq_false hl]
    rfl
theorem eqs_nil (t : List UInt8) : eqs t [] = decide (t = []) := by
  rw [Bool.eq_iff_iff, eqs_iff, decide_eq_true_iff]
theorem sright_eq (o : TOrd) : status_right (o, ()) = some (rightO o, ()) := by
  obtain ⟨k, n, t⟩ := o
  show status_right_m0 status_right_K1 (k, n, t) = _
  have K2 : ∀ b, status_right_K2 b (k, n, t) = some (b && (decide (n = 0) && decide (t = [])), ()) := fun b => by
    unfold status_right_K2 status_right_m2
    dsimp only
    cases b with
    | false => rfl
    | true =>
      rw [if_pos rfl, Bool.true_and]
      by_cases h : n = 0
      · rw [if_pos (eqi_iff.2 h), decide_eq_true h, Bool.true_and, eqs_nil]
      · rw [if_neg (fun e => h (eqi_iff.1 e)), decide_eq_false h, Bool.false_and]
  have K1 : ∀ b, status_right_K1 k b (k, n, t) = if b = true then some (decide (0 < n) && decide (t = []), ()) else some ((decide (k = 4 ∨ k = 5)) && (decide (n = 0) && decide (t = [])), ()) := fun b => by
    unfold status_right_K1 status_right_m1
    dsimp only
    cases b with
    | true =>
      rw [if_pos rfl, if_pos rfl]
      by_cases h : 0 < n
      · rw [if_pos (gt_iff.2 h), decide_eq_true h, Bool.true_and, eqs_nil]
      · rw [if_neg (fun e => h (gt_iff.1 e)), decide_eq_false h, Bool.false_and]
    | false =>
      rw [K2, K2]
      show (if eqi k 4 = true then some (true && (decide (n = 0) && decide (t = [])), ()) else some (eqi k 5 && (decide (n = 0) && decide (t = [])), ())) = some (decide (k = 4 ∨ k = 5) && (decide (n = 0) && decide (t = [])), ())
      by_cases h4 : k = 4
      · rw [if_pos (eqi_iff.2 h4), decide_eq_true (show k = 4 ∨ k = 5 from .inl h4)]
      · rw [if_neg (fun e => h4 (eqi_iff.1 e))]
        have : eqi k 5 = decide (k = 4 ∨ k = 5) := by
          rw [Bool.eq_iff_iff, eqi_iff, decide_eq_true_iff]
          omega
        rw [this]
  unfold status_right_m0 rightO
  dsimp only
  by_cases h1 : k = 1
  · rw [if_pos (eqi_iff.2 h1), if_pos h1]
    by_cases h : n = 0
    · rw [if_pos (eqi_iff.2 h), plain_eq, decide_eq_true h]
      rfl
    · rw [if_neg (fun e => h (eqi_iff.1 e)), decide_eq_false h]
      rfl
  · rw [if_neg (fun e => h1 (eqi_iff.1 e)), if_neg h1, K1, K1]
    by_cases h2 : k = 2
    · rw [if_pos (eqi_iff.2 h2), if_pos rfl, if_pos (.inl h2)]
    · rw [if_neg (fun e => h2 (eqi_iff.1 e))]
      by_cases h3 : k = 3
      · rw [if_pos (eqi_iff.2 h3), if_pos (.inr h3)]
      · rw [if_neg (fun e => h3 (eqi_iff.1 e)), if_neg (by omega)]
        by_cases h4 : k = 4 ∨ k = 5
        · rw [if_pos h4, decide_eq_true h4, Bool.true_and]
        · rw [if_neg h4, decide_eq_false h4, Bool.false_and]
/-- a byte as it stands in a line, as numbers -/
def encI (c : UInt8) : List Int := if c = 10 then [92, 110] else if c = 92 then [92, 92] else [Int.ofNat c.toNat]
theorem toS_app (a b : List Int) : toS (a ++ b) = toS a ++ toS b := List.map_append
theorem toS_enc (c : UInt8) : toS (encI c) = if c = 10 then [92, 110] else if c = 92 then [92, 92] else [c] := by
  unfold encI
  split
  · rfl
  · split
    · rfl
    · show [UInt8.ofNat (Int.ofNat c.toNat).toNat] = [c]
      rw [ofNat_eq, Int.toNat_natCast, UInt8.ofNat_toNat]
theorem toS_flat : ∀ t : List UInt8, toS (t.flatMap encI) = wrt t
  | [] => rfl
  | c :: t => by rw [List.flatMap_cons, toS_app, toS_flat t, toS_enc, wrt_cons]
theorem u8s_app : ∀ {a b : List Int}, u8s a = true → u8s b = true → u8s (a ++ b) = true
  | [], _, _, h => h
  | x :: a, b, h1, h2 => by
    unfold u8s at h1
    show u8s (x :: (a ++ b)) = true
    unfold u8s
    rw [Bool.and_eq_true] at h1 ⊢
    exact ⟨h1.1, u8s_app h1.2 h2⟩
theorem u8s_one (c : UInt8) : u8s [Int.ofNat c.toNat] = true := by
  have := c.toNat_lt
  unfold u8s
  rw [decide_eq_true ⟨by rw [ofNat_eq]; omega, by rw [ofNat_eq]; omega⟩]
  rfl
theorem u8s_enc (c : UInt8) : u8s (encI c) = true := by
  unfold encI
  split
  · decide
  · split
    · decide
    · exact u8s_one c
theorem u8s_flat : ∀ t : List UInt8, u8s (t.flatMap encI) = true
  | [] => rfl
  | c :: t => by rw [List.flatMap_cons]; exact u8s_app (u8s_enc c) (u8s_flat t)
theorem enc_len (c : UInt8) : (encI c).length ≤ 2 := by
  unfold encI
  split
  · exact (by decide : 2 ≤ 2)
  · split
    · exact (by decide : 2 ≤ 2)
    · exact (by decide : 1 ≤ 2)
theorem flat_len : ∀ t : List UInt8, (t.flatMap encI).length ≤ 2 * t.length
  | [] => by decide
  | c :: t => by
    have h1 := enc_len c
    have h2 := flat_len t
    rw [List.flatMap_cons, List.length_append, List.length_cons]
    omega
theorem bneed {β : Type} {b : Bool} {n : Nat} {k : Bool → Option β} (h : n ≤ 1073741824) : (if b = true then if b = true then need (small n) (k b) else none else need (small n) (k true)) = k true := by
  cases b with
  | true => rw [if_pos rfl, if_pos rfl, need_small h]
  | false => rw [if_neg (by decide), need_small h]
theorem written_eq {t : List UInt8} (hl : t.length ≤ 100000) : status_written (t, ()) = some (wrt t, ()) := by
  show status_written_m0 status_written_K1 t = _
  unfold status_written_m0 status_written_K1
  have e : ((t.foldl (fun (o : Bool × List Int) c => (true, o.2 ++ encI c)) (false, [])).2) = t.flatMap encI := by
    have : ∀ (t : List UInt8) (b : Bool) (o : List Int), (t.foldl (fun (o : Bool × List Int) c => (true, o.2 ++ encI c)) (b, o)).2 = o ++ t.flatMap encI := by
      intro t
      induction t with
      | nil => intro b o; simp
      | cons c t ih => intro b o; rw [List.foldl_cons, ih, List.flatMap_cons, List.append_assoc]
    rw [this, List.nil_append]
  have fin : some (wrt t, ()) = (fun (o : Bool × List Int) => (need (eqi (Int.ofNat o.2.length) (Int.ofNat o.2.length)) (need (small o.2.length) (need (u8s o.2) (some (toS o.2, ()))) : Option (As [.str])))) ((t.drop 0).foldl (fun (o : Bool × List Int) c => (true, o.2 ++ encI c)) (false, [])) := by
    rw [List.drop_zero]
    dsimp only
    rw [e, need_t (eqi_iff.2 rfl), need_small (by have := flat_len t; omega), need_t (u8s_flat t), toS_flat]
  rw [fin]
  refine loop_idx (xs := t) (stp := fun (o : Bool × List Int) c => (true, o.2 ++ encI c)) (mk := fun i (o : Bool × List Int) => (t, Int.ofNat t.length, (i : Int), o.1, o.2)) (fin := fun (o : Bool × List Int) => (need (eqi (Int.ofNat o.2.length) (Int.ofNat o.2.length)) (need (small o.2.length) (need (u8s o.2) (some (toS o.2, ()))) : Option (As [.str])))) (fun i o => o.2.length ≤ 2 * i) ?_ ?_ ?_ t.length 0 (false, []) 18446744073709551616 (by omega) (by omega) (by decide)
  · intro self i o c hc hI
    obtain ⟨b, o⟩ := o
    have hI : o.length ≤ 2 * i := hI
    have hi := (List.getElem?_eq_some_iff.1 hc).1
    show status_written_m1 _ t (Int.ofNat t.length) (i : Int) b o = _
    unfold status_written_m1
    have a10 : eqi (Int.ofNat c.toNat) 10 = true ↔ c = 10 := c_eq (k := 10) (by omega)
    have a92 : eqi (Int.ofNat c.toNat) 92 = true ↔ c = 92 := c_eq (k := 92) (by omega)
    rw [if_pos (by rw [lt_iff, ofNat_eq]; omega), at_get hc, Option.bind_some, Option.bind_some, succ64 (by omega)]
    dsimp only
    unfold encI
    by_cases h10 : c = 10
    · rw [if_pos (a10.2 h10), if_pos h10]
      exact bneed (k := fun b => self (t, Int.ofNat t.length, ((i + 1 : Nat) : Int), b, o ++ [92, 110])) (by omega)
    · rw [if_neg (fun e => h10 (a10.1 e)), if_neg h10]
      by_cases h92 : c = 92
      · rw [if_pos (a92.2 h92), if_pos h92]
        exact bneed (k := fun b => self (t, Int.ofNat t.length, ((i + 1 : Nat) : Int), b, o ++ [92, 92])) (by omega)
      · rw [if_neg (fun e => h92 (a92.1 e)), if_neg h92]
        exact bneed (k := fun b => self (t, Int.ofNat t.length, ((i + 1 : Nat) : Int), b, o ++ [Int.ofNat c.toNat])) (by show o.length + 1 ≤ 1073741824; omega)
  · intro i o c _ hI
    have := enc_len c
    show (o.2 ++ encI c).length ≤ 2 * (i + 1)
    rw [List.length_append]
    omega
  · intro self o hI
    obtain ⟨b, o⟩ := o
    show status_written_m1 _ t (Int.ofNat t.length) (t.length : Int) b o = _
    unfold status_written_m1
    rw [if_neg (by rw [lt_iff, ofNat_eq]; omega)]
end Go.Proofs.Lx

end

section
/- What the program's functions for orders give: lines read and printed. -/
namespace Go.Proofs.Lx
open Go Ev Sx Pl
set_option maxRecDepth 100000
def outU (o : List Int) : Option (List UInt8) → Option (As [.str, .bool])
  | some t => some (toS o ++ t, true, ())
  | none => some ([], false, ())
theorem unw_ten (r : List UInt8) : unw (10 :: r) = none := by
  cases r with
  | nil => rfl
  | cons d q => rw [unw, if_pos rfl]
theorem unw_bs (d : UInt8) (q : List UInt8) : unw (92 :: d :: q) = if d = 110 then (unw q).map (10 :: ·) else if d = 92 then (unw q).map (92 :: ·) else none := by rw [unw, if_neg (by decide), if_pos rfl]
theorem outU_map (o : List Int) (x : Int) (c : UInt8) (h : toS [x] = [c]) (r : Option (List UInt8)) : outU (o ++ [x]) r = outU o (r.map (c :: ·)) := by
  cases r with
  | none => rfl
  | some t =>
    show some (toS (o ++ [x]) ++ t, true, ()) = some (toS o ++ c :: t, true, ())
    rw [toS_app, h, List.append_assoc]
    rfl
theorem toS_c (c : UInt8) : toS [Int.ofNat c.toNat] = [c] := by
  show [UInt8.ofNat (Int.ofNat c.toNat).toNat] = [c]
  rw [ofNat_eq, Int.toNat_natCast, UInt8.ofNat_toNat]
theorem unwritten_eq {s : List UInt8} (hl : s.length ≤ 100000) : status_unwritten (s, ()) = outU [] (unw s) := by
  show status_unwritten_m0 status_unwritten_K1 s = _
  unfold status_unwritten_m0 status_unwritten_K1
  refine (loopF_eq (σ := List UInt8 × Int × Bool × List Int) (Inv := fun st => st.1 = s ∧ ∃ n : Nat, st.2.1 = (n : Int) ∧ n ≤ s.length ∧ st.2.2.2.length ≤ n ∧ u8s st.2.2.2 = true) (μ := fun st => s.length - st.2.1.toNat) (G := fun st => outU st.2.2.2 (unw (s.drop st.2.1.toNat))) ?_ 18446744073709551616 (s, 0, false, []) ⟨rfl, 0, rfl, Nat.zero_le _, Nat.le_refl _, rfl⟩ (by show s.length - 0 < _; omega)).trans rfl
  rintro self ⟨s', i, b, o⟩ ⟨rfl, n, hi, hn, ho, hu⟩ ih
  have hi : i = (n : Int) := hi
  subst hi
  have ho : o.length ≤ n := ho
  have hu : u8s o = true := hu
  show status_unwritten_m1 _ _ _ s' (n : Int) b o = outU o (unw (s'.drop (n : Int).toNat))
  rw [Int.toNat_natCast]
  have go : ∀ (m : Nat) (o' : List Int) (c : UInt8) (x : Int), n < m → m ≤ s'.length → o' = o ++ [x] → toS [x] = [c] → u8s [x] = true → self (s', (m : Int), true, o') = outU o ((unw (s'.drop m)).map (c :: ·)) := by
    intro m o' c x h1 h2 h3 h4 h5
    rw [ih (s', (m : Int), true, o') ⟨rfl, m, rfl, h2, by rw [h3]; simp; omega, by rw [h3]; exact u8s_app hu h5⟩ (by show s'.length - (m : Int).toNat < s'.length - (n : Int).toNat; omega)]
    show outU o' (unw (s'.drop (m : Int).toNat)) = _
    rw [h3, Int.toNat_natCast, outU_map o x c h4]
  unfold status_unwritten_m1
  by_cases hlt : n < s'.length
  · obtain ⟨c, hc⟩ : ∃ c, s'[n]? = some c := ⟨_, List.getElem?_eq_getElem hlt⟩
    have hd : s'.drop n = c :: s'.drop (n + 1) := by
      rw [List.drop_eq_getElem_cons hlt]
      rw [List.getElem?_eq_getElem hlt] at hc
      rw [Option.some.inj hc]
    have a10 : eqi (Int.ofNat c.toNat) 10 = true ↔ c = 10 := c_eq (k := 10) (by omega)
    have a92 : eqi (Int.ofNat c.toNat) 92 = true ↔ c = 92 := c_eq (k := 92) (by omega)
    rw [if_pos (by rw [lt_iff, ofNat_eq]; omega), at_get hc, Option.bind_some, hd, succ64 (by omega)]
    by_cases h10 : c = 10
    · rw [if_pos (a10.2 h10), h10, unw_ten]
      rfl
    · rw [if_neg (fun e => h10 (a10.1 e))]
      by_cases h92 : c = 92
      · rw [if_pos (a92.2 h92)]
        by_cases he : n + 1 = s'.length
        · rw [if_pos (by rw [eqi_iff, ofNat_eq]; omega), h92, List.drop_of_length_le (by omega)]
          rfl
        · rw [if_neg (by rw [eqi_iff, ofNat_eq]; omega)]
          have hlt2 : n + 1 < s'.length := by omega
          obtain ⟨d, hdd⟩ : ∃ d, s'[n + 1]? = some d := ⟨_, List.getElem?_eq_getElem hlt2⟩
          have hd2 : s'.drop (n + 1) = d :: s'.drop (n + 2) := by
            rw [List.drop_eq_getElem_cons hlt2]
            rw [List.getElem?_eq_getElem hlt2] at hdd
            rw [Option.some.inj hdd]
          have b110 : eqi (Int.ofNat d.toNat) 110 = true ↔ d = 110 := c_eq (k := 110) (by omega)
          have b92 : eqi (Int.ofNat d.toNat) 92 = true ↔ d = 92 := c_eq (k := 92) (by omega)
          have K2 : ∀ (bb : Bool) (oo : List Int), status_unwritten_K2 (fun a b c d => self (a, b, c, d)) s' ((n + 1 : Nat) : Int) bb oo = self (s', ((n + 2 : Nat) : Int), bb, oo) := fun bb oo => by
            unfold status_unwritten_K2 status_unwritten_m2
            rw [succ64 (by omega)]
          rw [at_get hdd, Option.bind_some, hd2, h92, unw_bs]
          by_cases h110 : d = 110
          · rw [if_pos (b110.2 h110), if_pos h110]
            refine (bneed (k := fun bb => status_unwritten_K2 (fun a b c d => self (a, b, c, d)) s' ((n + 1 : Nat) : Int) bb (o ++ [10])) (by omega)).trans ?_
            refine (K2 _ _).trans ?_
            exact go (n + 2) _ 10 10 (by omega) (by omega) rfl rfl rfl
          · rw [if_neg (fun e => h110 (b110.1 e)), if_neg h110]
            by_cases hd92 : d = 92
            · rw [if_pos (b92.2 hd92), if_pos hd92]
              refine (bneed (k := fun bb => status_unwritten_K2 (fun a b c d => self (a, b, c, d)) s' ((n + 1 : Nat) : Int) bb (o ++ [Int.ofNat (92 : UInt8).toNat])) (by show o.length + 1 ≤ 1073741824; omega)).trans ?_
              refine (K2 _ _).trans ?_
              exact go (n + 2) _ 92 _ (by omega) (by omega) rfl (toS_c 92) (u8s_one 92)
            · rw [if_neg (fun e => hd92 (b92.1 e)), if_neg hd92]
              rfl
      · rw [if_neg (fun e => h92 (a92.1 e)), unw_plain h10 h92]
        have K2 : ∀ (bb : Bool) (oo : List Int), status_unwritten_K2 (fun a b c d => self (a, b, c, d)) s' (n : Int) bb oo = self (s', ((n + 1 : Nat) : Int), bb, oo) := fun bb oo => by
          unfold status_unwritten_K2 status_unwritten_m2
          rw [succ64 (by omega)]
        refine (bneed (k := fun bb => status_unwritten_K2 (fun a b c d => self (a, b, c, d)) s' (n : Int) bb (o ++ [Int.ofNat c.toNat])) (by show o.length + 1 ≤ 1073741824; omega)).trans ?_
        refine (K2 _ _).trans ?_
        exact go (n + 1) _ c _ (by omega) (by omega) rfl (toS_c c) (u8s_one c)
  · have hn' : n ≤ s'.length := hn
    have he : n = s'.length := by omega
    subst he
    rw [if_neg (by rw [lt_iff, ofNat_eq]; omega), List.drop_length]
    unfold status_unwritten_K3 status_unwritten_m3
    rw [need_t (eqi_iff.2 rfl), need_small (by omega), need_t hu]
    show _ = some (toS o ++ [], true, ())
    rw [List.append_nil]
theorem hasp_eq (s p : List UInt8) : istringslite_HasPrefix (s, p, ()) = some (decide (p <+: s), ()) := by
  show istringslite_HasPrefix_m0 s p = _
  unfold istringslite_HasPrefix_m0
  by_cases h : p.length ≤ s.length
  · rw [if_pos (by rw [ge_iff, ofNat_eq, ofNat_eq]; omega), ofNat_eq, cut_to h, Option.bind_some]
    have : eqs (s.take p.length) p = decide (p <+: s) := by
      rw [Bool.eq_iff_iff, eqs_iff, decide_eq_true_iff, List.prefix_iff_eq_take]
      exact ⟨fun e => e.symm, fun e => e.symm⟩
    rw [this]
  · rw [if_neg (by rw [ge_iff, ofNat_eq, ofNat_eq]; omega), decide_eq_false (fun hp => h hp.length_le)]
def outC (s : List UInt8) : Option (List UInt8) → Option (As [.str, .bool])
  | some r => some (r, true, ())
  | none => some (s, false, ())
theorem cutp_eq (s p : List UInt8) : strings_CutPrefix (s, p, ()) = outC s (strip p s) := by
  show strings_CutPrefix_m0 s p = _
  unfold strings_CutPrefix_m0
  have e : istringslite_CutPrefix (s, p, ()) = outC s (strip p s) := by
    show istringslite_CutPrefix_m0 s p = _
    unfold istringslite_CutPrefix_m0
    rw [hasp_eq, Option.bind_some]
    by_cases h : p <+: s
    · obtain ⟨r, rfl⟩ := h
      rw [decide_eq_true (show p <+: p ++ r from ⟨r, rfl⟩), strip_app, if_neg (by decide), ofNat_eq, cut_from (by simp), Option.bind_some, List.drop_left]
      rfl
    · rw [decide_eq_false h, strip_none h, if_pos (by decide)]
      rfl
  rw [e]
  cases strip p s <;> rfl
/-- what a form's function gives, as an option -/
def Rd (f : Option (As [.pr (.int .u8) (.pr (.int .u32) .str), .bool])) (r : Option TOrd) : Prop := ∃ o', f = some (o', r.isSome, ()) ∧ ∀ o, r = some o → o' = o
theorem readText_eq {k : Int} {r : List UInt8} (hl : r.length ≤ 100000) : Rd (status_readText (k, r, ())) (rdT k r) := by
  have h : status_readText (k, r, ()) = Option.bind (strings_CutPrefix (r, [32], ())) fun y => if (!y.2.1) = true then some ((0, 0, []), false, ()) else Option.bind (status_unwritten (y.1, ())) fun y => some ((k, 0, y.1), y.2.1, ()) := rfl
  rw [h, cutp_eq]
  rcases r with _ | ⟨c, a⟩
  · exact ⟨_, rfl, fun o ho => by cases ho⟩
  · by_cases hc : c = 32
    · subst hc
      show Rd (Option.bind (some (a, true, ())) _) ((unw a).map fun t => (k, 0, t))
      have ha : a.length ≤ 100000 := by simp at hl; omega
      rw [Option.bind_some, if_neg (by show ¬ (!true) = true; decide)]
      show Rd (Option.bind (status_unwritten (a, ())) _) _
      rw [unwritten_eq ha]
      cases unw a with
      | none => exact ⟨_, rfl, fun o ho => by cases ho⟩
      | some t => exact ⟨_, rfl, fun o ho => by cases ho; rfl⟩
    · have e1 : strip [32] (c :: a) = none := by
        show (if 32 = c then _ else none) = none
        rw [if_neg (fun e => hc e.symm)]
      have e2 : rdT k (c :: a) = none := by
        unfold rdT
        split
        · rename_i a' e
          exact absurd (List.cons.inj e).1 hc
        · rfl
      rw [e1, e2]
      exact ⟨_, rfl, fun o ho => by cases ho⟩
theorem fold_ge (l : List UInt8) : ∀ acc : Nat, acc ≤ l.foldl (fun a c => 10 * a + (c.toNat - 48)) acc := by
  induction l with
  | nil => intro acc; exact Nat.le_refl _
  | cons c l ih =>
    intro acc
    have := ih (10 * acc + (c.toNat - 48))
    rw [List.foldl_cons]
    omega
theorem parseM_ok : ∀ (l : List UInt8) (acc : Nat), (∀ c ∈ l, 48 ≤ c.toNat ∧ c.toNat ≤ 57) → l.foldl (fun a c => 10 * a + (c.toNat - 48)) acc < 4294967296 → Lib.parseUintM 4294967295 acc l = .ok (l.foldl (fun a c => 10 * a + (c.toNat - 48)) acc)
  | [], acc, _, _ => rfl
  | c :: l, acc, h, hv => by
    have hc := h c List.mem_cons_self
    have hg := fold_ge l (10 * acc + (c.toNat - 48))
    rw [List.foldl_cons] at hv ⊢
    have e : acc * 10 + (c.toNat - 48) = 10 * acc + (c.toNat - 48) := by omega
    rw [Lib.parseUintM, if_pos hc, if_neg (by omega), e, if_neg (by omega), parseM_ok l _ (fun x hx => h x (List.mem_cons_of_mem _ hx)) hv]
theorem parseM_inv : ∀ (l : List UInt8) (acc u : Nat), acc ≤ 4294967295 → Lib.parseUintM 4294967295 acc l = .ok u → (∀ c ∈ l, 48 ≤ c.toNat ∧ c.toNat ≤ 57) ∧ u = l.foldl (fun a c => 10 * a + (c.toNat - 48)) acc ∧ u ≤ 4294967295
  | [], acc, u, ha, h => by
    cases h
    exact ⟨fun c hc => (by cases hc), rfl, ha⟩
  | c :: l, acc, u, ha, h => by
    rw [Lib.parseUintM] at h
    by_cases hc : 48 ≤ c.toNat ∧ c.toNat ≤ 57
    · rw [if_pos hc] at h
      by_cases h1 : 1844674407370955162 ≤ acc
      · rw [if_pos h1] at h; cases h
      · rw [if_neg h1] at h
        by_cases h2 : 4294967295 < acc * 10 + (c.toNat - 48)
        · rw [if_pos h2] at h; cases h
        · rw [if_neg h2] at h
          obtain ⟨q1, q2, q3⟩ := parseM_inv l _ u (by omega) h
          refine ⟨fun x hx => ?_, ?_, q3⟩
          · rcases List.mem_cons.1 hx with rfl | hx
            · exact hc
            · exact q1 x hx
          · rw [List.foldl_cons, q2, show acc * 10 + (c.toNat - 48) = 10 * acc + (c.toNat - 48) by omega]
    · rw [if_neg hc] at h; cases h
theorem pU_some {a : List UInt8} {n : Nat} (h : pU a = some n) : Lib.parseUintB 32 a = .ok n ∧ n < 4294967296 := by
  unfold pU at h
  by_cases hq : a ≠ [] ∧ (∀ c ∈ a, 48 ≤ c.toNat ∧ c.toNat ≤ 57) ∧ vl a < 4294967296
  · rw [if_pos hq] at h
    cases h
    refine ⟨?_, hq.2.2⟩
    rw [Lib.parseUintB, if_neg hq.1]
    exact parseM_ok a 0 hq.2.1 hq.2.2
  · rw [if_neg hq] at h; cases h
theorem pU_none {a : List UInt8} (h : pU a = none) (n : Nat) : Lib.parseUintB 32 a ≠ .ok n := by
  intro e
  unfold pU at h
  by_cases ha : a = []
  · subst ha
    rw [Lib.parseUintB, if_pos rfl] at e
    cases e
  · rw [Lib.parseUintB, if_neg ha] at e
    obtain ⟨q1, q2, q3⟩ := parseM_inv a 0 n (by omega) e
    rw [if_pos ⟨ha, q1, by show a.foldl _ 0 < _; rw [← q2]; omega⟩] at h
    cases h
theorem sdigits_eq {n : Nat} (h : n < 4294967296) : status_digits ((n : Int), ()) = some (dg n, ()) := by
  show status_digits_m0 (n : Int) = _
  unfold status_digits_m0
  have e : strconv_FormatUint ((n : Int), 10, ()) = some (dg n, ()) := by
    show strconv_FormatUint_m0 (n : Int) 10 = _
    unfold strconv_FormatUint_m0
    have : istrconv_FormatUint ((n : Int), 10, ()) = some (dg n, ()) := by
      show (if (0 ≤ (n : Int) ∧ (n : Int) < 18446744073709551616) ∧ (10 : Int) = 10 then some (dF 19 (n : Int).toNat, ()) else none) = _
      rw [if_pos ⟨⟨by omega, by omega⟩, rfl⟩, Int.toNat_natCast, dF_dg (by omega)]
    rw [this]
    rfl
  have ec : cvt .u64 (n : Int) = (n : Int) := wu64 (by omega) (by omega)
  rw [ec, e]
  rfl
theorem readNumber_eq {k : Int} {r : List UInt8} (hl : r.length ≤ 100000) : Rd (status_readNumber (k, r, ())) (rdN k r) := by
  have h : status_readNumber (k, r, ()) = status_readNumber_m0 status_readNumber_K1 k r := rfl
  rw [h]
  unfold status_readNumber_m0
  rw [cutp_eq]
  rcases r with _ | ⟨c, a⟩
  · exact ⟨_, rfl, fun o ho => by cases ho⟩
  · by_cases hc : c = 32
    · subst hc
      have ha : a.length ≤ 281474976710656 := by simp at hl; omega
      show Rd (Option.bind (some (a, true, ())) _) ((pU a).bind fun n => if n ≠ 0 ∧ dg n = a then some (k, (n : Int), []) else none)
      rw [Option.bind_some, if_neg (by show ¬ (!true) = true; decide)]
      dsimp only
      have K : ∀ (n : Int) (b : Bool), status_readNumber_K1 k n b (0, 0, []) = if b = true then some ((0, 0, []), false, ()) else some ((k, cvt .u32 n, []), true, ()) := fun n b => rfl
      cases hp : pU a with
      | none =>
        have e1 : strconv_ParseUint_ok (a, 10, 32, ()) = none := by
          show (if a.length ≤ 281474976710656 ∧ (10 : Int) = 10 ∧ (32 : Int) = 32 then (match Lib.parseUintB 32 a with
            | .ok u => some ((u : Int), ())
            | _ => none) else none) = none
          rw [if_pos ⟨ha, rfl, rfl⟩]
          cases hq : Lib.parseUintB 32 a with
          | ok u => exact absurd hq (pU_none hp u)
          | _ => rfl
        have e2 : ∃ v, strconv_ParseUint_er (a, 10, 32, ()) = some (v, (), ()) := by
          show ∃ v, (if a.length ≤ 281474976710656 ∧ (10 : Int) = 10 ∧ (32 : Int) = 32 then (endV (Lib.parseUintB 32 a)).map fun u => (u, (), ()) else none) = some (v, (), ())
          rw [if_pos ⟨ha, rfl, rfl⟩]
          cases hq : Lib.parseUintB 32 a with
          | ok u => exact absurd hq (pU_none hp u)
          | _ => exact ⟨_, rfl⟩
        obtain ⟨v, e2⟩ := e2
        rw [e1, e2]
        exact ⟨_, rfl, fun o ho => by cases ho⟩
      | some n =>
        obtain ⟨hq, hn⟩ := pU_some hp
        have e1 : strconv_ParseUint_ok (a, 10, 32, ()) = some ((n : Int), ()) := by
          show (if a.length ≤ 281474976710656 ∧ (10 : Int) = 10 ∧ (32 : Int) = 32 then (match Lib.parseUintB 32 a with
            | .ok u => some ((u : Int), ())
            | _ => none) else none) = _
          rw [if_pos ⟨ha, rfl, rfl⟩, hq]
        have e2 : strconv_ParseUint_er (a, 10, 32, ()) = none := by
          show (if a.length ≤ 281474976710656 ∧ (10 : Int) = 10 ∧ (32 : Int) = 32 then (endV (Lib.parseUintB 32 a)).map fun u => (u, (), ()) else none) = none
          rw [if_pos ⟨ha, rfl, rfl⟩, hq]
          rfl
        have ec : cvt .u32 (n : Int) = (n : Int) := wu32 (by omega) (by omega)
        rw [e1, e2]
        show Rd (orE (Option.bind (some ((n : Int), ())) _) none) ((some n).bind _)
        rw [Option.bind_some, Option.bind_some]
        dsimp only
        rw [ec, sdigits_eq hn, Option.bind_some, K, K]
        dsimp only
        show Rd (if eqi (n : Int) 0 = true then _ else _) _
        by_cases h0 : n = 0
        · rw [if_pos (by rw [eqi_iff]; omega), if_neg (fun (e : n ≠ 0 ∧ dg n = a) => e.1 h0)]
          exact ⟨_, rfl, fun o ho => by cases ho⟩
        · rw [if_neg (by rw [eqi_iff]; omega)]
          by_cases hd : dg n = a
          · rw [if_neg (by rw [nes_iff]; exact fun e => e hd), if_pos ⟨h0, hd⟩, ec]
            exact ⟨_, rfl, fun o ho => by cases ho; rfl⟩
          · rw [if_pos (by rw [nes_iff]; exact hd), if_neg (fun e => hd e.2)]
            exact ⟨_, rfl, fun o ho => by cases ho⟩
    · have e1 : strip [32] (c :: a) = none := by
        show (if 32 = c then _ else none) = none
        rw [if_neg (fun e => hc e.symm)]
      have e2 : rdN k (c :: a) = none := by
        unfold rdN
        split
        · rename_i a' e
          exact absurd (List.cons.inj e).1 hc
        · rfl
      rw [e1, e2]
      exact ⟨_, rfl, fun o ho => by cases ho⟩
theorem readNothing_eq {k : Int} {r : List UInt8} : Rd (status_readNothing (k, r, ())) (rd0 k r) := by
  have h : status_readNothing (k, r, ()) = some ((k, 0, []), eqs r [], ()) := rfl
  rw [h, eqs_nil]
  unfold rd0
  by_cases hr : r = []
  · rw [if_pos hr, decide_eq_true hr]
    exact ⟨_, rfl, fun o ho => by cases ho; rfl⟩
  · rw [if_neg hr, decide_eq_false hr]
    exact ⟨_, rfl, fun o ho => by cases ho⟩
end Go.Proofs.Lx

end

section
/- Orders printed, and lines read. -/
namespace Go.Proofs.Lx
open Go Ev Sx Pl
set_option maxRecDepth 100000
abbrev SP := List UInt8 × Int × List UInt8 × Int × List UInt8 × Int × List UInt8 × Int × List UInt8 × Int × List UInt8 × Int × (Int × Int × List UInt8)
def stP (s : List UInt8) (j : Int) : SP := (s, 1, wSub, 2, wCan, 3, wSta, 4, wHis, 5, wSla, j, (0, 0, []))
def FP : (SP → Option (As [.pr (.int .u8) (.pr (.int .u32) .str), .int .i64])) → SP → Option (As [.pr (.int .u8) (.pr (.int .u32) .str), .int .i64]) := fun self s =>
  status_Parse_m1 (status_Parse_K2 (fun line t9 t9_2 t9_3 t9_4 t9_5 t9_6 t9_7 t9_8 t9_9 t9_10 t10 t2 => self (line, t9, t9_2, t9_3, t9_4, t9_5, t9_6, t9_7, t9_8, t9_9, t9_10, t10, t2))) status_Parse_K3 (fun line t9 t9_2 t9_3 t9_4 t9_5 t9_6 t9_7 t9_8 t9_9 t9_10 t10 t2 => self (line, t9, t9_2, t9_3, t9_4, t9_5, t9_6, t9_7, t9_8, t9_9, t9_10, t10, t2)) s.1 s.2.1 s.2.2.1 s.2.2.2.1 s.2.2.2.2.1 s.2.2.2.2.2.1 s.2.2.2.2.2.2.1 s.2.2.2.2.2.2.2.1 s.2.2.2.2.2.2.2.2.1 s.2.2.2.2.2.2.2.2.2.1 s.2.2.2.2.2.2.2.2.2.2.1 s.2.2.2.2.2.2.2.2.2.2.2.1 s.2.2.2.2.2.2.2.2.2.2.2.2
abbrev RP := Option (As [.pr (.int .u8) (.pr (.int .u32) .str), .int .i64])
def outP (z : RP) : Option TOrd → RP
  | some o => some (o, 0, ())
  | none => z
theorem formP {w s : List UInt8} {rd : List UInt8 → Option TOrd} {R : List UInt8 → Option (As [.pr (.int .u8) (.pr (.int .u32) .str), .bool])} {Z : RP} {K : Bool → TOrd → RP} (hK : ∀ b o, K b o = if b = true then some (o, 0, ()) else Z)
    (hR : ∀ r, r.length ≤ s.length → Rd (R r) (rd r)) :
    (Option.bind (strings_CutPrefix (s, w, ())) fun y => if (!y.2.1) = true then Z else Option.bind (R y.1) fun y => if y.2.1 = true then Option.bind (status_right (y.1, ())) fun y_1 => K y_1.1 y.1 else K false y.1) = outP Z (form w rd s) := by
  rw [cutp_eq]
  unfold form
  cases hs : strip w s with
  | none => rfl
  | some r =>
    have hl : r.length ≤ s.length := by
      have := congrArg List.length (strip_some hs)
      rw [List.length_append] at this
      omega
    obtain ⟨o', h1, h2⟩ := hR r hl
    show Option.bind (some (r, true, ())) _ = _
    rw [Option.bind_some, if_neg (by show ¬ (!true) = true; decide)]
    show Option.bind (R r) _ = _
    rw [h1, Option.bind_some, Option.bind_some]
    dsimp only
    cases hr : rd r with
    | none =>
      rw [if_neg (by decide), hK, if_neg (by decide)]
      rfl
    | some o =>
      cases h2 o hr
      rw [if_pos (show (some o').isSome = true from rfl), sright_eq, Option.bind_some, Option.bind_some, hK]
      cases rightO o' <;> rfl
theorem sparse_eq {s : List UInt8} (hl : s.length ≤ 100000) : status_Parse (s, ()) = outP (some ((0, 0, []), 280, ())) (parO s) := by
  have h0 : ∀ N, loopF FP (N + 1) (stP s 0) = outP (loopF FP N (stP s 1)) (form wSub (rdT 1) s) := fun N =>
    formP (w := wSub) (rd := rdT 1) (R := fun r => status_readText (1, r, ())) (Z := loopF FP N (stP s 1)) (K := fun b o => if b = true then some (o, 0, ()) else loopF FP N (stP s 1)) (fun _ _ => rfl) (fun r hr => readText_eq (Nat.le_trans (show r.length ≤ s.length from hr) hl))
  have h1 : ∀ N, loopF FP (N + 1) (stP s 1) = outP (loopF FP N (stP s 2)) (form wCan (rdN 2) s) := fun N =>
    formP (w := wCan) (rd := rdN 2) (R := fun r => status_readNumber (2, r, ())) (Z := loopF FP N (stP s 2)) (K := fun b o => if b = true then some (o, 0, ()) else loopF FP N (stP s 2)) (fun _ _ => rfl) (fun r hr => readNumber_eq (Nat.le_trans (show r.length ≤ s.length from hr) hl))
  have h2 : ∀ N, loopF FP (N + 1) (stP s 2) = outP (loopF FP N (stP s 3)) (form wSta (rdN 3) s) := fun N =>
    formP (w := wSta) (rd := rdN 3) (R := fun r => status_readNumber (3, r, ())) (Z := loopF FP N (stP s 3)) (K := fun b o => if b = true then some (o, 0, ()) else loopF FP N (stP s 3)) (fun _ _ => rfl) (fun r hr => readNumber_eq (Nat.le_trans (show r.length ≤ s.length from hr) hl))
  have h3 : ∀ N, loopF FP (N + 1) (stP s 3) = outP (loopF FP N (stP s 4)) (form wHis (rd0 4) s) := fun N =>
    formP (w := wHis) (rd := rd0 4) (R := fun r => status_readNothing (4, r, ())) (Z := loopF FP N (stP s 4)) (K := fun b o => if b = true then some (o, 0, ()) else loopF FP N (stP s 4)) (fun _ _ => rfl) (fun r hr => readNothing_eq)
  have h4 : ∀ N, loopF FP (N + 1) (stP s 4) = outP (loopF FP N (stP s 5)) (form wSla (rd0 5) s) := fun N =>
    formP (w := wSla) (rd := rd0 5) (R := fun r => status_readNothing (5, r, ())) (Z := loopF FP N (stP s 5)) (K := fun b o => if b = true then some (o, 0, ()) else loopF FP N (stP s 5)) (fun _ _ => rfl) (fun r hr => readNothing_eq)
  have h5 : ∀ N, loopF FP (N + 1) (stP s 5) = some ((0, 0, []), 280, ()) := fun N => rfl
  have e : status_Parse (s, ()) = loopF FP (18446744073709551610 + 6) (stP s 0) := rfl
  rw [e, h0, h1, h2, h3, h4, h5]
  unfold parO
  cases form wSub (rdT 1) s with
  | some o => rfl
  | none =>
    cases form wCan (rdN 2) s with
    | some o => rfl
    | none =>
      cases form wSta (rdN 3) s with
      | some o => rfl
      | none =>
        cases form wHis (rd0 4) s with
        | some o => rfl
        | none => cases form wSla (rd0 5) s <;> rfl
theorem wrt_len (t : List UInt8) : (wrt t).length ≤ 2 * t.length := by
  rw [← toS_flat]
  unfold toS
  rw [List.length_map]
  exact flat_len t
theorem dg_le {n : Nat} (h : n < 4294967296) : (dg n).length ≤ 10 := dg_len (by omega) (by omega)
theorem plain_len {t : List UInt8} (h : plainT t = true) : t.length ≤ 8192 := by
  unfold plainT at h
  rw [Bool.and_eq_true] at h
  exact of_decide_eq_true h.1
abbrev SQ := Int × List UInt8 × Int × List UInt8 × Int × List UInt8 × Int × List UInt8 × Int × List UInt8 × Int × (Int × Int × List UInt8)
abbrev RQ := Option (As [.str, .bool])
def FQ : (SQ → RQ) → SQ → RQ := fun self s =>
  status_Print_m1 (fun t9 t9_2 t9_3 t9_4 t9_5 t9_6 t9_7 t9_8 t9_9 t9_10 t10 o => self (t9, t9_2, t9_3, t9_4, t9_5, t9_6, t9_7, t9_8, t9_9, t9_10, t10, o)) s.1 s.2.1 s.2.2.1 s.2.2.2.1 s.2.2.2.2.1 s.2.2.2.2.2.1 s.2.2.2.2.2.2.1 s.2.2.2.2.2.2.2.1 s.2.2.2.2.2.2.2.2.1 s.2.2.2.2.2.2.2.2.2.1 s.2.2.2.2.2.2.2.2.2.2.1 s.2.2.2.2.2.2.2.2.2.2.2
def stQ (j : Int) (o : TOrd) : SQ := (1, wSub, 2, wCan, 3, wSta, 4, wHis, 5, wSla, j, o)
theorem sprint_eq {o : TOrd} (hu : 0 ≤ o.2.1 ∧ o.2.1 < 4294967296) : status_Print (o, ()) = if rightO o = true then some (prO o, true, ()) else some ([], false, ()) := by
  have e : status_Print (o, ()) = Option.bind (status_right (o, ())) fun y => if (!y.1) = true then some ([], false, ()) else loopF FQ (18446744073709551611 + 5) (stQ 0 o) := rfl
  rw [e, sright_eq, Option.bind_some]
  cases hr : rightO o with
  | false => rfl
  | true =>
    rw [if_neg (by show ¬ (!true) = true; decide), if_pos rfl]
    obtain ⟨k, n, t⟩ := o
    have hn : 0 ≤ n ∧ n < 4294967296 := hu
    obtain ⟨m, rfl⟩ := Int.eq_ofNat_of_zero_le hn.1
    have hm : m < 4294967296 := by omega
    unfold rightO at hr
    dsimp only at hr
    by_cases h1 : k = 1
    · subst h1
      rw [if_pos rfl, Bool.and_eq_true] at hr
      have ht := plain_len hr.2
      have hw := wrt_len t
      have key : ∀ N, loopF FQ (N + 5) (stQ 0 (1, (m : Int), t)) = need (small (wSub.length + 1)) (Option.bind (status_written (t, ())) fun y => need (small ((wSub ++ [32]).length + y.1.length)) (some (wSub ++ [32] ++ y.1, true, ()))) := fun N => rfl
      rw [key, need_small (by decide), written_eq (by omega), Option.bind_some, need_small (by simp [wSub]; omega)]
      rfl
    rw [if_neg h1] at hr
    by_cases h2 : k = 2
    · subst h2
      have key : ∀ N, loopF FQ (N + 5) (stQ 0 (2, (m : Int), t)) = need (small (wCan.length + 1)) (Option.bind (status_digits ((m : Int), ())) fun y => need (small ((wCan ++ [32]).length + y.1.length)) (some (wCan ++ [32] ++ y.1, true, ()))) := fun N => rfl
      have hd := dg_le hm
      rw [key, need_small (by decide), sdigits_eq hm, Option.bind_some, need_small (by simp [wCan]; omega)]
      rfl
    by_cases h3 : k = 3
    · subst h3
      have key : ∀ N, loopF FQ (N + 5) (stQ 0 (3, (m : Int), t)) = need (small (wSta.length + 1)) (Option.bind (status_digits ((m : Int), ())) fun y => need (small ((wSta ++ [32]).length + y.1.length)) (some (wSta ++ [32] ++ y.1, true, ()))) := fun N => rfl
      have hd := dg_le hm
      rw [key, need_small (by decide), sdigits_eq hm, Option.bind_some, need_small (by simp [wSta]; omega)]
      rfl
    rw [if_neg (by omega)] at hr
    by_cases h4 : k = 4
    · subst h4
      have key : ∀ N, loopF FQ (N + 5) (stQ 0 (4, (m : Int), t)) = some (wHis, true, ()) := fun N => rfl
      rw [key]
      rfl
    by_cases h5 : k = 5
    · subst h5
      have key : ∀ N, loopF FQ (N + 5) (stQ 0 (5, (m : Int), t)) = some (wSla, true, ()) := fun N => rfl
      rw [key]
      rfl
    rw [if_neg (by omega)] at hr
    cases hr
end Go.Proofs.Lx

end

section
/- StatusBack and StatusWrong, as plain laws. -/
namespace Go.Proofs.Lx
open Go Ev Sx Pl
set_option maxRecDepth 100000
theorem wrong_K4 : law28_StatusWrong_K4 14 0 [[], [32], [83, 116, 97, 116, 117, 115, 32, 49], [115, 116, 97, 116, 117, 115, 32, 32, 49], [115, 116, 97, 116, 117, 115, 32, 43, 49], [115, 116, 97, 116, 117, 115, 32, 49, 32], [99, 97, 110, 99, 101, 108, 32, 45, 49], [104, 105, 115, 116, 111, 114, 121, 32, 49], [115, 108, 97, 118, 101, 115, 32, 120], [115, 117, 98, 109, 105, 116, 32, 92], [115, 117, 98, 109, 105, 116, 32, 92, 120], [115, 117, 98, 109, 105, 116, 32, 0], [115, 117, 98, 109, 105, 116, 32, 10], [115, 117, 98, 109, 105, 116, 9, 120]] = some (true, ()) := by kernel_rfl
theorem ok8s {x : Int} (h : (Lit.int .u8 x).wf = true) : 0 ≤ x ∧ x ≤ 255 := by
  simp [Lit.wf] at h
  have e1 : IntKind.u8.min = 0 := rfl
  have e2 : IntKind.u8.max = 255 := rfl
  omega
theorem ok32s {x : Int} (h : (Lit.int .u32 x).wf = true) : 0 ≤ x ∧ x < 4294967296 := by
  simp [Lit.wf] at h
  have e1 : IntKind.u32.min = 0 := rfl
  have e2 : IntKind.u32.max = 4294967295 := rfl
  omega
theorem ok64s {x : Int} (h : (Lit.int .u64 x).wf = true) : 0 ≤ x ∧ x < 18446744073709551616 := by
  simp [Lit.wf] at h
  have e1 : IntKind.u64.min = 0 := rfl
  have e2 : IntKind.u64.max = 18446744073709551615 := rfl
  omega
/-- are two orders the same, as the program compares them -/
def sameO (a b : TOrd) : Bool := eqi a.1 b.1 && (eqi a.2.1 b.2.1 && (eqs a.2.2 b.2.2 && true))
theorem sameO_iff {a b : TOrd} : sameO a b = true ↔ a = b := by
  obtain ⟨a1, a2, a3⟩ := a
  obtain ⟨b1, b2, b3⟩ := b
  unfold sameO
  simp only [Bool.and_eq_true, eqi_iff, eqs_iff, and_true, Prod.mk.injEq]
theorem prO_len {o : TOrd} (hr : rightO o = true) (hu : 0 ≤ o.2.1 ∧ o.2.1 < 4294967296) : (prO o).length ≤ 20000 := by
  obtain ⟨k, n, t⟩ := o
  have hn : 0 ≤ n ∧ n < 4294967296 := hu
  have hd := dg_le (n := n.toNat) (by omega)
  have hw := wrt_len t
  unfold rightO at hr
  unfold prO
  dsimp only at hr ⊢
  split
  · rename_i h
    rw [if_pos h, Bool.and_eq_true] at hr
    have := plain_len hr.2
    simp [wSub]
    omega
  · split
    · simp [wCan]; omega
    · split
      · simp [wSta]; omega
      · split <;> decide
def OkOrd (o : TOrd) : Prop := 0 ≤ o.2.1 ∧ o.2.1 < 4294967296
/-! ### a line that is an order's, and a byte more -/
theorem right_what {o : TOrd} (h : rightO o = true) : o.1 = 1 ∨ o.1 = 2 ∨ o.1 = 3 ∨ o.1 = 4 ∨ o.1 = 5 := by
  unfold rightO at h
  by_cases h1 : o.1 = 1
  · exact .inl h1
  rw [if_neg h1] at h
  by_cases h2 : o.1 = 2 ∨ o.1 = 3
  · rcases h2 with h2 | h2
    · exact .inr (.inl h2)
    · exact .inr (.inr (.inl h2))
  rw [if_neg h2] at h
  by_cases h4 : o.1 = 4 ∨ o.1 = 5
  · rcases h4 with h4 | h4
    · exact .inr (.inr (.inr (.inl h4)))
    · exact .inr (.inr (.inr (.inr h4)))
  rw [if_neg h4] at h
  cases h
theorem more_byte {o p : TOrd} {c : UInt8} (ho : o.1 = 2 ∨ o.1 = 3 ∨ o.1 = 4 ∨ o.1 = 5) (hp : rightO p = true) (h : prO p = prO o ++ [c]) : p.1 = o.1 ∧ 48 ≤ c.toNat ∧ c.toNat ≤ 57 := by
  obtain ⟨ok, on, ot⟩ := o
  obtain ⟨pk, pn, pt⟩ := p
  have hw := right_what hp
  dsimp only at ho hw ⊢
  have dig : ∀ {m n : Nat}, dg m = dg n ++ [c] → 48 ≤ c.toNat ∧ c.toNat ≤ 57 := fun {m n} e => dg_dig m c (by rw [e]; simp)
  rcases ho with rfl | rfl | rfl | rfl
  · rcases hw with rfl | rfl | rfl | rfl | rfl
    · simp [prO, wSub, wCan] at h
    · have h' : dg pn.toNat = dg on.toNat ++ [c] := by simpa [prO, wCan] using h
      exact ⟨rfl, dig h'⟩
    · simp [prO, wSta, wCan] at h
    · simp [prO, wHis, wCan] at h
    · simp [prO, wSla, wCan] at h
  · rcases hw with rfl | rfl | rfl | rfl | rfl
    · simp [prO, wSub, wSta] at h
    · simp [prO, wCan, wSta] at h
    · have h' : dg pn.toNat = dg on.toNat ++ [c] := by simpa [prO, wSta] using h
      exact ⟨rfl, dig h'⟩
    · simp [prO, wHis, wSta] at h
    · simp [prO, wSla, wSta] at h
  · rcases hw with rfl | rfl | rfl | rfl | rfl
    · simp [prO, wSub, wHis] at h
    · simp [prO, wCan, wHis] at h
    · simp [prO, wSta, wHis] at h
    · simp [prO, wHis] at h
    · simp [prO, wSla, wHis] at h
  · rcases hw with rfl | rfl | rfl | rfl | rfl
    · simp [prO, wSub, wSla] at h
    · simp [prO, wCan, wSla] at h
    · simp [prO, wSta, wSla] at h
    · simp [prO, wHis, wSla] at h
    · simp [prO, wSla] at h
theorem num_parse {n : Nat} : parO (wSta ++ 32 :: dg n) = if n ≠ 0 ∧ n < 4294967296 then some (3, (n : Int), []) else none := by
  by_cases hc : n ≠ 0 ∧ n < 4294967296
  · rw [if_pos hc]
    have hr : rightO (3, (n : Int), []) = true := by
      show (decide (0 < (n : Int)) && decide (([] : List UInt8) = [])) = true
      rw [decide_eq_true (by omega)]
      rfl
    exact parO_pr hr (by show (n : Int) < 4294967296; omega)
  · rw [if_neg hc]
    cases hp : parO (wSta ++ 32 :: dg n) with
    | none => rfl
    | some o =>
      exfalso
      obtain ⟨h1, h2, _, _, h5, h6⟩ := parO_back hp
      obtain ⟨k, m, t⟩ := o
      have hw := right_what h1
      dsimp only at hw h5 h6
      rcases hw with rfl | rfl | rfl | rfl | rfl
      · simp [prO, wSub, wSta] at h2
      · simp [prO, wCan, wSta] at h2
      · have e : dg m.toNat = dg n := by simpa [prO, wSta] using h2
        have e := dg_inj e
        have hm : (decide (0 < m) && decide (t = [])) = true := h1
        rw [Bool.and_eq_true, decide_eq_true_iff] at hm
        exact hc ⟨by omega, by omega⟩
      · simp [prO, wHis, wSta] at h2
      · simp [prO, wSla, wSta] at h2
theorem wrong_K2 {n : Int} (hn : 0 ≤ n ∧ n < 18446744073709551616) : law28_StatusWrong_K2 n false = some (true, ()) := by
  obtain ⟨m, rfl⟩ := Int.eq_ofNat_of_zero_le hn.1
  have hm : m < 18446744073709551616 := by omega
  unfold law28_StatusWrong_K2 law28_StatusWrong_m2
  have K3 : law28_StatusWrong_K3 false = some (true, ()) := by
    unfold law28_StatusWrong_K3 law28_StatusWrong_m3
    rw [if_neg (by decide), wrong_K4]
  have ef : strconv_FormatUint ((m : Int), 10, ()) = some (dg m, ()) := by
    show strconv_FormatUint_m0 (m : Int) 10 = _
    unfold strconv_FormatUint_m0
    have : istrconv_FormatUint ((m : Int), 10, ()) = some (dg m, ()) := by
      show (if (0 ≤ (m : Int) ∧ (m : Int) < 18446744073709551616) ∧ (10 : Int) = 10 then some (dF 19 (m : Int).toNat, ()) else none) = _
      rw [if_pos ⟨⟨by omega, by omega⟩, rfl⟩, Int.toNat_natCast, dF_dg hm]
    rw [this]
    rfl
  have hdl : (dg m).length ≤ 20 := dg_len (by omega) (by omega)
  rw [if_neg (by decide), ef, Option.bind_some]
  dsimp only
  rw [need_small (by omega)]
  have el : (115 :: 116 :: 97 :: 116 :: 117 :: 115 :: 32 :: dg m) = wSta ++ 32 :: dg m := rfl
  rw [el, sparse_eq (by simp [wSta]; omega), num_parse]
  by_cases hc : m ≠ 0 ∧ m < 4294967296
  · rw [if_pos hc]
    show Option.bind (some ((3, (m : Int), []), 0, ())) _ = _
    rw [Option.bind_some]
    dsimp only
    have e1 : lt (m : Int) 4294967296 = true := by rw [lt_iff]; omega
    have e2 : cvt .u32 (m : Int) = (m : Int) := wu32 (by omega) (by omega)
    have e3 : eqi (m : Int) (m : Int) = true := eqi_iff.2 rfl
    rw [if_pos (by rw [ge_iff]; omega), e1, e2, if_neg (by decide), if_pos (by decide), e3]
    exact K3
  · rw [if_neg hc]
    show Option.bind (some ((0, 0, []), 280, ())) _ = _
    rw [Option.bind_some]
    dsimp only
    by_cases h0 : m = 0
    · rw [if_neg (by rw [ge_iff]; omega), if_neg (by decide), if_neg (by decide), K3]
    · have e1 : lt (m : Int) 4294967296 = false := by
        rw [Bool.eq_false_iff]
        intro h
        rw [lt_iff] at h
        exact hc ⟨h0, by omega⟩
      rw [if_pos (by rw [ge_iff]; omega), e1, if_neg (by decide), if_neg (by decide), K3]
theorem wrong_K1 {c n : Int} {o : TOrd} (hc : 0 ≤ c ∧ c ≤ 255) (hn : 0 ≤ n ∧ n < 18446744073709551616) (ho : OkOrd o) (hr : rightO o = true) (hw : o.1 = 2 ∨ o.1 = 3 ∨ o.1 = 4 ∨ o.1 = 5) : law28_StatusWrong_K1 c n o = some (true, ()) := by
  have k2 := wrong_K2 hn
  have hl := prO_len hr ho
  unfold law28_StatusWrong_K1 law28_StatusWrong_m1
  rw [sprint_eq ho, if_pos hr, Option.bind_some]
  dsimp only
  rw [if_neg (by decide), need_small (by show (prO o).length + 1 ≤ 1073741824; omega), sparse_eq (by simp; omega)]
  cases hp : parO (prO o ++ [UInt8.ofNat c.toNat]) with
  | none =>
    show Option.bind (some ((0, 0, []), 280, ())) _ = _
    rw [Option.bind_some, if_neg (by decide), k2]
  | some p =>
    obtain ⟨h1, h2, _, _, h5, h6⟩ := parO_back hp
    obtain ⟨e1, e2, e3⟩ := more_byte hw h1 h2
    have ec : (UInt8.ofNat c.toNat).toNat = c.toNat := by
      rw [UInt8.toNat_ofNat']
      omega
    rw [ec] at e2 e3
    show Option.bind (some (p, 0, ())) _ = _
    rw [Option.bind_some]
    dsimp only
    rw [if_pos (by decide)]
    show (if sameO p o = true then _ else _) = _
    have hne : ¬ sameO p o = true := fun h => by
      have := sameO_iff.1 h
      rw [this] at h2
      have := congrArg List.length h2
      rw [List.length_append] at this
      simp at this
    have e57 : gt c 57 = false := by
      rw [Bool.eq_false_iff]
      intro h
      rw [gt_iff] at h
      omega
    rw [if_neg hne, if_neg (by rw [nei_iff]; simp [e1]), if_neg (by rw [lt_iff]; omega), e57, k2]
theorem wrong_law {what tx c n : Int} (hw : 0 ≤ what ∧ what ≤ 255) (ht : 0 ≤ tx ∧ tx < 4294967296) (hc : 0 ≤ c ∧ c ≤ 255) (hn : 0 ≤ n ∧ n < 18446744073709551616) : law28_StatusWrong (what, tx, c, n, ()) = some (true, ()) := by
  show law28_StatusWrong_m0 law28_StatusWrong_K1 what tx c n = _
  unfold law28_StatusWrong_m0
  have er : rem what 4 = what % 4 := by
    unfold rem
    exact Int.tmod_eq_emod_of_nonneg hw.1
  have ea : add .u8 2 (what % 4) = 2 + what % 4 := wu8 (by omega) (by omega)
  rw [er, ea]
  by_cases h3 : 2 + what % 4 ≤ 3
  · rw [if_pos (le_iff.2 h3)]
    have ht1 : 0 < (if gt 1 tx = true then 1 else tx) ∧ (if gt 1 tx = true then 1 else tx) < 4294967296 := by
      by_cases h : gt 1 tx = true
      · rw [if_pos h]; omega
      · rw [if_neg h]
        rw [gt_iff] at h
        omega
    revert ht1
    generalize (if gt 1 tx = true then 1 else tx) = t'
    intro ht1
    refine wrong_K1 hc hn ⟨by show 0 ≤ t'; omega, ht1.2⟩ ?_ (by show _ ∨ _ ∨ _ ∨ _; omega)
    have e : 2 + what % 4 = 2 ∨ 2 + what % 4 = 3 := by omega
    unfold rightO
    dsimp only
    rw [if_neg (by omega), if_pos e, decide_eq_true ht1.1]
    rfl
  · rw [if_neg (fun e => h3 (le_iff.1 e))]
    refine wrong_K1 hc hn ⟨by show (0 : Int) ≤ 0; omega, by show (0 : Int) < 4294967296; omega⟩ ?_ (by show _ ∨ _ ∨ _ ∨ _; omega)
    have e : 2 + what % 4 = 4 ∨ 2 + what % 4 = 5 := by omega
    unfold rightO
    dsimp only
    rw [if_neg (by omega), if_neg (by omega), if_pos e]
    rfl
theorem wrong_row (x : As [.int .u8, .int .u32, .int .u8, .int .u64]) (h : Rw.okA [.int .u8, .int .u32, .int .u8, .int .u64] x) : law28_StatusWrong x = some (true, ()) :=
  wrong_law (what := x.1) (tx := x.2.1) (c := x.2.2.1) (n := x.2.2.2.1) (ok8s h.1) (ok32s h.2.1) (ok8s h.2.2.1) (ok64s h.2.2.2.1)
end Go.Proofs.Lx

end

section
/- What the rows' lists of variables give: what the library's contracts ask. -/
namespace Go.Proofs.Lx
open Go Go.RowKit Go.ChangeShapes Go.Proofs Go.Proofs.YtchfbdfmphoebaaDoor
/-- the name of the errors' type, as the row has it -/
def nmE : String := match Rows.laid_strconv_ErrRange (H := Unit) with
  | .iface n _ => n
  | _ => ""
theorem rowE (u : TypeId) (h : Tryd.prog.typeName? 3 u = some nmE) : u = 174 :=
  typeName_ptr_named (nm := "errors.errorString") (by kernel_rfl) (by kernel_rfl) (by decide) u (h.trans (congrArg some (by kernel_rfl)))
theorem gP : Tryd.prog.globalNamed p10 = some 2 := by kernel_rfl
theorem heap_var {W W' : World} {n : String} {g : Nat} {cs : Array Value} (hg : Tryd.prog.globalNamed n = some g) (h : W.var? Tryd.prog n = some cs) (hB : Below W.heap.size W W') : W'.var? Tryd.prog n = some cs := by
  unfold World.var? at h ⊢
  rw [hg] at h ⊢
  simp only [Option.bind_some] at h ⊢
  have hlt : g < W.heap.size := by
    rcases Nat.lt_or_ge g W.heap.size with h' | h'
    · exact h'
    · simp [Array.getElem?_eq_none h'] at h
  rw [hB.block g hlt]
  exact h
theorem I0_of {W : World} (h0 : W.var? Tryd.prog p10 = some (Lib.pow10Tab.map fun z => Value.int .u64 z).toArray) {n8 n9 : String} (g8 : Tryd.prog.globalNamed n8 = some 8) (g9 : Tryd.prog.globalNamed n9 = some 9)
    (h8 : ∃ a, W.var? Tryd.prog n8 = some #[.iface 174 (.pointer (some a))]) (h9 : ∃ a, W.var? Tryd.prog n9 = some #[.iface 174 (.pointer (some a))]) : ∀ W', Below W.heap.size W W' → I0 W' := by
  intro W' hB
  obtain ⟨a, h8⟩ := h8
  obtain ⟨b, h9⟩ := h9
  exact ⟨heap_var gP h0 hB, ⟨174, .pointer (some a), by simpa using World.var?_cell g8 (heap_var g8 h8 hB) 0⟩, ⟨174, .pointer (some b), by simpa using World.var?_cell g9 (heap_var g9 h9 hB) 0⟩⟩
theorem I0_laid {W : World} (hL : laidMet Tryd.prog Rows.statusWrongRow.laid W) : ∀ W', Below W.heap.size W W' → I0 W' := by
  have t2 : laidMet Tryd.prog ((p10, Lib.tabData .u64 Lib.pow10Tab) :: (Rows.statusWrongRow.laid.drop 3)) W := hL.tail.tail
  have t3 : laidMet Tryd.prog (Rows.statusWrongRow.laid.drop 3) W := t2.tail
  have t4 : laidMet Tryd.prog (Rows.statusWrongRow.laid.drop 4) W := t3.tail
  obtain ⟨a, _, e1, _⟩ := laid_sentinel (n := "strconv.ErrRange") (nm := nmE) (r := Rows.statusWrongRow.laid.drop 4) t3 (g := 9) (by kernel_rfl) (ti := 105) (by kernel_rfl) Tryd.underlying105 rowE Tryd.underlying174 Tryd.underlying176 rfl rfl Tryd.underlying9 (by kernel_rfl) (by kernel_rfl)
  obtain ⟨b, _, e2, _⟩ := laid_sentinel (n := "strconv.ErrSyntax") (nm := nmE) (r := Rows.statusWrongRow.laid.drop 5) t4 (g := 8) (by kernel_rfl) (ti := 105) (by kernel_rfl) Tryd.underlying105 rowE Tryd.underlying174 Tryd.underlying176 rfl rfl Tryd.underlying9 (by kernel_rfl) (by kernel_rfl)
  exact I0_of (Lib.tabIs_of_head gP (t := 142) (by kernel_rfl) Tryd.underlying142 Tryd.underlying23 (by kernel_rfl) (by kernel_rfl) t2) (n8 := "strconv.ErrSyntax") (n9 := "strconv.ErrRange") (by kernel_rfl) (by kernel_rfl) ⟨b, e2⟩ ⟨a, e1⟩
end Go.Proofs.Lx

end
