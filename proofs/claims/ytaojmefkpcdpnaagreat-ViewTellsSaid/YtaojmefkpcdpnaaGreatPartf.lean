/- Proved in the last of these 12 parts (this is part 6): what registers show, what is replied, and which lines a memory shows, is exactly as the document defines. Conditions: those of the given statement, and no others. -/
import Derived.Test.YtaojmefkpcdpnaaGreatParte
import Derived.Test.YtaojmefkpcdpnaaGreatProg
set_option linter.unusedVariables false
set_option linter.unusedSimpArgs false
set_option linter.unusedSectionVars false
section
open Go Go.Proofs Ev Sx
set_option maxRecDepth 100000
namespace Go.Proofs.Lx
abbrev LAT7 : Ty := (.pr (.int .i64) (.pr .bool (.pr .bool .bool)))
abbrev LAT0 : Ty := (.sl (.pr (.int .i64) LAT7))
abbrev LAT1 : Ty := (.pr (.int .u8) (.pr (.sl .bool) (.pr (.sl (.int .u16)) (.pr (.int .u16) (.int .u16)))))
abbrev LAT2 : Ty := (.pr (.int .u16) (.pr (.int .u16) (.pr (.int .u16) (.pr (.sl (.int .u16)) (.sl .bool)))))
abbrev LAT3 : Type := (Int × Int × Bool × Bool × Bool)
abbrev LAT4 : Ty := (.pr (.sl .bool) (.pr (.sl (.int .u16)) (.sl (.int .u16))))
abbrev LAT5 : Ty := (.pr (.int .u32) (.pr (.int .u16) (.int .u16)))
abbrev LAT6 : Ty := (.pr (.int .u32) (.pr (.int .u8) (.pr (.sl (.int .u8)) (.int .u8))))
abbrev LAT8 : Type := (Int × Int × List Int × Int)
abbrev LAT9 : Type := (List Bool × List Bool × List Int × List Int)
abbrev LAT10 : Type := (Int × Int × Int × Int × List Int × List Bool)
abbrev LAT11 : Ty := (.pr (.int .i64) (.pr (.int .i64) (.pr .bool .bool)))
abbrev LAT12 : Type := (Int × Int × List Bool × List Int × Int × Int)
@[reducible] def q8a_ : Sh := ⟨[.d (.sl (.int .u16)), .d (.sl (.int .u16))], [], [.sl (.int .u16), .sl (.int .u16)], [.d (.bool)], [], 0, [.bool]⟩
def qdc_ : Env := (cts [])
def qd9_ : List (Nat × Hint) := [(58, ⟨[], [0, 1, 12, 13]⟩)]
def q8j_ (a b : List Int) (t12 t13 : Int) : St := { fr := [(0, .d (.sl (.int .u16)) a), (1, .d (.sl (.int .u16)) b), (12, .d (.int .i64) t12), (13, .d (.int .i64) t13)], nt := 26, up := [], own := [], nx := 0, log := [], ln := 0 }
def q8i_ (self1 : List Int -> List Int -> Int -> Int -> Option (As [.bool])) (a b : List Int) (t12 t13 : Int) : Option (As [.bool]) :=
  if lt t13 t12 = true then Option.bind (at? a t13) fun (y : Int) => Option.bind (at? b t13) fun (y_1 : Int) => if nei y y_1 = true then some (false, ()) else self1 a b t12 (add .i64 t13 1) else some (true, ())
def qgi_ (j1 : List Int -> List Int -> Int -> Int -> Option (As [.bool])) (a b : List Int) : Option (As [.bool]) :=
  if nei (Int.ofNat (List.length a)) (Int.ofNat (List.length b)) = true then some (false, ()) else j1 a b (Int.ofNat (List.length a)) 0
def qbl_ (a b : List Int) (t12 t13 : Int) : Option (As [.bool]) :=
  loopF (fun (self : (List Int) × (List Int) × (Int) × (Int) -> Option (As [.bool])) (s : (List Int) × (List Int) × (Int) × (Int)) => q8i_ (fun a b t12 t13 => self (a, b, t12, t13)) s.1 s.2.1 s.2.2.1 s.2.2.2) 18446744073709551616 (a, b, t12, t13)
def law06_Regs (x : As [.sl (.int .u16), .sl (.int .u16)]) : Option (As [.bool]) := qgi_ qbl_ x.1 x.2.1
theorem q10x_ (J : Orc (As [.bool])) (w1 : St -> Option (As [.bool])) (a b : List Int) (t12 t13 : Int) : pfn Tryz.prog qdc_ 6 18446744073709551616 (Ev.get qd9_) 18 q8a_ J 58 [w1] (q8j_ a b t12 t13) = q8i_ (fun a b t12 t13 => w1 (q8j_ a b t12 t13)) a b t12 t13 := by kernel_rfl
theorem qzs_ (J : Orc (As [.bool])) (x : As [.sl (.int .u16), .sl (.int .u16)]) : rfn Tryz.prog qdc_ 6 18446744073709551616 (Ev.get qd9_) 18 q8a_ J x = qgi_ (fun a b t12 t13 => J 58 [] (q8j_ a b t12 t13)) x.1 x.2.1 := by kernel_rfl
theorem qzm_ (a b : List Int) (t12 t13 : Int) : jfn Tryz.prog qdc_ 6 18446744073709551616 (Ev.get qd9_) 18 q8a_ 58 [] (q8j_ a b t12 t13) = qbl_ a b t12 t13 := by
  rw [pfn_eq (by decide)]
  rw [pfn_loop (by kernel_rfl)]
  refine loopF_sim (σ := (List Int) × (List Int) × (Int) × (Int)) (mk := fun s => q8j_ s.1 s.2.1 s.2.2.1 s.2.2.2) (fun w1 s => ?_) 18446744073709551616 (a, b, t12, t13)
  refine (q10x_ _ w1 s.1 s.2.1 s.2.2.1 s.2.2.2).trans ?_
  rfl
theorem q128_ (x : As [.sl (.int .u16), .sl (.int .u16)]) : evT Tryz.prog qdc_ 6 18446744073709551616 (Ev.get qd9_) 18 q8a_ x = law06_Regs x := by
  have e1 : (fun a b t12 t13 => (jfn Tryz.prog qdc_ 6 18446744073709551616 (Ev.get qd9_) 18 q8a_) 58 [] (q8j_ a b t12 t13)) = qbl_ := by funext a b t12 t13; exact qzm_ a b t12 t13
  rw [rfn_eq, qzs_, e1]
  rfl
theorem q10e_ : CtOk Tryz.prog (fun _ => True) 18 ⟨q8a_, law06_Regs⟩ := ct_of_ev env_nil q128_
@[reducible] def qbb_ : Sh := ⟨[.d (.pr (.sl .bool) LAT4), .d (.sl (.int .u16))], [], [.pr (.sl .bool) LAT4, .sl (.int .u16)], [.d (.bool)], [], 0, [.bool]⟩
def qr8_ : Env := (cts [(18, (⟨q8a_, law06_Regs⟩ : Ct))])
def qqi_ : List (Nat × Hint) := []
def qdg_ (m : List Bool × List Bool × List Int × List Int) (r : List Int) : Option (As [.bool]) :=
  Option.bind (law06_Regs (m.2.2.1, r, ())) fun (y : Bool × Unit) => if y.1 = true then some (eqi (add .i64 (add .i64 (Int.ofNat (List.length m.1)) (Int.ofNat (List.length m.2.1))) (Int.ofNat (List.length m.2.2.2))) 0, ()) else some (false, ())
def law29_alone (x : As [.pr (.sl .bool) LAT4, .sl (.int .u16)]) : Option (As [.bool]) := qdg_ x.1 x.2.1
theorem qvx_ (J : Orc (As [.bool])) (x : As [.pr (.sl .bool) LAT4, .sl (.int .u16)]) : rfn Tryz.prog qr8_ 6 18446744073709551616 (Ev.get qqi_) 9 qbb_ J x = qdg_ x.1 x.2.1 := by kernel_rfl
theorem qyw_ (x : As [.pr (.sl .bool) LAT4, .sl (.int .u16)]) : evT Tryz.prog qr8_ 6 18446744073709551616 (Ev.get qqi_) 9 qbb_ x = law29_alone x := by
  rw [rfn_eq, qvx_]
  rfl
theorem qoo_ : CtOk Tryz.prog (fun _ => True) 9 ⟨qbb_, law29_alone⟩ := ct_of_ev (env_cons q10e_ env_nil) qyw_
@[reducible] def q6w_ : Sh := ⟨[.d (.sl LAT6), .d (.int .i64)], [], [.sl LAT6, .int .i64], [.d (.sl LAT6)], [], 0, [.sl LAT6]⟩
def qhh_ : Env := (cts [])
def qhz_ : List (Nat × Hint) := []
def q6g_ (l : List LAT8) (n : Int) : Option (As [.sl LAT6]) :=
  Option.bind (cut l (if gt 0 (Sx.sub .i64 (Int.ofNat (List.length l)) n) = true then 0 else Sx.sub .i64 (Int.ofNat (List.length l)) n) (Int.ofNat (List.length l))) fun (y : List LAT8) => some (y, ())
def view_last_Gapi_Job (x : As [.sl LAT6, .int .i64]) : Option (As [.sl LAT6]) := q6g_ x.1 x.2.1
theorem qpb_ (J : Orc (As [.sl LAT6])) (x : As [.sl LAT6, .int .i64]) : rfn Tryz.prog qhh_ 6 18446744073709551616 (Ev.get qhz_) 19 q6w_ J x = q6g_ x.1 x.2.1 := by kernel_rfl
theorem qpy_ (x : As [.sl LAT6, .int .i64]) : evT Tryz.prog qhh_ 6 18446744073709551616 (Ev.get qhz_) 19 q6w_ x = view_last_Gapi_Job x := by
  rw [rfn_eq, qpb_]
  rfl
theorem qot_ : CtOk Tryz.prog (fun _ => True) 19 ⟨q6w_, view_last_Gapi_Job⟩ := ct_of_ev env_nil qpy_
@[reducible] def qft_ : Sh := ⟨[.d (.int .u32)], [], [.int .u32], [.d (.int .u16), .d (.int .u16)], [], 0, [.int .u16, .int .u16]⟩
def qq6_ : Env := (cts [])
def qqu_ : List (Nat × Hint) := []
def qe8_ (x : Int) : Option (As [.int .u16, .int .u16]) :=
  some (cvt .u16 (Sx.shr .u32 x 16), cvt .u16 x, ())
def words_Parts (x : As [.int .u32]) : Option (As [.int .u16, .int .u16]) := qe8_ x.1
theorem qxw_ (J : Orc (As [.int .u16, .int .u16])) (x : As [.int .u32]) : rfn Tryz.prog qq6_ 6 18446744073709551616 (Ev.get qqu_) 20 qft_ J x = qe8_ x.1 := by kernel_rfl
theorem q10p_ (x : As [.int .u32]) : evT Tryz.prog qq6_ 6 18446744073709551616 (Ev.get qqu_) 20 qft_ x = words_Parts x := by
  rw [rfn_eq, qxw_]
  rfl
theorem qw9_ : CtOk Tryz.prog (fun _ => True) 20 ⟨qft_, words_Parts⟩ := ct_of_ev env_nil q10p_
@[reducible] def q22_ : Sh := ⟨[.d (.sl (.int .u32)), .d (.int .u32)], [], [.sl (.int .u32), .int .u32], [.d (.int .i64)], [], 0, [.int .i64]⟩
def q43_ : Env := (cts [])
def q3y_ : List (Nat × Hint) := [(26, ⟨[], [0, 1, 7, 8]⟩)]
def q2j_ (s : List Int) (v t7 t8 : Int) : St := { fr := [(0, .d (.sl (.int .u32)) s), (1, .d (.int .u32) v), (7, .d (.int .i64) t7), (8, .d (.int .i64) t8)], nt := 19, up := [], own := [], nx := 0, log := [], ln := 0 }
def q2i_ (self1 : List Int -> Int -> Int -> Int -> Option (As [.int .i64])) (s : List Int) (v t7 t8 : Int) : Option (As [.int .i64]) :=
  if lt t8 t7 = true then Option.bind (at? s t8) fun (y : Int) => if eqi v y = true then some (t8, ()) else self1 s v t7 (add .i64 t8 1) else some (-1, ())
def qeu_ (j1 : List Int -> Int -> Int -> Int -> Option (As [.int .i64])) (s : List Int) (v : Int) : Option (As [.int .i64]) :=
  j1 s v (Int.ofNat (List.length s)) 0
def q3t_ (s : List Int) (v t7 t8 : Int) : Option (As [.int .i64]) :=
  loopF (fun (self : (List Int) × (Int) × (Int) × (Int) -> Option (As [.int .i64])) (s : (List Int) × (Int) × (Int) × (Int)) => q2i_ (fun s v t7 t8 => self (s, v, t7, t8)) s.1 s.2.1 s.2.2.1 s.2.2.2) 18446744073709551616 (s, v, t7, t8)
def slices_Index_Guint32 (x : As [.sl (.int .u32), .int .u32]) : Option (As [.int .i64]) := qeu_ q3t_ x.1 x.2.1
theorem qne_ (J : Orc (As [.int .i64])) (w1 : St -> Option (As [.int .i64])) (s : List Int) (v t7 t8 : Int) : pfn Tryz.prog q43_ 6 18446744073709551616 (Ev.get q3y_) 26 q22_ J 26 [w1] (q2j_ s v t7 t8) = q2i_ (fun s v t7 t8 => w1 (q2j_ s v t7 t8)) s v t7 t8 := by kernel_rfl
theorem qn2_ (J : Orc (As [.int .i64])) (x : As [.sl (.int .u32), .int .u32]) : rfn Tryz.prog q43_ 6 18446744073709551616 (Ev.get q3y_) 26 q22_ J x = qeu_ (fun s v t7 t8 => J 26 [] (q2j_ s v t7 t8)) x.1 x.2.1 := by kernel_rfl
theorem qnc_ (s : List Int) (v t7 t8 : Int) : jfn Tryz.prog q43_ 6 18446744073709551616 (Ev.get q3y_) 26 q22_ 26 [] (q2j_ s v t7 t8) = q3t_ s v t7 t8 := by
  rw [pfn_eq (by decide)]
  rw [pfn_loop (by kernel_rfl)]
  refine loopF_sim (σ := (List Int) × (Int) × (Int) × (Int)) (mk := fun s => q2j_ s.1 s.2.1 s.2.2.1 s.2.2.2) (fun w1 s => ?_) 18446744073709551616 (s, v, t7, t8)
  refine (qne_ _ w1 s.1 s.2.1 s.2.2.1 s.2.2.2).trans ?_
  rfl
theorem qnz_ (x : As [.sl (.int .u32), .int .u32]) : evT Tryz.prog q43_ 6 18446744073709551616 (Ev.get q3y_) 26 q22_ x = slices_Index_Guint32 x := by
  have e1 : (fun s v t7 t8 => (jfn Tryz.prog q43_ 6 18446744073709551616 (Ev.get q3y_) 26 q22_) 26 [] (q2j_ s v t7 t8)) = q3t_ := by funext s v t7 t8; exact qnc_ s v t7 t8
  rw [rfn_eq, qn2_, e1]
  rfl
theorem qng_ : CtOk Tryz.prog (fun _ => True) 26 ⟨q22_, slices_Index_Guint32⟩ := ct_of_ev env_nil qnz_
@[reducible] def q4v_ : Sh := ⟨[.d (.sl (.int .u32)), .d (.int .u32)], [], [.sl (.int .u32), .int .u32], [.d (.bool)], [], 0, [.bool]⟩
def qck_ : Env := (cts [(26, (⟨q22_, slices_Index_Guint32⟩ : Ct))])
def qca_ : List (Nat × Hint) := []
def q45_ (s : List Int) (v : Int) : Option (As [.bool]) :=
  Option.bind (slices_Index_Guint32 (s, v, ())) fun (y : Int × Unit) => some (ge y.1 0, ())
def slices_Contains_Guint32 (x : As [.sl (.int .u32), .int .u32]) : Option (As [.bool]) := q45_ x.1 x.2.1
theorem qld_ (J : Orc (As [.bool])) (x : As [.sl (.int .u32), .int .u32]) : rfn Tryz.prog qck_ 6 18446744073709551616 (Ev.get qca_) 21 q4v_ J x = q45_ x.1 x.2.1 := by kernel_rfl
theorem qm6_ (x : As [.sl (.int .u32), .int .u32]) : evT Tryz.prog qck_ 6 18446744073709551616 (Ev.get qca_) 21 q4v_ x = slices_Contains_Guint32 x := by
  rw [rfn_eq, qld_]
  rfl
theorem qlh_ : CtOk Tryz.prog (fun _ => True) 21 ⟨q4v_, slices_Contains_Guint32⟩ := ct_of_ev (env_cons qng_ env_nil) qm6_
@[reducible] def q1p_ : Sh := ⟨[.d (.sl LAT6), .d (.sl (.int .u32))], [], [.sl LAT6, .sl (.int .u32)], [.d (.pr (.sl .bool) LAT4)], [], 0, [.pr (.sl .bool) LAT4]⟩
def q35_ : Env := (cts [(19, (⟨q6w_, view_last_Gapi_Job⟩ : Ct)), (20, (⟨qft_, words_Parts⟩ : Ct)), (21, (⟨q4v_, slices_Contains_Guint32⟩ : Ct))])
def q34_ : List (Nat × Hint) := [(63, ⟨[], [4, 5]⟩), (506, ⟨[], [1, 4, 5, 25, 26, 27, 53, 54, 55, 56]⟩), (259279, ⟨[], [1, 4, 5, 8, 9, 10, 25, 26, 27, 53, 54, 55, 56]⟩), (518558, ⟨[.agd 53 (.sl (.int .u32)), .agd 55 (.int .u32), .agd 56 .bool], [1, 4, 5, 8, 9, 10, 25, 26, 27, 57]⟩)]
def q3g_ (waits : List Int) (t25 : List LAT8) (t26 t27 : Int) (h : List Int) : St := { fr := [(1, .d (.sl (.int .u32)) waits), (4, .pb 0 0), (5, .row 1), (25, .d (.sl LAT6) t25), (26, .d (.int .i64) t26), (27, .d (.int .i64) t27)], nt := 74, up := [], own := [(0, .box 28 [.k (Go.Value.slice Option.none 0 0), .k (Go.Value.slice Option.none 0 0), .k (Go.Value.slice Option.none 0 0), .k (Go.Value.slice Option.none 0 0)]), (1, .row (.int .u16) 43 h)], nx := 2, log := [], ln := 0 }
def qjs_ (waits : List Int) (at' stand : Int) (t25 : List LAT8) (t26 t27 : Int) (t57 : Bool) (h : List Int) (j : Int × Int × List Int × Int) : St := { fr := [(1, .d (.sl (.int .u32)) waits), (4, .pb 0 0), (5, .row 1), (8, .pb 2 0), (9, .d (.int .i64) at'), (10, .d (.int .u8) stand), (25, .d (.sl LAT6) t25), (26, .d (.int .i64) t26), (27, .d (.int .i64) t27), (57, .d .bool t57)], nt := 74, up := [], own := [(0, .box 28 [.k (Go.Value.slice Option.none 0 0), .k (Go.Value.slice Option.none 0 0), .k (Go.Value.slice Option.none 0 0), .k (Go.Value.slice Option.none 0 0)]), (1, .row (.int .u16) 43 h), (2, .box 42 [.d (.int .u32) j.1, .d (.int .u8) j.2.1, .d (.sl (.int .u8)) j.2.2.1, .d (.int .u8) j.2.2.2])], nx := 3, log := [], ln := 0 }
def qkg_ (h : List Int) : St := { fr := [(4, .pb 0 0), (5, .row 1)], nt := 74, up := [], own := [(0, .box 28 [.k (Go.Value.slice Option.none 0 0), .k (Go.Value.slice Option.none 0 0), .k (Go.Value.slice Option.none 0 0), .k (Go.Value.slice Option.none 0 0)]), (1, .row (.int .u16) 43 h)], nx := 2, log := [], ln := 0 }
def qk3_ (waits : List Int) (at' stand : Int) (t25 : List LAT8) (t26 t27 : Int) (h : List Int) (j : Int × Int × List Int × Int) : St := { fr := [(1, .d (.sl (.int .u32)) waits), (4, .pb 0 0), (5, .row 1), (8, .pb 2 0), (9, .d (.int .i64) at'), (10, .d (.int .u8) stand), (25, .d (.sl LAT6) t25), (26, .d (.int .i64) t26), (27, .d (.int .i64) t27)], nt := 74, up := [], own := [(0, .box 28 [.k (Go.Value.slice Option.none 0 0), .k (Go.Value.slice Option.none 0 0), .k (Go.Value.slice Option.none 0 0), .k (Go.Value.slice Option.none 0 0)]), (1, .row (.int .u16) 43 h), (2, .box 42 [.d (.int .u32) j.1, .d (.int .u8) j.2.1, .d (.sl (.int .u8)) j.2.2.1, .d (.int .u8) j.2.2.2])], nx := 3, log := [], ln := 0 }
def qbs_ (j2 : List Int -> Int -> Int -> List LAT8 -> Int -> Int -> Bool -> List Int -> Int × Int × List Int × Int -> Option (As [.pr (.sl .bool) LAT4])) (j3 : List Int -> Option (As [.pr (.sl .bool) LAT4])) (self1 : List Int -> List LAT8 -> Int -> Int -> List Int -> Option (As [.pr (.sl .bool) LAT4])) (waits : List Int) (t25 : List LAT8) (t26 t27 : Int) (h : List Int) : Option (As [.pr (.sl .bool) LAT4]) :=
  if lt t27 t26 = true then Option.bind (at? t25 t27) fun (y : Int × Int × List Int × Int) => Option.bind (words_Parts (y.1, ())) fun (y_1 : Int × Int × Unit) => Option.bind (at? h (add .i64 2 (mul .i64 4 t27))) fun (x : Int) => Option.bind (at? h (add .i64 2 (mul .i64 4 t27))) fun (x : Int) => Option.bind (at? (List.set h (Int.toNat (add .i64 2 (mul .i64 4 t27))) y_1.1) (add .i64 (add .i64 2 (mul .i64 4 t27)) 1)) fun (x : Int) => Option.bind (at? (List.set h (Int.toNat (add .i64 2 (mul .i64 4 t27))) y_1.1) (add .i64 (add .i64 2 (mul .i64 4 t27)) 1)) fun (x : Int) => if eqi y.2.2.2 1 = true then Option.bind (slices_Contains_Guint32 (waits, y.1, ())) fun (y_2 : Bool × Unit) => j2 waits (add .i64 2 (mul .i64 4 t27)) y.2.2.2 t25 t26 t27 y_2.1 (List.set (List.set h (Int.toNat (add .i64 2 (mul .i64 4 t27))) y_1.1) (Int.toNat (add .i64 (add .i64 2 (mul .i64 4 t27)) 1)) y_1.2.1) y else j2 waits (add .i64 2 (mul .i64 4 t27)) y.2.2.2 t25 t26 t27 false (List.set (List.set h (Int.toNat (add .i64 2 (mul .i64 4 t27))) y_1.1) (Int.toNat (add .i64 (add .i64 2 (mul .i64 4 t27)) 1)) y_1.2.1) y else j3 h
def qns_ (j4 : List Int -> Int -> Int -> List LAT8 -> Int -> Int -> List Int -> Int × Int × List Int × Int -> Option (As [.pr (.sl .bool) LAT4])) (self1 : List Int -> List LAT8 -> Int -> Int -> List Int -> Option (As [.pr (.sl .bool) LAT4])) (waits : List Int) (at' stand : Int) (t25 : List LAT8) (t26 t27 : Int) (t57 : Bool) (h : List Int) (j : Int × Int × List Int × Int) : Option (As [.pr (.sl .bool) LAT4]) :=
  if t57 = true then j4 waits at' 6 t25 t26 t27 h j else j4 waits at' stand t25 t26 t27 h j
def qo7_ (h : List Int) : Option (As [.pr (.sl .bool) LAT4]) :=
  some (([], [], h, []), ())
def qnp_ (self1 : List Int -> List LAT8 -> Int -> Int -> List Int -> Option (As [.pr (.sl .bool) LAT4])) (waits : List Int) (at' stand : Int) (t25 : List LAT8) (t26 t27 : Int) (h : List Int) (j : Int × Int × List Int × Int) : Option (As [.pr (.sl .bool) LAT4]) :=
  Option.bind (at? h (add .i64 at' 2)) fun (x : Int) => Option.bind (at? h (add .i64 at' 2)) fun (x : Int) => Option.bind (at? (List.set h (Int.toNat (add .i64 at' 2)) (cvt .u16 stand)) (add .i64 at' 3)) fun (x : Int) => Option.bind (at? (List.set h (Int.toNat (add .i64 at' 2)) (cvt .u16 stand)) (add .i64 at' 3)) fun (x : Int) => self1 waits t25 t26 (add .i64 t27 1) (List.set (List.set h (Int.toNat (add .i64 at' 2)) (cvt .u16 stand)) (Int.toNat (add .i64 at' 3)) (cvt .u16 j.2.1))
def qkf_ (j1 : List Int -> List LAT8 -> Int -> Int -> List Int -> Option (As [.pr (.sl .bool) LAT4])) (l : List LAT8) (waits : List Int) : Option (As [.pr (.sl .bool) LAT4]) :=
  Option.bind (view_last_Gapi_Job (l, 12, ())) fun (y : List LAT8 × Unit) => j1 waits y.1 (Int.ofNat (List.length y.1)) 0 [cvt .u16 (if lt 65535 (Int.ofNat (List.length l)) = true then 65535 else Int.ofNat (List.length l)), cvt .u16 (Int.ofNat (List.length y.1)), 0, 0, 0, 0, 0, 0, 0, 0, 0, 0, 0, 0, 0, 0, 0, 0, 0, 0, 0, 0, 0, 0, 0, 0, 0, 0, 0, 0, 0, 0, 0, 0, 0, 0, 0, 0, 0, 0, 0, 0, 0, 0, 0, 0, 0, 0, 0, 0]
def qf6_ (u1 : List Int -> List LAT8 -> Int -> Int -> List Int -> Option (As [.pr (.sl .bool) LAT4])) (waits : List Int) (at' stand : Int) (t25 : List LAT8) (t26 t27 : Int) (h : List Int) (j : Int × Int × List Int × Int) : Option (As [.pr (.sl .bool) LAT4]) := qnp_ u1 waits at' stand t25 t26 t27 h j
def qfe_ (u1 : List Int -> List LAT8 -> Int -> Int -> List Int -> Option (As [.pr (.sl .bool) LAT4])) (waits : List Int) (at' stand : Int) (t25 : List LAT8) (t26 t27 : Int) (t57 : Bool) (h : List Int) (j : Int × Int × List Int × Int) : Option (As [.pr (.sl .bool) LAT4]) := qns_ (qf6_ u1) u1 waits at' stand t25 t26 t27 t57 h j
def qfi_ (h : List Int) : Option (As [.pr (.sl .bool) LAT4]) := qo7_ h
def qbw_ (waits : List Int) (t25 : List LAT8) (t26 t27 : Int) (h : List Int) : Option (As [.pr (.sl .bool) LAT4]) :=
  loopF (fun (self : (List Int) × (List LAT8) × (Int) × (Int) × (List Int) -> Option (As [.pr (.sl .bool) LAT4])) (s : (List Int) × (List LAT8) × (Int) × (Int) × (List Int)) => qbs_ (qfe_ (fun waits t25 t26 t27 h => self (waits, t25, t26, t27, h))) (qfi_) (fun waits t25 t26 t27 h => self (waits, t25, t26, t27, h)) s.1 s.2.1 s.2.2.1 s.2.2.2.1 s.2.2.2.2) 18446744073709551616 (waits, t25, t26, t27, h)
def view_Mem (x : As [.sl LAT6, .sl (.int .u32)]) : Option (As [.pr (.sl .bool) LAT4]) := qkf_ qbw_ x.1 x.2.1
theorem q151_ (J : Orc (As [.pr (.sl .bool) LAT4])) (w1 : St -> Option (As [.pr (.sl .bool) LAT4])) (waits : List Int) (at' stand : Int) (t25 : List LAT8) (t26 t27 : Int) (h : List Int) (j : Int × Int × List Int × Int) : pfn Tryz.prog q35_ 6 18446744073709551616 (Ev.get q34_) 10 q1p_ J 259279 [w1] (qk3_ waits at' stand t25 t26 t27 h j) = qnp_ (fun waits t25 t26 t27 h => w1 (q3g_ waits t25 t26 t27 h)) waits at' stand t25 t26 t27 h j := by kernel_rfl
theorem q14u_ (J : Orc (As [.pr (.sl .bool) LAT4])) (w1 : St -> Option (As [.pr (.sl .bool) LAT4])) (waits : List Int) (at' stand : Int) (t25 : List LAT8) (t26 t27 : Int) (t57 : Bool) (h : List Int) (j : Int × Int × List Int × Int) : pfn Tryz.prog q35_ 6 18446744073709551616 (Ev.get q34_) 10 q1p_ J 518558 [w1] (qjs_ waits at' stand t25 t26 t27 t57 h j) = qns_ (fun waits at' stand t25 t26 t27 h j => J 259279 [w1] (qk3_ waits at' stand t25 t26 t27 h j)) (fun waits t25 t26 t27 h => w1 (q3g_ waits t25 t26 t27 h)) waits at' stand t25 t26 t27 t57 h j := by kernel_rfl
theorem q13o_ (J : Orc (As [.pr (.sl .bool) LAT4])) (h : List Int) : pfn Tryz.prog q35_ 6 18446744073709551616 (Ev.get q34_) 10 q1p_ J 63 [] (qkg_ h) = qo7_ h := by kernel_rfl
theorem q145_ (J : Orc (As [.pr (.sl .bool) LAT4])) (w1 : St -> Option (As [.pr (.sl .bool) LAT4])) (waits : List Int) (t25 : List LAT8) (t26 t27 : Int) (h : List Int) : pfn Tryz.prog q35_ 6 18446744073709551616 (Ev.get q34_) 10 q1p_ J 506 [w1] (q3g_ waits t25 t26 t27 h) = qbs_ (fun waits at' stand t25 t26 t27 t57 h j => J 518558 [w1] (qjs_ waits at' stand t25 t26 t27 t57 h j)) (fun h => J 63 [] (qkg_ h)) (fun waits t25 t26 t27 h => w1 (q3g_ waits t25 t26 t27 h)) waits t25 t26 t27 h := by kernel_rfl
theorem q14h_ (J : Orc (As [.pr (.sl .bool) LAT4])) (x : As [.sl LAT6, .sl (.int .u32)]) : rfn Tryz.prog q35_ 6 18446744073709551616 (Ev.get q34_) 10 q1p_ J x = qkf_ (fun waits t25 t26 t27 h => J 506 [] (q3g_ waits t25 t26 t27 h)) x.1 x.2.1 := by kernel_rfl
theorem q144_ (w1 : St -> Option (As [.pr (.sl .bool) LAT4])) (waits : List Int) (at' stand : Int) (t25 : List LAT8) (t26 t27 : Int) (h : List Int) (j : Int × Int × List Int × Int) : jfn Tryz.prog q35_ 6 18446744073709551616 (Ev.get q34_) 10 q1p_ 259279 [w1] (qk3_ waits at' stand t25 t26 t27 h j) = qf6_ (fun waits t25 t26 t27 h => w1 (q3g_ waits t25 t26 t27 h)) waits at' stand t25 t26 t27 h j := by
  rw [pfn_eq (by decide)]
  rw [q151_]
  rfl
theorem q158_ (w1 : St -> Option (As [.pr (.sl .bool) LAT4])) (waits : List Int) (at' stand : Int) (t25 : List LAT8) (t26 t27 : Int) (t57 : Bool) (h : List Int) (j : Int × Int × List Int × Int) : jfn Tryz.prog q35_ 6 18446744073709551616 (Ev.get q34_) 10 q1p_ 518558 [w1] (qjs_ waits at' stand t25 t26 t27 t57 h j) = qfe_ (fun waits t25 t26 t27 h => w1 (q3g_ waits t25 t26 t27 h)) waits at' stand t25 t26 t27 t57 h j := by
  rw [pfn_eq (by decide)]
  have e4 : (fun waits at' stand t25 t26 t27 h j => (jfn Tryz.prog q35_ 6 18446744073709551616 (Ev.get q34_) 10 q1p_) 259279 [w1] (qk3_ waits at' stand t25 t26 t27 h j)) = qf6_ (fun waits t25 t26 t27 h => w1 (q3g_ waits t25 t26 t27 h)) := by funext waits at' stand t25 t26 t27 h j; exact q144_ w1 waits at' stand t25 t26 t27 h j
  rw [q14u_, e4]
  rfl
theorem q14d_ (h : List Int) : jfn Tryz.prog q35_ 6 18446744073709551616 (Ev.get q34_) 10 q1p_ 63 [] (qkg_ h) = qfi_ h := by
  rw [pfn_eq (by decide)]
  rw [q13o_]
  rfl
theorem q14w_ (waits : List Int) (t25 : List LAT8) (t26 t27 : Int) (h : List Int) : jfn Tryz.prog q35_ 6 18446744073709551616 (Ev.get q34_) 10 q1p_ 506 [] (q3g_ waits t25 t26 t27 h) = qbw_ waits t25 t26 t27 h := by
  rw [pfn_eq (by decide)]
  rw [pfn_loop (by kernel_rfl)]
  refine loopF_sim (σ := (List Int) × (List LAT8) × (Int) × (Int) × (List Int)) (mk := fun s => q3g_ s.1 s.2.1 s.2.2.1 s.2.2.2.1 s.2.2.2.2) (fun w1 s => ?_) 18446744073709551616 (waits, t25, t26, t27, h)
  have e2 : (fun waits at' stand t25 t26 t27 t57 h j => (jfn Tryz.prog q35_ 6 18446744073709551616 (Ev.get q34_) 10 q1p_) 518558 [w1] (qjs_ waits at' stand t25 t26 t27 t57 h j)) = qfe_ (fun waits t25 t26 t27 h => w1 (q3g_ waits t25 t26 t27 h)) := by funext waits at' stand t25 t26 t27 t57 h j; exact q158_ w1 waits at' stand t25 t26 t27 t57 h j
  have e3 : (fun h => (jfn Tryz.prog q35_ 6 18446744073709551616 (Ev.get q34_) 10 q1p_) 63 [] (qkg_ h)) = qfi_ := funext fun h => q14d_ h
  refine (q145_ _ w1 s.1 s.2.1 s.2.2.1 s.2.2.2.1 s.2.2.2.2).trans ?_
  rw [e2, e3]
theorem q15b_ (x : As [.sl LAT6, .sl (.int .u32)]) : evT Tryz.prog q35_ 6 18446744073709551616 (Ev.get q34_) 10 q1p_ x = view_Mem x := by
  have e1 : (fun waits t25 t26 t27 h => (jfn Tryz.prog q35_ 6 18446744073709551616 (Ev.get q34_) 10 q1p_) 506 [] (q3g_ waits t25 t26 t27 h)) = qbw_ := by funext waits t25 t26 t27 h; exact q14w_ waits t25 t26 t27 h
  rw [rfn_eq, q14h_, e1]
  rfl
theorem qnv_ : CtOk Tryz.prog (fun _ => True) 10 ⟨q1p_, view_Mem⟩ := ct_of_ev (env_cons qot_ (env_cons qw9_ (env_cons qlh_ env_nil))) q15b_
@[reducible] def qcx_ : Sh := ⟨[.d (.sl (.int .u8)), .d (.sl (.int .u8))], [], [.sl (.int .u8), .sl (.int .u8)], [.d (.bool)], [], 0, [.bool]⟩
def qs1_ : Env := (cts [])
def qsl_ : List (Nat × Hint) := []
def qqa_ (a b : List Int) : Option (As [.bool]) :=
  some (eqs (Sx.toS a) (Sx.toS b), ())
def law06_Same (x : As [.sl (.int .u8), .sl (.int .u8)]) : Option (As [.bool]) := qqa_ x.1 x.2.1
theorem q110_ (J : Orc (As [.bool])) (x : As [.sl (.int .u8), .sl (.int .u8)]) : rfn Tryz.prog qs1_ 6 18446744073709551616 (Ev.get qsl_) 12 qcx_ J x = qqa_ x.1 x.2.1 := by kernel_rfl
theorem q11m_ (x : As [.sl (.int .u8), .sl (.int .u8)]) : evT Tryz.prog qs1_ 6 18446744073709551616 (Ev.get qsl_) 12 qcx_ x = law06_Same x := by
  rw [rfn_eq, q110_]
  rfl
theorem qq7_ : CtOk Tryz.prog (fun _ => True) 12 ⟨qcx_, law06_Same⟩ := ct_of_ev env_nil q11m_
@[reducible] def qd6_ : Sh := ⟨[], [], [], [.d (.pr LAT0 (.pr LAT0 (.pr LAT0 LAT0)))], [], 0, [.pr LAT0 (.pr LAT0 (.pr LAT0 LAT0))]⟩
def qso_ : Env := (cts [])
def qs9_ : List (Nat × Hint) := []
def qqn_ : Option (As [.pr LAT0 (.pr LAT0 (.pr LAT0 LAT0))]) :=
  some (([], [], [(0, 50, true, false, false)], []), ())
def view_Space (x : As []) : Option (As [.pr LAT0 (.pr LAT0 (.pr LAT0 LAT0))]) := qqn_
theorem q10q_ (J : Orc (As [.pr LAT0 (.pr LAT0 (.pr LAT0 LAT0))])) (x : As []) : rfn Tryz.prog qso_ 6 18446744073709551616 (Ev.get qs9_) 15 qd6_ J x = qqn_ := by kernel_rfl
theorem q11s_ (x : As []) : evT Tryz.prog qso_ 6 18446744073709551616 (Ev.get qs9_) 15 qd6_ x = view_Space x := by
  rw [rfn_eq, q10q_]
  rfl
theorem qq3_ : CtOk Tryz.prog (fun _ => True) 15 ⟨qd6_, view_Space⟩ := ct_of_ev env_nil q11s_
@[reducible] def q9i_ : Sh := ⟨[.d (.int .u8)], [], [.int .u8], [.d (.pr (.int .i64) LAT11), .d (.bool)], [], 0, [.pr (.int .i64) LAT11, .bool]⟩
def qt6_ : Env := (cts [])
def qt5_ : List (Nat × Hint) := []
def qsc_ (f : Int) : Option (As [.pr (.int .i64) LAT11, .bool]) :=
  some (Ev.gdV (.pr (.int .i64) LAT11) (if eqi 1 f = true then some (2000, 0, 0, false, false) else if eqi 2 f = true then some (2000, 0, 0, false, false) else if eqi 3 f = true then some (125, 0, 0, false, false) else if eqi 4 f = true then some (125, 0, 0, false, false) else if eqi 5 f = true then some (0, 1, 0, false, false) else if eqi 6 f = true then some (0, 0, 1, false, false) else if eqi 15 f = true then some (1968, 1968, 0, false, true) else if eqi 16 f = true then some (123, 0, 123, false, true) else if eqi 23 f = true then some (125, 0, 121, true, false) else Option.none) (0, 0, 0, false, false), Ev.isV (.pr (.int .i64) LAT11) (if eqi 1 f = true then some (2000, 0, 0, false, false) else if eqi 2 f = true then some (2000, 0, 0, false, false) else if eqi 3 f = true then some (125, 0, 0, false, false) else if eqi 4 f = true then some (125, 0, 0, false, false) else if eqi 5 f = true then some (0, 1, 0, false, false) else if eqi 6 f = true then some (0, 0, 1, false, false) else if eqi 15 f = true then some (1968, 1968, 0, false, true) else if eqi 16 f = true then some (123, 0, 123, false, true) else if eqi 23 f = true then some (125, 0, 121, true, false) else Option.none), ())
def ask_shape (x : As [.int .u8]) : Option (As [.pr (.int .i64) LAT11, .bool]) := qsc_ x.1
theorem q12a_ (J : Orc (As [.pr (.int .i64) LAT11, .bool])) (x : As [.int .u8]) : rfn Tryz.prog qt6_ 6 18446744073709551616 (Ev.get qt5_) 37 q9i_ J x = qsc_ x.1 := by kernel_rfl
theorem q14x_ (x : As [.int .u8]) : evT Tryz.prog qt6_ 6 18446744073709551616 (Ev.get qt5_) 37 q9i_ x = ask_shape x := by
  rw [rfn_eq, q12a_]
  rfl
theorem qhm_ : CtOk Tryz.prog (fun _ => True) 37 ⟨q9i_, ask_shape⟩ := ct_of_ev env_nil q14x_
@[reducible] def q9d_ : Sh := ⟨[.d (.sl (.int .u8))], [], [.sl (.int .u8)], [.d (.sl (.int .u16))], [], 0, [.sl (.int .u16)]⟩
def qhs_ : Env := (cts [])
def qi6_ : List (Nat × Hint) := [(58, ⟨[], [0, 3, 10, 11]⟩)]
def qbu_ (b : List Int) (t10 t11 : Int) (l : List Int) : St := { fr := [(0, .d (.sl (.int .u8)) b), (3, .row 0), (10, .d (.int .i64) t10), (11, .d (.int .i64) t11)], nt := 34, up := [], own := [(0, .row (.int .u16) 43 l)], nx := 1, log := [], ln := 0 }
def qc5_ (self1 : List Int -> Int -> Int -> List Int -> Option (As [.sl (.int .u16)])) (b : List Int) (t10 t11 : Int) (l : List Int) : Option (As [.sl (.int .u16)]) :=
  if lt t11 t10 = true then Option.bind (at? b (mul .i64 2 t11)) fun (y : Int) => Option.bind (at? b (add .i64 (mul .i64 2 t11) 1)) fun (y_1 : Int) => Option.bind (at? l t11) fun (x : Int) => Option.bind (at? l t11) fun (x : Int) => self1 b t10 (add .i64 t11 1) (List.set l (Int.toNat t11) (Sx.bor .u16 (Sx.shl .u16 (cvt .u16 y) 8) (cvt .u16 y_1))) else some (l, ())
def qjx_ (j1 : List Int -> Int -> Int -> List Int -> Option (As [.sl (.int .u16)])) (b : List Int) : Option (As [.sl (.int .u16)]) :=
  need (ge (quo .i64 (Int.ofNat (List.length b)) 2) 0) (need (Ev.capOk (quo .i64 (Int.ofNat (List.length b)) 2) (quo .i64 (Int.ofNat (List.length b)) 2)) (need (small (Int.toNat (quo .i64 (Int.ofNat (List.length b)) 2))) (j1 b (Int.ofNat (List.length (List.replicate (α := Int) (Int.toNat (quo .i64 (Int.ofNat (List.length b)) 2)) 0))) 0 (List.replicate (Int.toNat (quo .i64 (Int.ofNat (List.length b)) 2)) 0))))
def qfj_ (b : List Int) (t10 t11 : Int) (l : List Int) : Option (As [.sl (.int .u16)]) :=
  loopF (fun (self : (List Int) × (Int) × (Int) × (List Int) -> Option (As [.sl (.int .u16)])) (s : (List Int) × (Int) × (Int) × (List Int)) => qc5_ (fun b t10 t11 l => self (b, t10, t11, l)) s.1 s.2.1 s.2.2.1 s.2.2.2) 18446744073709551616 (b, t10, t11, l)
def ask_list (x : As [.sl (.int .u8)]) : Option (As [.sl (.int .u16)]) := qjx_ qfj_ x.1
theorem q148_ (J : Orc (As [.sl (.int .u16)])) (w1 : St -> Option (As [.sl (.int .u16)])) (b : List Int) (t10 t11 : Int) (l : List Int) : pfn Tryz.prog qhs_ 6 18446744073709551616 (Ev.get qi6_) 75 q9d_ J 58 [w1] (qbu_ b t10 t11 l) = qc5_ (fun b t10 t11 l => w1 (qbu_ b t10 t11 l)) b t10 t11 l := by kernel_rfl
theorem q13s_ (J : Orc (As [.sl (.int .u16)])) (x : As [.sl (.int .u8)]) : rfn Tryz.prog qhs_ 6 18446744073709551616 (Ev.get qi6_) 75 q9d_ J x = qjx_ (fun b t10 t11 l => J 58 [] (qbu_ b t10 t11 l)) x.1 := by kernel_rfl
theorem q146_ (b : List Int) (t10 t11 : Int) (l : List Int) : jfn Tryz.prog qhs_ 6 18446744073709551616 (Ev.get qi6_) 75 q9d_ 58 [] (qbu_ b t10 t11 l) = qfj_ b t10 t11 l := by
  rw [pfn_eq (by decide)]
  rw [pfn_loop (by kernel_rfl)]
  refine loopF_sim (σ := (List Int) × (Int) × (Int) × (List Int)) (mk := fun s => qbu_ s.1 s.2.1 s.2.2.1 s.2.2.2) (fun w1 s => ?_) 18446744073709551616 (b, t10, t11, l)
  refine (q148_ _ w1 s.1 s.2.1 s.2.2.1 s.2.2.2).trans ?_
  rfl
theorem q15d_ (x : As [.sl (.int .u8)]) : evT Tryz.prog qhs_ 6 18446744073709551616 (Ev.get qi6_) 75 q9d_ x = ask_list x := by
  have e1 : (fun b t10 t11 l => (jfn Tryz.prog qhs_ 6 18446744073709551616 (Ev.get qi6_) 75 q9d_) 58 [] (qbu_ b t10 t11 l)) = qfj_ := by funext b t10 t11 l; exact q146_ b t10 t11 l
  rw [rfn_eq, q13s_, e1]
  rfl
theorem qt1_ : CtOk Tryz.prog (fun _ => True) 75 ⟨q9d_, ask_list⟩ := ct_of_ev env_nil q15d_
@[reducible] def q7t_ : Sh := ⟨[.d (.sl (.int .u8))], [], [.sl (.int .u8)], [.d (.sl .bool)], [], 0, [.sl .bool]⟩
def qco_ : Env := (cts [])
def qd0_ : List (Nat × Hint) := [(58, ⟨[], [0, 3, 10, 11]⟩)]
def q8n_ (b : List Int) (t10 t11 : Int) (out : List Bool) : St := { fr := [(0, .d (.sl (.int .u8)) b), (3, .row 0), (10, .d (.int .i64) t10), (11, .d (.int .i64) t11)], nt := 29, up := [], own := [(0, .row .bool 4 out)], nx := 1, log := [], ln := 0 }
def q8h_ (self1 : List Int -> Int -> Int -> List Bool -> Option (As [.sl .bool])) (b : List Int) (t10 t11 : Int) (out : List Bool) : Option (As [.sl .bool]) :=
  if lt t11 t10 = true then Option.bind (at? b (quo .i64 t11 8)) fun (y : Int) => need (ge (rem t11 8) 0) (Option.bind (at? out t11) fun (x : Bool) => Option.bind (at? out t11) fun (x : Bool) => self1 b t10 (add .i64 t11 1) (List.set out (Int.toNat t11) (eqi (Sx.band .u8 (Sx.shr .u8 y (rem t11 8)) 1) 1))) else some (out, ())
def qfz_ (j1 : List Int -> Int -> Int -> List Bool -> Option (As [.sl .bool])) (b : List Int) : Option (As [.sl .bool]) :=
  need (ge (mul .i64 8 (Int.ofNat (List.length b))) 0) (need (Ev.capOk (mul .i64 8 (Int.ofNat (List.length b))) (mul .i64 8 (Int.ofNat (List.length b)))) (need (small (Int.toNat (mul .i64 8 (Int.ofNat (List.length b))))) (j1 b (Int.ofNat (List.length (List.replicate (Int.toNat (mul .i64 8 (Int.ofNat (List.length b)))) false))) 0 (List.replicate (Int.toNat (mul .i64 8 (Int.ofNat (List.length b)))) false))))
def qb9_ (b : List Int) (t10 t11 : Int) (out : List Bool) : Option (As [.sl .bool]) :=
  loopF (fun (self : (List Int) × (Int) × (Int) × (List Bool) -> Option (As [.sl .bool])) (s : (List Int) × (Int) × (Int) × (List Bool)) => q8h_ (fun b t10 t11 out => self (b, t10, t11, out)) s.1 s.2.1 s.2.2.1 s.2.2.2) 18446744073709551616 (b, t10, t11, out)
def ask_Unpack (x : As [.sl (.int .u8)]) : Option (As [.sl .bool]) := qfz_ qb9_ x.1
theorem qzf_ (J : Orc (As [.sl .bool])) (w1 : St -> Option (As [.sl .bool])) (b : List Int) (t10 t11 : Int) (out : List Bool) : pfn Tryz.prog qco_ 6 18446744073709551616 (Ev.get qd0_) 81 q7t_ J 58 [w1] (q8n_ b t10 t11 out) = q8h_ (fun b t10 t11 out => w1 (q8n_ b t10 t11 out)) b t10 t11 out := by kernel_rfl
theorem q119_ (J : Orc (As [.sl .bool])) (x : As [.sl (.int .u8)]) : rfn Tryz.prog qco_ 6 18446744073709551616 (Ev.get qd0_) 81 q7t_ J x = qfz_ (fun b t10 t11 out => J 58 [] (q8n_ b t10 t11 out)) x.1 := by kernel_rfl
theorem q10t_ (b : List Int) (t10 t11 : Int) (out : List Bool) : jfn Tryz.prog qco_ 6 18446744073709551616 (Ev.get qd0_) 81 q7t_ 58 [] (q8n_ b t10 t11 out) = qb9_ b t10 t11 out := by
  rw [pfn_eq (by decide)]
  rw [pfn_loop (by kernel_rfl)]
  refine loopF_sim (σ := (List Int) × (Int) × (Int) × (List Bool)) (mk := fun s => q8n_ s.1 s.2.1 s.2.2.1 s.2.2.2) (fun w1 s => ?_) 18446744073709551616 (b, t10, t11, out)
  refine (qzf_ _ w1 s.1 s.2.1 s.2.2.1 s.2.2.2).trans ?_
  rfl
theorem q11l_ (x : As [.sl (.int .u8)]) : evT Tryz.prog qco_ 6 18446744073709551616 (Ev.get qd0_) 81 q7t_ x = ask_Unpack x := by
  have e1 : (fun b t10 t11 out => (jfn Tryz.prog qco_ 6 18446744073709551616 (Ev.get qd0_) 81 q7t_) 58 [] (q8n_ b t10 t11 out)) = qb9_ := by funext b t10 t11 out; exact q10t_ b t10 t11 out
  rw [rfn_eq, q119_, e1]
  rfl
theorem q102_ : CtOk Tryz.prog (fun _ => True) 81 ⟨q7t_, ask_Unpack⟩ := ct_of_ev env_nil q11l_
@[reducible] def q6s_ : Sh := ⟨[.d (.pr (.int .u8) LAT2), .d (.pr (.int .i64) LAT11), .d (.sl (.int .u8))], [], [.pr (.int .u8) LAT2, .pr (.int .i64) LAT11, .sl (.int .u8)], [.d (.pr (.int .u8) LAT2), .d (.bool)], [], 0, [.pr (.int .u8) LAT2, .bool]⟩
def qbj_ : Env := (cts [(75, (⟨q9d_, ask_list⟩ : Ct)), (81, (⟨q7t_, ask_Unpack⟩ : Ct))])
def qbq_ : List (Nat × Hint) := [(15, ⟨[.frb 3, .frb 6], [3, 6]⟩)]
def qdo_ (a a_2 a_3 a_4 : Int) (a_5 : List Int) (a_6 : List Bool) (t6 t6_2 t6_3 t6_4 : Int) (t6_5 : List Int) (t6_6 : List Bool) : St := { fr := [(3, .pb 0 0), (6, .pb 1 0)], nt := 63, up := [], own := [(0, .box 65 [.d (.int .u8) a, .d (.int .u16) a_2, .d (.int .u16) a_3, .d (.int .u16) a_4, .d (.sl (.int .u16)) a_5, .d (.sl .bool) a_6]), (1, .box 65 [.d (.int .u8) t6, .d (.int .u16) t6_2, .d (.int .u16) t6_3, .d (.int .u16) t6_4, .d (.sl (.int .u16)) t6_5, .d (.sl .bool) t6_6])], nx := 2, log := [], ln := 0 }
def qor_ (a a_2 a_3 a_4 : Int) (a_5 : List Int) (a_6 : List Bool) (t6 t6_2 t6_3 t6_4 : Int) (t6_5 : List Int) (t6_6 : List Bool) : Option (As [.pr (.int .u8) LAT2, .bool]) :=
  some ((a, a_2, a_3, a_4, a_5, a_6), true, ())
def qdk_ (j1 : Int -> Int -> Int -> Int -> List Int -> List Bool -> Int -> Int -> Int -> Int -> List Int -> List Bool -> Option (As [.pr (.int .u8) LAT2, .bool])) (a : Int × Int × Int × Int × List Int × List Bool) (s : Int × Int × Int × Bool × Bool) (rest : List Int) : Option (As [.pr (.int .u8) LAT2, .bool]) :=
  if eqi (add .i64 s.2.1 s.2.2.1) 0 = true then some (a, true, ()) else if lt (Int.ofNat (List.length rest)) 2 = true then some ((0, 0, 0, 0, [], []), false, ()) else if eqi a.1 5 = true then Option.bind (at? rest 0) fun (y : Int) => j1 a.1 a.2.1 a.2.2.1 a.2.2.2.1 a.2.2.2.2.1 [nei y 0] 0 0 0 0 [] [] else if eqi a.1 6 = true then Option.bind (ask_list (rest, ())) fun (y : List Int × Unit) => j1 a.1 a.2.1 a.2.2.1 a.2.2.2.1 y.1 a.2.2.2.2.2 0 0 0 0 [] [] else if gt s.2.1 0 = true then Option.bind (cut rest 1 (Int.ofNat (List.length rest))) fun (y : List Int) => Option.bind (ask_Unpack (y, ())) fun (y : List Bool × Unit) => if lt (Int.ofNat (List.length y.1)) (cvt .i64 a.2.2.1) = true then some ((0, 0, 0, 0, [], []), false, ()) else Option.bind (cut y.1 0 a.2.2.1) fun (y_1 : List Bool) => need (le a.2.2.1 a.2.2.1) (need (le a.2.2.1 (Int.ofNat (List.length y.1))) (j1 a.1 a.2.1 a.2.2.1 a.2.2.2.1 a.2.2.2.2.1 y_1 0 0 0 0 [] [])) else Option.bind (cut rest 1 (Int.ofNat (List.length rest))) fun (y : List Int) => Option.bind (ask_list (y, ())) fun (y : List Int × Unit) => j1 a.1 a.2.1 a.2.2.1 a.2.2.2.1 y.1 a.2.2.2.2.2 0 0 0 0 [] []
def qdh_ (a a_2 a_3 a_4 : Int) (a_5 : List Int) (a_6 : List Bool) (t6 t6_2 t6_3 t6_4 : Int) (t6_5 : List Int) (t6_6 : List Bool) : Option (As [.pr (.int .u8) LAT2, .bool]) := qor_ a a_2 a_3 a_4 a_5 a_6 t6 t6_2 t6_3 t6_4 t6_5 t6_6
def ask_written (x : As [.pr (.int .u8) LAT2, .pr (.int .i64) LAT11, .sl (.int .u8)]) : Option (As [.pr (.int .u8) LAT2, .bool]) := qdk_ qdh_ x.1 x.2.1 x.2.2.1
theorem qxz_ (J : Orc (As [.pr (.int .u8) LAT2, .bool])) (a a_2 a_3 a_4 : Int) (a_5 : List Int) (a_6 : List Bool) (t6 t6_2 t6_3 t6_4 : Int) (t6_5 : List Int) (t6_6 : List Bool) : pfn Tryz.prog qbj_ 6 18446744073709551616 (Ev.get qbq_) 76 q6s_ J 15 [] (qdo_ a a_2 a_3 a_4 a_5 a_6 t6 t6_2 t6_3 t6_4 t6_5 t6_6) = qor_ a a_2 a_3 a_4 a_5 a_6 t6 t6_2 t6_3 t6_4 t6_5 t6_6 := by kernel_rfl
theorem qwn_ (J : Orc (As [.pr (.int .u8) LAT2, .bool])) (x : As [.pr (.int .u8) LAT2, .pr (.int .i64) LAT11, .sl (.int .u8)]) : rfn Tryz.prog qbj_ 6 18446744073709551616 (Ev.get qbq_) 76 q6s_ J x = qdk_ (fun a a_2 a_3 a_4 a_5 a_6 t6 t6_2 t6_3 t6_4 t6_5 t6_6 => J 15 [] (qdo_ a a_2 a_3 a_4 a_5 a_6 t6 t6_2 t6_3 t6_4 t6_5 t6_6)) x.1 x.2.1 x.2.2.1 := by kernel_rfl
theorem qv9_ (a a_2 a_3 a_4 : Int) (a_5 : List Int) (a_6 : List Bool) (t6 t6_2 t6_3 t6_4 : Int) (t6_5 : List Int) (t6_6 : List Bool) : jfn Tryz.prog qbj_ 6 18446744073709551616 (Ev.get qbq_) 76 q6s_ 15 [] (qdo_ a a_2 a_3 a_4 a_5 a_6 t6 t6_2 t6_3 t6_4 t6_5 t6_6) = qdh_ a a_2 a_3 a_4 a_5 a_6 t6 t6_2 t6_3 t6_4 t6_5 t6_6 := by
  rw [pfn_eq (by decide)]
  rw [qxz_]
  rfl
theorem qzc_ (x : As [.pr (.int .u8) LAT2, .pr (.int .i64) LAT11, .sl (.int .u8)]) : evT Tryz.prog qbj_ 6 18446744073709551616 (Ev.get qbq_) 76 q6s_ x = ask_written x := by
  have e1 : (fun a a_2 a_3 a_4 a_5 a_6 t6 t6_2 t6_3 t6_4 t6_5 t6_6 => (jfn Tryz.prog qbj_ 6 18446744073709551616 (Ev.get qbq_) 76 q6s_) 15 [] (qdo_ a a_2 a_3 a_4 a_5 a_6 t6 t6_2 t6_3 t6_4 t6_5 t6_6)) = qdh_ := by funext a a_2 a_3 a_4 a_5 a_6 t6 t6_2 t6_3 t6_4 t6_5 t6_6; exact qv9_ a a_2 a_3 a_4 a_5 a_6 t6 t6_2 t6_3 t6_4 t6_5 t6_6
  rw [rfn_eq, qwn_, e1]
  rfl
theorem qys_ : CtOk Tryz.prog (fun _ => True) 76 ⟨q6s_, ask_written⟩ := ct_of_ev (env_cons qt1_ (env_cons q102_ env_nil)) qzc_
@[reducible] def q3r_ : Sh := ⟨[.d (.sl (.int .u8))], [], [.sl (.int .u8)], [.d (.pr (.int .u8) LAT2), .d (.bool)], [], 0, [.pr (.int .u8) LAT2, .bool]⟩
def q54_ : Env := (cts [(37, (⟨q9i_, ask_shape⟩ : Ct)), (75, (⟨q9d_, ask_list⟩ : Ct)), (76, (⟨q6s_, ask_written⟩ : Ct))])
def q55_ : List (Nat × Hint) := [(255, ⟨[], [2, 4, 6, 7, 8]⟩), (511, ⟨[], [2, 4, 7, 8]⟩), (6, ⟨[], [0, 2, 16]⟩)]
def qjt_ (b : List Int) (t16 : Bool) (t2 t2_2 t2_3 t2_4 : Int) : St := { fr := [(0, .d (.sl (.int .u8)) b), (2, .pb 0 0), (16, .d .bool t16)], nt := 67, up := [], own := [(0, .box 65 [.d (.int .u8) t2, .d (.int .u16) t2_2, .d (.int .u16) t2_3, .d (.int .u16) t2_4, .k (Go.Value.slice Option.none 0 0), .k (Go.Value.slice Option.none 0 0)])], nx := 1, log := [], ln := 0 }
def qk8_ (l rest : List Int) (t2 t2_2 t2_3 t2_4 s s_2 s_3 : Int) (s_4 s_5 : Bool) (a a_2 a_3 a_4 : Int) : St := { fr := [(2, .pb 0 0), (4, .pb 1 0), (6, .d (.sl (.int .u16)) l), (7, .pb 2 0), (8, .d (.sl (.int .u8)) rest)], nt := 67, up := [], own := [(0, .box 65 [.d (.int .u8) t2, .d (.int .u16) t2_2, .d (.int .u16) t2_3, .d (.int .u16) t2_4, .k (Go.Value.slice Option.none 0 0), .k (Go.Value.slice Option.none 0 0)]), (1, .box 80 [.d (.int .i64) s, .d (.int .i64) s_2, .d (.int .i64) s_3, .d .bool s_4, .d .bool s_5]), (2, .box 65 [.d (.int .u8) a, .d (.int .u16) a_2, .d (.int .u16) a_3, .d (.int .u16) a_4, .k (Go.Value.slice Option.none 0 0), .k (Go.Value.slice Option.none 0 0)])], nx := 3, log := [], ln := 0 }
def qjz_ (rest : List Int) (t2 t2_2 t2_3 t2_4 s s_2 s_3 : Int) (s_4 s_5 : Bool) (a a_2 a_3 a_4 : Int) : St := { fr := [(2, .pb 0 0), (4, .pb 1 0), (7, .pb 2 0), (8, .d (.sl (.int .u8)) rest)], nt := 67, up := [], own := [(0, .box 65 [.d (.int .u8) t2, .d (.int .u16) t2_2, .d (.int .u16) t2_3, .d (.int .u16) t2_4, .k (Go.Value.slice Option.none 0 0), .k (Go.Value.slice Option.none 0 0)]), (1, .box 80 [.d (.int .i64) s, .d (.int .i64) s_2, .d (.int .i64) s_3, .d .bool s_4, .d .bool s_5]), (2, .box 65 [.d (.int .u8) a, .d (.int .u16) a_2, .d (.int .u16) a_3, .d (.int .u16) a_4, .k (Go.Value.slice Option.none 0 0), .k (Go.Value.slice Option.none 0 0)])], nx := 3, log := [], ln := 0 }
def q72_ (j2 : List Int -> List Int -> Int -> Int -> Int -> Int -> Int -> Int -> Int -> Bool -> Bool -> Int -> Int -> Int -> Int -> Option (As [.pr (.int .u8) LAT2, .bool])) (b : List Int) (t16 : Bool) (t2 t2_2 t2_3 t2_4 : Int) : Option (As [.pr (.int .u8) LAT2, .bool]) :=
  if t16 = true then some ((0, 0, 0, 0, [], []), false, ()) else Option.bind (at? b 0) fun (y : Int) => Option.bind (ask_shape (y, ())) fun (y : (Int × Int × Int × Bool × Bool) × Bool × Unit) => if (!y.2.1) = true then some ((0, 0, 0, 0, [], []), false, ()) else Option.bind (cut b 1 (Int.ofNat (List.length b))) fun (y_1 : List Int) => Option.bind (ask_list (y_1, ())) fun (y_2 : List Int × Unit) => Option.bind (at? b 0) fun (y_3 : Int) => Option.bind (at? y_2.1 0) fun (y_4 : Int) => Option.bind (cut b 3 (Int.ofNat (List.length b))) fun (y_5 : List Int) => if gt y.1.1 0 = true then Option.bind (at? y_2.1 1) fun (y_6 : Int) => Option.bind (cut b 5 (Int.ofNat (List.length b))) fun (y_7 : List Int) => j2 y_2.1 y_7 t2 t2_2 t2_3 t2_4 y.1.1 y.1.2.1 y.1.2.2.1 y.1.2.2.2.1 y.1.2.2.2.2 y_3 y_4 y_6 0 else j2 y_2.1 y_5 t2 t2_2 t2_3 t2_4 y.1.1 y.1.2.1 y.1.2.2.1 y.1.2.2.2.1 y.1.2.2.2.2 y_3 y_4 0 0
def qo8_ (j3 : List Int -> Int -> Int -> Int -> Int -> Int -> Int -> Int -> Bool -> Bool -> Int -> Int -> Int -> Int -> Option (As [.pr (.int .u8) LAT2, .bool])) (l rest : List Int) (t2 t2_2 t2_3 t2_4 s s_2 s_3 : Int) (s_4 s_5 : Bool) (a a_2 a_3 a_4 : Int) : Option (As [.pr (.int .u8) LAT2, .bool]) :=
  if s_4 = true then if lt (Int.ofNat (List.length rest)) 4 = true then some ((0, 0, 0, 0, [], []), false, ()) else Option.bind (at? l 2) fun (y : Int) => Option.bind (cut rest 4 (Int.ofNat (List.length rest))) fun (y_1 : List Int) => j3 y_1 t2 t2_2 t2_3 t2_4 s s_2 s_3 s_4 s_5 a a_2 a_3 y else j3 rest t2 t2_2 t2_3 t2_4 s s_2 s_3 s_4 s_5 a a_2 a_3 a_4
def qsz_ (rest : List Int) (t2 t2_2 t2_3 t2_4 s s_2 s_3 : Int) (s_4 s_5 : Bool) (a a_2 a_3 a_4 : Int) : Option (As [.pr (.int .u8) LAT2, .bool]) :=
  Option.bind (ask_written ((a, a_2, a_3, a_4, [], []), (s, s_2, s_3, s_4, s_5), rest, ())) fun (y : LAT10 × Bool × Unit) => some (y.1, y.2.1, ())
def q4w_ (j1 : List Int -> Bool -> Int -> Int -> Int -> Int -> Option (As [.pr (.int .u8) LAT2, .bool])) (b : List Int) : Option (As [.pr (.int .u8) LAT2, .bool]) :=
  if lt (Int.ofNat (List.length b)) 5 = true then j1 b true 0 0 0 0 else j1 b (gt (Int.ofNat (List.length b)) 253) 0 0 0 0
def qk4_ (rest : List Int) (t2 t2_2 t2_3 t2_4 s s_2 s_3 : Int) (s_4 s_5 : Bool) (a a_2 a_3 a_4 : Int) : Option (As [.pr (.int .u8) LAT2, .bool]) := qsz_ rest t2 t2_2 t2_3 t2_4 s s_2 s_3 s_4 s_5 a a_2 a_3 a_4
def q4x_ (l rest : List Int) (t2 t2_2 t2_3 t2_4 s s_2 s_3 : Int) (s_4 s_5 : Bool) (a a_2 a_3 a_4 : Int) : Option (As [.pr (.int .u8) LAT2, .bool]) := qo8_ (qk4_) l rest t2 t2_2 t2_3 t2_4 s s_2 s_3 s_4 s_5 a a_2 a_3 a_4
def q74_ (b : List Int) (t16 : Bool) (t2 t2_2 t2_3 t2_4 : Int) : Option (As [.pr (.int .u8) LAT2, .bool]) := q72_ (q4x_) b t16 t2 t2_2 t2_3 t2_4
def ask_read (x : As [.sl (.int .u8)]) : Option (As [.pr (.int .u8) LAT2, .bool]) := q4w_ q74_ x.1
theorem q14b_ (J : Orc (As [.pr (.int .u8) LAT2, .bool])) (rest : List Int) (t2 t2_2 t2_3 t2_4 s s_2 s_3 : Int) (s_4 s_5 : Bool) (a a_2 a_3 a_4 : Int) : pfn Tryz.prog q54_ 6 18446744073709551616 (Ev.get q55_) 58 q3r_ J 511 [] (qjz_ rest t2 t2_2 t2_3 t2_4 s s_2 s_3 s_4 s_5 a a_2 a_3 a_4) = qsz_ rest t2 t2_2 t2_3 t2_4 s s_2 s_3 s_4 s_5 a a_2 a_3 a_4 := by kernel_rfl
theorem q153_ (J : Orc (As [.pr (.int .u8) LAT2, .bool])) (l rest : List Int) (t2 t2_2 t2_3 t2_4 s s_2 s_3 : Int) (s_4 s_5 : Bool) (a a_2 a_3 a_4 : Int) : pfn Tryz.prog q54_ 6 18446744073709551616 (Ev.get q55_) 58 q3r_ J 255 [] (qk8_ l rest t2 t2_2 t2_3 t2_4 s s_2 s_3 s_4 s_5 a a_2 a_3 a_4) = qo8_ (fun rest t2 t2_2 t2_3 t2_4 s s_2 s_3 s_4 s_5 a a_2 a_3 a_4 => J 511 [] (qjz_ rest t2 t2_2 t2_3 t2_4 s s_2 s_3 s_4 s_5 a a_2 a_3 a_4)) l rest t2 t2_2 t2_3 t2_4 s s_2 s_3 s_4 s_5 a a_2 a_3 a_4 := by kernel_rfl
theorem q13w_ (J : Orc (As [.pr (.int .u8) LAT2, .bool])) (b : List Int) (t16 : Bool) (t2 t2_2 t2_3 t2_4 : Int) : pfn Tryz.prog q54_ 6 18446744073709551616 (Ev.get q55_) 58 q3r_ J 6 [] (qjt_ b t16 t2 t2_2 t2_3 t2_4) = q72_ (fun l rest t2 t2_2 t2_3 t2_4 s s_2 s_3 s_4 s_5 a a_2 a_3 a_4 => J 255 [] (qk8_ l rest t2 t2_2 t2_3 t2_4 s s_2 s_3 s_4 s_5 a a_2 a_3 a_4)) b t16 t2 t2_2 t2_3 t2_4 := by kernel_rfl
theorem q140_ (J : Orc (As [.pr (.int .u8) LAT2, .bool])) (x : As [.sl (.int .u8)]) : rfn Tryz.prog q54_ 6 18446744073709551616 (Ev.get q55_) 58 q3r_ J x = q4w_ (fun b t16 t2 t2_2 t2_3 t2_4 => J 6 [] (qjt_ b t16 t2 t2_2 t2_3 t2_4)) x.1 := by kernel_rfl
theorem q13i_ (rest : List Int) (t2 t2_2 t2_3 t2_4 s s_2 s_3 : Int) (s_4 s_5 : Bool) (a a_2 a_3 a_4 : Int) : jfn Tryz.prog q54_ 6 18446744073709551616 (Ev.get q55_) 58 q3r_ 511 [] (qjz_ rest t2 t2_2 t2_3 t2_4 s s_2 s_3 s_4 s_5 a a_2 a_3 a_4) = qk4_ rest t2 t2_2 t2_3 t2_4 s s_2 s_3 s_4 s_5 a a_2 a_3 a_4 := by
  rw [pfn_eq (by decide)]
  rw [q14b_]
  rfl
theorem q14o_ (l rest : List Int) (t2 t2_2 t2_3 t2_4 s s_2 s_3 : Int) (s_4 s_5 : Bool) (a a_2 a_3 a_4 : Int) : jfn Tryz.prog q54_ 6 18446744073709551616 (Ev.get q55_) 58 q3r_ 255 [] (qk8_ l rest t2 t2_2 t2_3 t2_4 s s_2 s_3 s_4 s_5 a a_2 a_3 a_4) = q4x_ l rest t2 t2_2 t2_3 t2_4 s s_2 s_3 s_4 s_5 a a_2 a_3 a_4 := by
  rw [pfn_eq (by decide)]
  have e3 : (fun rest t2 t2_2 t2_3 t2_4 s s_2 s_3 s_4 s_5 a a_2 a_3 a_4 => (jfn Tryz.prog q54_ 6 18446744073709551616 (Ev.get q55_) 58 q3r_) 511 [] (qjz_ rest t2 t2_2 t2_3 t2_4 s s_2 s_3 s_4 s_5 a a_2 a_3 a_4)) = qk4_ := by funext rest t2 t2_2 t2_3 t2_4 s s_2 s_3 s_4 s_5 a a_2 a_3 a_4; exact q13i_ rest t2 t2_2 t2_3 t2_4 s s_2 s_3 s_4 s_5 a a_2 a_3 a_4
  rw [q153_, e3]
  rfl
theorem q14y_ (b : List Int) (t16 : Bool) (t2 t2_2 t2_3 t2_4 : Int) : jfn Tryz.prog q54_ 6 18446744073709551616 (Ev.get q55_) 58 q3r_ 6 [] (qjt_ b t16 t2 t2_2 t2_3 t2_4) = q74_ b t16 t2 t2_2 t2_3 t2_4 := by
  rw [pfn_eq (by decide)]
  have e2 : (fun l rest t2 t2_2 t2_3 t2_4 s s_2 s_3 s_4 s_5 a a_2 a_3 a_4 => (jfn Tryz.prog q54_ 6 18446744073709551616 (Ev.get q55_) 58 q3r_) 255 [] (qk8_ l rest t2 t2_2 t2_3 t2_4 s s_2 s_3 s_4 s_5 a a_2 a_3 a_4)) = q4x_ := by funext l rest t2 t2_2 t2_3 t2_4 s s_2 s_3 s_4 s_5 a a_2 a_3 a_4; exact q14o_ l rest t2 t2_2 t2_3 t2_4 s s_2 s_3 s_4 s_5 a a_2 a_3 a_4
  rw [q13w_, e2]
  rfl
theorem q15h_ (x : As [.sl (.int .u8)]) : evT Tryz.prog q54_ 6 18446744073709551616 (Ev.get q55_) 58 q3r_ x = ask_read x := by
  have e1 : (fun b t16 t2 t2_2 t2_3 t2_4 => (jfn Tryz.prog q54_ 6 18446744073709551616 (Ev.get q55_) 58 q3r_) 6 [] (qjt_ b t16 t2 t2_2 t2_3 t2_4)) = q74_ := by funext b t16 t2 t2_2 t2_3 t2_4; exact q14y_ b t16 t2 t2_2 t2_3 t2_4
  rw [rfn_eq, q140_, e1]
  rfl
theorem q14r_ : CtOk Tryz.prog (fun _ => True) 58 ⟨q3r_, ask_read⟩ := ct_of_ev (env_cons qhm_ (env_cons qt1_ (env_cons qys_ env_nil))) q15h_
@[reducible] def qip_ : Sh := ⟨[.d (.int .i64), .d (.int .i64)], [], [.int .i64, .int .i64], [.d (.bool)], [], 0, [.bool]⟩
def qs7_ : Env := (cts [])
def qsn_ : List (Nat × Hint) := []
def qgj_ (n most : Int) : Option (As [.bool]) :=
  if eqi most 0 = true then some (eqi n 0, ()) else if ge n 1 = true then some (le n most, ()) else some (false, ())
def ask_within (x : As [.int .i64, .int .i64]) : Option (As [.bool]) := qgj_ x.1 x.2.1
theorem q10v_ (J : Orc (As [.bool])) (x : As [.int .i64, .int .i64]) : rfn Tryz.prog qs7_ 6 18446744073709551616 (Ev.get qsn_) 79 qip_ J x = qgj_ x.1 x.2.1 := by kernel_rfl
theorem q131_ (x : As [.int .i64, .int .i64]) : evT Tryz.prog qs7_ 6 18446744073709551616 (Ev.get qsn_) 79 qip_ x = ask_within x := by
  rw [rfn_eq, q10v_]
  rfl
theorem qzq_ : CtOk Tryz.prog (fun _ => True) 79 ⟨qip_, ask_within⟩ := ct_of_ev env_nil q131_
@[reducible] def q3l_ : Sh := ⟨[.d (.pr (.int .u8) LAT2)], [], [.pr (.int .u8) LAT2], [.d (.bool)], [], 0, [.bool]⟩
def q71_ : Env := (cts [(37, (⟨q9i_, ask_shape⟩ : Ct)), (79, (⟨qip_, ask_within⟩ : Ct))])
def q70_ : List (Nat × Hint) := [(30, ⟨[], [1, 3, 47, 52, 53, 54, 55, 56, 57, 58, 59, 60, 61, 62]⟩), (14, ⟨[], [1, 3, 22, 31, 32, 33, 34, 35, 36, 37, 40, 41, 42, 43, 44, 45, 46, 52, 53, 54, 55, 56, 57, 58, 59, 60, 61, 62]⟩)]
def qia_ (t22 : Bool) (a a_2 a_3 a_4 : Int) (a_5 : List Int) (a_6 : List Bool) (s s_2 s_3 : Int) (s_4 s_5 : Bool) : St := { fr := [(1, .pb 0 0), (3, .pb 1 0), (22, .d .bool t22)], nt := 64, up := [], own := [(0, .box 65 [.d (.int .u8) a, .d (.int .u16) a_2, .d (.int .u16) a_3, .d (.int .u16) a_4, .d (.sl (.int .u16)) a_5, .d (.sl .bool) a_6]), (1, .box 80 [.d (.int .i64) s, .d (.int .i64) s_2, .d (.int .i64) s_3, .d .bool s_4, .d .bool s_5])], nx := 2, log := [], ln := 0 }
def qi8_ (t47 : Bool) (a a_2 a_3 a_4 : Int) (a_5 : List Int) (a_6 : List Bool) (s s_2 s_3 : Int) (s_4 s_5 : Bool) : St := { fr := [(1, .pb 0 0), (3, .pb 1 0), (47, .d .bool t47)], nt := 64, up := [], own := [(0, .box 65 [.d (.int .u8) a, .d (.int .u16) a_2, .d (.int .u16) a_3, .d (.int .u16) a_4, .d (.sl (.int .u16)) a_5, .d (.sl .bool) a_6]), (1, .box 80 [.d (.int .i64) s, .d (.int .i64) s_2, .d (.int .i64) s_3, .d .bool s_4, .d .bool s_5])], nx := 2, log := [], ln := 0 }
def qmw_ (j2 : Bool -> Int -> Int -> Int -> Int -> List Int -> List Bool -> Int -> Int -> Int -> Bool -> Bool -> Option (As [.bool])) (t22 : Bool) (a a_2 a_3 a_4 : Int) (a_5 : List Int) (a_6 : List Bool) (s s_2 s_3 : Int) (s_4 s_5 : Bool) : Option (As [.bool]) :=
  if t22 = true then some (false, ()) else Option.bind (ask_within (cvt .i64 a_3, s, ())) fun (y : Bool × Unit) => if (!y.1) = true then j2 true a a_2 a_3 a_4 a_5 a_6 s s_2 s_3 s_4 s_5 else Option.bind (ask_within (Int.ofNat (List.length a_6), s_2, ())) fun (y : Bool × Unit) => if (!y.1) = true then j2 true a a_2 a_3 a_4 a_5 a_6 s s_2 s_3 s_4 s_5 else Option.bind (ask_within (Int.ofNat (List.length a_5), s_3, ())) fun (y : Bool × Unit) => j2 (!y.1) a a_2 a_3 a_4 a_5 a_6 s s_2 s_3 s_4 s_5
def qmq_ (t47 : Bool) (a a_2 a_3 a_4 : Int) (a_5 : List Int) (a_6 : List Bool) (s s_2 s_3 : Int) (s_4 s_5 : Bool) : Option (As [.bool]) :=
  if t47 = true then some (false, ()) else if (!s_5) = true then some (true, ()) else some (eqi (add .i64 (Int.ofNat (List.length a_6)) (Int.ofNat (List.length a_5))) (cvt .i64 a_3), ())
def qib_ (j1 : Bool -> Int -> Int -> Int -> Int -> List Int -> List Bool -> Int -> Int -> Int -> Bool -> Bool -> Option (As [.bool])) (a : Int × Int × Int × Int × List Int × List Bool) : Option (As [.bool]) :=
  Option.bind (ask_shape (a.1, ())) fun (y : (Int × Int × Int × Bool × Bool) × Bool × Unit) => if (!y.2.1) = true then j1 true a.1 a.2.1 a.2.2.1 a.2.2.2.1 a.2.2.2.2.1 a.2.2.2.2.2 y.1.1 y.1.2.1 y.1.2.2.1 y.1.2.2.2.1 y.1.2.2.2.2 else if (!y.1.2.2.2.1) = true then j1 (nei a.2.2.2.1 0) a.1 a.2.1 a.2.2.1 a.2.2.2.1 a.2.2.2.2.1 a.2.2.2.2.2 y.1.1 y.1.2.1 y.1.2.2.1 y.1.2.2.2.1 y.1.2.2.2.2 else j1 false a.1 a.2.1 a.2.2.1 a.2.2.2.1 a.2.2.2.2.1 a.2.2.2.2.2 y.1.1 y.1.2.1 y.1.2.2.1 y.1.2.2.2.1 y.1.2.2.2.2
def qct_ (t47 : Bool) (a a_2 a_3 a_4 : Int) (a_5 : List Int) (a_6 : List Bool) (s s_2 s_3 : Int) (s_4 s_5 : Bool) : Option (As [.bool]) := qmq_ t47 a a_2 a_3 a_4 a_5 a_6 s s_2 s_3 s_4 s_5
def qa2_ (t22 : Bool) (a a_2 a_3 a_4 : Int) (a_5 : List Int) (a_6 : List Bool) (s s_2 s_3 : Int) (s_4 s_5 : Bool) : Option (As [.bool]) := qmw_ (qct_) t22 a a_2 a_3 a_4 a_5 a_6 s s_2 s_3 s_4 s_5
def ask_Right (x : As [.pr (.int .u8) LAT2]) : Option (As [.bool]) := qib_ qa2_ x.1
theorem q122_ (J : Orc (As [.bool])) (t47 : Bool) (a a_2 a_3 a_4 : Int) (a_5 : List Int) (a_6 : List Bool) (s s_2 s_3 : Int) (s_4 s_5 : Bool) : pfn Tryz.prog q71_ 6 18446744073709551616 (Ev.get q70_) 62 q3l_ J 30 [] (qi8_ t47 a a_2 a_3 a_4 a_5 a_6 s s_2 s_3 s_4 s_5) = qmq_ t47 a a_2 a_3 a_4 a_5 a_6 s s_2 s_3 s_4 s_5 := by kernel_rfl
theorem q11w_ (J : Orc (As [.bool])) (t22 : Bool) (a a_2 a_3 a_4 : Int) (a_5 : List Int) (a_6 : List Bool) (s s_2 s_3 : Int) (s_4 s_5 : Bool) : pfn Tryz.prog q71_ 6 18446744073709551616 (Ev.get q70_) 62 q3l_ J 14 [] (qia_ t22 a a_2 a_3 a_4 a_5 a_6 s s_2 s_3 s_4 s_5) = qmw_ (fun t47 a a_2 a_3 a_4 a_5 a_6 s s_2 s_3 s_4 s_5 => J 30 [] (qi8_ t47 a a_2 a_3 a_4 a_5 a_6 s s_2 s_3 s_4 s_5)) t22 a a_2 a_3 a_4 a_5 a_6 s s_2 s_3 s_4 s_5 := by kernel_rfl
theorem q12v_ (J : Orc (As [.bool])) (x : As [.pr (.int .u8) LAT2]) : rfn Tryz.prog q71_ 6 18446744073709551616 (Ev.get q70_) 62 q3l_ J x = qib_ (fun t22 a a_2 a_3 a_4 a_5 a_6 s s_2 s_3 s_4 s_5 => J 14 [] (qia_ t22 a a_2 a_3 a_4 a_5 a_6 s s_2 s_3 s_4 s_5)) x.1 := by kernel_rfl
theorem q12s_ (t47 : Bool) (a a_2 a_3 a_4 : Int) (a_5 : List Int) (a_6 : List Bool) (s s_2 s_3 : Int) (s_4 s_5 : Bool) : jfn Tryz.prog q71_ 6 18446744073709551616 (Ev.get q70_) 62 q3l_ 30 [] (qi8_ t47 a a_2 a_3 a_4 a_5 a_6 s s_2 s_3 s_4 s_5) = qct_ t47 a a_2 a_3 a_4 a_5 a_6 s s_2 s_3 s_4 s_5 := by
  rw [pfn_eq (by decide)]
  rw [q122_]
  rfl
theorem q12z_ (t22 : Bool) (a a_2 a_3 a_4 : Int) (a_5 : List Int) (a_6 : List Bool) (s s_2 s_3 : Int) (s_4 s_5 : Bool) : jfn Tryz.prog q71_ 6 18446744073709551616 (Ev.get q70_) 62 q3l_ 14 [] (qia_ t22 a a_2 a_3 a_4 a_5 a_6 s s_2 s_3 s_4 s_5) = qa2_ t22 a a_2 a_3 a_4 a_5 a_6 s s_2 s_3 s_4 s_5 := by
  rw [pfn_eq (by decide)]
  have e2 : (fun t47 a a_2 a_3 a_4 a_5 a_6 s s_2 s_3 s_4 s_5 => (jfn Tryz.prog q71_ 6 18446744073709551616 (Ev.get q70_) 62 q3l_) 30 [] (qi8_ t47 a a_2 a_3 a_4 a_5 a_6 s s_2 s_3 s_4 s_5)) = qct_ := by funext t47 a a_2 a_3 a_4 a_5 a_6 s s_2 s_3 s_4 s_5; exact q12s_ t47 a a_2 a_3 a_4 a_5 a_6 s s_2 s_3 s_4 s_5
  rw [q11w_, e2]
  rfl
theorem q14l_ (x : As [.pr (.int .u8) LAT2]) : evT Tryz.prog q71_ 6 18446744073709551616 (Ev.get q70_) 62 q3l_ x = ask_Right x := by
  have e1 : (fun t22 a a_2 a_3 a_4 a_5 a_6 s s_2 s_3 s_4 s_5 => (jfn Tryz.prog q71_ 6 18446744073709551616 (Ev.get q70_) 62 q3l_) 14 [] (qia_ t22 a a_2 a_3 a_4 a_5 a_6 s s_2 s_3 s_4 s_5)) = qa2_ := by funext t22 a a_2 a_3 a_4 a_5 a_6 s s_2 s_3 s_4 s_5; exact q12z_ t22 a a_2 a_3 a_4 a_5 a_6 s s_2 s_3 s_4 s_5
  rw [rfn_eq, q12v_, e1]
  rfl
theorem qmk_ : CtOk Tryz.prog (fun _ => True) 62 ⟨q3l_, ask_Right⟩ := ct_of_ev (env_cons qhm_ (env_cons qzq_ env_nil)) q14l_
@[reducible] def q6u_ : Sh := ⟨[.row 0, .d (.sl (.int .u16))], [.row (.int .u8) 5], [.sl (.int .u16), .sl (.int .u8)], [.row 1], [(1, .row (.int .u8) 5)], 1, [.sl (.int .u8)]⟩
def qbp_ : Env := (cts [])
def qbc_ : List (Nat × Hint) := [(26, ⟨[.unl 0], [0, 7, 8, 9]⟩)]
def q7g_ (t7 : List Int) (t8 t9 : Int) (out : List Int) : St := { fr := [(0, .row 1), (7, .d (.sl (.int .u16)) t7), (8, .d (.int .i64) t8), (9, .d (.int .i64) t9)], nt := 23, up := [], own := [(1, .row (.int .u8) 5 out)], nx := 2, log := [], ln := 1 }
def q7n_ (self1 : List Int -> Int -> Int -> List Int -> Option (As [.sl (.int .u8)])) (t7 : List Int) (t8 t9 : Int) (out : List Int) : Option (As [.sl (.int .u8)]) :=
  if lt t9 t8 = true then Option.bind (at? t7 t9) fun (y : Int) => need (small (List.length out + Nat.succ (Nat.succ 0))) (self1 t7 t8 (add .i64 t9 1) (out ++ [cvt .u8 (Sx.shr .u16 y 8), cvt .u8 y])) else some (out, ())
def qdw_ (j1 : List Int -> Int -> Int -> List Int -> Option (As [.sl (.int .u8)])) (out l : List Int) : Option (As [.sl (.int .u8)]) :=
  j1 out (Int.ofNat (List.length out)) 0 l
def q9p_ (t7 : List Int) (t8 t9 : Int) (out : List Int) : Option (As [.sl (.int .u8)]) :=
  loopF (fun (self : (List Int) × (Int) × (Int) × (List Int) -> Option (As [.sl (.int .u8)])) (s : (List Int) × (Int) × (Int) × (List Int)) => q7n_ (fun t7 t8 t9 out => self (t7, t8, t9, out)) s.1 s.2.1 s.2.2.1 s.2.2.2) 18446744073709551616 (t7, t8, t9, out)
def ask_numbers (x : As [.sl (.int .u16), .sl (.int .u8)]) : Option (As [.sl (.int .u8)]) := qdw_ q9p_ x.1 x.2.1
theorem qyf_ (J : Orc (As [.sl (.int .u8)])) (w1 : St -> Option (As [.sl (.int .u8)])) (t7 : List Int) (t8 t9 : Int) (out : List Int) : pfn Tryz.prog qbp_ 6 18446744073709551616 (Ev.get qbc_) 77 q6u_ J 26 [w1] (q7g_ t7 t8 t9 out) = q7n_ (fun t7 t8 t9 out => w1 (q7g_ t7 t8 t9 out)) t7 t8 t9 out := by kernel_rfl
theorem qy1_ (J : Orc (As [.sl (.int .u8)])) (x : As [.sl (.int .u16), .sl (.int .u8)]) : rfn Tryz.prog qbp_ 6 18446744073709551616 (Ev.get qbc_) 77 q6u_ J x = qdw_ (fun t7 t8 t9 out => J 26 [] (q7g_ t7 t8 t9 out)) x.1 x.2.1 := by kernel_rfl
theorem qwe_ (t7 : List Int) (t8 t9 : Int) (out : List Int) : jfn Tryz.prog qbp_ 6 18446744073709551616 (Ev.get qbc_) 77 q6u_ 26 [] (q7g_ t7 t8 t9 out) = q9p_ t7 t8 t9 out := by
  rw [pfn_eq (by decide)]
  rw [pfn_loop (by kernel_rfl)]
  refine loopF_sim (σ := (List Int) × (Int) × (Int) × (List Int)) (mk := fun s => q7g_ s.1 s.2.1 s.2.2.1 s.2.2.2) (fun w1 s => ?_) 18446744073709551616 (t7, t8, t9, out)
  refine (qyf_ _ w1 s.1 s.2.1 s.2.2.1 s.2.2.2).trans ?_
  rfl
theorem qz1_ (x : As [.sl (.int .u16), .sl (.int .u8)]) : evT Tryz.prog qbp_ 6 18446744073709551616 (Ev.get qbc_) 77 q6u_ x = ask_numbers x := by
  have e1 : (fun t7 t8 t9 out => (jfn Tryz.prog qbp_ 6 18446744073709551616 (Ev.get qbc_) 77 q6u_) 26 [] (q7g_ t7 t8 t9 out)) = q9p_ := by funext t7 t8 t9 out; exact qwe_ t7 t8 t9 out
  rw [rfn_eq, qy1_, e1]
  rfl
theorem qwz_ : CtOk Tryz.prog (fun _ => True) 77 ⟨q6u_, ask_numbers⟩ := ct_of_ev env_nil qz1_
@[reducible] def q51_ : Sh := ⟨[.d (.sl .bool)], [], [.sl .bool], [.d (.sl (.int .u8))], [], 0, [.sl (.int .u8)]⟩
def q96_ : Env := (cts [])
def q93_ : List (Nat × Hint) := [(7, ⟨[], [0, 3]⟩), (250, ⟨[], [4, 18, 19, 20]⟩)]
def qk6_ (bits : List Bool) (n : Int) : St := { fr := [(0, .d (.sl .bool) bits), (3, .d (.int .i64) n)], nt := 38, up := [], own := [], nx := 0, log := [], ln := 0 }
def qc1_ (t18 : List Bool) (t19 t20 : Int) (out : List Int) : St := { fr := [(4, .row 0), (18, .d (.sl .bool) t18), (19, .d (.int .i64) t19), (20, .d (.int .i64) t20)], nt := 38, up := [], own := [(0, .row (.int .u8) 5 out)], nx := 1, log := [], ln := 0 }
def qnr_ (j2 : List Bool -> Int -> Int -> List Int -> Option (As [.sl (.int .u8)])) (bits : List Bool) (n : Int) : Option (As [.sl (.int .u8)]) :=
  need (ge n 0) (need (Ev.capOk n n) (need (small (Int.toNat n)) (j2 bits (Int.ofNat (List.length bits)) 0 (List.replicate (Int.toNat n) 0))))
def qc4_ (self2 : List Bool -> Int -> Int -> List Int -> Option (As [.sl (.int .u8)])) (t18 : List Bool) (t19 t20 : Int) (out : List Int) : Option (As [.sl (.int .u8)]) :=
  if lt t20 t19 = true then Option.bind (at? t18 t20) fun (y : Bool) => if y = true then Option.bind (at? out (quo .i64 t20 8)) fun (x : Int) => Option.bind (at? out (quo .i64 t20 8)) fun (y : Int) => need (ge (rem t20 8) 0) (Option.bind (at? out (quo .i64 t20 8)) fun (x : Int) => Option.bind (at? out (quo .i64 t20 8)) fun (x : Int) => self2 t18 t19 (add .i64 t20 1) (List.set out (Int.toNat (quo .i64 t20 8)) (Sx.bor .u8 y (Sx.shl .u8 1 (rem t20 8))))) else self2 t18 t19 (add .i64 t20 1) out else some (out, ())
def qkc_ (j1 : List Bool -> Int -> Option (As [.sl (.int .u8)])) (bits : List Bool) : Option (As [.sl (.int .u8)]) :=
  if gt (rem (Int.ofNat (List.length bits)) 8) 0 = true then j1 bits (add .i64 (quo .i64 (Int.ofNat (List.length bits)) 8) 1) else j1 bits (quo .i64 (Int.ofNat (List.length bits)) 8)
def qjy_ (t18 : List Bool) (t19 t20 : Int) (out : List Int) : Option (As [.sl (.int .u8)]) :=
  loopF (fun (self : (List Bool) × (Int) × (Int) × (List Int) -> Option (As [.sl (.int .u8)])) (s : (List Bool) × (Int) × (Int) × (List Int)) => qc4_ (fun t18 t19 t20 out => self (t18, t19, t20, out)) s.1 s.2.1 s.2.2.1 s.2.2.2) 18446744073709551616 (t18, t19, t20, out)
def qc7_ (bits : List Bool) (n : Int) : Option (As [.sl (.int .u8)]) := qnr_ (qjy_) bits n
def ask_Pack (x : As [.sl .bool]) : Option (As [.sl (.int .u8)]) := qkc_ qc7_ x.1
theorem q14s_ (J : Orc (As [.sl (.int .u8)])) (w2 : St -> Option (As [.sl (.int .u8)])) (t18 : List Bool) (t19 t20 : Int) (out : List Int) : pfn Tryz.prog q96_ 6 18446744073709551616 (Ev.get q93_) 78 q51_ J 250 [w2] (qc1_ t18 t19 t20 out) = qc4_ (fun t18 t19 t20 out => w2 (qc1_ t18 t19 t20 out)) t18 t19 t20 out := by kernel_rfl
theorem q149_ (J : Orc (As [.sl (.int .u8)])) (bits : List Bool) (n : Int) : pfn Tryz.prog q96_ 6 18446744073709551616 (Ev.get q93_) 78 q51_ J 7 [] (qk6_ bits n) = qnr_ (fun t18 t19 t20 out => J 250 [] (qc1_ t18 t19 t20 out)) bits n := by kernel_rfl
theorem q14g_ (J : Orc (As [.sl (.int .u8)])) (x : As [.sl .bool]) : rfn Tryz.prog q96_ 6 18446744073709551616 (Ev.get q93_) 78 q51_ J x = qkc_ (fun bits n => J 7 [] (qk6_ bits n)) x.1 := by kernel_rfl
theorem q14z_ (t18 : List Bool) (t19 t20 : Int) (out : List Int) : jfn Tryz.prog q96_ 6 18446744073709551616 (Ev.get q93_) 78 q51_ 250 [] (qc1_ t18 t19 t20 out) = qjy_ t18 t19 t20 out := by
  rw [pfn_eq (by decide)]
  rw [pfn_loop (by kernel_rfl)]
  refine loopF_sim (σ := (List Bool) × (Int) × (Int) × (List Int)) (mk := fun s => qc1_ s.1 s.2.1 s.2.2.1 s.2.2.2) (fun w2 s => ?_) 18446744073709551616 (t18, t19, t20, out)
  refine (q14s_ _ w2 s.1 s.2.1 s.2.2.1 s.2.2.2).trans ?_
  rfl
theorem q150_ (bits : List Bool) (n : Int) : jfn Tryz.prog q96_ 6 18446744073709551616 (Ev.get q93_) 78 q51_ 7 [] (qk6_ bits n) = qc7_ bits n := by
  rw [pfn_eq (by decide)]
  have e2 : (fun t18 t19 t20 out => (jfn Tryz.prog q96_ 6 18446744073709551616 (Ev.get q93_) 78 q51_) 250 [] (qc1_ t18 t19 t20 out)) = qjy_ := by funext t18 t19 t20 out; exact q14z_ t18 t19 t20 out
  rw [q149_, e2]
  rfl
theorem q15a_ (x : As [.sl .bool]) : evT Tryz.prog q96_ 6 18446744073709551616 (Ev.get q93_) 78 q51_ x = ask_Pack x := by
  have e1 : (fun bits n => (jfn Tryz.prog q96_ 6 18446744073709551616 (Ev.get q93_) 78 q51_) 7 [] (qk6_ bits n)) = qc7_ := by funext bits n; exact q150_ bits n
  rw [rfn_eq, q14g_, e1]
  rfl
theorem qt0_ : CtOk Tryz.prog (fun _ => True) 78 ⟨q51_, ask_Pack⟩ := ct_of_ev env_nil q15a_
@[reducible] def q1s_ : Sh := ⟨[.d (.pr (.int .u8) LAT2)], [], [.pr (.int .u8) LAT2], [.d (.sl (.int .u8)), .d (.int .i64)], [], 0, [.sl (.int .u8), .int .i64]⟩
def q2b_ : Env := (cts [(37, (⟨q9i_, ask_shape⟩ : Ct)), (62, (⟨q3l_, ask_Right⟩ : Ct)), (77, (⟨q6u_, ask_numbers⟩ : Ct)), (78, (⟨q51_, ask_Pack⟩ : Ct))])
def q2d_ : List (Nat × Hint) := [(31, ⟨[], [1, 4, 6, 48, 49, 50, 51]⟩), (63, ⟨[], [1, 4, 6, 48, 49, 50, 51]⟩), (127, ⟨[], [6]⟩), (508, ⟨[], [1, 4, 6, 43]⟩)]
def qhj_ (a a_2 a_3 a_4 : Int) (a_5 : List Int) (a_6 : List Bool) (s s_2 s_3 : Int) (s_4 s_5 : Bool) (out : List Int) : St := { fr := [(1, .pb 0 0), (4, .pb 1 0), (6, .row 2)], nt := 102, up := [], own := [(0, .box 65 [.d (.int .u8) a, .d (.int .u16) a_2, .d (.int .u16) a_3, .d (.int .u16) a_4, .d (.sl (.int .u16)) a_5, .d (.sl .bool) a_6]), (1, .box 80 [.d (.int .i64) s, .d (.int .i64) s_2, .d (.int .i64) s_3, .d .bool s_4, .d .bool s_5]), (2, .row (.int .u8) 5 out)], nx := 3, log := [], ln := 0 }
def qhv_ (a a_2 a_3 a_4 : Int) (a_5 : List Int) (a_6 : List Bool) (s s_2 s_3 : Int) (s_4 s_5 : Bool) (out : List Int) : St := { fr := [(1, .pb 0 0), (4, .pb 1 0), (6, .row 2)], nt := 102, up := [], own := [(0, .box 65 [.d (.int .u8) a, .d (.int .u16) a_2, .d (.int .u16) a_3, .d (.int .u16) a_4, .d (.sl (.int .u16)) a_5, .d (.sl .bool) a_6]), (1, .box 80 [.d (.int .i64) s, .d (.int .i64) s_2, .d (.int .i64) s_3, .d .bool s_4, .d .bool s_5]), (2, .row (.int .u8) 5 out)], nx := 3, log := [], ln := 0 }
def qi0_ (t43 : Bool) (a a_2 a_3 a_4 : Int) (a_5 : List Int) (a_6 : List Bool) (s s_2 s_3 : Int) (s_4 s_5 : Bool) (out : List Int) : St := { fr := [(1, .pb 0 0), (4, .pb 1 0), (6, .row 2), (43, .d .bool t43)], nt := 102, up := [], own := [(0, .box 65 [.d (.int .u8) a, .d (.int .u16) a_2, .d (.int .u16) a_3, .d (.int .u16) a_4, .d (.sl (.int .u16)) a_5, .d (.sl .bool) a_6]), (1, .box 80 [.d (.int .i64) s, .d (.int .i64) s_2, .d (.int .i64) s_3, .d .bool s_4, .d .bool s_5]), (2, .row (.int .u8) 5 out)], nx := 3, log := [], ln := 0 }
def qic_ (out : List Int) : St := { fr := [(6, .row 0)], nt := 102, up := [], own := [(0, .row (.int .u8) 5 out)], nx := 1, log := [], ln := 0 }
def qsd_ (j2 : Int -> Int -> Int -> Int -> List Int -> List Bool -> Int -> Int -> Int -> Bool -> Bool -> List Int -> Option (As [.sl (.int .u8), .int .i64])) (a a_2 a_3 a_4 : Int) (a_5 : List Int) (a_6 : List Bool) (s s_2 s_3 : Int) (s_4 s_5 : Bool) (out : List Int) : Option (As [.sl (.int .u8), .int .i64]) :=
  if s_4 = true then Option.bind (ask_numbers ([a_4, cvt .u16 (Int.ofNat (List.length a_5))], out, ())) fun (y : List Int × Unit) => j2 a a_2 a_3 a_4 a_5 a_6 s s_2 s_3 s_4 s_5 y.1 else j2 a a_2 a_3 a_4 a_5 a_6 s s_2 s_3 s_4 s_5 out
def qsi_ (j3 : Bool -> Int -> Int -> Int -> Int -> List Int -> List Bool -> Int -> Int -> Int -> Bool -> Bool -> List Int -> Option (As [.sl (.int .u8), .int .i64])) (a a_2 a_3 a_4 : Int) (a_5 : List Int) (a_6 : List Bool) (s s_2 s_3 : Int) (s_4 s_5 : Bool) (out : List Int) : Option (As [.sl (.int .u8), .int .i64]) :=
  if eqi a 5 = true then Option.bind (at? a_6 0) fun (y : Bool) => j3 y a a_2 a_3 a_4 a_5 a_6 s s_2 s_3 s_4 s_5 out else j3 false a a_2 a_3 a_4 a_5 a_6 s s_2 s_3 s_4 s_5 out
def qsh_ (j4 : List Int -> Option (As [.sl (.int .u8), .int .i64])) (t43 : Bool) (a a_2 a_3 a_4 : Int) (a_5 : List Int) (a_6 : List Bool) (s s_2 s_3 : Int) (s_4 s_5 : Bool) (out : List Int) : Option (As [.sl (.int .u8), .int .i64]) :=
  if t43 = true then Option.bind (ask_numbers ([65280], out, ())) fun (y : List Int × Unit) => j4 y.1 else if eqi a 5 = true then Option.bind (ask_numbers ([0], out, ())) fun (y : List Int × Unit) => j4 y.1 else if eqi a 6 = true then Option.bind (ask_numbers (a_5, out, ())) fun (y : List Int × Unit) => j4 y.1 else if gt s_2 0 = true then Option.bind (ask_Pack (a_6, ())) fun (y : List Int × Unit) => need (small (List.length out + Nat.succ 0)) (need (small (List.length (out ++ [cvt .u8 (Int.ofNat (List.length y.1))]) + List.length y.1)) (j4 (out ++ [cvt .u8 (Int.ofNat (List.length y.1))] ++ y.1))) else if gt s_3 0 = true then need (small (List.length out + Nat.succ 0)) (Option.bind (ask_numbers (a_5, out ++ [cvt .u8 (mul .i64 2 (Int.ofNat (List.length a_5)))], ())) fun (y : List Int × Unit) => j4 y.1) else j4 out
def qsf_ (out : List Int) : Option (As [.sl (.int .u8), .int .i64]) :=
  some (out, 0, ())
def qhg_ (j1 : Int -> Int -> Int -> Int -> List Int -> List Bool -> Int -> Int -> Int -> Bool -> Bool -> List Int -> Option (As [.sl (.int .u8), .int .i64])) (a : Int × Int × Int × Int × List Int × List Bool) : Option (As [.sl (.int .u8), .int .i64]) :=
  Option.bind (ask_Right (a, ())) fun (y : Bool × Unit) => if (!y.1) = true then some ([], 12, ()) else Option.bind (ask_shape (a.1, ())) fun (y : (Int × Int × Int × Bool × Bool) × Bool × Unit) => Option.bind (ask_numbers ([a.2.1], [a.1], ())) fun (y_1 : List Int × Unit) => if gt y.1.1 0 = true then Option.bind (ask_numbers ([a.2.2.1], y_1.1, ())) fun (y_2 : List Int × Unit) => j1 a.1 a.2.1 a.2.2.1 a.2.2.2.1 a.2.2.2.2.1 a.2.2.2.2.2 y.1.1 y.1.2.1 y.1.2.2.1 y.1.2.2.2.1 y.1.2.2.2.2 y_2.1 else j1 a.1 a.2.1 a.2.2.1 a.2.2.2.1 a.2.2.2.2.1 a.2.2.2.2.2 y.1.1 y.1.2.1 y.1.2.2.1 y.1.2.2.2.1 y.1.2.2.2.2 y_1.1
def qmc_ (out : List Int) : Option (As [.sl (.int .u8), .int .i64]) := qsf_ out
def qmx_ (t43 : Bool) (a a_2 a_3 a_4 : Int) (a_5 : List Int) (a_6 : List Bool) (s s_2 s_3 : Int) (s_4 s_5 : Bool) (out : List Int) : Option (As [.sl (.int .u8), .int .i64]) := qsh_ (qmc_) t43 a a_2 a_3 a_4 a_5 a_6 s s_2 s_3 s_4 s_5 out
def qml_ (a a_2 a_3 a_4 : Int) (a_5 : List Int) (a_6 : List Bool) (s s_2 s_3 : Int) (s_4 s_5 : Bool) (out : List Int) : Option (As [.sl (.int .u8), .int .i64]) := qsi_ (qmx_) a a_2 a_3 a_4 a_5 a_6 s s_2 s_3 s_4 s_5 out
def q42_ (a a_2 a_3 a_4 : Int) (a_5 : List Int) (a_6 : List Bool) (s s_2 s_3 : Int) (s_4 s_5 : Bool) (out : List Int) : Option (As [.sl (.int .u8), .int .i64]) := qsd_ (qml_) a a_2 a_3 a_4 a_5 a_6 s s_2 s_3 s_4 s_5 out
def ask_Bytes (x : As [.pr (.int .u8) LAT2]) : Option (As [.sl (.int .u8), .int .i64]) := qhg_ q42_ x.1
theorem q135_ (J : Orc (As [.sl (.int .u8), .int .i64])) (out : List Int) : pfn Tryz.prog q2b_ 6 18446744073709551616 (Ev.get q2d_) 59 q1s_ J 127 [] (qic_ out) = qsf_ out := by kernel_rfl
theorem q132_ (J : Orc (As [.sl (.int .u8), .int .i64])) (t43 : Bool) (a a_2 a_3 a_4 : Int) (a_5 : List Int) (a_6 : List Bool) (s s_2 s_3 : Int) (s_4 s_5 : Bool) (out : List Int) : pfn Tryz.prog q2b_ 6 18446744073709551616 (Ev.get q2d_) 59 q1s_ J 508 [] (qi0_ t43 a a_2 a_3 a_4 a_5 a_6 s s_2 s_3 s_4 s_5 out) = qsh_ (fun out => J 127 [] (qic_ out)) t43 a a_2 a_3 a_4 a_5 a_6 s s_2 s_3 s_4 s_5 out := by kernel_rfl
theorem q12r_ (J : Orc (As [.sl (.int .u8), .int .i64])) (a a_2 a_3 a_4 : Int) (a_5 : List Int) (a_6 : List Bool) (s s_2 s_3 : Int) (s_4 s_5 : Bool) (out : List Int) : pfn Tryz.prog q2b_ 6 18446744073709551616 (Ev.get q2d_) 59 q1s_ J 63 [] (qhv_ a a_2 a_3 a_4 a_5 a_6 s s_2 s_3 s_4 s_5 out) = qsi_ (fun t43 a a_2 a_3 a_4 a_5 a_6 s s_2 s_3 s_4 s_5 out => J 508 [] (qi0_ t43 a a_2 a_3 a_4 a_5 a_6 s s_2 s_3 s_4 s_5 out)) a a_2 a_3 a_4 a_5 a_6 s s_2 s_3 s_4 s_5 out := by kernel_rfl
theorem q12g_ (J : Orc (As [.sl (.int .u8), .int .i64])) (a a_2 a_3 a_4 : Int) (a_5 : List Int) (a_6 : List Bool) (s s_2 s_3 : Int) (s_4 s_5 : Bool) (out : List Int) : pfn Tryz.prog q2b_ 6 18446744073709551616 (Ev.get q2d_) 59 q1s_ J 31 [] (qhj_ a a_2 a_3 a_4 a_5 a_6 s s_2 s_3 s_4 s_5 out) = qsd_ (fun a a_2 a_3 a_4 a_5 a_6 s s_2 s_3 s_4 s_5 out => J 63 [] (qhv_ a a_2 a_3 a_4 a_5 a_6 s s_2 s_3 s_4 s_5 out)) a a_2 a_3 a_4 a_5 a_6 s s_2 s_3 s_4 s_5 out := by kernel_rfl
theorem q12t_ (J : Orc (As [.sl (.int .u8), .int .i64])) (x : As [.pr (.int .u8) LAT2]) : rfn Tryz.prog q2b_ 6 18446744073709551616 (Ev.get q2d_) 59 q1s_ J x = qhg_ (fun a a_2 a_3 a_4 a_5 a_6 s s_2 s_3 s_4 s_5 out => J 31 [] (qhj_ a a_2 a_3 a_4 a_5 a_6 s s_2 s_3 s_4 s_5 out)) x.1 := by kernel_rfl
theorem q11t_ (out : List Int) : jfn Tryz.prog q2b_ 6 18446744073709551616 (Ev.get q2d_) 59 q1s_ 127 [] (qic_ out) = qmc_ out := by
  rw [pfn_eq (by decide)]
  rw [q135_]
  rfl
theorem q11z_ (t43 : Bool) (a a_2 a_3 a_4 : Int) (a_5 : List Int) (a_6 : List Bool) (s s_2 s_3 : Int) (s_4 s_5 : Bool) (out : List Int) : jfn Tryz.prog q2b_ 6 18446744073709551616 (Ev.get q2d_) 59 q1s_ 508 [] (qi0_ t43 a a_2 a_3 a_4 a_5 a_6 s s_2 s_3 s_4 s_5 out) = qmx_ t43 a a_2 a_3 a_4 a_5 a_6 s s_2 s_3 s_4 s_5 out := by
  rw [pfn_eq (by decide)]
  have e4 : (fun out => (jfn Tryz.prog q2b_ 6 18446744073709551616 (Ev.get q2d_) 59 q1s_) 127 [] (qic_ out)) = qmc_ := funext fun out => q11t_ out
  rw [q132_, e4]
  rfl
theorem q11x_ (a a_2 a_3 a_4 : Int) (a_5 : List Int) (a_6 : List Bool) (s s_2 s_3 : Int) (s_4 s_5 : Bool) (out : List Int) : jfn Tryz.prog q2b_ 6 18446744073709551616 (Ev.get q2d_) 59 q1s_ 63 [] (qhv_ a a_2 a_3 a_4 a_5 a_6 s s_2 s_3 s_4 s_5 out) = qml_ a a_2 a_3 a_4 a_5 a_6 s s_2 s_3 s_4 s_5 out := by
  rw [pfn_eq (by decide)]
  have e3 : (fun t43 a a_2 a_3 a_4 a_5 a_6 s s_2 s_3 s_4 s_5 out => (jfn Tryz.prog q2b_ 6 18446744073709551616 (Ev.get q2d_) 59 q1s_) 508 [] (qi0_ t43 a a_2 a_3 a_4 a_5 a_6 s s_2 s_3 s_4 s_5 out)) = qmx_ := by funext t43 a a_2 a_3 a_4 a_5 a_6 s s_2 s_3 s_4 s_5 out; exact q11z_ t43 a a_2 a_3 a_4 a_5 a_6 s s_2 s_3 s_4 s_5 out
  rw [q12r_, e3]
  rfl
theorem q134_ (a a_2 a_3 a_4 : Int) (a_5 : List Int) (a_6 : List Bool) (s s_2 s_3 : Int) (s_4 s_5 : Bool) (out : List Int) : jfn Tryz.prog q2b_ 6 18446744073709551616 (Ev.get q2d_) 59 q1s_ 31 [] (qhj_ a a_2 a_3 a_4 a_5 a_6 s s_2 s_3 s_4 s_5 out) = q42_ a a_2 a_3 a_4 a_5 a_6 s s_2 s_3 s_4 s_5 out := by
  rw [pfn_eq (by decide)]
  have e2 : (fun a a_2 a_3 a_4 a_5 a_6 s s_2 s_3 s_4 s_5 out => (jfn Tryz.prog q2b_ 6 18446744073709551616 (Ev.get q2d_) 59 q1s_) 63 [] (qhv_ a a_2 a_3 a_4 a_5 a_6 s s_2 s_3 s_4 s_5 out)) = qml_ := by funext a a_2 a_3 a_4 a_5 a_6 s s_2 s_3 s_4 s_5 out; exact q11x_ a a_2 a_3 a_4 a_5 a_6 s s_2 s_3 s_4 s_5 out
  rw [q12g_, e2]
  rfl
theorem q14i_ (x : As [.pr (.int .u8) LAT2]) : evT Tryz.prog q2b_ 6 18446744073709551616 (Ev.get q2d_) 59 q1s_ x = ask_Bytes x := by
  have e1 : (fun a a_2 a_3 a_4 a_5 a_6 s s_2 s_3 s_4 s_5 out => (jfn Tryz.prog q2b_ 6 18446744073709551616 (Ev.get q2d_) 59 q1s_) 31 [] (qhj_ a a_2 a_3 a_4 a_5 a_6 s s_2 s_3 s_4 s_5 out)) = q42_ := by funext a a_2 a_3 a_4 a_5 a_6 s s_2 s_3 s_4 s_5 out; exact q134_ a a_2 a_3 a_4 a_5 a_6 s s_2 s_3 s_4 s_5 out
  rw [rfn_eq, q12t_, e1]
  rfl
theorem q130_ : CtOk Tryz.prog (fun _ => True) 59 ⟨q1s_, ask_Bytes⟩ := ct_of_ev (env_cons qhm_ (env_cons qmk_ (env_cons qwz_ (env_cons qt0_ env_nil)))) q14i_
@[reducible] def qgn_ : Sh := ⟨[.d (.sl (.int .u8)), .d (.sl (.int .u8))], [], [.sl (.int .u8), .sl (.int .u8)], [.d (.bool)], [], 0, [.bool]⟩
def qq8_ : Env := (cts [])
def qql_ : List (Nat × Hint) := []
def qoi_ (a b : List Int) : Option (As [.bool]) :=
  some (eqs (Sx.toS a) (Sx.toS b), ())
def bytes_Equal (x : As [.sl (.int .u8), .sl (.int .u8)]) : Option (As [.bool]) := qoi_ x.1 x.2.1
theorem qwq_ (J : Orc (As [.bool])) (x : As [.sl (.int .u8), .sl (.int .u8)]) : rfn Tryz.prog qq8_ 6 18446744073709551616 (Ev.get qql_) 60 qgn_ J x = qoi_ x.1 x.2.1 := by kernel_rfl
theorem qz4_ (x : As [.sl (.int .u8), .sl (.int .u8)]) : evT Tryz.prog qq8_ 6 18446744073709551616 (Ev.get qql_) 60 qgn_ x = bytes_Equal x := by
  rw [rfn_eq, qwq_]
  rfl
theorem qxa_ : CtOk Tryz.prog (fun _ => True) 60 ⟨qgn_, bytes_Equal⟩ := ct_of_ev env_nil qz4_
@[reducible] def q9j_ : Sh := ⟨[.d (.sl (.int .u8))], [], [.sl (.int .u8)], [.d (.pr (.int .u8) LAT2), .d (.int .i64)], [], 0, [.pr (.int .u8) LAT2, .int .i64]⟩
def qf8_ : Env := (cts [(58, (⟨q3r_, ask_read⟩ : Ct)), (59, (⟨q1s_, ask_Bytes⟩ : Ct)), (60, (⟨qgn_, bytes_Equal⟩ : Ct))])
def qfb_ : List (Nat × Hint) := [(61, ⟨[], [2, 4, 28]⟩)]
def qi5_ (t28 : Bool) (t2 t2_2 t2_3 t2_4 a a_2 a_3 a_4 : Int) (a_5 : List Int) (a_6 : List Bool) : St := { fr := [(2, .pb 0 0), (4, .pb 1 0), (28, .d .bool t28)], nt := 31, up := [], own := [(0, .box 65 [.d (.int .u8) t2, .d (.int .u16) t2_2, .d (.int .u16) t2_3, .d (.int .u16) t2_4, .k (Go.Value.slice Option.none 0 0), .k (Go.Value.slice Option.none 0 0)]), (1, .box 65 [.d (.int .u8) a, .d (.int .u16) a_2, .d (.int .u16) a_3, .d (.int .u16) a_4, .d (.sl (.int .u16)) a_5, .d (.sl .bool) a_6])], nx := 2, log := [], ln := 0 }
def qru_ (t28 : Bool) (t2 t2_2 t2_3 t2_4 a a_2 a_3 a_4 : Int) (a_5 : List Int) (a_6 : List Bool) : Option (As [.pr (.int .u8) LAT2, .int .i64]) :=
  if t28 = true then some ((0, 0, 0, 0, [], []), 12, ()) else some ((a, a_2, a_3, a_4, a_5, a_6), 0, ())
def qae_ (j1 : Bool -> Int -> Int -> Int -> Int -> Int -> Int -> Int -> Int -> List Int -> List Bool -> Option (As [.pr (.int .u8) LAT2, .int .i64])) (b : List Int) : Option (As [.pr (.int .u8) LAT2, .int .i64]) :=
  Option.bind (ask_read (b, ())) fun (y : LAT10 × Bool × Unit) => if (!y.2.1) = true then some ((0, 0, 0, 0, [], []), 12, ()) else Option.bind (ask_Bytes (y.1, ())) fun (y_1 : List Int × Int × Unit) => if nei y_1.2.1 0 = true then j1 true 0 0 0 0 y.1.1 y.1.2.1 y.1.2.2.1 y.1.2.2.2.1 y.1.2.2.2.2.1 y.1.2.2.2.2.2 else Option.bind (bytes_Equal (y_1.1, b, ())) fun (y_2 : Bool × Unit) => j1 (!y_2.1) 0 0 0 0 y.1.1 y.1.2.1 y.1.2.2.1 y.1.2.2.2.1 y.1.2.2.2.2.1 y.1.2.2.2.2.2
def qcv_ (t28 : Bool) (t2 t2_2 t2_3 t2_4 a a_2 a_3 a_4 : Int) (a_5 : List Int) (a_6 : List Bool) : Option (As [.pr (.int .u8) LAT2, .int .i64]) := qru_ t28 t2 t2_2 t2_3 t2_4 a a_2 a_3 a_4 a_5 a_6
def ask_Parse (x : As [.sl (.int .u8)]) : Option (As [.pr (.int .u8) LAT2, .int .i64]) := qae_ qcv_ x.1
theorem q12i_ (J : Orc (As [.pr (.int .u8) LAT2, .int .i64])) (t28 : Bool) (t2 t2_2 t2_3 t2_4 a a_2 a_3 a_4 : Int) (a_5 : List Int) (a_6 : List Bool) : pfn Tryz.prog qf8_ 6 18446744073709551616 (Ev.get qfb_) 36 q9j_ J 61 [] (qi5_ t28 t2 t2_2 t2_3 t2_4 a a_2 a_3 a_4 a_5 a_6) = qru_ t28 t2 t2_2 t2_3 t2_4 a a_2 a_3 a_4 a_5 a_6 := by kernel_rfl
theorem q13b_ (J : Orc (As [.pr (.int .u8) LAT2, .int .i64])) (x : As [.sl (.int .u8)]) : rfn Tryz.prog qf8_ 6 18446744073709551616 (Ev.get qfb_) 36 q9j_ J x = qae_ (fun t28 t2 t2_2 t2_3 t2_4 a a_2 a_3 a_4 a_5 a_6 => J 61 [] (qi5_ t28 t2 t2_2 t2_3 t2_4 a a_2 a_3 a_4 a_5 a_6)) x.1 := by kernel_rfl
theorem q12q_ (t28 : Bool) (t2 t2_2 t2_3 t2_4 a a_2 a_3 a_4 : Int) (a_5 : List Int) (a_6 : List Bool) : jfn Tryz.prog qf8_ 6 18446744073709551616 (Ev.get qfb_) 36 q9j_ 61 [] (qi5_ t28 t2 t2_2 t2_3 t2_4 a a_2 a_3 a_4 a_5 a_6) = qcv_ t28 t2 t2_2 t2_3 t2_4 a a_2 a_3 a_4 a_5 a_6 := by
  rw [pfn_eq (by decide)]
  rw [q12i_]
  rfl
theorem q14e_ (x : As [.sl (.int .u8)]) : evT Tryz.prog qf8_ 6 18446744073709551616 (Ev.get qfb_) 36 q9j_ x = ask_Parse x := by
  have e1 : (fun t28 t2 t2_2 t2_3 t2_4 a a_2 a_3 a_4 a_5 a_6 => (jfn Tryz.prog qf8_ 6 18446744073709551616 (Ev.get qfb_) 36 q9j_) 61 [] (qi5_ t28 t2 t2_2 t2_3 t2_4 a a_2 a_3 a_4 a_5 a_6)) = qcv_ := by funext t28 t2 t2_2 t2_3 t2_4 a a_2 a_3 a_4 a_5 a_6; exact q12q_ t28 t2 t2_2 t2_3 t2_4 a a_2 a_3 a_4 a_5 a_6
  rw [rfn_eq, q13b_, e1]
  rfl
theorem q11r_ : CtOk Tryz.prog (fun _ => True) 36 ⟨q9j_, ask_Parse⟩ := ct_of_ev (env_cons q14r_ (env_cons q130_ (env_cons qxa_ env_nil))) q14e_
@[reducible] def qlz_ : Sh := ⟨[.d (.sl (.int .u8))], [], [.sl (.int .u8)], [.d (.pr (.int .u8) LAT2), .d (.int .u8)], [], 0, [.pr (.int .u8) LAT2, .int .u8]⟩
def qug_ : Env := (cts [(36, (⟨q9j_, ask_Parse⟩ : Ct)), (37, (⟨q9i_, ask_shape⟩ : Ct))])
def qus_ : List (Nat × Hint) := []
def qby_ (b : List Int) : Option (As [.pr (.int .u8) LAT2, .int .u8]) :=
  if eqi (Int.ofNat (List.length b)) 0 = true then some ((0, 0, 0, 0, [], []), 1, ()) else Option.bind (ask_Parse (b, ())) fun (y : LAT10 × Int × Unit) => if eqi y.2.1 0 = true then some (y.1, 0, ()) else Option.bind (at? b 0) fun (y : Int) => Option.bind (at? b 0) fun (y_1 : Int) => Option.bind (ask_shape (y_1, ())) fun (y_2 : (Int × Int × Int × Bool × Bool) × Bool × Unit) => if (!y_2.2.1) = true then some ((y, 0, 0, 0, [], []), 1, ()) else some ((y, 0, 0, 0, [], []), 3, ())
def ask_Look (x : As [.sl (.int .u8)]) : Option (As [.pr (.int .u8) LAT2, .int .u8]) := qby_ x.1
theorem q14f_ (J : Orc (As [.pr (.int .u8) LAT2, .int .u8])) (x : As [.sl (.int .u8)]) : rfn Tryz.prog qug_ 6 18446744073709551616 (Ev.get qus_) 27 qlz_ J x = qby_ x.1 := by kernel_rfl
theorem q15c_ (x : As [.sl (.int .u8)]) : evT Tryz.prog qug_ 6 18446744073709551616 (Ev.get qus_) 27 qlz_ x = ask_Look x := by
  rw [rfn_eq, q14f_]
  rfl
theorem q14m_ : CtOk Tryz.prog (fun _ => True) 27 ⟨qlz_, ask_Look⟩ := ct_of_ev (env_cons q11r_ (env_cons qhm_ env_nil)) q15c_
@[reducible] def q8l_ : Sh := ⟨[.d (.int .u8), .d (.int .u8)], [], [.int .u8, .int .u8], [.d (.pr (.int .u8) LAT1)], [], 0, [.pr (.int .u8) LAT1]⟩
def qr0_ : Env := (cts [])
def qqz_ : List (Nat × Hint) := []
def qp9_ (f except : Int) : Option (As [.pr (.int .u8) LAT1]) :=
  some ((rem f 128, except, [], [], 0, 0), ())
def reply_Wrong (x : As [.int .u8, .int .u8]) : Option (As [.pr (.int .u8) LAT1]) := qp9_ x.1 x.2.1
theorem qvh_ (J : Orc (As [.pr (.int .u8) LAT1])) (x : As [.int .u8, .int .u8]) : rfn Tryz.prog qr0_ 6 18446744073709551616 (Ev.get qqz_) 29 q8l_ J x = qp9_ x.1 x.2.1 := by kernel_rfl
theorem q101_ (x : As [.int .u8, .int .u8]) : evT Tryz.prog qr0_ 6 18446744073709551616 (Ev.get qqz_) 29 q8l_ x = reply_Wrong x := by
  rw [rfn_eq, qvh_]
  rfl
theorem qj9_ : CtOk Tryz.prog (fun _ => True) 29 ⟨q8l_, reply_Wrong⟩ := ct_of_ev env_nil q101_
@[reducible] def q2o_ : Sh := ⟨[.d (.sl .bool), .d (.sl .bool)], [], [.sl .bool, .sl .bool], [.d (.bool)], [], 0, [.bool]⟩
def q56_ : Env := (cts [])
def q5b_ : List (Nat × Hint) := [(58, ⟨[], [0, 1, 12, 13]⟩)]
def q39_ (s1 s2 : List Bool) (t12 t13 : Int) : St := { fr := [(0, .d (.sl .bool) s1), (1, .d (.sl .bool) s2), (12, .d (.int .i64) t12), (13, .d (.int .i64) t13)], nt := 26, up := [], own := [], nx := 0, log := [], ln := 0 }
def q37_ (self1 : List Bool -> List Bool -> Int -> Int -> Option (As [.bool])) (s1 s2 : List Bool) (t12 t13 : Int) : Option (As [.bool]) :=
  if lt t13 t12 = true then Option.bind (at? s1 t13) fun (y : Bool) => Option.bind (at? s2 t13) fun (y_1 : Bool) => if Sx.neb y y_1 = true then some (false, ()) else self1 s1 s2 t12 (add .i64 t13 1) else some (true, ())
def q6j_ (j1 : List Bool -> List Bool -> Int -> Int -> Option (As [.bool])) (s1 s2 : List Bool) : Option (As [.bool]) :=
  if nei (Int.ofNat (List.length s1)) (Int.ofNat (List.length s2)) = true then some (false, ()) else j1 s1 s2 (Int.ofNat (List.length s1)) 0
def q4p_ (s1 s2 : List Bool) (t12 t13 : Int) : Option (As [.bool]) :=
  loopF (fun (self : (List Bool) × (List Bool) × (Int) × (Int) -> Option (As [.bool])) (s : (List Bool) × (List Bool) × (Int) × (Int)) => q37_ (fun s1 s2 t12 t13 => self (s1, s2, t12, t13)) s.1 s.2.1 s.2.2.1 s.2.2.2) 18446744073709551616 (s1, s2, t12, t13)
def slices_Equal_Gbool (x : As [.sl .bool, .sl .bool]) : Option (As [.bool]) := q6j_ q4p_ x.1 x.2.1
theorem qp3_ (J : Orc (As [.bool])) (w1 : St -> Option (As [.bool])) (s1 s2 : List Bool) (t12 t13 : Int) : pfn Tryz.prog q56_ 6 18446744073709551616 (Ev.get q5b_) 111 q2o_ J 58 [w1] (q39_ s1 s2 t12 t13) = q37_ (fun s1 s2 t12 t13 => w1 (q39_ s1 s2 t12 t13)) s1 s2 t12 t13 := by kernel_rfl
theorem qpi_ (J : Orc (As [.bool])) (x : As [.sl .bool, .sl .bool]) : rfn Tryz.prog q56_ 6 18446744073709551616 (Ev.get q5b_) 111 q2o_ J x = q6j_ (fun s1 s2 t12 t13 => J 58 [] (q39_ s1 s2 t12 t13)) x.1 x.2.1 := by kernel_rfl
theorem qou_ (s1 s2 : List Bool) (t12 t13 : Int) : jfn Tryz.prog q56_ 6 18446744073709551616 (Ev.get q5b_) 111 q2o_ 58 [] (q39_ s1 s2 t12 t13) = q4p_ s1 s2 t12 t13 := by
  rw [pfn_eq (by decide)]
  rw [pfn_loop (by kernel_rfl)]
  refine loopF_sim (σ := (List Bool) × (List Bool) × (Int) × (Int)) (mk := fun s => q39_ s.1 s.2.1 s.2.2.1 s.2.2.2) (fun w1 s => ?_) 18446744073709551616 (s1, s2, t12, t13)
  refine (qp3_ _ w1 s.1 s.2.1 s.2.2.1 s.2.2.2).trans ?_
  rfl
theorem qpw_ (x : As [.sl .bool, .sl .bool]) : evT Tryz.prog q56_ 6 18446744073709551616 (Ev.get q5b_) 111 q2o_ x = slices_Equal_Gbool x := by
  have e1 : (fun s1 s2 t12 t13 => (jfn Tryz.prog q56_ 6 18446744073709551616 (Ev.get q5b_) 111 q2o_) 58 [] (q39_ s1 s2 t12 t13)) = q4p_ := by funext s1 s2 t12 t13; exact qou_ s1 s2 t12 t13
  rw [rfn_eq, qpi_, e1]
  rfl
theorem qpp_ : CtOk Tryz.prog (fun _ => True) 111 ⟨q2o_, slices_Equal_Gbool⟩ := ct_of_ev env_nil qpw_
@[reducible] def q23_ : Sh := ⟨[.d (.sl (.int .u16)), .d (.sl (.int .u16))], [], [.sl (.int .u16), .sl (.int .u16)], [.d (.bool)], [], 0, [.bool]⟩
def q41_ : Env := (cts [])
def q40_ : List (Nat × Hint) := [(58, ⟨[], [0, 1, 12, 13]⟩)]
def q2h_ (s1 s2 : List Int) (t12 t13 : Int) : St := { fr := [(0, .d (.sl (.int .u16)) s1), (1, .d (.sl (.int .u16)) s2), (12, .d (.int .i64) t12), (13, .d (.int .i64) t13)], nt := 26, up := [], own := [], nx := 0, log := [], ln := 0 }
def q2g_ (self1 : List Int -> List Int -> Int -> Int -> Option (As [.bool])) (s1 s2 : List Int) (t12 t13 : Int) : Option (As [.bool]) :=
  if lt t13 t12 = true then Option.bind (at? s1 t13) fun (y : Int) => Option.bind (at? s2 t13) fun (y_1 : Int) => if nei y y_1 = true then some (false, ()) else self1 s1 s2 t12 (add .i64 t13 1) else some (true, ())
def q5t_ (j1 : List Int -> List Int -> Int -> Int -> Option (As [.bool])) (s1 s2 : List Int) : Option (As [.bool]) :=
  if nei (Int.ofNat (List.length s1)) (Int.ofNat (List.length s2)) = true then some (false, ()) else j1 s1 s2 (Int.ofNat (List.length s1)) 0
def q3s_ (s1 s2 : List Int) (t12 t13 : Int) : Option (As [.bool]) :=
  loopF (fun (self : (List Int) × (List Int) × (Int) × (Int) -> Option (As [.bool])) (s : (List Int) × (List Int) × (Int) × (Int)) => q2g_ (fun s1 s2 t12 t13 => self (s1, s2, t12, t13)) s.1 s.2.1 s.2.2.1 s.2.2.2) 18446744073709551616 (s1, s2, t12, t13)
def slices_Equal_Guint16 (x : As [.sl (.int .u16), .sl (.int .u16)]) : Option (As [.bool]) := q5t_ q3s_ x.1 x.2.1
theorem qn6_ (J : Orc (As [.bool])) (w1 : St -> Option (As [.bool])) (s1 s2 : List Int) (t12 t13 : Int) : pfn Tryz.prog q41_ 6 18446744073709551616 (Ev.get q40_) 112 q23_ J 58 [w1] (q2h_ s1 s2 t12 t13) = q2g_ (fun s1 s2 t12 t13 => w1 (q2h_ s1 s2 t12 t13)) s1 s2 t12 t13 := by kernel_rfl
theorem qn3_ (J : Orc (As [.bool])) (x : As [.sl (.int .u16), .sl (.int .u16)]) : rfn Tryz.prog q41_ 6 18446744073709551616 (Ev.get q40_) 112 q23_ J x = q5t_ (fun s1 s2 t12 t13 => J 58 [] (q2h_ s1 s2 t12 t13)) x.1 x.2.1 := by kernel_rfl
theorem qn0_ (s1 s2 : List Int) (t12 t13 : Int) : jfn Tryz.prog q41_ 6 18446744073709551616 (Ev.get q40_) 112 q23_ 58 [] (q2h_ s1 s2 t12 t13) = q3s_ s1 s2 t12 t13 := by
  rw [pfn_eq (by decide)]
  rw [pfn_loop (by kernel_rfl)]
  refine loopF_sim (σ := (List Int) × (List Int) × (Int) × (Int)) (mk := fun s => q2h_ s.1 s.2.1 s.2.2.1 s.2.2.2) (fun w1 s => ?_) 18446744073709551616 (s1, s2, t12, t13)
  refine (qn6_ _ w1 s.1 s.2.1 s.2.2.1 s.2.2.2).trans ?_
  rfl
theorem qnx_ (x : As [.sl (.int .u16), .sl (.int .u16)]) : evT Tryz.prog q41_ 6 18446744073709551616 (Ev.get q40_) 112 q23_ x = slices_Equal_Guint16 x := by
  have e1 : (fun s1 s2 t12 t13 => (jfn Tryz.prog q41_ 6 18446744073709551616 (Ev.get q40_) 112 q23_) 58 [] (q2h_ s1 s2 t12 t13)) = q3s_ := by funext s1 s2 t12 t13; exact qn0_ s1 s2 t12 t13
  rw [rfn_eq, qn3_, e1]
  rfl
theorem qn1_ : CtOk Tryz.prog (fun _ => True) 112 ⟨q23_, slices_Equal_Guint16⟩ := ct_of_ev env_nil qnx_
@[reducible] def q57_ : Sh := ⟨[.d (.pr (.int .u8) LAT1), .d (.pr (.int .u8) LAT1)], [], [.pr (.int .u8) LAT1, .pr (.int .u8) LAT1], [.d (.bool)], [], 0, [.bool]⟩
def qsk_ : Env := (cts [(111, (⟨q2o_, slices_Equal_Gbool⟩ : Ct)), (112, (⟨q23_, slices_Equal_Guint16⟩ : Ct))])
def qsm_ : List (Nat × Hint) := []
def qfx_ (a b : Int × Int × List Bool × List Int × Int × Int) : Option (As [.bool]) :=
  if eqi a.1 b.1 = true then if eqi a.2.1 b.2.1 = true then if eqi a.2.2.2.2.1 b.2.2.2.2.1 = true then if eqi a.2.2.2.2.2 b.2.2.2.2.2 = true then Option.bind (slices_Equal_Gbool (a.2.2.1, b.2.2.1, ())) fun (y : Bool × Unit) => if y.1 = true then Option.bind (slices_Equal_Guint16 (a.2.2.2.1, b.2.2.2.1, ())) fun (y : Bool × Unit) => some (y.1, ()) else some (false, ()) else some (false, ()) else some (false, ()) else some (false, ()) else some (false, ())
def reply_Same (x : As [.pr (.int .u8) LAT1, .pr (.int .u8) LAT1]) : Option (As [.bool]) := qfx_ x.1 x.2.1
theorem q10d_ (J : Orc (As [.bool])) (x : As [.pr (.int .u8) LAT1, .pr (.int .u8) LAT1]) : rfn Tryz.prog qsk_ 6 18446744073709551616 (Ev.get qsm_) 110 q57_ J x = qfx_ x.1 x.2.1 := by kernel_rfl
theorem q12h_ (x : As [.pr (.int .u8) LAT1, .pr (.int .u8) LAT1]) : evT Tryz.prog qsk_ 6 18446744073709551616 (Ev.get qsm_) 110 q57_ x = reply_Same x := by
  rw [rfn_eq, q10d_]
  rfl
theorem q8q_ : CtOk Tryz.prog (fun _ => True) 110 ⟨q57_, reply_Same⟩ := ct_of_ev (env_cons qpp_ (env_cons qn1_ env_nil)) q12h_
@[reducible] def q5p_ : Sh := ⟨[.d (.un), .d (.pr (.int .u8) LAT1)], [], [.un, .pr (.int .u8) LAT1], [.d (.bool)], [], 0, [.bool]⟩
def qew_ : Env := (cts [(29, (⟨q8l_, reply_Wrong⟩ : Ct)), (110, (⟨q57_, reply_Same⟩ : Ct))])
def qet_ : List (Nat × Hint) := []
def q5a_ (v : Unit) (r : Int × Int × List Bool × List Int × Int × Int) : Option (As [.bool]) :=
  if lt r.1 128 = true then if ge r.2.1 1 = true then if le r.2.1 4 = true then Option.bind (reply_Wrong (r.1, r.2.1, ())) fun (y : LAT12 × Unit) => Option.bind (reply_Same (r, y.1, ())) fun (y : Bool × Unit) => some (y.1, ()) else some (false, ()) else some (false, ()) else some (false, ())
def reply_exception_right (x : As [.un, .pr (.int .u8) LAT1]) : Option (As [.bool]) := q5a_ x.1 x.2.1
theorem qmt_ (J : Orc (As [.bool])) (x : As [.un, .pr (.int .u8) LAT1]) : rfn Tryz.prog qew_ 6 18446744073709551616 (Ev.get qet_) 108 q5p_ J x = q5a_ x.1 x.2.1 := by kernel_rfl
theorem qn5_ (x : As [.un, .pr (.int .u8) LAT1]) : evT Tryz.prog qew_ 6 18446744073709551616 (Ev.get qet_) 108 q5p_ x = reply_exception_right x := by
  rw [rfn_eq, qmt_]
  rfl
theorem qms_ : CtOk Tryz.prog (fun _ => True) 108 ⟨q5p_, reply_exception_right⟩ := ct_of_ev (env_cons qj9_ (env_cons q8q_ env_nil)) qn5_
@[reducible] def q5q_ : Sh := ⟨[.d (.un), .d (.pr (.int .u8) LAT1)], [], [.un, .pr (.int .u8) LAT1], [.d (.sl (.int .u8))], [], 0, [.sl (.int .u8)]⟩
def qex_ : Env := (cts [])
def qev_ : List (Nat × Hint) := []
def qd8_ (v : Unit) (r : Int × Int × List Bool × List Int × Int × Int) : Option (As [.sl (.int .u8)]) :=
  some ([add .u8 r.1 128, r.2.1], ())
def reply_exception_write (x : As [.un, .pr (.int .u8) LAT1]) : Option (As [.sl (.int .u8)]) := qd8_ x.1 x.2.1
theorem qmu_ (J : Orc (As [.sl (.int .u8)])) (x : As [.un, .pr (.int .u8) LAT1]) : rfn Tryz.prog qex_ 6 18446744073709551616 (Ev.get qev_) 109 q5q_ J x = qd8_ x.1 x.2.1 := by kernel_rfl
theorem qn7_ (x : As [.un, .pr (.int .u8) LAT1]) : evT Tryz.prog qex_ 6 18446744073709551616 (Ev.get qev_) 109 q5q_ x = reply_exception_write x := by
  rw [rfn_eq, qmu_]
  rfl
theorem qm9_ : CtOk Tryz.prog (fun _ => True) 109 ⟨q5q_, reply_exception_write⟩ := ct_of_ev env_nil qn7_
@[reducible] def q6k_ : Sh := ⟨[.d (.un), .d (.pr (.int .u8) LAT1)], [], [.un, .pr (.int .u8) LAT1], [.d (.bool)], [], 0, [.bool]⟩
def qh4_ : Env := (cts [(110, (⟨q57_, reply_Same⟩ : Ct))])
def qh3_ : List (Nat × Hint) := []
def q69_ (v : Unit) (r : Int × Int × List Bool × List Int × Int × Int) : Option (As [.bool]) :=
  if ge (Int.ofNat (List.length r.2.2.1)) 8 = true then if le (Int.ofNat (List.length r.2.2.1)) 2000 = true then if eqi (rem (Int.ofNat (List.length r.2.2.1)) 8) 0 = true then Option.bind (reply_Same (r, (r.1, 0, r.2.2.1, [], 0, 0), ())) fun (y : Bool × Unit) => some (y.1, ()) else some (false, ()) else some (false, ()) else some (false, ())
def reply_bitList_right (x : As [.un, .pr (.int .u8) LAT1]) : Option (As [.bool]) := q69_ x.1 x.2.1
theorem qoe_ (J : Orc (As [.bool])) (x : As [.un, .pr (.int .u8) LAT1]) : rfn Tryz.prog qh4_ 6 18446744073709551616 (Ev.get qh3_) 114 q6k_ J x = q69_ x.1 x.2.1 := by kernel_rfl
theorem qp4_ (x : As [.un, .pr (.int .u8) LAT1]) : evT Tryz.prog qh4_ 6 18446744073709551616 (Ev.get qh3_) 114 q6k_ x = reply_bitList_right x := by
  rw [rfn_eq, qoe_]
  rfl
theorem qnw_ : CtOk Tryz.prog (fun _ => True) 114 ⟨q6k_, reply_bitList_right⟩ := ct_of_ev (env_cons q8q_ env_nil) qp4_
@[reducible] def q6n_ : Sh := ⟨[.d (.un), .d (.pr (.int .u8) LAT1)], [], [.un, .pr (.int .u8) LAT1], [.d (.sl (.int .u8))], [], 0, [.sl (.int .u8)]⟩
def qh6_ : Env := (cts [(78, (⟨q51_, ask_Pack⟩ : Ct))])
def qha_ : List (Nat × Hint) := []
def q66_ (v : Unit) (r : Int × Int × List Bool × List Int × Int × Int) : Option (As [.sl (.int .u8)]) :=
  Option.bind (ask_Pack (r.2.2.1, ())) fun (y : List Int × Unit) => need (small (Nat.succ (Nat.succ 0) + List.length y.1)) (some (r.1 :: cvt .u8 (Int.ofNat (List.length y.1)) :: y.1, ()))
def reply_bitList_write (x : As [.un, .pr (.int .u8) LAT1]) : Option (As [.sl (.int .u8)]) := q66_ x.1 x.2.1
theorem qo1_ (J : Orc (As [.sl (.int .u8)])) (x : As [.un, .pr (.int .u8) LAT1]) : rfn Tryz.prog qh6_ 6 18446744073709551616 (Ev.get qha_) 115 q6n_ J x = q66_ x.1 x.2.1 := by kernel_rfl
theorem qop_ (x : As [.un, .pr (.int .u8) LAT1]) : evT Tryz.prog qh6_ 6 18446744073709551616 (Ev.get qha_) 115 q6n_ x = reply_bitList_write x := by
  rw [rfn_eq, qo1_]
  rfl
theorem qod_ : CtOk Tryz.prog (fun _ => True) 115 ⟨q6n_, reply_bitList_write⟩ := ct_of_ev (env_cons qt0_ env_nil) qop_
@[reducible] def q63_ : Sh := ⟨[.d (.un), .d (.pr (.int .u8) LAT1)], [], [.un, .pr (.int .u8) LAT1], [.d (.bool)], [], 0, [.bool]⟩
def qfh_ : Env := (cts [(110, (⟨q57_, reply_Same⟩ : Ct))])
def qf3_ : List (Nat × Hint) := []
def q5s_ (v : Unit) (r : Int × Int × List Bool × List Int × Int × Int) : Option (As [.bool]) :=
  if ge (Int.ofNat (List.length r.2.2.2.1)) 1 = true then if le (Int.ofNat (List.length r.2.2.2.1)) 125 = true then Option.bind (reply_Same (r, (r.1, 0, [], r.2.2.2.1, 0, 0), ())) fun (y : Bool × Unit) => some (y.1, ()) else some (false, ()) else some (false, ())
def reply_wordList_right (x : As [.un, .pr (.int .u8) LAT1]) : Option (As [.bool]) := q5s_ x.1 x.2.1
theorem qnd_ (J : Orc (As [.bool])) (x : As [.un, .pr (.int .u8) LAT1]) : rfn Tryz.prog qfh_ 6 18446744073709551616 (Ev.get qf3_) 117 q63_ J x = q5s_ x.1 x.2.1 := by kernel_rfl
theorem qnq_ (x : As [.un, .pr (.int .u8) LAT1]) : evT Tryz.prog qfh_ 6 18446744073709551616 (Ev.get qf3_) 117 q63_ x = reply_wordList_right x := by
  rw [rfn_eq, qnd_]
  rfl
theorem qn9_ : CtOk Tryz.prog (fun _ => True) 117 ⟨q63_, reply_wordList_right⟩ := ct_of_ev (env_cons q8q_ env_nil) qnq_
@[reducible] def q2c_ : Sh := ⟨[.row 0, .d (.sl (.int .u16))], [.row (.int .u8) 5], [.sl (.int .u16), .sl (.int .u8)], [.row 1], [(1, .row (.int .u8) 5)], 1, [.sl (.int .u8)]⟩
def q8x_ : Env := (cts [])
def q9c_ : List (Nat × Hint) := [(26, ⟨[.unl 0], [0, 7, 8, 9]⟩)]
def q5y_ (t7 : List Int) (t8 t9 : Int) (out : List Int) : St := { fr := [(0, .row 1), (7, .d (.sl (.int .u16)) t7), (8, .d (.int .i64) t8), (9, .d (.int .i64) t9)], nt := 23, up := [], own := [(1, .row (.int .u8) 5 out)], nx := 2, log := [], ln := 1 }
def q5x_ (self1 : List Int -> Int -> Int -> List Int -> Option (As [.sl (.int .u8)])) (t7 : List Int) (t8 t9 : Int) (out : List Int) : Option (As [.sl (.int .u8)]) :=
  if lt t9 t8 = true then Option.bind (at? t7 t9) fun (y : Int) => need (small (List.length out + Nat.succ (Nat.succ 0))) (self1 t7 t8 (add .i64 t9 1) (out ++ [cvt .u8 (Sx.shr .u16 y 8), cvt .u8 y])) else some (out, ())
def qb5_ (j1 : List Int -> Int -> Int -> List Int -> Option (As [.sl (.int .u8)])) (out l : List Int) : Option (As [.sl (.int .u8)]) :=
  j1 out (Int.ofNat (List.length out)) 0 l
def q7q_ (t7 : List Int) (t8 t9 : Int) (out : List Int) : Option (As [.sl (.int .u8)]) :=
  loopF (fun (self : (List Int) × (Int) × (Int) × (List Int) -> Option (As [.sl (.int .u8)])) (s : (List Int) × (Int) × (Int) × (List Int)) => q5x_ (fun t7 t8 t9 out => self (t7, t8, t9, out)) s.1 s.2.1 s.2.2.1 s.2.2.2) 18446744073709551616 (t7, t8, t9, out)
def reply_numbers (x : As [.sl (.int .u16), .sl (.int .u8)]) : Option (As [.sl (.int .u8)]) := qb5_ q7q_ x.1 x.2.1
theorem qu0_ (J : Orc (As [.sl (.int .u8)])) (w1 : St -> Option (As [.sl (.int .u8)])) (t7 : List Int) (t8 t9 : Int) (out : List Int) : pfn Tryz.prog q8x_ 6 18446744073709551616 (Ev.get q9c_) 119 q2c_ J 26 [w1] (q5y_ t7 t8 t9 out) = q5x_ (fun t7 t8 t9 out => w1 (q5y_ t7 t8 t9 out)) t7 t8 t9 out := by kernel_rfl
theorem qu4_ (J : Orc (As [.sl (.int .u8)])) (x : As [.sl (.int .u16), .sl (.int .u8)]) : rfn Tryz.prog q8x_ 6 18446744073709551616 (Ev.get q9c_) 119 q2c_ J x = qb5_ (fun t7 t8 t9 out => J 26 [] (q5y_ t7 t8 t9 out)) x.1 x.2.1 := by kernel_rfl
theorem qtt_ (t7 : List Int) (t8 t9 : Int) (out : List Int) : jfn Tryz.prog q8x_ 6 18446744073709551616 (Ev.get q9c_) 119 q2c_ 26 [] (q5y_ t7 t8 t9 out) = q7q_ t7 t8 t9 out := by
  rw [pfn_eq (by decide)]
  rw [pfn_loop (by kernel_rfl)]
  refine loopF_sim (σ := (List Int) × (Int) × (Int) × (List Int)) (mk := fun s => q5y_ s.1 s.2.1 s.2.2.1 s.2.2.2) (fun w1 s => ?_) 18446744073709551616 (t7, t8, t9, out)
  refine (qu0_ _ w1 s.1 s.2.1 s.2.2.1 s.2.2.2).trans ?_
  rfl
theorem qut_ (x : As [.sl (.int .u16), .sl (.int .u8)]) : evT Tryz.prog q8x_ 6 18446744073709551616 (Ev.get q9c_) 119 q2c_ x = reply_numbers x := by
  have e1 : (fun t7 t8 t9 out => (jfn Tryz.prog q8x_ 6 18446744073709551616 (Ev.get q9c_) 119 q2c_) 26 [] (q5y_ t7 t8 t9 out)) = q7q_ := by funext t7 t8 t9 out; exact qtt_ t7 t8 t9 out
  rw [rfn_eq, qu4_, e1]
  rfl
theorem qaw_ : CtOk Tryz.prog (fun _ => True) 119 ⟨q2c_, reply_numbers⟩ := ct_of_ev env_nil qut_
@[reducible] def q65_ : Sh := ⟨[.d (.un), .d (.pr (.int .u8) LAT1)], [], [.un, .pr (.int .u8) LAT1], [.d (.sl (.int .u8))], [], 0, [.sl (.int .u8)]⟩
def qfg_ : Env := (cts [(119, (⟨q2c_, reply_numbers⟩ : Ct))])
def qf5_ : List (Nat × Hint) := []
def q5r_ (v : Unit) (r : Int × Int × List Bool × List Int × Int × Int) : Option (As [.sl (.int .u8)]) :=
  Option.bind (reply_numbers (r.2.2.2.1, [r.1, cvt .u8 (mul .i64 2 (Int.ofNat (List.length r.2.2.2.1)))], ())) fun (y : List Int × Unit) => some (y.1, ())
def reply_wordList_write (x : As [.un, .pr (.int .u8) LAT1]) : Option (As [.sl (.int .u8)]) := q5r_ x.1 x.2.1
theorem qnb_ (J : Orc (As [.sl (.int .u8)])) (x : As [.un, .pr (.int .u8) LAT1]) : rfn Tryz.prog qfg_ 6 18446744073709551616 (Ev.get qf5_) 118 q65_ J x = q5r_ x.1 x.2.1 := by kernel_rfl
theorem qnt_ (x : As [.un, .pr (.int .u8) LAT1]) : evT Tryz.prog qfg_ 6 18446744073709551616 (Ev.get qf5_) 118 q65_ x = reply_wordList_write x := by
  rw [rfn_eq, qnb_]
  rfl
theorem qnf_ : CtOk Tryz.prog (fun _ => True) 118 ⟨q65_, reply_wordList_write⟩ := ct_of_ev (env_cons qaw_ env_nil) qnt_
@[reducible] def q6v_ : Sh := ⟨[.d (.un), .d (.pr (.int .u8) LAT1)], [], [.un, .pr (.int .u8) LAT1], [.d (.bool)], [], 0, [.bool]⟩
def qhf_ : Env := (cts [(110, (⟨q57_, reply_Same⟩ : Ct))])
def qiq_ : List (Nat × Hint) := []
def q6d_ (v : Unit) (r : Int × Int × List Bool × List Int × Int × Int) : Option (As [.bool]) :=
  if eqi (Int.ofNat (List.length r.2.2.1)) 1 = true then Option.bind (reply_Same (r, (r.1, 0, r.2.2.1, [], r.2.2.2.2.1, 0), ())) fun (y : Bool × Unit) => some (y.1, ()) else some (false, ())
def reply_oneBit_right (x : As [.un, .pr (.int .u8) LAT1]) : Option (As [.bool]) := q6d_ x.1 x.2.1
theorem qoj_ (J : Orc (As [.bool])) (x : As [.un, .pr (.int .u8) LAT1]) : rfn Tryz.prog qhf_ 6 18446744073709551616 (Ev.get qiq_) 121 q6v_ J x = q6d_ x.1 x.2.1 := by kernel_rfl
theorem qpz_ (x : As [.un, .pr (.int .u8) LAT1]) : evT Tryz.prog qhf_ 6 18446744073709551616 (Ev.get qiq_) 121 q6v_ x = reply_oneBit_right x := by
  rw [rfn_eq, qoj_]
  rfl
theorem qpj_ : CtOk Tryz.prog (fun _ => True) 121 ⟨q6v_, reply_oneBit_right⟩ := ct_of_ev (env_cons q8q_ env_nil) qpz_
@[reducible] def q2n_ : Sh := ⟨[.d (.un), .d (.pr (.int .u8) LAT1)], [], [.un, .pr (.int .u8) LAT1], [.d (.sl (.int .u8))], [], 0, [.sl (.int .u8)]⟩
def q50_ : Env := (cts [(119, (⟨q2c_, reply_numbers⟩ : Ct))])
def q58_ : List (Nat × Hint) := [(7, ⟨[], [3, 5]⟩)]
def q6l_ (x r r_2 : Int) (r_3 : List Bool) (r_4 : List Int) (r_5 r_6 : Int) : St := { fr := [(3, .pb 0 0), (5, .d (.int .u16) x)], nt := 18, up := [], own := [(0, .box 72 [.d (.int .u8) r, .d (.int .u8) r_2, .d (.sl .bool) r_3, .d (.sl (.int .u16)) r_4, .d (.int .u16) r_5, .d (.int .u16) r_6])], nx := 1, log := [], ln := 0 }
def qa6_ (x r r_2 : Int) (r_3 : List Bool) (r_4 : List Int) (r_5 r_6 : Int) : Option (As [.sl (.int .u8)]) :=
  Option.bind (reply_numbers ([r_5, x], [r], ())) fun (y : List Int × Unit) => some (y.1, ())
def q6e_ (j1 : Int -> Int -> Int -> List Bool -> List Int -> Int -> Int -> Option (As [.sl (.int .u8)])) (v : Unit) (r : Int × Int × List Bool × List Int × Int × Int) : Option (As [.sl (.int .u8)]) :=
  Option.bind (at? r.2.2.1 0) fun (y : Bool) => if y = true then j1 65280 r.1 r.2.1 r.2.2.1 r.2.2.2.1 r.2.2.2.2.1 r.2.2.2.2.2 else j1 0 r.1 r.2.1 r.2.2.1 r.2.2.2.1 r.2.2.2.2.1 r.2.2.2.2.2
def q38_ (x r r_2 : Int) (r_3 : List Bool) (r_4 : List Int) (r_5 r_6 : Int) : Option (As [.sl (.int .u8)]) := qa6_ x r r_2 r_3 r_4 r_5 r_6
def reply_oneBit_write (x : As [.un, .pr (.int .u8) LAT1]) : Option (As [.sl (.int .u8)]) := q6e_ q38_ x.1 x.2.1
theorem qov_ (J : Orc (As [.sl (.int .u8)])) (x r r_2 : Int) (r_3 : List Bool) (r_4 : List Int) (r_5 r_6 : Int) : pfn Tryz.prog q50_ 6 18446744073709551616 (Ev.get q58_) 122 q2n_ J 7 [] (q6l_ x r r_2 r_3 r_4 r_5 r_6) = qa6_ x r r_2 r_3 r_4 r_5 r_6 := by kernel_rfl
theorem qoh_ (J : Orc (As [.sl (.int .u8)])) (x : As [.un, .pr (.int .u8) LAT1]) : rfn Tryz.prog q50_ 6 18446744073709551616 (Ev.get q58_) 122 q2n_ J x = q6e_ (fun x r r_2 r_3 r_4 r_5 r_6 => J 7 [] (q6l_ x r r_2 r_3 r_4 r_5 r_6)) x.1 x.2.1 := by kernel_rfl
theorem qp0_ (x r r_2 : Int) (r_3 : List Bool) (r_4 : List Int) (r_5 r_6 : Int) : jfn Tryz.prog q50_ 6 18446744073709551616 (Ev.get q58_) 122 q2n_ 7 [] (q6l_ x r r_2 r_3 r_4 r_5 r_6) = q38_ x r r_2 r_3 r_4 r_5 r_6 := by
  rw [pfn_eq (by decide)]
  rw [qov_]
  rfl
theorem qq2_ (x : As [.un, .pr (.int .u8) LAT1]) : evT Tryz.prog q50_ 6 18446744073709551616 (Ev.get q58_) 122 q2n_ x = reply_oneBit_write x := by
  have e1 : (fun x r r_2 r_3 r_4 r_5 r_6 => (jfn Tryz.prog q50_ 6 18446744073709551616 (Ev.get q58_) 122 q2n_) 7 [] (q6l_ x r r_2 r_3 r_4 r_5 r_6)) = q38_ := by funext x r r_2 r_3 r_4 r_5 r_6; exact qp0_ x r r_2 r_3 r_4 r_5 r_6
  rw [rfn_eq, qoh_, e1]
  rfl
theorem qps_ : CtOk Tryz.prog (fun _ => True) 122 ⟨q2n_, reply_oneBit_write⟩ := ct_of_ev (env_cons qaw_ env_nil) qq2_
@[reducible] def q6f_ : Sh := ⟨[.d (.un), .d (.pr (.int .u8) LAT1)], [], [.un, .pr (.int .u8) LAT1], [.d (.bool)], [], 0, [.bool]⟩
def qhb_ : Env := (cts [(110, (⟨q57_, reply_Same⟩ : Ct))])
def qhc_ : List (Nat × Hint) := []
def q67_ (v : Unit) (r : Int × Int × List Bool × List Int × Int × Int) : Option (As [.bool]) :=
  if eqi (Int.ofNat (List.length r.2.2.2.1)) 1 = true then Option.bind (reply_Same (r, (r.1, 0, [], r.2.2.2.1, r.2.2.2.2.1, 0), ())) fun (y : Bool × Unit) => some (y.1, ()) else some (false, ())
def reply_oneWord_right (x : As [.un, .pr (.int .u8) LAT1]) : Option (As [.bool]) := q67_ x.1 x.2.1
theorem qo4_ (J : Orc (As [.bool])) (x : As [.un, .pr (.int .u8) LAT1]) : rfn Tryz.prog qhb_ 6 18446744073709551616 (Ev.get qhc_) 124 q6f_ J x = q67_ x.1 x.2.1 := by kernel_rfl
theorem qpq_ (x : As [.un, .pr (.int .u8) LAT1]) : evT Tryz.prog qhb_ 6 18446744073709551616 (Ev.get qhc_) 124 q6f_ x = reply_oneWord_right x := by
  rw [rfn_eq, qo4_]
  rfl
theorem qo9_ : CtOk Tryz.prog (fun _ => True) 124 ⟨q6f_, reply_oneWord_right⟩ := ct_of_ev (env_cons q8q_ env_nil) qpq_
@[reducible] def q4f_ : Sh := ⟨[.d (.un), .d (.pr (.int .u8) LAT1)], [], [.un, .pr (.int .u8) LAT1], [.d (.sl (.int .u8))], [], 0, [.sl (.int .u8)]⟩
def qh5_ : Env := (cts [(119, (⟨q2c_, reply_numbers⟩ : Ct))])
def qh8_ : List (Nat × Hint) := []
def q6a_ (v : Unit) (r : Int × Int × List Bool × List Int × Int × Int) : Option (As [.sl (.int .u8)]) :=
  Option.bind (at? r.2.2.2.1 0) fun (y : Int) => amb (eqAs q4f_.rs) [Option.bind (reply_numbers ([r.2.2.2.2.1, y], [r.1], ())) fun (y : List Int × Unit) => some (y.1, ()), Option.bind (reply_numbers ([r.2.2.2.2.1, y], [r.1], ())) fun (y : List Int × Unit) => some (y.1, ())]
def reply_oneWord_write (x : As [.un, .pr (.int .u8) LAT1]) : Option (As [.sl (.int .u8)]) := q6a_ x.1 x.2.1
theorem qo3_ (J : Orc (As [.sl (.int .u8)])) (x : As [.un, .pr (.int .u8) LAT1]) : rfn Tryz.prog qh5_ 6 18446744073709551616 (Ev.get qh8_) 125 q4f_ J x = q6a_ x.1 x.2.1 := by kernel_rfl
theorem qpl_ (x : As [.un, .pr (.int .u8) LAT1]) : evT Tryz.prog qh5_ 6 18446744073709551616 (Ev.get qh8_) 125 q4f_ x = reply_oneWord_write x := by
  rw [rfn_eq, qo3_]
  rfl
theorem qo0_ : CtOk Tryz.prog (fun _ => True) 125 ⟨q4f_, reply_oneWord_write⟩ := ct_of_ev (env_cons qaw_ env_nil) qpl_
@[reducible] def q8e_ : Sh := ⟨[.d (.wr (.int .u16)), .d (.pr (.int .u8) LAT1)], [], [.wr (.int .u16), .pr (.int .u8) LAT1], [.d (.bool)], [], 0, [.bool]⟩
def qiw_ : Env := (cts [(110, (⟨q57_, reply_Same⟩ : Ct))])
def qiv_ : List (Nat × Hint) := []
def q6z_ (k : Int) (r : Int × Int × List Bool × List Int × Int × Int) : Option (As [.bool]) :=
  if ge r.2.2.2.2.2 1 = true then if le r.2.2.2.2.2 k = true then Option.bind (reply_Same (r, (r.1, 0, [], [], r.2.2.2.2), ())) fun (y : Bool × Unit) => some (y.1, ()) else some (false, ()) else some (false, ())
def reply_count_right (x : As [.wr (.int .u16), .pr (.int .u8) LAT1]) : Option (As [.bool]) := q6z_ x.1 x.2.1
theorem qpx_ (J : Orc (As [.bool])) (x : As [.wr (.int .u16), .pr (.int .u8) LAT1]) : rfn Tryz.prog qiw_ 6 18446744073709551616 (Ev.get qiv_) 127 q8e_ J x = q6z_ x.1 x.2.1 := by kernel_rfl
theorem qrh_ (x : As [.wr (.int .u16), .pr (.int .u8) LAT1]) : evT Tryz.prog qiw_ 6 18446744073709551616 (Ev.get qiv_) 127 q8e_ x = reply_count_right x := by
  rw [rfn_eq, qpx_]
  rfl
theorem qq1_ : CtOk Tryz.prog (fun _ => True) 127 ⟨q8e_, reply_count_right⟩ := ct_of_ev (env_cons q8q_ env_nil) qrh_
@[reducible] def q8f_ : Sh := ⟨[.d (.wr (.int .u16)), .d (.pr (.int .u8) LAT1)], [], [.wr (.int .u16), .pr (.int .u8) LAT1], [.d (.sl (.int .u8))], [], 0, [.sl (.int .u8)]⟩
def qiu_ : Env := (cts [(119, (⟨q2c_, reply_numbers⟩ : Ct))])
def qit_ : List (Nat × Hint) := []
def q6y_ (v : Int) (r : Int × Int × List Bool × List Int × Int × Int) : Option (As [.sl (.int .u8)]) :=
  Option.bind (reply_numbers ([r.2.2.2.2.1, r.2.2.2.2.2], [r.1], ())) fun (y : List Int × Unit) => some (y.1, ())
def reply_count_write (x : As [.wr (.int .u16), .pr (.int .u8) LAT1]) : Option (As [.sl (.int .u8)]) := q6y_ x.1 x.2.1
theorem qpu_ (J : Orc (As [.sl (.int .u8)])) (x : As [.wr (.int .u16), .pr (.int .u8) LAT1]) : rfn Tryz.prog qiu_ 6 18446744073709551616 (Ev.get qit_) 128 q8f_ J x = q6y_ x.1 x.2.1 := by kernel_rfl
theorem qrd_ (x : As [.wr (.int .u16), .pr (.int .u8) LAT1]) : evT Tryz.prog qiu_ 6 18446744073709551616 (Ev.get qit_) 128 q8f_ x = reply_count_write x := by
  rw [rfn_eq, qpu_]
  rfl
theorem qq0_ : CtOk Tryz.prog (fun _ => True) 128 ⟨q8f_, reply_count_write⟩ := ct_of_ev (env_cons qaw_ env_nil) qrd_
@[reducible] def qgd_ : Sh := ⟨[.d (.pr (.int .u8) LAT1)], [], [.pr (.int .u8) LAT1], [.d (.sl (.int .u8)), .d (.int .i64)], [], 0, [.sl (.int .u8), .int .i64]⟩
def qqq_ : Env := (cts [(108, (⟨q5p_, reply_exception_right⟩ : Ct)), (109, (⟨q5q_, reply_exception_write⟩ : Ct)), (114, (⟨q6k_, reply_bitList_right⟩ : Ct)), (115, (⟨q6n_, reply_bitList_write⟩ : Ct)), (117, (⟨q63_, reply_wordList_right⟩ : Ct)), (118, (⟨q65_, reply_wordList_write⟩ : Ct)), (121, (⟨q6v_, reply_oneBit_right⟩ : Ct)), (122, (⟨q2n_, reply_oneBit_write⟩ : Ct)), (124, (⟨q6f_, reply_oneWord_right⟩ : Ct)), (125, (⟨q4f_, reply_oneWord_write⟩ : Ct)), (127, (⟨q8e_, reply_count_right⟩ : Ct)), (128, (⟨q8f_, reply_count_write⟩ : Ct))])
def qr6_ : List (Nat × Hint) := []
def qdx_ (r : Int × Int × List Bool × List Int × Int × Int) : Option (As [.sl (.int .u8), .int .i64]) :=
  if nei r.2.1 0 = true then Option.bind (reply_exception_right ((), r, ())) fun (y : Bool × Unit) => if y.1 = true then Option.bind (reply_exception_write ((), r, ())) fun (y : List Int × Unit) => some (y.1, 0, ()) else some ([], 13, ()) else if eqi r.1 1 = true then Option.bind (reply_bitList_right ((), r, ())) fun (y : Bool × Unit) => if y.1 = true then Option.bind (reply_bitList_write ((), r, ())) fun (y : List Int × Unit) => some (y.1, 0, ()) else some ([], 13, ()) else if eqi r.1 2 = true then Option.bind (reply_bitList_right ((), r, ())) fun (y : Bool × Unit) => if y.1 = true then Option.bind (reply_bitList_write ((), r, ())) fun (y : List Int × Unit) => some (y.1, 0, ()) else some ([], 13, ()) else if eqi r.1 3 = true then Option.bind (reply_wordList_right ((), r, ())) fun (y : Bool × Unit) => if y.1 = true then Option.bind (reply_wordList_write ((), r, ())) fun (y : List Int × Unit) => some (y.1, 0, ()) else some ([], 13, ()) else if eqi r.1 4 = true then Option.bind (reply_wordList_right ((), r, ())) fun (y : Bool × Unit) => if y.1 = true then Option.bind (reply_wordList_write ((), r, ())) fun (y : List Int × Unit) => some (y.1, 0, ()) else some ([], 13, ()) else if eqi r.1 23 = true then Option.bind (reply_wordList_right ((), r, ())) fun (y : Bool × Unit) => if y.1 = true then Option.bind (reply_wordList_write ((), r, ())) fun (y : List Int × Unit) => some (y.1, 0, ()) else some ([], 13, ()) else if eqi r.1 5 = true then Option.bind (reply_oneBit_right ((), r, ())) fun (y : Bool × Unit) => if y.1 = true then Option.bind (reply_oneBit_write ((), r, ())) fun (y : List Int × Unit) => some (y.1, 0, ()) else some ([], 13, ()) else if eqi r.1 6 = true then Option.bind (reply_oneWord_right ((), r, ())) fun (y : Bool × Unit) => if y.1 = true then Option.bind (reply_oneWord_write ((), r, ())) fun (y : List Int × Unit) => some (y.1, 0, ()) else some ([], 13, ()) else if eqi r.1 15 = true then Option.bind (reply_count_right (1968, r, ())) fun (y : Bool × Unit) => if y.1 = true then Option.bind (reply_count_write (1968, r, ())) fun (y : List Int × Unit) => some (y.1, 0, ()) else some ([], 13, ()) else if eqi r.1 16 = true then Option.bind (reply_count_right (123, r, ())) fun (y : Bool × Unit) => if y.1 = true then Option.bind (reply_count_write (123, r, ())) fun (y : List Int × Unit) => some (y.1, 0, ()) else some ([], 13, ()) else some ([], 13, ())
def reply_Bytes (x : As [.pr (.int .u8) LAT1]) : Option (As [.sl (.int .u8), .int .i64]) := qdx_ x.1
theorem qwo_ (J : Orc (As [.sl (.int .u8), .int .i64])) (x : As [.pr (.int .u8) LAT1]) : rfn Tryz.prog qqq_ 6 18446744073709551616 (Ev.get qr6_) 28 qgd_ J x = qdx_ x.1 := by kernel_rfl
theorem qz7_ (x : As [.pr (.int .u8) LAT1]) : evT Tryz.prog qqq_ 6 18446744073709551616 (Ev.get qr6_) 28 qgd_ x = reply_Bytes x := by
  rw [rfn_eq, qwo_]
  rfl
theorem qx0_ : CtOk Tryz.prog (fun _ => True) 28 ⟨qgd_, reply_Bytes⟩ := ct_of_ev (env_cons qms_ (env_cons qm9_ (env_cons qnw_ (env_cons qod_ (env_cons qn9_ (env_cons qnf_ (env_cons qpj_ (env_cons qps_ (env_cons qo9_ (env_cons qo0_ (env_cons qq1_ (env_cons qq0_ env_nil)))))))))))) qz7_
@[reducible] def q53_ : Sh := ⟨[.d (.sl .bool)], [], [.sl .bool], [.d (.sl .bool)], [], 0, [.sl .bool]⟩
def qi2_ : Env := (cts [])
def qil_ : List (Nat × Hint) := []
def q6p_ (s : List Bool) : Option (As [.sl .bool]) :=
  if eqi (Int.ofNat (List.length s)) 0 = true then amb (eqAs q53_.rs) [some ([], ()), need (small (0 + List.length s)) (some (s, ()))] else need (small (0 + List.length s)) (some (s, ()))
def slices_Clone_Gbool (x : As [.sl .bool]) : Option (As [.sl .bool]) := q6p_ x.1
theorem qom_ (J : Orc (As [.sl .bool])) (x : As [.sl .bool]) : rfn Tryz.prog qi2_ 6 18446744073709551616 (Ev.get qil_) 39 q53_ J x = q6p_ x.1 := by kernel_rfl
theorem qpv_ (x : As [.sl .bool]) : evT Tryz.prog qi2_ 6 18446744073709551616 (Ev.get qil_) 39 q53_ x = slices_Clone_Gbool x := by
  rw [rfn_eq, qom_]
  rfl
theorem qok_ : CtOk Tryz.prog (fun _ => True) 39 ⟨q53_, slices_Clone_Gbool⟩ := ct_of_ev env_nil qpv_
@[reducible] def q3z_ : Sh := ⟨[.d (.sl (.int .u16))], [], [.sl (.int .u16)], [.d (.sl (.int .u16))], [], 0, [.sl (.int .u16)]⟩
def qf7_ : Env := (cts [])
def qfc_ : List (Nat × Hint) := []
def q5u_ (s : List Int) : Option (As [.sl (.int .u16)]) :=
  if eqi (Int.ofNat (List.length s)) 0 = true then amb (eqAs q3z_.rs) [some ([], ()), need (small (0 + List.length s)) (some (s, ()))] else need (small (0 + List.length s)) (some (s, ()))
def slices_Clone_Guint16 (x : As [.sl (.int .u16)]) : Option (As [.sl (.int .u16)]) := q5u_ x.1
theorem qn8_ (J : Orc (As [.sl (.int .u16)])) (x : As [.sl (.int .u16)]) : rfn Tryz.prog qf7_ 6 18446744073709551616 (Ev.get qfc_) 40 q3z_ J x = q5u_ x.1 := by kernel_rfl
theorem qo6_ (x : As [.sl (.int .u16)]) : evT Tryz.prog qf7_ 6 18446744073709551616 (Ev.get qfc_) 40 q3z_ x = slices_Clone_Guint16 x := by
  rw [rfn_eq, qn8_]
  rfl
theorem qn4_ : CtOk Tryz.prog (fun _ => True) 40 ⟨q3z_, slices_Clone_Guint16⟩ := ct_of_ev env_nil qo6_
@[reducible] def qff_ : Sh := ⟨[.d (.pr (.sl .bool) LAT4)], [], [.pr (.sl .bool) LAT4], [.d (.pr (.sl .bool) LAT4)], [], 0, [.pr (.sl .bool) LAT4]⟩
def qst_ : Env := (cts [(39, (⟨q53_, slices_Clone_Gbool⟩ : Ct)), (40, (⟨q3z_, slices_Clone_Guint16⟩ : Ct))])
def qsu_ : List (Nat × Hint) := []
def qhq_ (m : List Bool × List Bool × List Int × List Int) : Option (As [.pr (.sl .bool) LAT4]) :=
  Option.bind (slices_Clone_Gbool (m.1, ())) fun (y : List Bool × Unit) => Option.bind (slices_Clone_Gbool (m.2.1, ())) fun (y_1 : List Bool × Unit) => Option.bind (slices_Clone_Guint16 (m.2.2.1, ())) fun (y_2 : List Int × Unit) => Option.bind (slices_Clone_Guint16 (m.2.2.2, ())) fun (y_3 : List Int × Unit) => some ((y.1, y_1.1, y_2.1, y_3.1), ())
def model_own (x : As [.pr (.sl .bool) LAT4]) : Option (As [.pr (.sl .bool) LAT4]) := qhq_ x.1
theorem q11v_ (J : Orc (As [.pr (.sl .bool) LAT4])) (x : As [.pr (.sl .bool) LAT4]) : rfn Tryz.prog qst_ 6 18446744073709551616 (Ev.get qsu_) 30 qff_ J x = qhq_ x.1 := by kernel_rfl
theorem q13y_ (x : As [.pr (.sl .bool) LAT4]) : evT Tryz.prog qst_ 6 18446744073709551616 (Ev.get qsu_) 30 qff_ x = model_own x := by
  rw [rfn_eq, q11v_]
  rfl
theorem qse_ : CtOk Tryz.prog (fun _ => True) 30 ⟨qff_, model_own⟩ := ct_of_ev (env_cons qok_ (env_cons qn4_ env_nil)) q13y_
@[reducible] def q9v_ : Sh := ⟨[.d (.pr LAT0 (.pr LAT0 (.pr LAT0 LAT0))), .d (.pr (.sl .bool) LAT4)], [], [.pr LAT0 (.pr LAT0 (.pr LAT0 LAT0)), .pr (.sl .bool) LAT4], [.d (.pr (.pr LAT0 (.sl .bool)) (.pr (.pr LAT0 (.sl .bool)) (.pr (.pr LAT0 (.sl (.int .u16))) (.pr LAT0 (.sl (.int .u16))))))], [], 0, [.pr (.pr LAT0 (.sl .bool)) (.pr (.pr LAT0 (.sl .bool)) (.pr (.pr LAT0 (.sl (.int .u16))) (.pr LAT0 (.sl (.int .u16)))))]⟩
def qrt_ : Env := (cts [])
def qs6_ : List (Nat × Hint) := []
def qqc_ (s : List LAT3 × List LAT3 × List LAT3 × List LAT3) (m : List Bool × List Bool × List Int × List Int) : Option (As [.pr (.pr LAT0 (.sl .bool)) (.pr (.pr LAT0 (.sl .bool)) (.pr (.pr LAT0 (.sl (.int .u16))) (.pr LAT0 (.sl (.int .u16)))))]) :=
  some (((s.1, m.1), (s.2.1, m.2.1), (s.2.2.1, m.2.2.1), s.2.2.2, m.2.2.2), ())
def model_open (x : As [.pr LAT0 (.pr LAT0 (.pr LAT0 LAT0)), .pr (.sl .bool) LAT4]) : Option (As [.pr (.pr LAT0 (.sl .bool)) (.pr (.pr LAT0 (.sl .bool)) (.pr (.pr LAT0 (.sl (.int .u16))) (.pr LAT0 (.sl (.int .u16)))))]) := qqc_ x.1 x.2.1
theorem q10j_ (J : Orc (As [.pr (.pr LAT0 (.sl .bool)) (.pr (.pr LAT0 (.sl .bool)) (.pr (.pr LAT0 (.sl (.int .u16))) (.pr LAT0 (.sl (.int .u16)))))])) (x : As [.pr LAT0 (.pr LAT0 (.pr LAT0 LAT0)), .pr (.sl .bool) LAT4]) : rfn Tryz.prog qrt_ 6 18446744073709551616 (Ev.get qs6_) 43 q9v_ J x = qqc_ x.1 x.2.1 := by kernel_rfl
theorem q13d_ (x : As [.pr LAT0 (.pr LAT0 (.pr LAT0 LAT0)), .pr (.sl .bool) LAT4]) : evT Tryz.prog qrt_ 6 18446744073709551616 (Ev.get qs6_) 43 q9v_ x = model_open x := by
  rw [rfn_eq, q10j_]
  rfl
theorem qlg_ : CtOk Tryz.prog (fun _ => True) 43 ⟨q9v_, model_open⟩ := ct_of_ev env_nil q13d_
@[reducible] def qd7_ : Sh := ⟨[.d (.int .u8)], [], [.int .u8], [.d (.pr (.int .i64) (.int .i64))], [], 0, [.pr (.int .i64) (.int .i64)]⟩
def qs4_ : Env := (cts [])
def qsb_ : List (Nat × Hint) := []
def qgk_ (f : Int) : Option (As [.pr (.int .i64) (.int .i64)]) :=
  some (Ev.gdV (.pr (.int .i64) (.int .i64)) (if eqi 1 f = true then some (1, 0) else if eqi 2 f = true then some (2, 0) else if eqi 3 f = true then some (3, 0) else if eqi 4 f = true then some (4, 0) else if eqi 5 f = true then some (0, 1) else if eqi 6 f = true then some (0, 3) else if eqi 15 f = true then some (0, 1) else if eqi 16 f = true then some (0, 3) else if eqi 23 f = true then some (3, 3) else Option.none) (0, 0), ())
def model_uses (x : As [.int .u8]) : Option (As [.pr (.int .i64) (.int .i64)]) := qgk_ x.1
theorem q10s_ (J : Orc (As [.pr (.int .i64) (.int .i64)])) (x : As [.int .u8]) : rfn Tryz.prog qs4_ 6 18446744073709551616 (Ev.get qsb_) 44 qd7_ J x = qgk_ x.1 := by kernel_rfl
theorem q12e_ (x : As [.int .u8]) : evT Tryz.prog qs4_ 6 18446744073709551616 (Ev.get qsb_) 44 qd7_ x = model_uses x := by
  rw [rfn_eq, q10s_]
  rfl
theorem qqx_ : CtOk Tryz.prog (fun _ => True) 44 ⟨qd7_, model_uses⟩ := ct_of_ev env_nil q12e_
@[reducible] def q9x_ : Sh := ⟨[.d (.pr (.int .u8) LAT2)], [], [.pr (.int .u8) LAT2], [.d (.int .i64), .d (.int .i64)], [], 0, [.int .i64, .int .i64]⟩
def qp5_ : Env := (cts [])
def qp1_ : List (Nat × Hint) := []
def qcd_ (a : Int × Int × Int × Int × List Int × List Bool) : Option (As [.int .i64, .int .i64]) :=
  if eqi a.1 23 = true then some (cvt .i64 a.2.2.2.1, add .i64 (Int.ofNat (List.length a.2.2.2.2.2)) (Int.ofNat (List.length a.2.2.2.2.1)), ()) else some (cvt .i64 a.2.1, add .i64 (Int.ofNat (List.length a.2.2.2.2.2)) (Int.ofNat (List.length a.2.2.2.2.1)), ())
def model_target (x : As [.pr (.int .u8) LAT2]) : Option (As [.int .i64, .int .i64]) := qcd_ x.1
theorem quf_ (J : Orc (As [.int .i64, .int .i64])) (x : As [.pr (.int .u8) LAT2]) : rfn Tryz.prog qp5_ 6 18446744073709551616 (Ev.get qp1_) 45 q9x_ J x = qcd_ x.1 := by kernel_rfl
theorem qya_ (x : As [.pr (.int .u8) LAT2]) : evT Tryz.prog qp5_ 6 18446744073709551616 (Ev.get qp1_) 45 q9x_ x = model_target x := by
  rw [rfn_eq, quf_]
  rfl
theorem qnn_ : CtOk Tryz.prog (fun _ => True) 45 ⟨q9x_, model_target⟩ := ct_of_ev env_nil qya_
@[reducible] def qp_ : Sh := ⟨[.d (.pr (.int .i64) LAT7)], [], [.pr (.int .i64) LAT7], [.d (.bool)], [], 0, [.bool]⟩
def q91_ : Env := (cts [])
def q9f_ : List (Nat × Hint) := []
def q8g_ (x : Int × Int × Bool × Bool × Bool) : Option (As [.bool]) :=
  some (x.2.2.1, ())
def model_table_bool_readable_z1 (x : As [.pr (.int .i64) LAT7]) : Option (As [.bool]) := q8g_ x.1
theorem qhd_ (J : Orc (As [.bool])) (x : As [.pr (.int .i64) LAT7]) : rfn Tryz.prog q91_ 6 18446744073709551616 (Ev.get q9f_) 100 qp_ J x = q8g_ x.1 := by kernel_rfl
theorem qhp_ (x : As [.pr (.int .i64) LAT7]) : evT Tryz.prog q91_ 6 18446744073709551616 (Ev.get q9f_) 100 qp_ x = model_table_bool_readable_z1 x := by
  rw [rfn_eq, qhd_]
  rfl
theorem q1u_ : CtOk Tryz.prog (fun _ => True) 100 ⟨qp_, model_table_bool_readable_z1⟩ := ct_of_ev env_nil qhp_
@[reducible] def qo_ : Sh := ⟨[.d (.pr (.int .i64) LAT7), .pb 0 0, .pb 1 0], [.box 3 [.d (.int .i64)], .box 3 [.d (.int .i64)]], [.pr (.int .i64) LAT7, .int .i64, .int .i64], [.d (.bool)], [(0, .box 3 [.d (.int .i64)]), (1, .box 3 [.d (.int .i64)])], 0, [.bool, .int .i64, .int .i64]⟩
def q95_ : Env := (cts [])
def q92_ : List (Nat × Hint) := []
def q2x_ (x : Int × Int × Bool × Bool × Bool) (v v_2 : Int) : Option (As [.bool, .int .i64, .int .i64]) :=
  if x.2.2.2.1 = true then if (!x.2.2.2.2) = true then some (true, v, v_2, ()) else if eqi x.1 v = true then some (eqi x.2.1 v_2, v, v_2, ()) else some (false, v, v_2, ()) else some (false, v, v_2, ())
def model_table_bool_writable_z1 (x : As [.pr (.int .i64) LAT7, .int .i64, .int .i64]) : Option (As [.bool, .int .i64, .int .i64]) := q2x_ x.1 x.2.1 x.2.2.1
theorem qhe_ (J : Orc (As [.bool, .int .i64, .int .i64])) (x : As [.pr (.int .i64) LAT7, .int .i64, .int .i64]) : rfn Tryz.prog q95_ 6 18446744073709551616 (Ev.get q92_) 101 qo_ J x = q2x_ x.1 x.2.1 x.2.2.1 := by kernel_rfl
theorem qij_ (x : As [.pr (.int .i64) LAT7, .int .i64, .int .i64]) : evT Tryz.prog q95_ 6 18446744073709551616 (Ev.get q92_) 101 qo_ x = model_table_bool_writable_z1 x := by
  rw [rfn_eq, qhe_]
  rfl
theorem q1t_ : CtOk Tryz.prog (fun _ => True) 101 ⟨qo_, model_table_bool_writable_z1⟩ := ct_of_ev env_nil qij_
end Go.Proofs.Lx
end
