/- Proved in the last of these 12 parts (this is part 7): what registers show, what is replied, and which lines a memory shows, is exactly as the document defines. Conditions: those of the given statement, and no others. -/
import Derived.Test.YtaojmefkpcdpnaaGreatParte
import Derived.Test.YtaojmefkpcdpnaaGreatPartf
import Derived.Test.YtaojmefkpcdpnaaGreatProg
set_option linter.unusedVariables false
set_option linter.unusedSimpArgs false
set_option linter.unusedSectionVars false
section
open Go Go.Proofs Ev Sx
set_option maxRecDepth 100000
namespace Go.Proofs.Lx
abbrev VzA2q0 : Type := Int × Int × Bool × Bool × Bool
@[reducible] def q1i_ : Sh := ⟨[.d (.pr (.int .i64) LAT7), .d (.int .i64), .d (.int .i64)], [], [.pr (.int .i64) LAT7, .int .i64, .int .i64], [.d (.int .i64), .d (.int .i64)], [], 0, [.int .i64, .int .i64]⟩
def q3e_ : Env := (cts [])
def q3c_ : List (Nat × Hint) := [(15, ⟨[], [1, 3, 8]⟩), (30, ⟨[], [1, 2, 3, 8, 32]⟩), (6, ⟨[], [1, 2, 3, 17, 25, 26, 27, 28, 29, 30, 31]⟩)]
def qfp_ (at' endV : Int) (t17 : Bool) (x : VzA2q0) : St := { fr := [(1, .d (.int .i64) at'), (2, .d (.int .i64) endV), (3, .pb 0 0), (17, .d .bool t17)], nt := 45, up := [], own := [(0, .box 49 [.d (.int .i64) x.1, .d (.int .i64) x.2.1, .d .bool x.2.2.1, .d .bool x.2.2.2.1, .d .bool x.2.2.2.2])], nx := 1, log := [], ln := 0 }
def qfr_ (at' endV to' : Int) (t32 : Bool) (x : VzA2q0) : St := { fr := [(1, .d (.int .i64) at'), (2, .d (.int .i64) endV), (3, .pb 0 0), (8, .d (.int .i64) to'), (32, .d .bool t32)], nt := 45, up := [], own := [(0, .box 49 [.d (.int .i64) x.1, .d (.int .i64) x.2.1, .d .bool x.2.2.1, .d .bool x.2.2.2.1, .d .bool x.2.2.2.2])], nx := 1, log := [], ln := 0 }
def qfs_ (at' to' : Int) (x : VzA2q0) : St := { fr := [(1, .d (.int .i64) at'), (3, .pb 0 0), (8, .d (.int .i64) to')], nt := 45, up := [], own := [(0, .box 49 [.d (.int .i64) x.1, .d (.int .i64) x.2.1, .d .bool x.2.2.1, .d .bool x.2.2.2.1, .d .bool x.2.2.2.2])], nx := 1, log := [], ln := 0 }
def ql9_ (j2 : Int -> Int -> Int -> Bool -> VzA2q0 -> Option (As [.int .i64, .int .i64])) (at' endV : Int) (t17 : Bool) (x : VzA2q0) : Option (As [.int .i64, .int .i64]) :=
  if t17 = true then some (at', at', ()) else if lt x.1 0 = true then j2 at' endV endV true x else j2 at' endV endV (lt x.2.1 (Sx.sub .i64 endV x.1)) x
def qg9_ (j3 : Int -> Int -> VzA2q0 -> Option (As [.int .i64, .int .i64])) (at' endV to' : Int) (t32 : Bool) (x : VzA2q0) : Option (As [.int .i64, .int .i64]) :=
  if t32 = true then j3 at' (if lt (add .i64 x.1 x.2.1) endV = true then add .i64 x.1 x.2.1 else endV) x else j3 at' to' x
def qlc_ (at' to' : Int) (x : VzA2q0) : Option (As [.int .i64, .int .i64]) :=
  some (if gt x.1 at' = true then x.1 else at', to', ())
def qg7_ (j1 : Int -> Int -> Bool -> VzA2q0 -> Option (As [.int .i64, .int .i64])) (x : VzA2q0) (at' endV : Int) : Option (As [.int .i64, .int .i64]) :=
  if lt x.2.1 1 = true then j1 at' endV true x else j1 at' endV (ge x.1 endV) x
def qbn_ (at' to' : Int) (x : VzA2q0) : Option (As [.int .i64, .int .i64]) := qlc_ at' to' x
def q8s_ (at' endV to' : Int) (t32 : Bool) (x : VzA2q0) : Option (As [.int .i64, .int .i64]) := qg9_ (qbn_) at' endV to' t32 x
def q8t_ (at' endV : Int) (t17 : Bool) (x : VzA2q0) : Option (As [.int .i64, .int .i64]) := ql9_ (q8s_) at' endV t17 x
def model_meet (x : As [.pr (.int .i64) LAT7, .int .i64, .int .i64]) : Option (As [.int .i64, .int .i64]) := qg7_ q8t_ x.1 x.2.1 x.2.2.1
theorem qz0_ (J : Orc (As [.int .i64, .int .i64])) (at' to' : Int) (x : VzA2q0) : pfn Tryz.prog q3e_ 6 18446744073709551616 (Ev.get q3c_) 102 q1i_ J 15 [] (qfs_ at' to' x) = qlc_ at' to' x := by kernel_rfl
theorem q10w_ (J : Orc (As [.int .i64, .int .i64])) (at' endV to' : Int) (t32 : Bool) (x : VzA2q0) : pfn Tryz.prog q3e_ 6 18446744073709551616 (Ev.get q3c_) 102 q1i_ J 30 [] (qfr_ at' endV to' t32 x) = qg9_ (fun at' to' x => J 15 [] (qfs_ at' to' x)) at' endV to' t32 x := by kernel_rfl
theorem q118_ (J : Orc (As [.int .i64, .int .i64])) (at' endV : Int) (t17 : Bool) (x : VzA2q0) : pfn Tryz.prog q3e_ 6 18446744073709551616 (Ev.get q3c_) 102 q1i_ J 6 [] (qfp_ at' endV t17 x) = ql9_ (fun at' endV to' t32 x => J 30 [] (qfr_ at' endV to' t32 x)) at' endV t17 x := by kernel_rfl
theorem qzl_ (J : Orc (As [.int .i64, .int .i64])) (x : As [.pr (.int .i64) LAT7, .int .i64, .int .i64]) : rfn Tryz.prog q3e_ 6 18446744073709551616 (Ev.get q3c_) 102 q1i_ J x = qg7_ (fun at' endV t17 x => J 6 [] (qfp_ at' endV t17 x)) x.1 x.2.1 x.2.2.1 := by kernel_rfl
theorem qyx_ (at' to' : Int) (x : VzA2q0) : jfn Tryz.prog q3e_ 6 18446744073709551616 (Ev.get q3c_) 102 q1i_ 15 [] (qfs_ at' to' x) = qbn_ at' to' x := by
  rw [pfn_eq (by decide)]
  rw [qz0_]
  rfl
theorem q10g_ (at' endV to' : Int) (t32 : Bool) (x : VzA2q0) : jfn Tryz.prog q3e_ 6 18446744073709551616 (Ev.get q3c_) 102 q1i_ 30 [] (qfr_ at' endV to' t32 x) = q8s_ at' endV to' t32 x := by
  rw [pfn_eq (by decide)]
  have e3 : (fun at' to' x => (jfn Tryz.prog q3e_ 6 18446744073709551616 (Ev.get q3c_) 102 q1i_) 15 [] (qfs_ at' to' x)) = qbn_ := by funext at' to' x; exact qyx_ at' to' x
  rw [q10w_, e3]
  rfl
theorem qzt_ (at' endV : Int) (t17 : Bool) (x : VzA2q0) : jfn Tryz.prog q3e_ 6 18446744073709551616 (Ev.get q3c_) 102 q1i_ 6 [] (qfp_ at' endV t17 x) = q8t_ at' endV t17 x := by
  rw [pfn_eq (by decide)]
  have e2 : (fun at' endV to' t32 x => (jfn Tryz.prog q3e_ 6 18446744073709551616 (Ev.get q3c_) 102 q1i_) 30 [] (qfr_ at' endV to' t32 x)) = q8s_ := by funext at' endV to' t32 x; exact q10g_ at' endV to' t32 x
  rw [q118_, e2]
  rfl
theorem q11u_ (x : As [.pr (.int .i64) LAT7, .int .i64, .int .i64]) : evT Tryz.prog q3e_ 6 18446744073709551616 (Ev.get q3c_) 102 q1i_ x = model_meet x := by
  have e1 : (fun at' endV t17 x => (jfn Tryz.prog q3e_ 6 18446744073709551616 (Ev.get q3c_) 102 q1i_) 6 [] (qfp_ at' endV t17 x)) = q8t_ := by funext at' endV t17 x; exact qzt_ at' endV t17 x
  rw [rfn_eq, qzl_, e1]
  rfl
theorem qgo_ : CtOk Tryz.prog (fun _ => True) 102 ⟨q1i_, model_meet⟩ := ct_of_ev env_nil q11u_
@[reducible] def ql_ : Sh := ⟨[.d (.pr (.int .i64) LAT7)], [], [.pr (.int .i64) LAT7], [.d (.bool)], [], 0, [.bool]⟩
def q85_ : Env := (cts [])
def q81_ : List (Nat × Hint) := []
def q73_ (x : VzA2q0) : Option (As [.bool]) :=
  some (x.2.2.1, ())
def model_table_uint16_readable_z1 (x : As [.pr (.int .i64) LAT7]) : Option (As [.bool]) := q73_ x.1
theorem qf9_ (J : Orc (As [.bool])) (x : As [.pr (.int .i64) LAT7]) : rfn Tryz.prog q85_ 6 18446744073709551616 (Ev.get q81_) 105 ql_ J x = q73_ x.1 := by kernel_rfl
theorem qgv_ (x : As [.pr (.int .i64) LAT7]) : evT Tryz.prog q85_ 6 18446744073709551616 (Ev.get q81_) 105 ql_ x = model_table_uint16_readable_z1 x := by
  rw [rfn_eq, qf9_]
  rfl
theorem q1k_ : CtOk Tryz.prog (fun _ => True) 105 ⟨ql_, model_table_uint16_readable_z1⟩ := ct_of_ev env_nil qgv_
@[reducible] def qk_ : Sh := ⟨[.d (.pr (.int .i64) LAT7), .pb 0 0, .pb 1 0], [.box 3 [.d (.int .i64)], .box 3 [.d (.int .i64)]], [.pr (.int .i64) LAT7, .int .i64, .int .i64], [.d (.bool)], [(0, .box 3 [.d (.int .i64)]), (1, .box 3 [.d (.int .i64)])], 0, [.bool, .int .i64, .int .i64]⟩
def q88_ : Env := (cts [])
def q86_ : List (Nat × Hint) := []
def q29_ (x : VzA2q0) (v v_2 : Int) : Option (As [.bool, .int .i64, .int .i64]) :=
  if x.2.2.2.1 = true then if (!x.2.2.2.2) = true then some (true, v, v_2, ()) else if eqi x.1 v = true then some (eqi x.2.1 v_2, v, v_2, ()) else some (false, v, v_2, ()) else some (false, v, v_2, ())
def model_table_uint16_writable_z1 (x : As [.pr (.int .i64) LAT7, .int .i64, .int .i64]) : Option (As [.bool, .int .i64, .int .i64]) := q29_ x.1 x.2.1 x.2.2.1
theorem qfd_ (J : Orc (As [.bool, .int .i64, .int .i64])) (x : As [.pr (.int .i64) LAT7, .int .i64, .int .i64]) : rfn Tryz.prog q88_ 6 18446744073709551616 (Ev.get q86_) 106 qk_ J x = q29_ x.1 x.2.1 x.2.2.1 := by kernel_rfl
theorem qgx_ (x : As [.pr (.int .i64) LAT7, .int .i64, .int .i64]) : evT Tryz.prog q88_ 6 18446744073709551616 (Ev.get q86_) 106 qk_ x = model_table_uint16_writable_z1 x := by
  rw [rfn_eq, qfd_]
  rfl
theorem q1j_ : CtOk Tryz.prog (fun _ => True) 106 ⟨qk_, model_table_uint16_writable_z1⟩ := ct_of_ev env_nil qgx_
@[reducible] def qc_ : Sh := ⟨[.d LAT0, .d (.int .i64), .d (.int .i64), .fn (.func 100) [] []], [], [.sl (.pr (.int .i64) LAT7), .int .i64, .int .i64], [.d (.bool)], [], 0, [.bool]⟩
def q16_ : Env := (cts [(100, (⟨qp_, model_table_bool_readable_z1⟩ : Ct)), (101, (⟨qo_, model_table_bool_writable_z1⟩ : Ct)), (102, (⟨q1i_, model_meet⟩ : Ct)), (105, (⟨ql_, model_table_uint16_readable_z1⟩ : Ct)), (106, (⟨qk_, model_table_uint16_writable_z1⟩ : Ct))])
def q17_ : List (Nat × Hint) := [(15, ⟨[], [10]⟩), (122, ⟨[], [1, 2, 3, 9, 10, 19, 20, 21]⟩), (125342, ⟨[], [1, 2, 3, 9, 10, 12, 14, 15, 19, 20, 21]⟩), (501369, ⟨[], [1, 2, 3, 9, 10, 12, 14, 15, 19, 20, 21]⟩)]
def q1h_ (at' many left : Int) (t19 : List LAT3) (t20 t21 : Int) (met : List Bool) : St := { fr := [(1, .d (.int .i64) at'), (2, .d (.int .i64) many), (3, .fn (.func 100) [] []), (9, .row 0), (10, .d (.int .i64) left), (19, .d LAT0 t19), (20, .d (.int .i64) t20), (21, .d (.int .i64) t21)], nt := 62, up := [], own := [(0, .row .bool 4 met)], nx := 1, log := [], ln := 0 }
def qay_ (left : Int) : St := { fr := [(10, .d (.int .i64) left)], nt := 62, up := [], own := [], nx := 0, log := [], ln := 0 }
def q2p_ (at' many left to' i : Int) (t19 : List LAT3) (t20 t21 : Int) (met : List Bool) (x : VzA2q0) : St := { fr := [(1, .d (.int .i64) at'), (2, .d (.int .i64) many), (3, .fn (.func 100) [] []), (9, .row 0), (10, .d (.int .i64) left), (12, .pb 1 0), (14, .d (.int .i64) to'), (15, .d (.int .i64) i), (19, .d LAT0 t19), (20, .d (.int .i64) t20), (21, .d (.int .i64) t21)], nt := 62, up := [], own := [(0, .row .bool 4 met), (1, .box 49 [.d (.int .i64) x.1, .d (.int .i64) x.2.1, .d .bool x.2.2.1, .d .bool x.2.2.2.1, .d .bool x.2.2.2.2])], nx := 2, log := [], ln := 0 }
def qap_ (at' many left to' i : Int) (t19 : List LAT3) (t20 t21 : Int) (met : List Bool) (x : VzA2q0) : St := { fr := [(1, .d (.int .i64) at'), (2, .d (.int .i64) many), (3, .fn (.func 100) [] []), (9, .row 0), (10, .d (.int .i64) left), (12, .pb 1 0), (14, .d (.int .i64) to'), (15, .d (.int .i64) i), (19, .d LAT0 t19), (20, .d (.int .i64) t20), (21, .d (.int .i64) t21)], nt := 62, up := [], own := [(0, .row .bool 4 met), (1, .box 49 [.d (.int .i64) x.1, .d (.int .i64) x.2.1, .d .bool x.2.2.1, .d .bool x.2.2.2.1, .d .bool x.2.2.2.2])], nx := 2, log := [], ln := 0 }
def q80_ (j2 : Int -> Option (As [.bool])) (j3 : Int -> Int -> Int -> Int -> Int -> List LAT3 -> Int -> Int -> List Bool -> VzA2q0 -> Option (As [.bool])) (self1 : Int -> Int -> Int -> List LAT3 -> Int -> Int -> List Bool -> Option (As [.bool])) (at' many left : Int) (t19 : List LAT3) (t20 t21 : Int) (met : List Bool) : Option (As [.bool]) :=
  if lt t21 t20 = true then Option.bind (at? t19 t21) fun (y : VzA2q0) => if eqi left 0 = true then j2 left else Option.bind (model_meet (y, at', add .i64 at' many, ())) fun (y_1 : Int × Int × Unit) => j3 at' many left y_1.2.1 y_1.1 t19 t20 t21 met y else j2 left
def qmb_ (left : Int) : Option (As [.bool]) :=
  some (eqi left 0, ())
def q8d_ (j4 : Int -> Int -> Int -> Int -> Int -> List LAT3 -> Int -> Int -> List Bool -> VzA2q0 -> Option (As [.bool])) (self1 : Int -> Int -> Int -> List LAT3 -> Int -> Int -> List Bool -> Option (As [.bool])) (self3 : Int -> Int -> Int -> Int -> Int -> List LAT3 -> Int -> Int -> List Bool -> VzA2q0 -> Option (As [.bool])) (at' many left to' i : Int) (t19 : List LAT3) (t20 t21 : Int) (met : List Bool) (x : VzA2q0) : Option (As [.bool]) :=
  if lt i to' = true then Option.bind (at? met (Sx.sub .i64 i at')) fun (x_1 : Bool) => Option.bind (at? met (Sx.sub .i64 i at')) fun (y : Bool) => if y = true then j4 at' many left to' i t19 t20 t21 met x else Option.bind (model_table_bool_readable_z1 (x, ())) fun (y : Bool × Unit) => if (!y.1) = true then some (false, ()) else Option.bind (at? met (Sx.sub .i64 i at')) fun (x_2 : Bool) => Option.bind (at? met (Sx.sub .i64 i at')) fun (x_3 : Bool) => j4 at' many (Sx.sub .i64 left 1) to' i t19 t20 t21 (List.set met (Int.toNat (Sx.sub .i64 i at')) true) x else self1 at' many left t19 t20 (add .i64 t21 1) met
def qh0_ (self1 : Int -> Int -> Int -> List LAT3 -> Int -> Int -> List Bool -> Option (As [.bool])) (self3 : Int -> Int -> Int -> Int -> Int -> List LAT3 -> Int -> Int -> List Bool -> VzA2q0 -> Option (As [.bool])) (at' many left to' i : Int) (t19 : List LAT3) (t20 t21 : Int) (met : List Bool) (x : VzA2q0) : Option (As [.bool]) :=
  self3 at' many left to' (add .i64 i 1) t19 t20 t21 met x
def qb1_ (j1 : Int -> Int -> Int -> List LAT3 -> Int -> Int -> List Bool -> Option (As [.bool])) (areas : List LAT3) (at' many : Int) : Option (As [.bool]) :=
  need (ge many 0) (need (Ev.capOk many many) (need (small (Int.toNat many)) (j1 at' many many areas (Int.ofNat (List.length areas)) 0 (List.replicate (Int.toNat many) false))))
def q5w_ (left : Int) : Option (As [.bool]) := qmb_ left
def q4d_ (u1 : Int -> Int -> Int -> List LAT3 -> Int -> Int -> List Bool -> Option (As [.bool])) (u3 : Int -> Int -> Int -> Int -> Int -> List LAT3 -> Int -> Int -> List Bool -> VzA2q0 -> Option (As [.bool])) (at' many left to' i : Int) (t19 : List LAT3) (t20 t21 : Int) (met : List Bool) (x : VzA2q0) : Option (As [.bool]) := qh0_ u1 u3 at' many left to' i t19 t20 t21 met x
def q4b_ (u1 : Int -> Int -> Int -> List LAT3 -> Int -> Int -> List Bool -> Option (As [.bool])) (at' many left to' i : Int) (t19 : List LAT3) (t20 t21 : Int) (met : List Bool) (x : VzA2q0) : Option (As [.bool]) :=
  loopF (fun (self : (Int) × (Int) × (Int) × (Int) × (Int) × (List LAT3) × (Int) × (Int) × (List Bool) × LAT3 -> Option (As [.bool])) (s : (Int) × (Int) × (Int) × (Int) × (Int) × (List LAT3) × (Int) × (Int) × (List Bool) × LAT3) => q8d_ (q4d_ u1 (fun at' many left to' i t19 t20 t21 met x => self (at', many, left, to', i, t19, t20, t21, met, x))) u1 (fun at' many left to' i t19 t20 t21 met x => self (at', many, left, to', i, t19, t20, t21, met, x)) s.1 s.2.1 s.2.2.1 s.2.2.2.1 s.2.2.2.2.1 s.2.2.2.2.2.1 s.2.2.2.2.2.2.1 s.2.2.2.2.2.2.2.1 s.2.2.2.2.2.2.2.2.1 s.2.2.2.2.2.2.2.2.2) 18446744073709551616 (at', many, left, to', i, t19, t20, t21, met, x)
def q7u_ (at' many left : Int) (t19 : List LAT3) (t20 t21 : Int) (met : List Bool) : Option (As [.bool]) :=
  loopF (fun (self : (Int) × (Int) × (Int) × (List LAT3) × (Int) × (Int) × (List Bool) -> Option (As [.bool])) (s : (Int) × (Int) × (Int) × (List LAT3) × (Int) × (Int) × (List Bool)) => q80_ (q5w_) (q4b_ (fun at' many left t19 t20 t21 met => self (at', many, left, t19, t20, t21, met))) (fun at' many left t19 t20 t21 met => self (at', many, left, t19, t20, t21, met)) s.1 s.2.1 s.2.2.1 s.2.2.2.1 s.2.2.2.2.1 s.2.2.2.2.2.1 s.2.2.2.2.2.2) 18446744073709551616 (at', many, left, t19, t20, t21, met)
def model_each_br (x : As [.sl (.pr (.int .i64) LAT7), .int .i64, .int .i64]) : Option (As [.bool]) := qb1_ q7u_ x.1 x.2.1 x.2.2.1
theorem qtc_ (J : Orc (As [.bool])) (left : Int) : pfn Tryz.prog q16_ 6 18446744073709551616 (Ev.get q17_) 99 qc_ J 15 [] (qay_ left) = qmb_ left := by kernel_rfl
theorem qtk_ (J : Orc (As [.bool])) (w1 w3 : St -> Option (As [.bool])) (at' many left to' i : Int) (t19 : List LAT3) (t20 t21 : Int) (met : List Bool) (x : VzA2q0) : pfn Tryz.prog q16_ 6 18446744073709551616 (Ev.get q17_) 99 qc_ J 501369 [w1, w3] (qap_ at' many left to' i t19 t20 t21 met x) = qh0_ (fun at' many left t19 t20 t21 met => w1 (q1h_ at' many left t19 t20 t21 met)) (fun at' many left to' i t19 t20 t21 met x => w3 (q2p_ at' many left to' i t19 t20 t21 met x)) at' many left to' i t19 t20 t21 met x := by kernel_rfl
theorem qu2_ (J : Orc (As [.bool])) (w1 w3 : St -> Option (As [.bool])) (at' many left to' i : Int) (t19 : List LAT3) (t20 t21 : Int) (met : List Bool) (x : VzA2q0) : pfn Tryz.prog q16_ 6 18446744073709551616 (Ev.get q17_) 99 qc_ J 125342 [w1, w3] (q2p_ at' many left to' i t19 t20 t21 met x) = q8d_ (fun at' many left to' i t19 t20 t21 met x => J 501369 [w1, w3] (qap_ at' many left to' i t19 t20 t21 met x)) (fun at' many left t19 t20 t21 met => w1 (q1h_ at' many left t19 t20 t21 met)) (fun at' many left to' i t19 t20 t21 met x => w3 (q2p_ at' many left to' i t19 t20 t21 met x)) at' many left to' i t19 t20 t21 met x := by kernel_rfl
theorem qti_ (J : Orc (As [.bool])) (w1 : St -> Option (As [.bool])) (at' many left : Int) (t19 : List LAT3) (t20 t21 : Int) (met : List Bool) : pfn Tryz.prog q16_ 6 18446744073709551616 (Ev.get q17_) 99 qc_ J 122 [w1] (q1h_ at' many left t19 t20 t21 met) = q80_ (fun left => J 15 [] (qay_ left)) (fun at' many left to' i t19 t20 t21 met x => J 125342 [w1] (q2p_ at' many left to' i t19 t20 t21 met x)) (fun at' many left t19 t20 t21 met => w1 (q1h_ at' many left t19 t20 t21 met)) at' many left t19 t20 t21 met := by kernel_rfl
theorem qto_ (J : Orc (As [.bool])) (x : As [.sl (.pr (.int .i64) LAT7), .int .i64, .int .i64]) : rfn Tryz.prog q16_ 6 18446744073709551616 (Ev.get q17_) 99 qc_ J x = qb1_ (fun at' many left t19 t20 t21 met => J 122 [] (q1h_ at' many left t19 t20 t21 met)) x.1 x.2.1 x.2.2.1 := by kernel_rfl
theorem qtd_ (left : Int) : jfn Tryz.prog q16_ 6 18446744073709551616 (Ev.get q17_) 99 qc_ 15 [] (qay_ left) = q5w_ left := by
  rw [pfn_eq (by decide)]
  rw [qtc_]
  rfl
theorem qtx_ (w1 w3 : St -> Option (As [.bool])) (at' many left to' i : Int) (t19 : List LAT3) (t20 t21 : Int) (met : List Bool) (x : VzA2q0) : jfn Tryz.prog q16_ 6 18446744073709551616 (Ev.get q17_) 99 qc_ 501369 [w1, w3] (qap_ at' many left to' i t19 t20 t21 met x) = q4d_ (fun at' many left t19 t20 t21 met => w1 (q1h_ at' many left t19 t20 t21 met)) (fun at' many left to' i t19 t20 t21 met x => w3 (q2p_ at' many left to' i t19 t20 t21 met x)) at' many left to' i t19 t20 t21 met x := by
  rw [pfn_eq (by decide)]
  rw [qtk_]
  rfl
theorem qtv_ (w1 : St -> Option (As [.bool])) (at' many left to' i : Int) (t19 : List LAT3) (t20 t21 : Int) (met : List Bool) (x : VzA2q0) : jfn Tryz.prog q16_ 6 18446744073709551616 (Ev.get q17_) 99 qc_ 125342 [w1] (q2p_ at' many left to' i t19 t20 t21 met x) = q4b_ (fun at' many left t19 t20 t21 met => w1 (q1h_ at' many left t19 t20 t21 met)) at' many left to' i t19 t20 t21 met x := by
  rw [pfn_eq (by decide)]
  rw [pfn_loop (by kernel_rfl)]
  refine loopF_sim (σ := (Int) × (Int) × (Int) × (Int) × (Int) × (List LAT3) × (Int) × (Int) × (List Bool) × LAT3) (mk := fun s => q2p_ s.1 s.2.1 s.2.2.1 s.2.2.2.1 s.2.2.2.2.1 s.2.2.2.2.2.1 s.2.2.2.2.2.2.1 s.2.2.2.2.2.2.2.1 s.2.2.2.2.2.2.2.2.1 s.2.2.2.2.2.2.2.2.2) (fun w3 s => ?_) 18446744073709551616 (at', many, left, to', i, t19, t20, t21, met, x)
  have e4 : (fun at' many left to' i t19 t20 t21 met x => (jfn Tryz.prog q16_ 6 18446744073709551616 (Ev.get q17_) 99 qc_) 501369 [w1, w3] (qap_ at' many left to' i t19 t20 t21 met x)) = q4d_ (fun at' many left t19 t20 t21 met => w1 (q1h_ at' many left t19 t20 t21 met)) (fun at' many left to' i t19 t20 t21 met x => w3 (q2p_ at' many left to' i t19 t20 t21 met x)) := by funext at' many left to' i t19 t20 t21 met x; exact qtx_ w1 w3 at' many left to' i t19 t20 t21 met x
  refine (qu2_ _ w1 w3 s.1 s.2.1 s.2.2.1 s.2.2.2.1 s.2.2.2.2.1 s.2.2.2.2.2.1 s.2.2.2.2.2.2.1 s.2.2.2.2.2.2.2.1 s.2.2.2.2.2.2.2.2.1 s.2.2.2.2.2.2.2.2.2).trans ?_
  rw [e4]
theorem qty_ (at' many left : Int) (t19 : List LAT3) (t20 t21 : Int) (met : List Bool) : jfn Tryz.prog q16_ 6 18446744073709551616 (Ev.get q17_) 99 qc_ 122 [] (q1h_ at' many left t19 t20 t21 met) = q7u_ at' many left t19 t20 t21 met := by
  rw [pfn_eq (by decide)]
  rw [pfn_loop (by kernel_rfl)]
  refine loopF_sim (σ := (Int) × (Int) × (Int) × (List LAT3) × (Int) × (Int) × (List Bool)) (mk := fun s => q1h_ s.1 s.2.1 s.2.2.1 s.2.2.2.1 s.2.2.2.2.1 s.2.2.2.2.2.1 s.2.2.2.2.2.2) (fun w1 s => ?_) 18446744073709551616 (at', many, left, t19, t20, t21, met)
  have e2 : (fun left => (jfn Tryz.prog q16_ 6 18446744073709551616 (Ev.get q17_) 99 qc_) 15 [] (qay_ left)) = q5w_ := funext fun left => qtd_ left
  have e3 : (fun at' many left to' i t19 t20 t21 met x => (jfn Tryz.prog q16_ 6 18446744073709551616 (Ev.get q17_) 99 qc_) 125342 [w1] (q2p_ at' many left to' i t19 t20 t21 met x)) = q4b_ (fun at' many left t19 t20 t21 met => w1 (q1h_ at' many left t19 t20 t21 met)) := by funext at' many left to' i t19 t20 t21 met x; exact qtv_ w1 at' many left to' i t19 t20 t21 met x
  refine (qti_ _ w1 s.1 s.2.1 s.2.2.1 s.2.2.2.1 s.2.2.2.2.1 s.2.2.2.2.2.1 s.2.2.2.2.2.2).trans ?_
  rw [e2, e3]
theorem qv4_ (x : As [.sl (.pr (.int .i64) LAT7), .int .i64, .int .i64]) : evT Tryz.prog q16_ 6 18446744073709551616 (Ev.get q17_) 99 qc_ x = model_each_br x := by
  have e1 : (fun at' many left t19 t20 t21 met => (jfn Tryz.prog q16_ 6 18446744073709551616 (Ev.get q17_) 99 qc_) 122 [] (q1h_ at' many left t19 t20 t21 met)) = q7u_ := by funext at' many left t19 t20 t21 met; exact qty_ at' many left t19 t20 t21 met
  rw [rfn_eq, qto_, e1]
  rfl
theorem qb0_ : CtOk Tryz.prog (fun _ => True) 99 ⟨qc_, model_each_br⟩ := ct_of_ev (env_cons q1u_ (env_cons q1t_ (env_cons qgo_ (env_cons q1k_ (env_cons q1j_ env_nil))))) qv4_
@[reducible] def qe_ : Sh := ⟨[.d LAT0, .d (.int .i64), .d (.int .i64), .fn (.func 101) [] [.pb 0 0, .pb 1 0]], [.box 3 [.d (.int .i64)], .box 3 [.d (.int .i64)]], [.sl (.pr (.int .i64) LAT7), .int .i64, .int .i64, .int .i64, .int .i64], [.d (.bool)], [(0, .box 3 [.d (.int .i64)]), (1, .box 3 [.d (.int .i64)])], 0, [.bool, .int .i64, .int .i64]⟩
def q18_ : Env := (cts [(100, (⟨qp_, model_table_bool_readable_z1⟩ : Ct)), (101, (⟨qo_, model_table_bool_writable_z1⟩ : Ct)), (102, (⟨q1i_, model_meet⟩ : Ct)), (105, (⟨ql_, model_table_uint16_readable_z1⟩ : Ct)), (106, (⟨qk_, model_table_uint16_writable_z1⟩ : Ct))])
def q15_ : List (Nat × Hint) := [(15, ⟨[], [10]⟩), (122, ⟨[], [1, 2, 3, 9, 10, 19, 20, 21]⟩), (125342, ⟨[], [1, 2, 3, 9, 10, 12, 14, 15, 19, 20, 21]⟩), (501369, ⟨[], [1, 2, 3, 9, 10, 12, 14, 15, 19, 20, 21]⟩)]
def q1e_ (at' many left : Int) (t19 : List LAT3) (t20 t21 o o_2 : Int) (met : List Bool) : St := { fr := [(1, .d (.int .i64) at'), (2, .d (.int .i64) many), (3, .fn (.func 101) [] [.pb 0 0, .pb 1 0]), (9, .row 2), (10, .d (.int .i64) left), (19, .d LAT0 t19), (20, .d (.int .i64) t20), (21, .d (.int .i64) t21)], nt := 62, up := [], own := [(0, .box 3 [.d (.int .i64) o]), (1, .box 3 [.d (.int .i64) o_2]), (2, .row .bool 4 met)], nx := 3, log := [], ln := 2 }
def qau_ (left o o_2 : Int) : St := { fr := [(10, .d (.int .i64) left)], nt := 62, up := [], own := [(0, .box 3 [.d (.int .i64) o]), (1, .box 3 [.d (.int .i64) o_2])], nx := 2, log := [], ln := 2 }
def q2k_ (at' many left to' i : Int) (t19 : List LAT3) (t20 t21 o o_2 : Int) (met : List Bool) (x : VzA2q0) : St := { fr := [(1, .d (.int .i64) at'), (2, .d (.int .i64) many), (3, .fn (.func 101) [] [.pb 0 0, .pb 1 0]), (9, .row 2), (10, .d (.int .i64) left), (12, .pb 3 0), (14, .d (.int .i64) to'), (15, .d (.int .i64) i), (19, .d LAT0 t19), (20, .d (.int .i64) t20), (21, .d (.int .i64) t21)], nt := 62, up := [], own := [(0, .box 3 [.d (.int .i64) o]), (1, .box 3 [.d (.int .i64) o_2]), (2, .row .bool 4 met), (3, .box 49 [.d (.int .i64) x.1, .d (.int .i64) x.2.1, .d .bool x.2.2.1, .d .bool x.2.2.2.1, .d .bool x.2.2.2.2])], nx := 4, log := [], ln := 2 }
def qb2_ (at' many left to' i : Int) (t19 : List LAT3) (t20 t21 o o_2 : Int) (met : List Bool) (x : VzA2q0) : St := { fr := [(1, .d (.int .i64) at'), (2, .d (.int .i64) many), (3, .fn (.func 101) [] [.pb 0 0, .pb 1 0]), (9, .row 2), (10, .d (.int .i64) left), (12, .pb 3 0), (14, .d (.int .i64) to'), (15, .d (.int .i64) i), (19, .d LAT0 t19), (20, .d (.int .i64) t20), (21, .d (.int .i64) t21)], nt := 62, up := [], own := [(0, .box 3 [.d (.int .i64) o]), (1, .box 3 [.d (.int .i64) o_2]), (2, .row .bool 4 met), (3, .box 49 [.d (.int .i64) x.1, .d (.int .i64) x.2.1, .d .bool x.2.2.1, .d .bool x.2.2.2.1, .d .bool x.2.2.2.2])], nx := 4, log := [], ln := 2 }
def q8b_ (j2 : Int -> Int -> Int -> Option (As [.bool, .int .i64, .int .i64])) (j3 : Int -> Int -> Int -> Int -> Int -> List LAT3 -> Int -> Int -> Int -> Int -> List Bool -> VzA2q0 -> Option (As [.bool, .int .i64, .int .i64])) (self1 : Int -> Int -> Int -> List LAT3 -> Int -> Int -> Int -> Int -> List Bool -> Option (As [.bool, .int .i64, .int .i64])) (at' many left : Int) (t19 : List LAT3) (t20 t21 o o_2 : Int) (met : List Bool) : Option (As [.bool, .int .i64, .int .i64]) :=
  if lt t21 t20 = true then Option.bind (at? t19 t21) fun (y : VzA2q0) => if eqi left 0 = true then j2 left o o_2 else Option.bind (model_meet (y, at', add .i64 at' many, ())) fun (y_1 : Int × Int × Unit) => j3 at' many left y_1.2.1 y_1.1 t19 t20 t21 o o_2 met y else j2 left o o_2
def qmh_ (left o o_2 : Int) : Option (As [.bool, .int .i64, .int .i64]) :=
  some (eqi left 0, o, o_2, ())
def q7s_ (j4 : Int -> Int -> Int -> Int -> Int -> List LAT3 -> Int -> Int -> Int -> Int -> List Bool -> VzA2q0 -> Option (As [.bool, .int .i64, .int .i64])) (self1 : Int -> Int -> Int -> List LAT3 -> Int -> Int -> Int -> Int -> List Bool -> Option (As [.bool, .int .i64, .int .i64])) (self3 : Int -> Int -> Int -> Int -> Int -> List LAT3 -> Int -> Int -> Int -> Int -> List Bool -> VzA2q0 -> Option (As [.bool, .int .i64, .int .i64])) (at' many left to' i : Int) (t19 : List LAT3) (t20 t21 o o_2 : Int) (met : List Bool) (x : VzA2q0) : Option (As [.bool, .int .i64, .int .i64]) :=
  if lt i to' = true then Option.bind (at? met (Sx.sub .i64 i at')) fun (x_1 : Bool) => Option.bind (at? met (Sx.sub .i64 i at')) fun (y : Bool) => if y = true then j4 at' many left to' i t19 t20 t21 o o_2 met x else Option.bind (model_table_bool_writable_z1 (x, o, o_2, ())) fun (y : Bool × Int × Int × Unit) => if (!y.1) = true then some (false, y.2.1, y.2.2.1, ()) else Option.bind (at? met (Sx.sub .i64 i at')) fun (x_2 : Bool) => Option.bind (at? met (Sx.sub .i64 i at')) fun (x_3 : Bool) => j4 at' many (Sx.sub .i64 left 1) to' i t19 t20 t21 y.2.1 y.2.2.1 (List.set met (Int.toNat (Sx.sub .i64 i at')) true) x else self1 at' many left t19 t20 (add .i64 t21 1) o o_2 met
def qh2_ (self1 : Int -> Int -> Int -> List LAT3 -> Int -> Int -> Int -> Int -> List Bool -> Option (As [.bool, .int .i64, .int .i64])) (self3 : Int -> Int -> Int -> Int -> Int -> List LAT3 -> Int -> Int -> Int -> Int -> List Bool -> VzA2q0 -> Option (As [.bool, .int .i64, .int .i64])) (at' many left to' i : Int) (t19 : List LAT3) (t20 t21 o o_2 : Int) (met : List Bool) (x : VzA2q0) : Option (As [.bool, .int .i64, .int .i64]) :=
  self3 at' many left to' (add .i64 i 1) t19 t20 t21 o o_2 met x
def qax_ (j1 : Int -> Int -> Int -> List LAT3 -> Int -> Int -> Int -> Int -> List Bool -> Option (As [.bool, .int .i64, .int .i64])) (areas : List LAT3) (at' many wanted areas_2 : Int) : Option (As [.bool, .int .i64, .int .i64]) :=
  need (ge many 0) (need (Ev.capOk many many) (need (small (Int.toNat many)) (j1 at' many many areas (Int.ofNat (List.length areas)) 0 wanted areas_2 (List.replicate (Int.toNat many) false))))
def q5v_ (left o o_2 : Int) : Option (As [.bool, .int .i64, .int .i64]) := qmh_ left o o_2
def q4c_ (u1 : Int -> Int -> Int -> List LAT3 -> Int -> Int -> Int -> Int -> List Bool -> Option (As [.bool, .int .i64, .int .i64])) (u3 : Int -> Int -> Int -> Int -> Int -> List LAT3 -> Int -> Int -> Int -> Int -> List Bool -> VzA2q0 -> Option (As [.bool, .int .i64, .int .i64])) (at' many left to' i : Int) (t19 : List LAT3) (t20 t21 o o_2 : Int) (met : List Bool) (x : VzA2q0) : Option (As [.bool, .int .i64, .int .i64]) := qh2_ u1 u3 at' many left to' i t19 t20 t21 o o_2 met x
def q47_ (u1 : Int -> Int -> Int -> List LAT3 -> Int -> Int -> Int -> Int -> List Bool -> Option (As [.bool, .int .i64, .int .i64])) (at' many left to' i : Int) (t19 : List LAT3) (t20 t21 o o_2 : Int) (met : List Bool) (x : VzA2q0) : Option (As [.bool, .int .i64, .int .i64]) :=
  loopF (fun (self : (Int) × (Int) × (Int) × (Int) × (Int) × (List LAT3) × (Int) × (Int) × (Int) × (Int) × (List Bool) × LAT3 -> Option (As [.bool, .int .i64, .int .i64])) (s : (Int) × (Int) × (Int) × (Int) × (Int) × (List LAT3) × (Int) × (Int) × (Int) × (Int) × (List Bool) × LAT3) => q7s_ (q4c_ u1 (fun at' many left to' i t19 t20 t21 o o_2 met x => self (at', many, left, to', i, t19, t20, t21, o, o_2, met, x))) u1 (fun at' many left to' i t19 t20 t21 o o_2 met x => self (at', many, left, to', i, t19, t20, t21, o, o_2, met, x)) s.1 s.2.1 s.2.2.1 s.2.2.2.1 s.2.2.2.2.1 s.2.2.2.2.2.1 s.2.2.2.2.2.2.1 s.2.2.2.2.2.2.2.1 s.2.2.2.2.2.2.2.2.1 s.2.2.2.2.2.2.2.2.2.1 s.2.2.2.2.2.2.2.2.2.2.1 s.2.2.2.2.2.2.2.2.2.2.2) 18446744073709551616 (at', many, left, to', i, t19, t20, t21, o, o_2, met, x)
def q7x_ (at' many left : Int) (t19 : List LAT3) (t20 t21 o o_2 : Int) (met : List Bool) : Option (As [.bool, .int .i64, .int .i64]) :=
  loopF (fun (self : (Int) × (Int) × (Int) × (List LAT3) × (Int) × (Int) × (Int) × (Int) × (List Bool) -> Option (As [.bool, .int .i64, .int .i64])) (s : (Int) × (Int) × (Int) × (List LAT3) × (Int) × (Int) × (Int) × (Int) × (List Bool)) => q8b_ (q5v_) (q47_ (fun at' many left t19 t20 t21 o o_2 met => self (at', many, left, t19, t20, t21, o, o_2, met))) (fun at' many left t19 t20 t21 o o_2 met => self (at', many, left, t19, t20, t21, o, o_2, met)) s.1 s.2.1 s.2.2.1 s.2.2.2.1 s.2.2.2.2.1 s.2.2.2.2.2.1 s.2.2.2.2.2.2.1 s.2.2.2.2.2.2.2.1 s.2.2.2.2.2.2.2.2) 18446744073709551616 (at', many, left, t19, t20, t21, o, o_2, met)
def model_each_bw (x : As [.sl (.pr (.int .i64) LAT7), .int .i64, .int .i64, .int .i64, .int .i64]) : Option (As [.bool, .int .i64, .int .i64]) := qax_ q7x_ x.1 x.2.1 x.2.2.1 x.2.2.2.1 x.2.2.2.2.1
theorem qtb_ (J : Orc (As [.bool, .int .i64, .int .i64])) (left o o_2 : Int) : pfn Tryz.prog q18_ 6 18446744073709551616 (Ev.get q15_) 99 qe_ J 15 [] (qau_ left o o_2) = qmh_ left o o_2 := by kernel_rfl
theorem qtp_ (J : Orc (As [.bool, .int .i64, .int .i64])) (w1 w3 : St -> Option (As [.bool, .int .i64, .int .i64])) (at' many left to' i : Int) (t19 : List LAT3) (t20 t21 o o_2 : Int) (met : List Bool) (x : VzA2q0) : pfn Tryz.prog q18_ 6 18446744073709551616 (Ev.get q15_) 99 qe_ J 501369 [w1, w3] (qb2_ at' many left to' i t19 t20 t21 o o_2 met x) = qh2_ (fun at' many left t19 t20 t21 o o_2 met => w1 (q1e_ at' many left t19 t20 t21 o o_2 met)) (fun at' many left to' i t19 t20 t21 o o_2 met x => w3 (q2k_ at' many left to' i t19 t20 t21 o o_2 met x)) at' many left to' i t19 t20 t21 o o_2 met x := by kernel_rfl
theorem qu8_ (J : Orc (As [.bool, .int .i64, .int .i64])) (w1 w3 : St -> Option (As [.bool, .int .i64, .int .i64])) (at' many left to' i : Int) (t19 : List LAT3) (t20 t21 o o_2 : Int) (met : List Bool) (x : VzA2q0) : pfn Tryz.prog q18_ 6 18446744073709551616 (Ev.get q15_) 99 qe_ J 125342 [w1, w3] (q2k_ at' many left to' i t19 t20 t21 o o_2 met x) = q7s_ (fun at' many left to' i t19 t20 t21 o o_2 met x => J 501369 [w1, w3] (qb2_ at' many left to' i t19 t20 t21 o o_2 met x)) (fun at' many left t19 t20 t21 o o_2 met => w1 (q1e_ at' many left t19 t20 t21 o o_2 met)) (fun at' many left to' i t19 t20 t21 o o_2 met x => w3 (q2k_ at' many left to' i t19 t20 t21 o o_2 met x)) at' many left to' i t19 t20 t21 o o_2 met x := by kernel_rfl
theorem qts_ (J : Orc (As [.bool, .int .i64, .int .i64])) (w1 : St -> Option (As [.bool, .int .i64, .int .i64])) (at' many left : Int) (t19 : List LAT3) (t20 t21 o o_2 : Int) (met : List Bool) : pfn Tryz.prog q18_ 6 18446744073709551616 (Ev.get q15_) 99 qe_ J 122 [w1] (q1e_ at' many left t19 t20 t21 o o_2 met) = q8b_ (fun left o o_2 => J 15 [] (qau_ left o o_2)) (fun at' many left to' i t19 t20 t21 o o_2 met x => J 125342 [w1] (q2k_ at' many left to' i t19 t20 t21 o o_2 met x)) (fun at' many left t19 t20 t21 o o_2 met => w1 (q1e_ at' many left t19 t20 t21 o o_2 met)) at' many left t19 t20 t21 o o_2 met := by kernel_rfl
theorem qth_ (J : Orc (As [.bool, .int .i64, .int .i64])) (x : As [.sl (.pr (.int .i64) LAT7), .int .i64, .int .i64, .int .i64, .int .i64]) : rfn Tryz.prog q18_ 6 18446744073709551616 (Ev.get q15_) 99 qe_ J x = qax_ (fun at' many left t19 t20 t21 o o_2 met => J 122 [] (q1e_ at' many left t19 t20 t21 o o_2 met)) x.1 x.2.1 x.2.2.1 x.2.2.2.1 x.2.2.2.2.1 := by kernel_rfl
theorem qtf_ (left o o_2 : Int) : jfn Tryz.prog q18_ 6 18446744073709551616 (Ev.get q15_) 99 qe_ 15 [] (qau_ left o o_2) = q5v_ left o o_2 := by
  rw [pfn_eq (by decide)]
  rw [qtb_]
  rfl
theorem qtz_ (w1 w3 : St -> Option (As [.bool, .int .i64, .int .i64])) (at' many left to' i : Int) (t19 : List LAT3) (t20 t21 o o_2 : Int) (met : List Bool) (x : VzA2q0) : jfn Tryz.prog q18_ 6 18446744073709551616 (Ev.get q15_) 99 qe_ 501369 [w1, w3] (qb2_ at' many left to' i t19 t20 t21 o o_2 met x) = q4c_ (fun at' many left t19 t20 t21 o o_2 met => w1 (q1e_ at' many left t19 t20 t21 o o_2 met)) (fun at' many left to' i t19 t20 t21 o o_2 met x => w3 (q2k_ at' many left to' i t19 t20 t21 o o_2 met x)) at' many left to' i t19 t20 t21 o o_2 met x := by
  rw [pfn_eq (by decide)]
  rw [qtp_]
  rfl
theorem qtw_ (w1 : St -> Option (As [.bool, .int .i64, .int .i64])) (at' many left to' i : Int) (t19 : List LAT3) (t20 t21 o o_2 : Int) (met : List Bool) (x : VzA2q0) : jfn Tryz.prog q18_ 6 18446744073709551616 (Ev.get q15_) 99 qe_ 125342 [w1] (q2k_ at' many left to' i t19 t20 t21 o o_2 met x) = q47_ (fun at' many left t19 t20 t21 o o_2 met => w1 (q1e_ at' many left t19 t20 t21 o o_2 met)) at' many left to' i t19 t20 t21 o o_2 met x := by
  rw [pfn_eq (by decide)]
  rw [pfn_loop (by kernel_rfl)]
  refine loopF_sim (σ := (Int) × (Int) × (Int) × (Int) × (Int) × (List LAT3) × (Int) × (Int) × (Int) × (Int) × (List Bool) × LAT3) (mk := fun s => q2k_ s.1 s.2.1 s.2.2.1 s.2.2.2.1 s.2.2.2.2.1 s.2.2.2.2.2.1 s.2.2.2.2.2.2.1 s.2.2.2.2.2.2.2.1 s.2.2.2.2.2.2.2.2.1 s.2.2.2.2.2.2.2.2.2.1 s.2.2.2.2.2.2.2.2.2.2.1 s.2.2.2.2.2.2.2.2.2.2.2) (fun w3 s => ?_) 18446744073709551616 (at', many, left, to', i, t19, t20, t21, o, o_2, met, x)
  have e4 : (fun at' many left to' i t19 t20 t21 o o_2 met x => (jfn Tryz.prog q18_ 6 18446744073709551616 (Ev.get q15_) 99 qe_) 501369 [w1, w3] (qb2_ at' many left to' i t19 t20 t21 o o_2 met x)) = q4c_ (fun at' many left t19 t20 t21 o o_2 met => w1 (q1e_ at' many left t19 t20 t21 o o_2 met)) (fun at' many left to' i t19 t20 t21 o o_2 met x => w3 (q2k_ at' many left to' i t19 t20 t21 o o_2 met x)) := by funext at' many left to' i t19 t20 t21 o o_2 met x; exact qtz_ w1 w3 at' many left to' i t19 t20 t21 o o_2 met x
  refine (qu8_ _ w1 w3 s.1 s.2.1 s.2.2.1 s.2.2.2.1 s.2.2.2.2.1 s.2.2.2.2.2.1 s.2.2.2.2.2.2.1 s.2.2.2.2.2.2.2.1 s.2.2.2.2.2.2.2.2.1 s.2.2.2.2.2.2.2.2.2.1 s.2.2.2.2.2.2.2.2.2.2.1 s.2.2.2.2.2.2.2.2.2.2.2).trans ?_
  rw [e4]
theorem qua_ (at' many left : Int) (t19 : List LAT3) (t20 t21 o o_2 : Int) (met : List Bool) : jfn Tryz.prog q18_ 6 18446744073709551616 (Ev.get q15_) 99 qe_ 122 [] (q1e_ at' many left t19 t20 t21 o o_2 met) = q7x_ at' many left t19 t20 t21 o o_2 met := by
  rw [pfn_eq (by decide)]
  rw [pfn_loop (by kernel_rfl)]
  refine loopF_sim (σ := (Int) × (Int) × (Int) × (List LAT3) × (Int) × (Int) × (Int) × (Int) × (List Bool)) (mk := fun s => q1e_ s.1 s.2.1 s.2.2.1 s.2.2.2.1 s.2.2.2.2.1 s.2.2.2.2.2.1 s.2.2.2.2.2.2.1 s.2.2.2.2.2.2.2.1 s.2.2.2.2.2.2.2.2) (fun w1 s => ?_) 18446744073709551616 (at', many, left, t19, t20, t21, o, o_2, met)
  have e2 : (fun left o o_2 => (jfn Tryz.prog q18_ 6 18446744073709551616 (Ev.get q15_) 99 qe_) 15 [] (qau_ left o o_2)) = q5v_ := by funext left o o_2; exact qtf_ left o o_2
  have e3 : (fun at' many left to' i t19 t20 t21 o o_2 met x => (jfn Tryz.prog q18_ 6 18446744073709551616 (Ev.get q15_) 99 qe_) 125342 [w1] (q2k_ at' many left to' i t19 t20 t21 o o_2 met x)) = q47_ (fun at' many left t19 t20 t21 o o_2 met => w1 (q1e_ at' many left t19 t20 t21 o o_2 met)) := by funext at' many left to' i t19 t20 t21 o o_2 met x; exact qtw_ w1 at' many left to' i t19 t20 t21 o o_2 met x
  refine (qts_ _ w1 s.1 s.2.1 s.2.2.1 s.2.2.2.1 s.2.2.2.2.1 s.2.2.2.2.2.1 s.2.2.2.2.2.2.1 s.2.2.2.2.2.2.2.1 s.2.2.2.2.2.2.2.2).trans ?_
  rw [e2, e3]
theorem qv2_ (x : As [.sl (.pr (.int .i64) LAT7), .int .i64, .int .i64, .int .i64, .int .i64]) : evT Tryz.prog q18_ 6 18446744073709551616 (Ev.get q15_) 99 qe_ x = model_each_bw x := by
  have e1 : (fun at' many left t19 t20 t21 o o_2 met => (jfn Tryz.prog q18_ 6 18446744073709551616 (Ev.get q15_) 99 qe_) 122 [] (q1e_ at' many left t19 t20 t21 o o_2 met)) = q7x_ := by funext at' many left t19 t20 t21 o o_2 met; exact qua_ at' many left t19 t20 t21 o o_2 met
  rw [rfn_eq, qth_, e1]
  rfl
theorem qb8_ : CtOk Tryz.prog (fun _ => True) 99 ⟨qe_, model_each_bw⟩ := ct_of_ev (env_cons q1u_ (env_cons q1t_ (env_cons qgo_ (env_cons q1k_ (env_cons q1j_ env_nil))))) qv2_
@[reducible] def qd_ : Sh := ⟨[.d LAT0, .d (.int .i64), .d (.int .i64), .fn (.func 105) [] []], [], [.sl (.pr (.int .i64) LAT7), .int .i64, .int .i64], [.d (.bool)], [], 0, [.bool]⟩
def q1a_ : Env := (cts [(100, (⟨qp_, model_table_bool_readable_z1⟩ : Ct)), (101, (⟨qo_, model_table_bool_writable_z1⟩ : Ct)), (102, (⟨q1i_, model_meet⟩ : Ct)), (105, (⟨ql_, model_table_uint16_readable_z1⟩ : Ct)), (106, (⟨qk_, model_table_uint16_writable_z1⟩ : Ct))])
def q13_ : List (Nat × Hint) := [(15, ⟨[], [10]⟩), (122, ⟨[], [1, 2, 3, 9, 10, 19, 20, 21]⟩), (125342, ⟨[], [1, 2, 3, 9, 10, 12, 14, 15, 19, 20, 21]⟩), (501369, ⟨[], [1, 2, 3, 9, 10, 12, 14, 15, 19, 20, 21]⟩)]
def q1c_ (at' many left : Int) (t19 : List LAT3) (t20 t21 : Int) (met : List Bool) : St := { fr := [(1, .d (.int .i64) at'), (2, .d (.int .i64) many), (3, .fn (.func 105) [] []), (9, .row 0), (10, .d (.int .i64) left), (19, .d LAT0 t19), (20, .d (.int .i64) t20), (21, .d (.int .i64) t21)], nt := 62, up := [], own := [(0, .row .bool 4 met)], nx := 1, log := [], ln := 0 }
def qb7_ (left : Int) : St := { fr := [(10, .d (.int .i64) left)], nt := 62, up := [], own := [], nx := 0, log := [], ln := 0 }
def q2l_ (at' many left to' i : Int) (t19 : List LAT3) (t20 t21 : Int) (met : List Bool) (x : VzA2q0) : St := { fr := [(1, .d (.int .i64) at'), (2, .d (.int .i64) many), (3, .fn (.func 105) [] []), (9, .row 0), (10, .d (.int .i64) left), (12, .pb 1 0), (14, .d (.int .i64) to'), (15, .d (.int .i64) i), (19, .d LAT0 t19), (20, .d (.int .i64) t20), (21, .d (.int .i64) t21)], nt := 62, up := [], own := [(0, .row .bool 4 met), (1, .box 49 [.d (.int .i64) x.1, .d (.int .i64) x.2.1, .d .bool x.2.2.1, .d .bool x.2.2.2.1, .d .bool x.2.2.2.2])], nx := 2, log := [], ln := 0 }
def qb4_ (at' many left to' i : Int) (t19 : List LAT3) (t20 t21 : Int) (met : List Bool) (x : VzA2q0) : St := { fr := [(1, .d (.int .i64) at'), (2, .d (.int .i64) many), (3, .fn (.func 105) [] []), (9, .row 0), (10, .d (.int .i64) left), (12, .pb 1 0), (14, .d (.int .i64) to'), (15, .d (.int .i64) i), (19, .d LAT0 t19), (20, .d (.int .i64) t20), (21, .d (.int .i64) t21)], nt := 62, up := [], own := [(0, .row .bool 4 met), (1, .box 49 [.d (.int .i64) x.1, .d (.int .i64) x.2.1, .d .bool x.2.2.1, .d .bool x.2.2.2.1, .d .bool x.2.2.2.2])], nx := 2, log := [], ln := 0 }
def q89_ (j2 : Int -> Option (As [.bool])) (j3 : Int -> Int -> Int -> Int -> Int -> List LAT3 -> Int -> Int -> List Bool -> VzA2q0 -> Option (As [.bool])) (self1 : Int -> Int -> Int -> List LAT3 -> Int -> Int -> List Bool -> Option (As [.bool])) (at' many left : Int) (t19 : List LAT3) (t20 t21 : Int) (met : List Bool) : Option (As [.bool]) :=
  if lt t21 t20 = true then Option.bind (at? t19 t21) fun (y : VzA2q0) => if eqi left 0 = true then j2 left else Option.bind (model_meet (y, at', add .i64 at' many, ())) fun (y_1 : Int × Int × Unit) => j3 at' many left y_1.2.1 y_1.1 t19 t20 t21 met y else j2 left
def qmv_ (left : Int) : Option (As [.bool]) :=
  some (eqi left 0, ())
def q7w_ (j4 : Int -> Int -> Int -> Int -> Int -> List LAT3 -> Int -> Int -> List Bool -> VzA2q0 -> Option (As [.bool])) (self1 : Int -> Int -> Int -> List LAT3 -> Int -> Int -> List Bool -> Option (As [.bool])) (self3 : Int -> Int -> Int -> Int -> Int -> List LAT3 -> Int -> Int -> List Bool -> VzA2q0 -> Option (As [.bool])) (at' many left to' i : Int) (t19 : List LAT3) (t20 t21 : Int) (met : List Bool) (x : VzA2q0) : Option (As [.bool]) :=
  if lt i to' = true then Option.bind (at? met (Sx.sub .i64 i at')) fun (x_1 : Bool) => Option.bind (at? met (Sx.sub .i64 i at')) fun (y : Bool) => if y = true then j4 at' many left to' i t19 t20 t21 met x else Option.bind (model_table_uint16_readable_z1 (x, ())) fun (y : Bool × Unit) => if (!y.1) = true then some (false, ()) else Option.bind (at? met (Sx.sub .i64 i at')) fun (x_2 : Bool) => Option.bind (at? met (Sx.sub .i64 i at')) fun (x_3 : Bool) => j4 at' many (Sx.sub .i64 left 1) to' i t19 t20 t21 (List.set met (Int.toNat (Sx.sub .i64 i at')) true) x else self1 at' many left t19 t20 (add .i64 t21 1) met
def qh1_ (self1 : Int -> Int -> Int -> List LAT3 -> Int -> Int -> List Bool -> Option (As [.bool])) (self3 : Int -> Int -> Int -> Int -> Int -> List LAT3 -> Int -> Int -> List Bool -> VzA2q0 -> Option (As [.bool])) (at' many left to' i : Int) (t19 : List LAT3) (t20 t21 : Int) (met : List Bool) (x : VzA2q0) : Option (As [.bool]) :=
  self3 at' many left to' (add .i64 i 1) t19 t20 t21 met x
def qb6_ (j1 : Int -> Int -> Int -> List LAT3 -> Int -> Int -> List Bool -> Option (As [.bool])) (areas : List LAT3) (at' many : Int) : Option (As [.bool]) :=
  need (ge many 0) (need (Ev.capOk many many) (need (small (Int.toNat many)) (j1 at' many many areas (Int.ofNat (List.length areas)) 0 (List.replicate (Int.toNat many) false))))
def q5z_ (left : Int) : Option (As [.bool]) := qmv_ left
def q4e_ (u1 : Int -> Int -> Int -> List LAT3 -> Int -> Int -> List Bool -> Option (As [.bool])) (u3 : Int -> Int -> Int -> Int -> Int -> List LAT3 -> Int -> Int -> List Bool -> VzA2q0 -> Option (As [.bool])) (at' many left to' i : Int) (t19 : List LAT3) (t20 t21 : Int) (met : List Bool) (x : VzA2q0) : Option (As [.bool]) := qh1_ u1 u3 at' many left to' i t19 t20 t21 met x
def q49_ (u1 : Int -> Int -> Int -> List LAT3 -> Int -> Int -> List Bool -> Option (As [.bool])) (at' many left to' i : Int) (t19 : List LAT3) (t20 t21 : Int) (met : List Bool) (x : VzA2q0) : Option (As [.bool]) :=
  loopF (fun (self : (Int) × (Int) × (Int) × (Int) × (Int) × (List LAT3) × (Int) × (Int) × (List Bool) × LAT3 -> Option (As [.bool])) (s : (Int) × (Int) × (Int) × (Int) × (Int) × (List LAT3) × (Int) × (Int) × (List Bool) × LAT3) => q7w_ (q4e_ u1 (fun at' many left to' i t19 t20 t21 met x => self (at', many, left, to', i, t19, t20, t21, met, x))) u1 (fun at' many left to' i t19 t20 t21 met x => self (at', many, left, to', i, t19, t20, t21, met, x)) s.1 s.2.1 s.2.2.1 s.2.2.2.1 s.2.2.2.2.1 s.2.2.2.2.2.1 s.2.2.2.2.2.2.1 s.2.2.2.2.2.2.2.1 s.2.2.2.2.2.2.2.2.1 s.2.2.2.2.2.2.2.2.2) 18446744073709551616 (at', many, left, to', i, t19, t20, t21, met, x)
def q87_ (at' many left : Int) (t19 : List LAT3) (t20 t21 : Int) (met : List Bool) : Option (As [.bool]) :=
  loopF (fun (self : (Int) × (Int) × (Int) × (List LAT3) × (Int) × (Int) × (List Bool) -> Option (As [.bool])) (s : (Int) × (Int) × (Int) × (List LAT3) × (Int) × (Int) × (List Bool)) => q89_ (q5z_) (q49_ (fun at' many left t19 t20 t21 met => self (at', many, left, t19, t20, t21, met))) (fun at' many left t19 t20 t21 met => self (at', many, left, t19, t20, t21, met)) s.1 s.2.1 s.2.2.1 s.2.2.2.1 s.2.2.2.2.1 s.2.2.2.2.2.1 s.2.2.2.2.2.2) 18446744073709551616 (at', many, left, t19, t20, t21, met)
def model_each_ur (x : As [.sl (.pr (.int .i64) LAT7), .int .i64, .int .i64]) : Option (As [.bool]) := qb6_ q87_ x.1 x.2.1 x.2.2.1
theorem qub_ (J : Orc (As [.bool])) (left : Int) : pfn Tryz.prog q1a_ 6 18446744073709551616 (Ev.get q13_) 99 qd_ J 15 [] (qb7_ left) = qmv_ left := by kernel_rfl
theorem qu1_ (J : Orc (As [.bool])) (w1 w3 : St -> Option (As [.bool])) (at' many left to' i : Int) (t19 : List LAT3) (t20 t21 : Int) (met : List Bool) (x : VzA2q0) : pfn Tryz.prog q1a_ 6 18446744073709551616 (Ev.get q13_) 99 qd_ J 501369 [w1, w3] (qb4_ at' many left to' i t19 t20 t21 met x) = qh1_ (fun at' many left t19 t20 t21 met => w1 (q1c_ at' many left t19 t20 t21 met)) (fun at' many left to' i t19 t20 t21 met x => w3 (q2l_ at' many left to' i t19 t20 t21 met x)) at' many left to' i t19 t20 t21 met x := by kernel_rfl
theorem qu6_ (J : Orc (As [.bool])) (w1 w3 : St -> Option (As [.bool])) (at' many left to' i : Int) (t19 : List LAT3) (t20 t21 : Int) (met : List Bool) (x : VzA2q0) : pfn Tryz.prog q1a_ 6 18446744073709551616 (Ev.get q13_) 99 qd_ J 125342 [w1, w3] (q2l_ at' many left to' i t19 t20 t21 met x) = q7w_ (fun at' many left to' i t19 t20 t21 met x => J 501369 [w1, w3] (qb4_ at' many left to' i t19 t20 t21 met x)) (fun at' many left t19 t20 t21 met => w1 (q1c_ at' many left t19 t20 t21 met)) (fun at' many left to' i t19 t20 t21 met x => w3 (q2l_ at' many left to' i t19 t20 t21 met x)) at' many left to' i t19 t20 t21 met x := by kernel_rfl
theorem qtu_ (J : Orc (As [.bool])) (w1 : St -> Option (As [.bool])) (at' many left : Int) (t19 : List LAT3) (t20 t21 : Int) (met : List Bool) : pfn Tryz.prog q1a_ 6 18446744073709551616 (Ev.get q13_) 99 qd_ J 122 [w1] (q1c_ at' many left t19 t20 t21 met) = q89_ (fun left => J 15 [] (qb7_ left)) (fun at' many left to' i t19 t20 t21 met x => J 125342 [w1] (q2l_ at' many left to' i t19 t20 t21 met x)) (fun at' many left t19 t20 t21 met => w1 (q1c_ at' many left t19 t20 t21 met)) at' many left t19 t20 t21 met := by kernel_rfl
theorem qtr_ (J : Orc (As [.bool])) (x : As [.sl (.pr (.int .i64) LAT7), .int .i64, .int .i64]) : rfn Tryz.prog q1a_ 6 18446744073709551616 (Ev.get q13_) 99 qd_ J x = qb6_ (fun at' many left t19 t20 t21 met => J 122 [] (q1c_ at' many left t19 t20 t21 met)) x.1 x.2.1 x.2.2.1 := by kernel_rfl
theorem qu5_ (left : Int) : jfn Tryz.prog q1a_ 6 18446744073709551616 (Ev.get q13_) 99 qd_ 15 [] (qb7_ left) = q5z_ left := by
  rw [pfn_eq (by decide)]
  rw [qub_]
  rfl
theorem qtm_ (w1 w3 : St -> Option (As [.bool])) (at' many left to' i : Int) (t19 : List LAT3) (t20 t21 : Int) (met : List Bool) (x : VzA2q0) : jfn Tryz.prog q1a_ 6 18446744073709551616 (Ev.get q13_) 99 qd_ 501369 [w1, w3] (qb4_ at' many left to' i t19 t20 t21 met x) = q4e_ (fun at' many left t19 t20 t21 met => w1 (q1c_ at' many left t19 t20 t21 met)) (fun at' many left to' i t19 t20 t21 met x => w3 (q2l_ at' many left to' i t19 t20 t21 met x)) at' many left to' i t19 t20 t21 met x := by
  rw [pfn_eq (by decide)]
  rw [qu1_]
  rfl
theorem qt8_ (w1 : St -> Option (As [.bool])) (at' many left to' i : Int) (t19 : List LAT3) (t20 t21 : Int) (met : List Bool) (x : VzA2q0) : jfn Tryz.prog q1a_ 6 18446744073709551616 (Ev.get q13_) 99 qd_ 125342 [w1] (q2l_ at' many left to' i t19 t20 t21 met x) = q49_ (fun at' many left t19 t20 t21 met => w1 (q1c_ at' many left t19 t20 t21 met)) at' many left to' i t19 t20 t21 met x := by
  rw [pfn_eq (by decide)]
  rw [pfn_loop (by kernel_rfl)]
  refine loopF_sim (σ := (Int) × (Int) × (Int) × (Int) × (Int) × (List LAT3) × (Int) × (Int) × (List Bool) × LAT3) (mk := fun s => q2l_ s.1 s.2.1 s.2.2.1 s.2.2.2.1 s.2.2.2.2.1 s.2.2.2.2.2.1 s.2.2.2.2.2.2.1 s.2.2.2.2.2.2.2.1 s.2.2.2.2.2.2.2.2.1 s.2.2.2.2.2.2.2.2.2) (fun w3 s => ?_) 18446744073709551616 (at', many, left, to', i, t19, t20, t21, met, x)
  have e4 : (fun at' many left to' i t19 t20 t21 met x => (jfn Tryz.prog q1a_ 6 18446744073709551616 (Ev.get q13_) 99 qd_) 501369 [w1, w3] (qb4_ at' many left to' i t19 t20 t21 met x)) = q4e_ (fun at' many left t19 t20 t21 met => w1 (q1c_ at' many left t19 t20 t21 met)) (fun at' many left to' i t19 t20 t21 met x => w3 (q2l_ at' many left to' i t19 t20 t21 met x)) := by funext at' many left to' i t19 t20 t21 met x; exact qtm_ w1 w3 at' many left to' i t19 t20 t21 met x
  refine (qu6_ _ w1 w3 s.1 s.2.1 s.2.2.1 s.2.2.2.1 s.2.2.2.2.1 s.2.2.2.2.2.1 s.2.2.2.2.2.2.1 s.2.2.2.2.2.2.2.1 s.2.2.2.2.2.2.2.2.1 s.2.2.2.2.2.2.2.2.2).trans ?_
  rw [e4]
theorem quc_ (at' many left : Int) (t19 : List LAT3) (t20 t21 : Int) (met : List Bool) : jfn Tryz.prog q1a_ 6 18446744073709551616 (Ev.get q13_) 99 qd_ 122 [] (q1c_ at' many left t19 t20 t21 met) = q87_ at' many left t19 t20 t21 met := by
  rw [pfn_eq (by decide)]
  rw [pfn_loop (by kernel_rfl)]
  refine loopF_sim (σ := (Int) × (Int) × (Int) × (List LAT3) × (Int) × (Int) × (List Bool)) (mk := fun s => q1c_ s.1 s.2.1 s.2.2.1 s.2.2.2.1 s.2.2.2.2.1 s.2.2.2.2.2.1 s.2.2.2.2.2.2) (fun w1 s => ?_) 18446744073709551616 (at', many, left, t19, t20, t21, met)
  have e2 : (fun left => (jfn Tryz.prog q1a_ 6 18446744073709551616 (Ev.get q13_) 99 qd_) 15 [] (qb7_ left)) = q5z_ := funext fun left => qu5_ left
  have e3 : (fun at' many left to' i t19 t20 t21 met x => (jfn Tryz.prog q1a_ 6 18446744073709551616 (Ev.get q13_) 99 qd_) 125342 [w1] (q2l_ at' many left to' i t19 t20 t21 met x)) = q49_ (fun at' many left t19 t20 t21 met => w1 (q1c_ at' many left t19 t20 t21 met)) := by funext at' many left to' i t19 t20 t21 met x; exact qt8_ w1 at' many left to' i t19 t20 t21 met x
  refine (qtu_ _ w1 s.1 s.2.1 s.2.2.1 s.2.2.2.1 s.2.2.2.2.1 s.2.2.2.2.2.1 s.2.2.2.2.2.2).trans ?_
  rw [e2, e3]
theorem qv1_ (x : As [.sl (.pr (.int .i64) LAT7), .int .i64, .int .i64]) : evT Tryz.prog q1a_ 6 18446744073709551616 (Ev.get q13_) 99 qd_ x = model_each_ur x := by
  have e1 : (fun at' many left t19 t20 t21 met => (jfn Tryz.prog q1a_ 6 18446744073709551616 (Ev.get q13_) 99 qd_) 122 [] (q1c_ at' many left t19 t20 t21 met)) = q87_ := by funext at' many left t19 t20 t21 met; exact quc_ at' many left t19 t20 t21 met
  rw [rfn_eq, qtr_, e1]
  rfl
theorem qaz_ : CtOk Tryz.prog (fun _ => True) 99 ⟨qd_, model_each_ur⟩ := ct_of_ev (env_cons q1u_ (env_cons q1t_ (env_cons qgo_ (env_cons q1k_ (env_cons q1j_ env_nil))))) qv1_
@[reducible] def qf_ : Sh := ⟨[.d LAT0, .d (.int .i64), .d (.int .i64), .fn (.func 106) [] [.pb 0 0, .pb 1 0]], [.box 3 [.d (.int .i64)], .box 3 [.d (.int .i64)]], [.sl (.pr (.int .i64) LAT7), .int .i64, .int .i64, .int .i64, .int .i64], [.d (.bool)], [(0, .box 3 [.d (.int .i64)]), (1, .box 3 [.d (.int .i64)])], 0, [.bool, .int .i64, .int .i64]⟩
def q14_ : Env := (cts [(100, (⟨qp_, model_table_bool_readable_z1⟩ : Ct)), (101, (⟨qo_, model_table_bool_writable_z1⟩ : Ct)), (102, (⟨q1i_, model_meet⟩ : Ct)), (105, (⟨ql_, model_table_uint16_readable_z1⟩ : Ct)), (106, (⟨qk_, model_table_uint16_writable_z1⟩ : Ct))])
def q19_ : List (Nat × Hint) := [(15, ⟨[], [10]⟩), (122, ⟨[], [1, 2, 3, 9, 10, 19, 20, 21]⟩), (125342, ⟨[], [1, 2, 3, 9, 10, 12, 14, 15, 19, 20, 21]⟩), (501369, ⟨[], [1, 2, 3, 9, 10, 12, 14, 15, 19, 20, 21]⟩)]
def q1d_ (at' many left : Int) (t19 : List LAT3) (t20 t21 o o_2 : Int) (met : List Bool) : St := { fr := [(1, .d (.int .i64) at'), (2, .d (.int .i64) many), (3, .fn (.func 106) [] [.pb 0 0, .pb 1 0]), (9, .row 2), (10, .d (.int .i64) left), (19, .d LAT0 t19), (20, .d (.int .i64) t20), (21, .d (.int .i64) t21)], nt := 62, up := [], own := [(0, .box 3 [.d (.int .i64) o]), (1, .box 3 [.d (.int .i64) o_2]), (2, .row .bool 4 met)], nx := 3, log := [], ln := 2 }
def qaq_ (left o o_2 : Int) : St := { fr := [(10, .d (.int .i64) left)], nt := 62, up := [], own := [(0, .box 3 [.d (.int .i64) o]), (1, .box 3 [.d (.int .i64) o_2])], nx := 2, log := [], ln := 2 }
def q2m_ (at' many left to' i : Int) (t19 : List LAT3) (t20 t21 o o_2 : Int) (met : List Bool) (x : VzA2q0) : St := { fr := [(1, .d (.int .i64) at'), (2, .d (.int .i64) many), (3, .fn (.func 106) [] [.pb 0 0, .pb 1 0]), (9, .row 2), (10, .d (.int .i64) left), (12, .pb 3 0), (14, .d (.int .i64) to'), (15, .d (.int .i64) i), (19, .d LAT0 t19), (20, .d (.int .i64) t20), (21, .d (.int .i64) t21)], nt := 62, up := [], own := [(0, .box 3 [.d (.int .i64) o]), (1, .box 3 [.d (.int .i64) o_2]), (2, .row .bool 4 met), (3, .box 49 [.d (.int .i64) x.1, .d (.int .i64) x.2.1, .d .bool x.2.2.1, .d .bool x.2.2.2.1, .d .bool x.2.2.2.2])], nx := 4, log := [], ln := 2 }
def qar_ (at' many left to' i : Int) (t19 : List LAT3) (t20 t21 o o_2 : Int) (met : List Bool) (x : VzA2q0) : St := { fr := [(1, .d (.int .i64) at'), (2, .d (.int .i64) many), (3, .fn (.func 106) [] [.pb 0 0, .pb 1 0]), (9, .row 2), (10, .d (.int .i64) left), (12, .pb 3 0), (14, .d (.int .i64) to'), (15, .d (.int .i64) i), (19, .d LAT0 t19), (20, .d (.int .i64) t20), (21, .d (.int .i64) t21)], nt := 62, up := [], own := [(0, .box 3 [.d (.int .i64) o]), (1, .box 3 [.d (.int .i64) o_2]), (2, .row .bool 4 met), (3, .box 49 [.d (.int .i64) x.1, .d (.int .i64) x.2.1, .d .bool x.2.2.1, .d .bool x.2.2.2.1, .d .bool x.2.2.2.2])], nx := 4, log := [], ln := 2 }
def q83_ (j2 : Int -> Int -> Int -> Option (As [.bool, .int .i64, .int .i64])) (j3 : Int -> Int -> Int -> Int -> Int -> List LAT3 -> Int -> Int -> Int -> Int -> List Bool -> VzA2q0 -> Option (As [.bool, .int .i64, .int .i64])) (self1 : Int -> Int -> Int -> List LAT3 -> Int -> Int -> Int -> Int -> List Bool -> Option (As [.bool, .int .i64, .int .i64])) (at' many left : Int) (t19 : List LAT3) (t20 t21 o o_2 : Int) (met : List Bool) : Option (As [.bool, .int .i64, .int .i64]) :=
  if lt t21 t20 = true then Option.bind (at? t19 t21) fun (y : VzA2q0) => if eqi left 0 = true then j2 left o o_2 else Option.bind (model_meet (y, at', add .i64 at' many, ())) fun (y_1 : Int × Int × Unit) => j3 at' many left y_1.2.1 y_1.1 t19 t20 t21 o o_2 met y else j2 left o o_2
def qmy_ (left o o_2 : Int) : Option (As [.bool, .int .i64, .int .i64]) :=
  some (eqi left 0, o, o_2, ())
def q8c_ (j4 : Int -> Int -> Int -> Int -> Int -> List LAT3 -> Int -> Int -> Int -> Int -> List Bool -> VzA2q0 -> Option (As [.bool, .int .i64, .int .i64])) (self1 : Int -> Int -> Int -> List LAT3 -> Int -> Int -> Int -> Int -> List Bool -> Option (As [.bool, .int .i64, .int .i64])) (self3 : Int -> Int -> Int -> Int -> Int -> List LAT3 -> Int -> Int -> Int -> Int -> List Bool -> VzA2q0 -> Option (As [.bool, .int .i64, .int .i64])) (at' many left to' i : Int) (t19 : List LAT3) (t20 t21 o o_2 : Int) (met : List Bool) (x : VzA2q0) : Option (As [.bool, .int .i64, .int .i64]) :=
  if lt i to' = true then Option.bind (at? met (Sx.sub .i64 i at')) fun (x_1 : Bool) => Option.bind (at? met (Sx.sub .i64 i at')) fun (y : Bool) => if y = true then j4 at' many left to' i t19 t20 t21 o o_2 met x else Option.bind (model_table_uint16_writable_z1 (x, o, o_2, ())) fun (y : Bool × Int × Int × Unit) => if (!y.1) = true then some (false, y.2.1, y.2.2.1, ()) else Option.bind (at? met (Sx.sub .i64 i at')) fun (x_2 : Bool) => Option.bind (at? met (Sx.sub .i64 i at')) fun (x_3 : Bool) => j4 at' many (Sx.sub .i64 left 1) to' i t19 t20 t21 y.2.1 y.2.2.1 (List.set met (Int.toNat (Sx.sub .i64 i at')) true) x else self1 at' many left t19 t20 (add .i64 t21 1) o o_2 met
def qgy_ (self1 : Int -> Int -> Int -> List LAT3 -> Int -> Int -> Int -> Int -> List Bool -> Option (As [.bool, .int .i64, .int .i64])) (self3 : Int -> Int -> Int -> Int -> Int -> List LAT3 -> Int -> Int -> Int -> Int -> List Bool -> VzA2q0 -> Option (As [.bool, .int .i64, .int .i64])) (at' many left to' i : Int) (t19 : List LAT3) (t20 t21 o o_2 : Int) (met : List Bool) (x : VzA2q0) : Option (As [.bool, .int .i64, .int .i64]) :=
  self3 at' many left to' (add .i64 i 1) t19 t20 t21 o o_2 met x
def qav_ (j1 : Int -> Int -> Int -> List LAT3 -> Int -> Int -> Int -> Int -> List Bool -> Option (As [.bool, .int .i64, .int .i64])) (areas : List LAT3) (at' many wanted areas_2 : Int) : Option (As [.bool, .int .i64, .int .i64]) :=
  need (ge many 0) (need (Ev.capOk many many) (need (small (Int.toNat many)) (j1 at' many many areas (Int.ofNat (List.length areas)) 0 wanted areas_2 (List.replicate (Int.toNat many) false))))
def q61_ (left o o_2 : Int) : Option (As [.bool, .int .i64, .int .i64]) := qmy_ left o o_2
def q4a_ (u1 : Int -> Int -> Int -> List LAT3 -> Int -> Int -> Int -> Int -> List Bool -> Option (As [.bool, .int .i64, .int .i64])) (u3 : Int -> Int -> Int -> Int -> Int -> List LAT3 -> Int -> Int -> Int -> Int -> List Bool -> VzA2q0 -> Option (As [.bool, .int .i64, .int .i64])) (at' many left to' i : Int) (t19 : List LAT3) (t20 t21 o o_2 : Int) (met : List Bool) (x : VzA2q0) : Option (As [.bool, .int .i64, .int .i64]) := qgy_ u1 u3 at' many left to' i t19 t20 t21 o o_2 met x
def q48_ (u1 : Int -> Int -> Int -> List LAT3 -> Int -> Int -> Int -> Int -> List Bool -> Option (As [.bool, .int .i64, .int .i64])) (at' many left to' i : Int) (t19 : List LAT3) (t20 t21 o o_2 : Int) (met : List Bool) (x : VzA2q0) : Option (As [.bool, .int .i64, .int .i64]) :=
  loopF (fun (self : (Int) × (Int) × (Int) × (Int) × (Int) × (List LAT3) × (Int) × (Int) × (Int) × (Int) × (List Bool) × LAT3 -> Option (As [.bool, .int .i64, .int .i64])) (s : (Int) × (Int) × (Int) × (Int) × (Int) × (List LAT3) × (Int) × (Int) × (Int) × (Int) × (List Bool) × LAT3) => q8c_ (q4a_ u1 (fun at' many left to' i t19 t20 t21 o o_2 met x => self (at', many, left, to', i, t19, t20, t21, o, o_2, met, x))) u1 (fun at' many left to' i t19 t20 t21 o o_2 met x => self (at', many, left, to', i, t19, t20, t21, o, o_2, met, x)) s.1 s.2.1 s.2.2.1 s.2.2.2.1 s.2.2.2.2.1 s.2.2.2.2.2.1 s.2.2.2.2.2.2.1 s.2.2.2.2.2.2.2.1 s.2.2.2.2.2.2.2.2.1 s.2.2.2.2.2.2.2.2.2.1 s.2.2.2.2.2.2.2.2.2.2.1 s.2.2.2.2.2.2.2.2.2.2.2) 18446744073709551616 (at', many, left, to', i, t19, t20, t21, o, o_2, met, x)
def q7r_ (at' many left : Int) (t19 : List LAT3) (t20 t21 o o_2 : Int) (met : List Bool) : Option (As [.bool, .int .i64, .int .i64]) :=
  loopF (fun (self : (Int) × (Int) × (Int) × (List LAT3) × (Int) × (Int) × (Int) × (Int) × (List Bool) -> Option (As [.bool, .int .i64, .int .i64])) (s : (Int) × (Int) × (Int) × (List LAT3) × (Int) × (Int) × (Int) × (Int) × (List Bool)) => q83_ (q61_) (q48_ (fun at' many left t19 t20 t21 o o_2 met => self (at', many, left, t19, t20, t21, o, o_2, met))) (fun at' many left t19 t20 t21 o o_2 met => self (at', many, left, t19, t20, t21, o, o_2, met)) s.1 s.2.1 s.2.2.1 s.2.2.2.1 s.2.2.2.2.1 s.2.2.2.2.2.1 s.2.2.2.2.2.2.1 s.2.2.2.2.2.2.2.1 s.2.2.2.2.2.2.2.2) 18446744073709551616 (at', many, left, t19, t20, t21, o, o_2, met)
def model_each_uw (x : As [.sl (.pr (.int .i64) LAT7), .int .i64, .int .i64, .int .i64, .int .i64]) : Option (As [.bool, .int .i64, .int .i64]) := qav_ q7r_ x.1 x.2.1 x.2.2.1 x.2.2.2.1 x.2.2.2.2.1
theorem qt9_ (J : Orc (As [.bool, .int .i64, .int .i64])) (left o o_2 : Int) : pfn Tryz.prog q14_ 6 18446744073709551616 (Ev.get q19_) 99 qf_ J 15 [] (qaq_ left o o_2) = qmy_ left o o_2 := by kernel_rfl
theorem qtg_ (J : Orc (As [.bool, .int .i64, .int .i64])) (w1 w3 : St -> Option (As [.bool, .int .i64, .int .i64])) (at' many left to' i : Int) (t19 : List LAT3) (t20 t21 o o_2 : Int) (met : List Bool) (x : VzA2q0) : pfn Tryz.prog q14_ 6 18446744073709551616 (Ev.get q19_) 99 qf_ J 501369 [w1, w3] (qar_ at' many left to' i t19 t20 t21 o o_2 met x) = qgy_ (fun at' many left t19 t20 t21 o o_2 met => w1 (q1d_ at' many left t19 t20 t21 o o_2 met)) (fun at' many left to' i t19 t20 t21 o o_2 met x => w3 (q2m_ at' many left to' i t19 t20 t21 o o_2 met x)) at' many left to' i t19 t20 t21 o o_2 met x := by kernel_rfl
theorem qu3_ (J : Orc (As [.bool, .int .i64, .int .i64])) (w1 w3 : St -> Option (As [.bool, .int .i64, .int .i64])) (at' many left to' i : Int) (t19 : List LAT3) (t20 t21 o o_2 : Int) (met : List Bool) (x : VzA2q0) : pfn Tryz.prog q14_ 6 18446744073709551616 (Ev.get q19_) 99 qf_ J 125342 [w1, w3] (q2m_ at' many left to' i t19 t20 t21 o o_2 met x) = q8c_ (fun at' many left to' i t19 t20 t21 o o_2 met x => J 501369 [w1, w3] (qar_ at' many left to' i t19 t20 t21 o o_2 met x)) (fun at' many left t19 t20 t21 o o_2 met => w1 (q1d_ at' many left t19 t20 t21 o o_2 met)) (fun at' many left to' i t19 t20 t21 o o_2 met x => w3 (q2m_ at' many left to' i t19 t20 t21 o o_2 met x)) at' many left to' i t19 t20 t21 o o_2 met x := by kernel_rfl
theorem qu9_ (J : Orc (As [.bool, .int .i64, .int .i64])) (w1 : St -> Option (As [.bool, .int .i64, .int .i64])) (at' many left : Int) (t19 : List LAT3) (t20 t21 o o_2 : Int) (met : List Bool) : pfn Tryz.prog q14_ 6 18446744073709551616 (Ev.get q19_) 99 qf_ J 122 [w1] (q1d_ at' many left t19 t20 t21 o o_2 met) = q83_ (fun left o o_2 => J 15 [] (qaq_ left o o_2)) (fun at' many left to' i t19 t20 t21 o o_2 met x => J 125342 [w1] (q2m_ at' many left to' i t19 t20 t21 o o_2 met x)) (fun at' many left t19 t20 t21 o o_2 met => w1 (q1d_ at' many left t19 t20 t21 o o_2 met)) at' many left t19 t20 t21 o o_2 met := by kernel_rfl
theorem qte_ (J : Orc (As [.bool, .int .i64, .int .i64])) (x : As [.sl (.pr (.int .i64) LAT7), .int .i64, .int .i64, .int .i64, .int .i64]) : rfn Tryz.prog q14_ 6 18446744073709551616 (Ev.get q19_) 99 qf_ J x = qav_ (fun at' many left t19 t20 t21 o o_2 met => J 122 [] (q1d_ at' many left t19 t20 t21 o o_2 met)) x.1 x.2.1 x.2.2.1 x.2.2.2.1 x.2.2.2.2.1 := by kernel_rfl
theorem qta_ (left o o_2 : Int) : jfn Tryz.prog q14_ 6 18446744073709551616 (Ev.get q19_) 99 qf_ 15 [] (qaq_ left o o_2) = q61_ left o o_2 := by
  rw [pfn_eq (by decide)]
  rw [qt9_]
  rfl
theorem qtn_ (w1 w3 : St -> Option (As [.bool, .int .i64, .int .i64])) (at' many left to' i : Int) (t19 : List LAT3) (t20 t21 o o_2 : Int) (met : List Bool) (x : VzA2q0) : jfn Tryz.prog q14_ 6 18446744073709551616 (Ev.get q19_) 99 qf_ 501369 [w1, w3] (qar_ at' many left to' i t19 t20 t21 o o_2 met x) = q4a_ (fun at' many left t19 t20 t21 o o_2 met => w1 (q1d_ at' many left t19 t20 t21 o o_2 met)) (fun at' many left to' i t19 t20 t21 o o_2 met x => w3 (q2m_ at' many left to' i t19 t20 t21 o o_2 met x)) at' many left to' i t19 t20 t21 o o_2 met x := by
  rw [pfn_eq (by decide)]
  rw [qtg_]
  rfl
theorem qtj_ (w1 : St -> Option (As [.bool, .int .i64, .int .i64])) (at' many left to' i : Int) (t19 : List LAT3) (t20 t21 o o_2 : Int) (met : List Bool) (x : VzA2q0) : jfn Tryz.prog q14_ 6 18446744073709551616 (Ev.get q19_) 99 qf_ 125342 [w1] (q2m_ at' many left to' i t19 t20 t21 o o_2 met x) = q48_ (fun at' many left t19 t20 t21 o o_2 met => w1 (q1d_ at' many left t19 t20 t21 o o_2 met)) at' many left to' i t19 t20 t21 o o_2 met x := by
  rw [pfn_eq (by decide)]
  rw [pfn_loop (by kernel_rfl)]
  refine loopF_sim (σ := (Int) × (Int) × (Int) × (Int) × (Int) × (List LAT3) × (Int) × (Int) × (Int) × (Int) × (List Bool) × LAT3) (mk := fun s => q2m_ s.1 s.2.1 s.2.2.1 s.2.2.2.1 s.2.2.2.2.1 s.2.2.2.2.2.1 s.2.2.2.2.2.2.1 s.2.2.2.2.2.2.2.1 s.2.2.2.2.2.2.2.2.1 s.2.2.2.2.2.2.2.2.2.1 s.2.2.2.2.2.2.2.2.2.2.1 s.2.2.2.2.2.2.2.2.2.2.2) (fun w3 s => ?_) 18446744073709551616 (at', many, left, to', i, t19, t20, t21, o, o_2, met, x)
  have e4 : (fun at' many left to' i t19 t20 t21 o o_2 met x => (jfn Tryz.prog q14_ 6 18446744073709551616 (Ev.get q19_) 99 qf_) 501369 [w1, w3] (qar_ at' many left to' i t19 t20 t21 o o_2 met x)) = q4a_ (fun at' many left t19 t20 t21 o o_2 met => w1 (q1d_ at' many left t19 t20 t21 o o_2 met)) (fun at' many left to' i t19 t20 t21 o o_2 met x => w3 (q2m_ at' many left to' i t19 t20 t21 o o_2 met x)) := by funext at' many left to' i t19 t20 t21 o o_2 met x; exact qtn_ w1 w3 at' many left to' i t19 t20 t21 o o_2 met x
  refine (qu3_ _ w1 w3 s.1 s.2.1 s.2.2.1 s.2.2.2.1 s.2.2.2.2.1 s.2.2.2.2.2.1 s.2.2.2.2.2.2.1 s.2.2.2.2.2.2.2.1 s.2.2.2.2.2.2.2.2.1 s.2.2.2.2.2.2.2.2.2.1 s.2.2.2.2.2.2.2.2.2.2.1 s.2.2.2.2.2.2.2.2.2.2.2).trans ?_
  rw [e4]
theorem qu7_ (at' many left : Int) (t19 : List LAT3) (t20 t21 o o_2 : Int) (met : List Bool) : jfn Tryz.prog q14_ 6 18446744073709551616 (Ev.get q19_) 99 qf_ 122 [] (q1d_ at' many left t19 t20 t21 o o_2 met) = q7r_ at' many left t19 t20 t21 o o_2 met := by
  rw [pfn_eq (by decide)]
  rw [pfn_loop (by kernel_rfl)]
  refine loopF_sim (σ := (Int) × (Int) × (Int) × (List LAT3) × (Int) × (Int) × (Int) × (Int) × (List Bool)) (mk := fun s => q1d_ s.1 s.2.1 s.2.2.1 s.2.2.2.1 s.2.2.2.2.1 s.2.2.2.2.2.1 s.2.2.2.2.2.2.1 s.2.2.2.2.2.2.2.1 s.2.2.2.2.2.2.2.2) (fun w1 s => ?_) 18446744073709551616 (at', many, left, t19, t20, t21, o, o_2, met)
  have e2 : (fun left o o_2 => (jfn Tryz.prog q14_ 6 18446744073709551616 (Ev.get q19_) 99 qf_) 15 [] (qaq_ left o o_2)) = q61_ := by funext left o o_2; exact qta_ left o o_2
  have e3 : (fun at' many left to' i t19 t20 t21 o o_2 met x => (jfn Tryz.prog q14_ 6 18446744073709551616 (Ev.get q19_) 99 qf_) 125342 [w1] (q2m_ at' many left to' i t19 t20 t21 o o_2 met x)) = q48_ (fun at' many left t19 t20 t21 o o_2 met => w1 (q1d_ at' many left t19 t20 t21 o o_2 met)) := by funext at' many left to' i t19 t20 t21 o o_2 met x; exact qtj_ w1 at' many left to' i t19 t20 t21 o o_2 met x
  refine (qu9_ _ w1 s.1 s.2.1 s.2.2.1 s.2.2.2.1 s.2.2.2.2.1 s.2.2.2.2.2.1 s.2.2.2.2.2.2.1 s.2.2.2.2.2.2.2.1 s.2.2.2.2.2.2.2.2).trans ?_
  rw [e2, e3]
theorem quh_ (x : As [.sl (.pr (.int .i64) LAT7), .int .i64, .int .i64, .int .i64, .int .i64]) : evT Tryz.prog q14_ 6 18446744073709551616 (Ev.get q19_) 99 qf_ x = model_each_uw x := by
  have e1 : (fun at' many left t19 t20 t21 o o_2 met => (jfn Tryz.prog q14_ 6 18446744073709551616 (Ev.get q19_) 99 qf_) 122 [] (q1d_ at' many left t19 t20 t21 o o_2 met)) = q7r_ := by funext at' many left t19 t20 t21 o o_2 met; exact qu7_ at' many left t19 t20 t21 o o_2 met
  rw [rfn_eq, qte_, e1]
  rfl
theorem qb3_ : CtOk Tryz.prog (fun _ => True) 99 ⟨qf_, model_each_uw⟩ := ct_of_ev (env_cons q1u_ (env_cons q1t_ (env_cons qgo_ (env_cons q1k_ (env_cons q1j_ env_nil))))) quh_
@[reducible] def q3u_ : Sh := ⟨[.d (.pr LAT0 (.sl .bool)), .d (.int .i64), .d (.int .i64)], [], [.pr LAT0 (.sl .bool), .int .i64, .int .i64], [.d (.bool)], [], 0, [.bool]⟩
def qak_ : Env := (cts [(99, (⟨qc_, model_each_br⟩ : Ct)), (99, (⟨qe_, model_each_bw⟩ : Ct)), (99, (⟨qd_, model_each_ur⟩ : Ct)), (99, (⟨qf_, model_each_uw⟩ : Ct)), (100, (⟨qp_, model_table_bool_readable_z1⟩ : Ct))])
def qai_ : List (Nat × Hint) := []
def q9s_ (t : List LAT3 × List Bool) (at' many : Int) : Option (As [.bool]) :=
  Option.bind (model_each_br (t.1, at', many, ())) fun (y : Bool × Unit) => some (y.1, ())
def model_table_bool_readable (x : As [.pr LAT0 (.sl .bool), .int .i64, .int .i64]) : Option (As [.bool]) := q9s_ x.1 x.2.1 x.2.2.1
theorem qj8_ (J : Orc (As [.bool])) (x : As [.pr LAT0 (.sl .bool), .int .i64, .int .i64]) : rfn Tryz.prog qak_ 6 18446744073709551616 (Ev.get qai_) 97 q3u_ J x = q9s_ x.1 x.2.1 x.2.2.1 := by kernel_rfl
theorem qkr_ (x : As [.pr LAT0 (.sl .bool), .int .i64, .int .i64]) : evT Tryz.prog qak_ 6 18446744073709551616 (Ev.get qai_) 97 q3u_ x = model_table_bool_readable x := by
  rw [rfn_eq, qj8_]
  rfl
theorem qjj_ : CtOk Tryz.prog (fun _ => True) 97 ⟨q3u_, model_table_bool_readable⟩ := ct_of_ev (env_cons qb0_ (env_cons qb8_ (env_cons qaz_ (env_cons qb3_ (env_cons q1u_ env_nil))))) qkr_
@[reducible] def q3v_ : Sh := ⟨[.d (.pr LAT0 (.sl .bool)), .d (.int .i64), .d (.int .i64)], [], [.pr LAT0 (.sl .bool), .int .i64, .int .i64], [.d (.bool)], [], 0, [.bool]⟩
def qah_ : Env := (cts [(99, (⟨qc_, model_each_br⟩ : Ct)), (99, (⟨qe_, model_each_bw⟩ : Ct)), (99, (⟨qd_, model_each_ur⟩ : Ct)), (99, (⟨qf_, model_each_uw⟩ : Ct)), (101, (⟨qo_, model_table_bool_writable_z1⟩ : Ct))])
def qal_ : List (Nat × Hint) := []
def qa9_ (t : List LAT3 × List Bool) (at' many : Int) : Option (As [.bool]) :=
  Option.bind (model_each_bw (t.1, at', many, at', many, ())) fun (y : Bool × Int × Int × Unit) => some (y.1, ())
def model_table_bool_writable (x : As [.pr LAT0 (.sl .bool), .int .i64, .int .i64]) : Option (As [.bool]) := qa9_ x.1 x.2.1 x.2.2.1
theorem qj2_ (J : Orc (As [.bool])) (x : As [.pr LAT0 (.sl .bool), .int .i64, .int .i64]) : rfn Tryz.prog qah_ 6 18446744073709551616 (Ev.get qal_) 98 q3v_ J x = qa9_ x.1 x.2.1 x.2.2.1 := by kernel_rfl
theorem qkj_ (x : As [.pr LAT0 (.sl .bool), .int .i64, .int .i64]) : evT Tryz.prog qah_ 6 18446744073709551616 (Ev.get qal_) 98 q3v_ x = model_table_bool_writable x := by
  rw [rfn_eq, qj2_]
  rfl
theorem qj4_ : CtOk Tryz.prog (fun _ => True) 98 ⟨q3v_, model_table_bool_writable⟩ := ct_of_ev (env_cons qb0_ (env_cons qb8_ (env_cons qaz_ (env_cons qb3_ (env_cons q1t_ env_nil))))) qkj_
@[reducible] def q3a_ : Sh := ⟨[.d (.pr LAT0 (.sl (.int .u16))), .d (.int .i64), .d (.int .i64)], [], [.pr LAT0 (.sl (.int .u16)), .int .i64, .int .i64], [.d (.bool)], [], 0, [.bool]⟩
def q9m_ : Env := (cts [(99, (⟨qc_, model_each_br⟩ : Ct)), (99, (⟨qe_, model_each_bw⟩ : Ct)), (99, (⟨qd_, model_each_ur⟩ : Ct)), (99, (⟨qf_, model_each_uw⟩ : Ct)), (105, (⟨ql_, model_table_uint16_readable_z1⟩ : Ct))])
def q9n_ : List (Nat × Hint) := []
def q9b_ (t : List LAT3 × List Int) (at' many : Int) : Option (As [.bool]) :=
  Option.bind (model_each_ur (t.1, at', many, ())) fun (y : Bool × Unit) => some (y.1, ())
def model_table_uint16_readable (x : As [.pr LAT0 (.sl (.int .u16)), .int .i64, .int .i64]) : Option (As [.bool]) := q9b_ x.1 x.2.1 x.2.2.1
theorem qik_ (J : Orc (As [.bool])) (x : As [.pr LAT0 (.sl (.int .u16)), .int .i64, .int .i64]) : rfn Tryz.prog q9m_ 6 18446744073709551616 (Ev.get q9n_) 103 q3a_ J x = q9b_ x.1 x.2.1 x.2.2.1 := by kernel_rfl
theorem qis_ (x : As [.pr LAT0 (.sl (.int .u16)), .int .i64, .int .i64]) : evT Tryz.prog q9m_ 6 18446744073709551616 (Ev.get q9n_) 103 q3a_ x = model_table_uint16_readable x := by
  rw [rfn_eq, qik_]
  rfl
theorem qhl_ : CtOk Tryz.prog (fun _ => True) 103 ⟨q3a_, model_table_uint16_readable⟩ := ct_of_ev (env_cons qb0_ (env_cons qb8_ (env_cons qaz_ (env_cons qb3_ (env_cons q1k_ env_nil))))) qis_
@[reducible] def q3b_ : Sh := ⟨[.d (.pr LAT0 (.sl (.int .u16))), .d (.int .i64), .d (.int .i64)], [], [.pr LAT0 (.sl (.int .u16)), .int .i64, .int .i64], [.d (.bool)], [], 0, [.bool]⟩
def q9o_ : Env := (cts [(99, (⟨qc_, model_each_br⟩ : Ct)), (99, (⟨qe_, model_each_bw⟩ : Ct)), (99, (⟨qd_, model_each_ur⟩ : Ct)), (99, (⟨qf_, model_each_uw⟩ : Ct)), (106, (⟨qk_, model_table_uint16_writable_z1⟩ : Ct))])
def q9l_ : List (Nat × Hint) := []
def q98_ (t : List LAT3 × List Int) (at' many : Int) : Option (As [.bool]) :=
  Option.bind (model_each_uw (t.1, at', many, at', many, ())) fun (y : Bool × Int × Int × Unit) => some (y.1, ())
def model_table_uint16_writable (x : As [.pr LAT0 (.sl (.int .u16)), .int .i64, .int .i64]) : Option (As [.bool]) := q98_ x.1 x.2.1 x.2.2.1
theorem qhu_ (J : Orc (As [.bool])) (x : As [.pr LAT0 (.sl (.int .u16)), .int .i64, .int .i64]) : rfn Tryz.prog q9o_ 6 18446744073709551616 (Ev.get q9l_) 104 q3b_ J x = q98_ x.1 x.2.1 x.2.2.1 := by kernel_rfl
theorem qir_ (x : As [.pr LAT0 (.sl (.int .u16)), .int .i64, .int .i64]) : evT Tryz.prog q9o_ 6 18446744073709551616 (Ev.get q9l_) 104 q3b_ x = model_table_uint16_writable x := by
  rw [rfn_eq, qhu_]
  rfl
theorem qhn_ : CtOk Tryz.prog (fun _ => True) 104 ⟨q3b_, model_table_uint16_writable⟩ := ct_of_ev (env_cons qb0_ (env_cons qb8_ (env_cons qaz_ (env_cons qb3_ (env_cons q1j_ env_nil))))) qir_
@[reducible] def q3j_ : Sh := ⟨[.d (.pr LAT0 (.pr LAT0 (.pr LAT0 LAT0))), .d (.pr (.int .u8) LAT2)], [], [.pr LAT0 (.pr LAT0 (.pr LAT0 LAT0)), .pr (.int .u8) LAT2], [.d (.int .u8)], [], 0, [.int .u8]⟩
def q5g_ : Env := (cts [(43, (⟨q9v_, model_open⟩ : Ct)), (44, (⟨qd7_, model_uses⟩ : Ct)), (45, (⟨q9x_, model_target⟩ : Ct)), (62, (⟨q3l_, ask_Right⟩ : Ct)), (97, (⟨q3u_, model_table_bool_readable⟩ : Ct)), (98, (⟨q3v_, model_table_bool_writable⟩ : Ct)), (103, (⟨q3a_, model_table_uint16_readable⟩ : Ct)), (104, (⟨q3b_, model_table_uint16_writable⟩ : Ct))])
def q5h_ : List (Nat × Hint) := [(509, ⟨[], [60]⟩), (125, ⟨[], [3, 5, 6, 40, 55, 56, 57, 58, 59]⟩)]
def qdp_ (t40 : Bool) (a : Int × Int × Int × Int × List Int × List Bool) (v : (List LAT3 × List Bool) × (List LAT3 × List Bool) × (List LAT3 × List Int) × List LAT3 × List Int) (u : Int × Int) : St := { fr := [(3, .pb 0 0), (5, .pb 1 0), (6, .pb 2 0), (40, .d .bool t40)], nt := 61, up := [], own := [(0, .box 65 [.d (.int .u8) a.1, .d (.int .u16) a.2.1, .d (.int .u16) a.2.2.1, .d (.int .u16) a.2.2.2.1, .d (.sl (.int .u16)) a.2.2.2.2.1, .d (.sl .bool) a.2.2.2.2.2]), (1, .box 98 [.d LAT0 v.1.1, .d (.sl .bool) v.1.2, .d LAT0 v.2.1.1, .d (.sl .bool) v.2.1.2, .d LAT0 v.2.2.1.1, .d (.sl (.int .u16)) v.2.2.1.2, .d LAT0 v.2.2.2.1, .d (.sl (.int .u16)) v.2.2.2.2]), (2, .box 102 [.d (.int .i64) u.1, .d (.int .i64) u.2])], nx := 3, log := [], ln := 0 }
def qdf_ (t60 : Bool) : St := { fr := [(60, .d .bool t60)], nt := 61, up := [], own := [], nx := 0, log := [], ln := 0 }
def qp7_ (j2 : Bool -> Option (As [.int .u8])) (t40 : Bool) (a : Int × Int × Int × Int × List Int × List Bool) (v : (List LAT3 × List Bool) × (List LAT3 × List Bool) × (List LAT3 × List Int) × List LAT3 × List Int) (u : Int × Int) : Option (As [.int .u8]) :=
  if t40 = true then some (2, ()) else Option.bind (model_target (a, ())) fun (y : Int × Int × Unit) => if eqi u.2 1 = true then Option.bind (model_table_bool_writable (v.1, y.1, y.2.1, ())) fun (y : Bool × Unit) => j2 !y.1 else if eqi u.2 2 = true then Option.bind (model_table_bool_writable (v.2.1, y.1, y.2.1, ())) fun (y : Bool × Unit) => j2 !y.1 else if eqi u.2 3 = true then Option.bind (model_table_uint16_writable (v.2.2.1, y.1, y.2.1, ())) fun (y : Bool × Unit) => j2 !y.1 else if eqi u.2 4 = true then Option.bind (model_table_uint16_writable (v.2.2.2, y.1, y.2.1, ())) fun (y : Bool × Unit) => j2 !y.1 else j2 false
def qon_ (t60 : Bool) : Option (As [.int .u8]) :=
  if t60 = true then some (2, ()) else some (0, ())
def qem_ (j1 : Bool -> Int × Int × Int × Int × List Int × List Bool -> (List LAT3 × List Bool) × (List LAT3 × List Bool) × (List LAT3 × List Int) × List LAT3 × List Int -> Int × Int -> Option (As [.int .u8])) (s : List LAT3 × List LAT3 × List LAT3 × List LAT3) (a : Int × Int × Int × Int × List Int × List Bool) : Option (As [.int .u8]) :=
  Option.bind (ask_Right (a, ())) fun (y : Bool × Unit) => if (!y.1) = true then some (3, ()) else Option.bind (model_open (s, ([], [], [], []), ())) fun (y : ((List LAT3 × List Bool) × (List LAT3 × List Bool) × (List LAT3 × List Int) × List LAT3 × List Int) × Unit) => Option.bind (model_uses (a.1, ())) fun (y_1 : (Int × Int) × Unit) => if eqi y_1.1.1 1 = true then Option.bind (model_table_bool_readable (y.1.1, cvt .i64 a.2.1, cvt .i64 a.2.2.1, ())) fun (y_2 : Bool × Unit) => j1 (!y_2.1) a y.1 y_1.1 else if eqi y_1.1.1 2 = true then Option.bind (model_table_bool_readable (y.1.2.1, cvt .i64 a.2.1, cvt .i64 a.2.2.1, ())) fun (y_2 : Bool × Unit) => j1 (!y_2.1) a y.1 y_1.1 else if eqi y_1.1.1 3 = true then Option.bind (model_table_uint16_readable (y.1.2.2.1, cvt .i64 a.2.1, cvt .i64 a.2.2.1, ())) fun (y_2 : Bool × Unit) => j1 (!y_2.1) a y.1 y_1.1 else if eqi y_1.1.1 4 = true then Option.bind (model_table_uint16_readable (y.1.2.2.2, cvt .i64 a.2.1, cvt .i64 a.2.2.1, ())) fun (y_2 : Bool × Unit) => j1 (!y_2.1) a y.1 y_1.1 else j1 false a y.1 y_1.1
def q2y_ (t60 : Bool) : Option (As [.int .u8]) := qon_ t60
def qz_ (t40 : Bool) (a : Int × Int × Int × Int × List Int × List Bool) (v : (List LAT3 × List Bool) × (List LAT3 × List Bool) × (List LAT3 × List Int) × List LAT3 × List Int) (u : Int × Int) : Option (As [.int .u8]) := qp7_ (q2y_) t40 a v u
def model_Check (x : As [.pr LAT0 (.pr LAT0 (.pr LAT0 LAT0)), .pr (.int .u8) LAT2]) : Option (As [.int .u8]) := qem_ qz_ x.1 x.2.1
theorem qxl_ (J : Orc (As [.int .u8])) (t60 : Bool) : pfn Tryz.prog q5g_ 6 18446744073709551616 (Ev.get q5h_) 41 q3j_ J 509 [] (qdf_ t60) = qon_ t60 := by kernel_rfl
theorem qyk_ (J : Orc (As [.int .u8])) (t40 : Bool) (a : Int × Int × Int × Int × List Int × List Bool) (v : (List LAT3 × List Bool) × (List LAT3 × List Bool) × (List LAT3 × List Int) × List LAT3 × List Int) (u : Int × Int) : pfn Tryz.prog q5g_ 6 18446744073709551616 (Ev.get q5h_) 41 q3j_ J 125 [] (qdp_ t40 a v u) = qp7_ (fun t60 => J 509 [] (qdf_ t60)) t40 a v u := by kernel_rfl
theorem qw8_ (J : Orc (As [.int .u8])) (x : As [.pr LAT0 (.pr LAT0 (.pr LAT0 LAT0)), .pr (.int .u8) LAT2]) : rfn Tryz.prog q5g_ 6 18446744073709551616 (Ev.get q5h_) 41 q3j_ J x = qem_ (fun t40 a v u => J 125 [] (qdp_ t40 a v u)) x.1 x.2.1 := by kernel_rfl
theorem qwu_ (t60 : Bool) : jfn Tryz.prog q5g_ 6 18446744073709551616 (Ev.get q5h_) 41 q3j_ 509 [] (qdf_ t60) = q2y_ t60 := by
  rw [pfn_eq (by decide)]
  rw [qxl_]
  rfl
theorem qxe_ (t40 : Bool) (a : Int × Int × Int × Int × List Int × List Bool) (v : (List LAT3 × List Bool) × (List LAT3 × List Bool) × (List LAT3 × List Int) × List LAT3 × List Int) (u : Int × Int) : jfn Tryz.prog q5g_ 6 18446744073709551616 (Ev.get q5h_) 41 q3j_ 125 [] (qdp_ t40 a v u) = qz_ t40 a v u := by
  rw [pfn_eq (by decide)]
  have e2 : (fun t60 => (jfn Tryz.prog q5g_ 6 18446744073709551616 (Ev.get q5h_) 41 q3j_) 509 [] (qdf_ t60)) = q2y_ := funext fun t60 => qwu_ t60
  rw [qyk_, e2]
  rfl
theorem q112_ (x : As [.pr LAT0 (.pr LAT0 (.pr LAT0 LAT0)), .pr (.int .u8) LAT2]) : evT Tryz.prog q5g_ 6 18446744073709551616 (Ev.get q5h_) 41 q3j_ x = model_Check x := by
  have e1 : (fun t40 a v u => (jfn Tryz.prog q5g_ 6 18446744073709551616 (Ev.get q5h_) 41 q3j_) 125 [] (qdp_ t40 a v u)) = qz_ := by funext t40 a v u; exact qxe_ t40 a v u
  rw [rfn_eq, qw8_, e1]
  rfl
theorem qx8_ : CtOk Tryz.prog (fun _ => True) 41 ⟨q3j_, model_Check⟩ := ct_of_ev (env_cons qlg_ (env_cons qqx_ (env_cons qnn_ (env_cons qmk_ (env_cons qjj_ (env_cons qj4_ (env_cons qhl_ (env_cons qhn_ env_nil)))))))) q112_
@[reducible] def q8_ : Sh := ⟨[.d (.pr LAT0 (.sl .bool)), .d (.bool)], [], [.pr LAT0 (.sl .bool), .bool], [.d (.bool)], [], 0, [.bool]⟩
def qh_ : Env := (cts [])
def qi_ : List (Nat × Hint) := [(122, ⟨[], [1, 2, 5, 13, 14, 15, 24, 25, 26, 27, 28, 29, 32, 33, 34, 37, 38, 39, 40, 41, 42, 43, 44, 45, 49, 50]⟩), (31334, ⟨[.agd 50 .bool], [1, 2, 7, 13, 14, 15, 51]⟩), (15666, ⟨[.agd 25 (.int .i64), .agd 27 (.sl .bool), .agd 28 (.int .i64), .agd 29 .bool, .agd 33 (.int .i64), .agd 34 .bool, .agd 38 (.int .i64), .agd 40 (.sl .bool), .agd 41 (.int .i64), .agd 43 (.int .i64), .agd 44 (.int .i64), .agd 45 .bool], [1, 2, 7, 13, 14, 15, 46]⟩)]
def q9_ (fixed : Bool) (endV : Int) (t13 : List LAT3) (t14 t15 : Int) (t : List LAT3 × List Bool) : St := { fr := [(1, .d .bool fixed), (2, .pb 0 0), (5, .d (.int .i64) endV), (13, .d LAT0 t13), (14, .d (.int .i64) t14), (15, .d (.int .i64) t15)], nt := 58, up := [], own := [(0, .box 94 [.d LAT0 t.1, .d (.sl .bool) t.2])], nx := 1, log := [], ln := 0 }
def q4s_ (fixed : Bool) (t13 : List LAT3) (t14 t15 : Int) (t46 : Bool) (t : List LAT3 × List Bool) (x : VzA2q0) : St := { fr := [(1, .d .bool fixed), (2, .pb 0 0), (7, .pb 1 0), (13, .d LAT0 t13), (14, .d (.int .i64) t14), (15, .d (.int .i64) t15), (46, .d .bool t46)], nt := 58, up := [], own := [(0, .box 94 [.d LAT0 t.1, .d (.sl .bool) t.2]), (1, .box 49 [.d (.int .i64) x.1, .d (.int .i64) x.2.1, .d .bool x.2.2.1, .d .bool x.2.2.2.1, .d .bool x.2.2.2.2])], nx := 2, log := [], ln := 0 }
def q4q_ (fixed : Bool) (t13 : List LAT3) (t14 t15 : Int) (t51 : Bool) (t : List LAT3 × List Bool) (x : VzA2q0) : St := { fr := [(1, .d .bool fixed), (2, .pb 0 0), (7, .pb 1 0), (13, .d LAT0 t13), (14, .d (.int .i64) t14), (15, .d (.int .i64) t15), (51, .d .bool t51)], nt := 58, up := [], own := [(0, .box 94 [.d LAT0 t.1, .d (.sl .bool) t.2]), (1, .box 49 [.d (.int .i64) x.1, .d (.int .i64) x.2.1, .d .bool x.2.2.1, .d .bool x.2.2.2.1, .d .bool x.2.2.2.2])], nx := 2, log := [], ln := 0 }
def q4u_ (j2 : Bool -> List LAT3 -> Int -> Int -> Bool -> List LAT3 × List Bool -> VzA2q0 -> Option (As [.bool])) (self1 : Bool -> Int -> List LAT3 -> Int -> Int -> List LAT3 × List Bool -> Option (As [.bool])) (fixed : Bool) (endV : Int) (t13 : List LAT3) (t14 t15 : Int) (t : List LAT3 × List Bool) : Option (As [.bool]) :=
  if lt t15 t14 = true then Option.bind (at? t13 t15) fun (y : VzA2q0) => if lt y.1 endV = true then j2 fixed t13 t14 t15 true t y else if gt y.1 (Int.ofNat (List.length t.2)) = true then j2 fixed t13 t14 t15 true t y else if lt y.2.1 1 = true then j2 fixed t13 t14 t15 true t y else j2 fixed t13 t14 t15 (gt y.2.1 (Sx.sub .i64 (Int.ofNat (List.length t.2)) y.1)) t y else some (true, ())
def qc9_ (j3 : Bool -> List LAT3 -> Int -> Int -> Bool -> List LAT3 × List Bool -> VzA2q0 -> Option (As [.bool])) (self1 : Bool -> Int -> List LAT3 -> Int -> Int -> List LAT3 × List Bool -> Option (As [.bool])) (fixed : Bool) (t13 : List LAT3) (t14 t15 : Int) (t46 : Bool) (t : List LAT3 × List Bool) (x : VzA2q0) : Option (As [.bool]) :=
  if t46 = true then some (false, ()) else if fixed = true then j3 fixed t13 t14 t15 x.2.2.2.1 t x else j3 fixed t13 t14 t15 false t x
def qcc_ (self1 : Bool -> Int -> List LAT3 -> Int -> Int -> List LAT3 × List Bool -> Option (As [.bool])) (fixed : Bool) (t13 : List LAT3) (t14 t15 : Int) (t51 : Bool) (t : List LAT3 × List Bool) (x : VzA2q0) : Option (As [.bool]) :=
  if t51 = true then some (false, ()) else self1 fixed (add .i64 x.1 x.2.1) t13 t14 (add .i64 t15 1) t
def q4r_ (j1 : Bool -> Int -> List LAT3 -> Int -> Int -> List LAT3 × List Bool -> Option (As [.bool])) (t : List LAT3 × List Bool) (fixed : Bool) : Option (As [.bool]) :=
  if gt (Int.ofNat (List.length t.2)) 65536 = true then some (false, ()) else j1 fixed 0 t.1 (Int.ofNat (List.length t.1)) 0 t
def q6x_ (u1 : Bool -> Int -> List LAT3 -> Int -> Int -> List LAT3 × List Bool -> Option (As [.bool])) (fixed : Bool) (t13 : List LAT3) (t14 t15 : Int) (t51 : Bool) (t : List LAT3 × List Bool) (x : VzA2q0) : Option (As [.bool]) := qcc_ u1 fixed t13 t14 t15 t51 t x
def q32_ (u1 : Bool -> Int -> List LAT3 -> Int -> Int -> List LAT3 × List Bool -> Option (As [.bool])) (fixed : Bool) (t13 : List LAT3) (t14 t15 : Int) (t46 : Bool) (t : List LAT3 × List Bool) (x : VzA2q0) : Option (As [.bool]) := qc9_ (q6x_ u1) u1 fixed t13 t14 t15 t46 t x
def q36_ (fixed : Bool) (endV : Int) (t13 : List LAT3) (t14 t15 : Int) (t : List LAT3 × List Bool) : Option (As [.bool]) :=
  loopF (fun (self : (Bool) × (Int) × (List LAT3) × (Int) × (Int) × (List LAT3 × List Bool) -> Option (As [.bool])) (s : (Bool) × (Int) × (List LAT3) × (Int) × (Int) × (List LAT3 × List Bool)) => q4u_ (q32_ (fun fixed endV t13 t14 t15 t => self (fixed, endV, t13, t14, t15, t))) (fun fixed endV t13 t14 t15 t => self (fixed, endV, t13, t14, t15, t)) s.1 s.2.1 s.2.2.1 s.2.2.2.1 s.2.2.2.2.1 s.2.2.2.2.2) 18446744073709551616 (fixed, endV, t13, t14, t15, t)
def model_table_bool_right (x : As [.pr LAT0 (.sl .bool), .bool]) : Option (As [.bool]) := q4r_ q36_ x.1 x.2.1
theorem qlx_ (J : Orc (As [.bool])) (w1 : St -> Option (As [.bool])) (fixed : Bool) (t13 : List LAT3) (t14 t15 : Int) (t51 : Bool) (t : List LAT3 × List Bool) (x : VzA2q0) : pfn Tryz.prog qh_ 6 18446744073709551616 (Ev.get qi_) 64 q8_ J 31334 [w1] (q4q_ fixed t13 t14 t15 t51 t x) = qcc_ (fun fixed endV t13 t14 t15 t => w1 (q9_ fixed endV t13 t14 t15 t)) fixed t13 t14 t15 t51 t x := by kernel_rfl
theorem qlt_ (J : Orc (As [.bool])) (w1 : St -> Option (As [.bool])) (fixed : Bool) (t13 : List LAT3) (t14 t15 : Int) (t46 : Bool) (t : List LAT3 × List Bool) (x : VzA2q0) : pfn Tryz.prog qh_ 6 18446744073709551616 (Ev.get qi_) 64 q8_ J 15666 [w1] (q4s_ fixed t13 t14 t15 t46 t x) = qc9_ (fun fixed t13 t14 t15 t51 t x => J 31334 [w1] (q4q_ fixed t13 t14 t15 t51 t x)) (fun fixed endV t13 t14 t15 t => w1 (q9_ fixed endV t13 t14 t15 t)) fixed t13 t14 t15 t46 t x := by kernel_rfl
theorem qm5_ (J : Orc (As [.bool])) (w1 : St -> Option (As [.bool])) (fixed : Bool) (endV : Int) (t13 : List LAT3) (t14 t15 : Int) (t : List LAT3 × List Bool) : pfn Tryz.prog qh_ 6 18446744073709551616 (Ev.get qi_) 64 q8_ J 122 [w1] (q9_ fixed endV t13 t14 t15 t) = q4u_ (fun fixed t13 t14 t15 t46 t x => J 15666 [w1] (q4s_ fixed t13 t14 t15 t46 t x)) (fun fixed endV t13 t14 t15 t => w1 (q9_ fixed endV t13 t14 t15 t)) fixed endV t13 t14 t15 t := by kernel_rfl
theorem qm4_ (J : Orc (As [.bool])) (x : As [.pr LAT0 (.sl .bool), .bool]) : rfn Tryz.prog qh_ 6 18446744073709551616 (Ev.get qi_) 64 q8_ J x = q4r_ (fun fixed endV t13 t14 t15 t => J 122 [] (q9_ fixed endV t13 t14 t15 t)) x.1 x.2.1 := by kernel_rfl
theorem qlu_ (w1 : St -> Option (As [.bool])) (fixed : Bool) (t13 : List LAT3) (t14 t15 : Int) (t51 : Bool) (t : List LAT3 × List Bool) (x : VzA2q0) : jfn Tryz.prog qh_ 6 18446744073709551616 (Ev.get qi_) 64 q8_ 31334 [w1] (q4q_ fixed t13 t14 t15 t51 t x) = q6x_ (fun fixed endV t13 t14 t15 t => w1 (q9_ fixed endV t13 t14 t15 t)) fixed t13 t14 t15 t51 t x := by
  rw [pfn_eq (by decide)]
  rw [qlx_]
  rfl
theorem qm1_ (w1 : St -> Option (As [.bool])) (fixed : Bool) (t13 : List LAT3) (t14 t15 : Int) (t46 : Bool) (t : List LAT3 × List Bool) (x : VzA2q0) : jfn Tryz.prog qh_ 6 18446744073709551616 (Ev.get qi_) 64 q8_ 15666 [w1] (q4s_ fixed t13 t14 t15 t46 t x) = q32_ (fun fixed endV t13 t14 t15 t => w1 (q9_ fixed endV t13 t14 t15 t)) fixed t13 t14 t15 t46 t x := by
  rw [pfn_eq (by decide)]
  have e3 : (fun fixed t13 t14 t15 t51 t x => (jfn Tryz.prog qh_ 6 18446744073709551616 (Ev.get qi_) 64 q8_) 31334 [w1] (q4q_ fixed t13 t14 t15 t51 t x)) = q6x_ (fun fixed endV t13 t14 t15 t => w1 (q9_ fixed endV t13 t14 t15 t)) := by funext fixed t13 t14 t15 t51 t x; exact qlu_ w1 fixed t13 t14 t15 t51 t x
  rw [qlt_, e3]
  rfl
theorem qlw_ (fixed : Bool) (endV : Int) (t13 : List LAT3) (t14 t15 : Int) (t : List LAT3 × List Bool) : jfn Tryz.prog qh_ 6 18446744073709551616 (Ev.get qi_) 64 q8_ 122 [] (q9_ fixed endV t13 t14 t15 t) = q36_ fixed endV t13 t14 t15 t := by
  rw [pfn_eq (by decide)]
  rw [pfn_loop (by kernel_rfl)]
  refine loopF_sim (σ := (Bool) × (Int) × (List LAT3) × (Int) × (Int) × (List LAT3 × List Bool)) (mk := fun s => q9_ s.1 s.2.1 s.2.2.1 s.2.2.2.1 s.2.2.2.2.1 s.2.2.2.2.2) (fun w1 s => ?_) 18446744073709551616 (fixed, endV, t13, t14, t15, t)
  have e2 : (fun fixed t13 t14 t15 t46 t x => (jfn Tryz.prog qh_ 6 18446744073709551616 (Ev.get qi_) 64 q8_) 15666 [w1] (q4s_ fixed t13 t14 t15 t46 t x)) = q32_ (fun fixed endV t13 t14 t15 t => w1 (q9_ fixed endV t13 t14 t15 t)) := by funext fixed t13 t14 t15 t46 t x; exact qm1_ w1 fixed t13 t14 t15 t46 t x
  refine (qm5_ _ w1 s.1 s.2.1 s.2.2.1 s.2.2.2.1 s.2.2.2.2.1 s.2.2.2.2.2).trans ?_
  rw [e2]
theorem qmd_ (x : As [.pr LAT0 (.sl .bool), .bool]) : evT Tryz.prog qh_ 6 18446744073709551616 (Ev.get qi_) 64 q8_ x = model_table_bool_right x := by
  have e1 : (fun fixed endV t13 t14 t15 t => (jfn Tryz.prog qh_ 6 18446744073709551616 (Ev.get qi_) 64 q8_) 122 [] (q9_ fixed endV t13 t14 t15 t)) = q36_ := by funext fixed endV t13 t14 t15 t; exact qlw_ fixed endV t13 t14 t15 t
  rw [rfn_eq, qm4_, e1]
  rfl
theorem qm0_ : CtOk Tryz.prog (fun _ => True) 64 ⟨q8_, model_table_bool_right⟩ := ct_of_ev env_nil qmd_
@[reducible] def q6_ : Sh := ⟨[.d (.pr LAT0 (.sl (.int .u16))), .d (.bool)], [], [.pr LAT0 (.sl (.int .u16)), .bool], [.d (.bool)], [], 0, [.bool]⟩
def qa_ : Env := (cts [])
def qb_ : List (Nat × Hint) := [(122, ⟨[], [1, 2, 5, 13, 14, 15, 24, 25, 26, 27, 28, 29, 32, 33, 34, 37, 38, 39, 40, 41, 42, 43, 44, 45, 49, 50]⟩), (31334, ⟨[.agd 50 .bool], [1, 2, 7, 13, 14, 15, 51]⟩), (15666, ⟨[.agd 25 (.int .i64), .agd 27 (.sl (.int .u16)), .agd 28 (.int .i64), .agd 29 .bool, .agd 33 (.int .i64), .agd 34 .bool, .agd 38 (.int .i64), .agd 40 (.sl (.int .u16)), .agd 41 (.int .i64), .agd 43 (.int .i64), .agd 44 (.int .i64), .agd 45 .bool], [1, 2, 7, 13, 14, 15, 46]⟩)]
def q7_ (fixed : Bool) (endV : Int) (t13 : List LAT3) (t14 t15 : Int) (t : List LAT3 × List Int) : St := { fr := [(1, .d .bool fixed), (2, .pb 0 0), (5, .d (.int .i64) endV), (13, .d LAT0 t13), (14, .d (.int .i64) t14), (15, .d (.int .i64) t15)], nt := 58, up := [], own := [(0, .box 96 [.d LAT0 t.1, .d (.sl (.int .u16)) t.2])], nx := 1, log := [], ln := 0 }
def q3x_ (fixed : Bool) (t13 : List LAT3) (t14 t15 : Int) (t46 : Bool) (t : List LAT3 × List Int) (x : VzA2q0) : St := { fr := [(1, .d .bool fixed), (2, .pb 0 0), (7, .pb 1 0), (13, .d LAT0 t13), (14, .d (.int .i64) t14), (15, .d (.int .i64) t15), (46, .d .bool t46)], nt := 58, up := [], own := [(0, .box 96 [.d LAT0 t.1, .d (.sl (.int .u16)) t.2]), (1, .box 49 [.d (.int .i64) x.1, .d (.int .i64) x.2.1, .d .bool x.2.2.1, .d .bool x.2.2.2.1, .d .bool x.2.2.2.2])], nx := 2, log := [], ln := 0 }
def q3w_ (fixed : Bool) (t13 : List LAT3) (t14 t15 : Int) (t51 : Bool) (t : List LAT3 × List Int) (x : VzA2q0) : St := { fr := [(1, .d .bool fixed), (2, .pb 0 0), (7, .pb 1 0), (13, .d LAT0 t13), (14, .d (.int .i64) t14), (15, .d (.int .i64) t15), (51, .d .bool t51)], nt := 58, up := [], own := [(0, .box 96 [.d LAT0 t.1, .d (.sl (.int .u16)) t.2]), (1, .box 49 [.d (.int .i64) x.1, .d (.int .i64) x.2.1, .d .bool x.2.2.1, .d .bool x.2.2.2.1, .d .bool x.2.2.2.2])], nx := 2, log := [], ln := 0 }
def q2e_ (j2 : Bool -> List LAT3 -> Int -> Int -> Bool -> List LAT3 × List Int -> VzA2q0 -> Option (As [.bool])) (self1 : Bool -> Int -> List LAT3 -> Int -> Int -> List LAT3 × List Int -> Option (As [.bool])) (fixed : Bool) (endV : Int) (t13 : List LAT3) (t14 t15 : Int) (t : List LAT3 × List Int) : Option (As [.bool]) :=
  if lt t15 t14 = true then Option.bind (at? t13 t15) fun (y : VzA2q0) => if lt y.1 endV = true then j2 fixed t13 t14 t15 true t y else if gt y.1 (Int.ofNat (List.length t.2)) = true then j2 fixed t13 t14 t15 true t y else if lt y.2.1 1 = true then j2 fixed t13 t14 t15 true t y else j2 fixed t13 t14 t15 (gt y.2.1 (Sx.sub .i64 (Int.ofNat (List.length t.2)) y.1)) t y else some (true, ())
def qaj_ (j3 : Bool -> List LAT3 -> Int -> Int -> Bool -> List LAT3 × List Int -> VzA2q0 -> Option (As [.bool])) (self1 : Bool -> Int -> List LAT3 -> Int -> Int -> List LAT3 × List Int -> Option (As [.bool])) (fixed : Bool) (t13 : List LAT3) (t14 t15 : Int) (t46 : Bool) (t : List LAT3 × List Int) (x : VzA2q0) : Option (As [.bool]) :=
  if t46 = true then some (false, ()) else if fixed = true then j3 fixed t13 t14 t15 x.2.2.2.1 t x else j3 fixed t13 t14 t15 false t x
def qao_ (self1 : Bool -> Int -> List LAT3 -> Int -> Int -> List LAT3 × List Int -> Option (As [.bool])) (fixed : Bool) (t13 : List LAT3) (t14 t15 : Int) (t51 : Bool) (t : List LAT3 × List Int) (x : VzA2q0) : Option (As [.bool]) :=
  if t51 = true then some (false, ()) else self1 fixed (add .i64 x.1 x.2.1) t13 t14 (add .i64 t15 1) t
def q1r_ (j1 : Bool -> Int -> List LAT3 -> Int -> Int -> List LAT3 × List Int -> Option (As [.bool])) (t : List LAT3 × List Int) (fixed : Bool) : Option (As [.bool]) :=
  if gt (Int.ofNat (List.length t.2)) 65536 = true then some (false, ()) else j1 fixed 0 t.1 (Int.ofNat (List.length t.1)) 0 t
def q6c_ (u1 : Bool -> Int -> List LAT3 -> Int -> Int -> List LAT3 × List Int -> Option (As [.bool])) (fixed : Bool) (t13 : List LAT3) (t14 t15 : Int) (t51 : Bool) (t : List LAT3 × List Int) (x : VzA2q0) : Option (As [.bool]) := qao_ u1 fixed t13 t14 t15 t51 t x
def q2f_ (u1 : Bool -> Int -> List LAT3 -> Int -> Int -> List LAT3 × List Int -> Option (As [.bool])) (fixed : Bool) (t13 : List LAT3) (t14 t15 : Int) (t46 : Bool) (t : List LAT3 × List Int) (x : VzA2q0) : Option (As [.bool]) := qaj_ (q6c_ u1) u1 fixed t13 t14 t15 t46 t x
def q1q_ (fixed : Bool) (endV : Int) (t13 : List LAT3) (t14 t15 : Int) (t : List LAT3 × List Int) : Option (As [.bool]) :=
  loopF (fun (self : (Bool) × (Int) × (List LAT3) × (Int) × (Int) × (List LAT3 × List Int) -> Option (As [.bool])) (s : (Bool) × (Int) × (List LAT3) × (Int) × (Int) × (List LAT3 × List Int)) => q2e_ (q2f_ (fun fixed endV t13 t14 t15 t => self (fixed, endV, t13, t14, t15, t))) (fun fixed endV t13 t14 t15 t => self (fixed, endV, t13, t14, t15, t)) s.1 s.2.1 s.2.2.1 s.2.2.2.1 s.2.2.2.2.1 s.2.2.2.2.2) 18446744073709551616 (fixed, endV, t13, t14, t15, t)
def model_table_uint16_right (x : As [.pr LAT0 (.sl (.int .u16)), .bool]) : Option (As [.bool]) := q1r_ q1q_ x.1 x.2.1
theorem ql0_ (J : Orc (As [.bool])) (w1 : St -> Option (As [.bool])) (fixed : Bool) (t13 : List LAT3) (t14 t15 : Int) (t51 : Bool) (t : List LAT3 × List Int) (x : VzA2q0) : pfn Tryz.prog qa_ 6 18446744073709551616 (Ev.get qb_) 65 q6_ J 31334 [w1] (q3w_ fixed t13 t14 t15 t51 t x) = qao_ (fun fixed endV t13 t14 t15 t => w1 (q7_ fixed endV t13 t14 t15 t)) fixed t13 t14 t15 t51 t x := by kernel_rfl
theorem qky_ (J : Orc (As [.bool])) (w1 : St -> Option (As [.bool])) (fixed : Bool) (t13 : List LAT3) (t14 t15 : Int) (t46 : Bool) (t : List LAT3 × List Int) (x : VzA2q0) : pfn Tryz.prog qa_ 6 18446744073709551616 (Ev.get qb_) 65 q6_ J 15666 [w1] (q3x_ fixed t13 t14 t15 t46 t x) = qaj_ (fun fixed t13 t14 t15 t51 t x => J 31334 [w1] (q3w_ fixed t13 t14 t15 t51 t x)) (fun fixed endV t13 t14 t15 t => w1 (q7_ fixed endV t13 t14 t15 t)) fixed t13 t14 t15 t46 t x := by kernel_rfl
theorem qku_ (J : Orc (As [.bool])) (w1 : St -> Option (As [.bool])) (fixed : Bool) (endV : Int) (t13 : List LAT3) (t14 t15 : Int) (t : List LAT3 × List Int) : pfn Tryz.prog qa_ 6 18446744073709551616 (Ev.get qb_) 65 q6_ J 122 [w1] (q7_ fixed endV t13 t14 t15 t) = q2e_ (fun fixed t13 t14 t15 t46 t x => J 15666 [w1] (q3x_ fixed t13 t14 t15 t46 t x)) (fun fixed endV t13 t14 t15 t => w1 (q7_ fixed endV t13 t14 t15 t)) fixed endV t13 t14 t15 t := by kernel_rfl
theorem qkt_ (J : Orc (As [.bool])) (x : As [.pr LAT0 (.sl (.int .u16)), .bool]) : rfn Tryz.prog qa_ 6 18446744073709551616 (Ev.get qb_) 65 q6_ J x = q1r_ (fun fixed endV t13 t14 t15 t => J 122 [] (q7_ fixed endV t13 t14 t15 t)) x.1 x.2.1 := by kernel_rfl
theorem qko_ (w1 : St -> Option (As [.bool])) (fixed : Bool) (t13 : List LAT3) (t14 t15 : Int) (t51 : Bool) (t : List LAT3 × List Int) (x : VzA2q0) : jfn Tryz.prog qa_ 6 18446744073709551616 (Ev.get qb_) 65 q6_ 31334 [w1] (q3w_ fixed t13 t14 t15 t51 t x) = q6c_ (fun fixed endV t13 t14 t15 t => w1 (q7_ fixed endV t13 t14 t15 t)) fixed t13 t14 t15 t51 t x := by
  rw [pfn_eq (by decide)]
  rw [ql0_]
  rfl
theorem qkq_ (w1 : St -> Option (As [.bool])) (fixed : Bool) (t13 : List LAT3) (t14 t15 : Int) (t46 : Bool) (t : List LAT3 × List Int) (x : VzA2q0) : jfn Tryz.prog qa_ 6 18446744073709551616 (Ev.get qb_) 65 q6_ 15666 [w1] (q3x_ fixed t13 t14 t15 t46 t x) = q2f_ (fun fixed endV t13 t14 t15 t => w1 (q7_ fixed endV t13 t14 t15 t)) fixed t13 t14 t15 t46 t x := by
  rw [pfn_eq (by decide)]
  have e3 : (fun fixed t13 t14 t15 t51 t x => (jfn Tryz.prog qa_ 6 18446744073709551616 (Ev.get qb_) 65 q6_) 31334 [w1] (q3w_ fixed t13 t14 t15 t51 t x)) = q6c_ (fun fixed endV t13 t14 t15 t => w1 (q7_ fixed endV t13 t14 t15 t)) := by funext fixed t13 t14 t15 t51 t x; exact qko_ w1 fixed t13 t14 t15 t51 t x
  rw [qky_, e3]
  rfl
theorem qkk_ (fixed : Bool) (endV : Int) (t13 : List LAT3) (t14 t15 : Int) (t : List LAT3 × List Int) : jfn Tryz.prog qa_ 6 18446744073709551616 (Ev.get qb_) 65 q6_ 122 [] (q7_ fixed endV t13 t14 t15 t) = q1q_ fixed endV t13 t14 t15 t := by
  rw [pfn_eq (by decide)]
  rw [pfn_loop (by kernel_rfl)]
  refine loopF_sim (σ := (Bool) × (Int) × (List LAT3) × (Int) × (Int) × (List LAT3 × List Int)) (mk := fun s => q7_ s.1 s.2.1 s.2.2.1 s.2.2.2.1 s.2.2.2.2.1 s.2.2.2.2.2) (fun w1 s => ?_) 18446744073709551616 (fixed, endV, t13, t14, t15, t)
  have e2 : (fun fixed t13 t14 t15 t46 t x => (jfn Tryz.prog qa_ 6 18446744073709551616 (Ev.get qb_) 65 q6_) 15666 [w1] (q3x_ fixed t13 t14 t15 t46 t x)) = q2f_ (fun fixed endV t13 t14 t15 t => w1 (q7_ fixed endV t13 t14 t15 t)) := by funext fixed t13 t14 t15 t46 t x; exact qkq_ w1 fixed t13 t14 t15 t46 t x
  refine (qku_ _ w1 s.1 s.2.1 s.2.2.1 s.2.2.2.1 s.2.2.2.2.1 s.2.2.2.2.2).trans ?_
  rw [e2]
theorem qla_ (x : As [.pr LAT0 (.sl (.int .u16)), .bool]) : evT Tryz.prog qa_ 6 18446744073709551616 (Ev.get qb_) 65 q6_ x = model_table_uint16_right x := by
  have e1 : (fun fixed endV t13 t14 t15 t => (jfn Tryz.prog qa_ 6 18446744073709551616 (Ev.get qb_) 65 q6_) 122 [] (q7_ fixed endV t13 t14 t15 t)) = q1q_ := by funext fixed endV t13 t14 t15 t; exact qkk_ fixed endV t13 t14 t15 t
  rw [rfn_eq, qkt_, e1]
  rfl
theorem qkx_ : CtOk Tryz.prog (fun _ => True) 65 ⟨q6_, model_table_uint16_right⟩ := ct_of_ev env_nil qla_
@[reducible] def qga_ : Sh := ⟨[.d (.pr LAT0 (.pr LAT0 (.pr LAT0 LAT0))), .d (.pr (.sl .bool) LAT4)], [], [.pr LAT0 (.pr LAT0 (.pr LAT0 LAT0)), .pr (.sl .bool) LAT4], [.d (.bool)], [], 0, [.bool]⟩
def qqo_ : Env := (cts [(43, (⟨q9v_, model_open⟩ : Ct)), (64, (⟨q8_, model_table_bool_right⟩ : Ct)), (65, (⟨q6_, model_table_uint16_right⟩ : Ct))])
def qqh_ : List (Nat × Hint) := []
def qe7_ (s : List LAT3 × List LAT3 × List LAT3 × List LAT3) (m : List Bool × List Bool × List Int × List Int) : Option (As [.bool]) :=
  Option.bind (model_open (s, m, ())) fun (y : ((List LAT3 × List Bool) × (List LAT3 × List Bool) × (List LAT3 × List Int) × List LAT3 × List Int) × Unit) => Option.bind (model_table_bool_right (y.1.1, false, ())) fun (y_1 : Bool × Unit) => if y_1.1 = true then Option.bind (model_table_bool_right (y.1.2.1, true, ())) fun (y_2 : Bool × Unit) => if y_2.1 = true then Option.bind (model_table_uint16_right (y.1.2.2.1, false, ())) fun (y_3 : Bool × Unit) => if y_3.1 = true then Option.bind (model_table_uint16_right (y.1.2.2.2, true, ())) fun (y : Bool × Unit) => some (y.1, ()) else some (false, ()) else some (false, ()) else some (false, ())
def model_Right (x : As [.pr LAT0 (.pr LAT0 (.pr LAT0 LAT0)), .pr (.sl .bool) LAT4]) : Option (As [.bool]) := qe7_ x.1 x.2.1
theorem qvu_ (J : Orc (As [.bool])) (x : As [.pr LAT0 (.pr LAT0 (.pr LAT0 LAT0)), .pr (.sl .bool) LAT4]) : rfn Tryz.prog qqo_ 6 18446744073709551616 (Ev.get qqh_) 42 qga_ J x = qe7_ x.1 x.2.1 := by kernel_rfl
theorem qyv_ (x : As [.pr LAT0 (.pr LAT0 (.pr LAT0 LAT0)), .pr (.sl .bool) LAT4]) : evT Tryz.prog qqo_ 6 18446744073709551616 (Ev.get qqh_) 42 qga_ x = model_Right x := by
  rw [rfn_eq, qvu_]
  rfl
theorem qw2_ : CtOk Tryz.prog (fun _ => True) 42 ⟨qga_, model_Right⟩ := ct_of_ev (env_cons qlg_ (env_cons qm0_ (env_cons qkx_ env_nil))) qyv_
@[reducible] def q59_ : Sh := ⟨[.d (.pr LAT0 (.sl .bool)), .d (.int .i64), .d (.sl .bool)], [], [.pr LAT0 (.sl .bool), .int .i64, .sl .bool], [], [], 0, []⟩
def qd2_ : Env := (cts [])
def qcs_ : List (Nat × Hint) := []
def qc8_ (t : List LAT3 × List Bool) (at' : Int) (l : List Bool) : Option (As []) :=
  Option.bind (cut t.2 at' (Int.ofNat (List.length t.2))) fun (y : List Bool) => Option.none
def model_table_bool_write (x : As [.pr LAT0 (.sl .bool), .int .i64, .sl .bool]) : Option (As []) := qc8_ x.1 x.2.1 x.2.2.1
theorem qly_ (J : Orc (As [])) (x : As [.pr LAT0 (.sl .bool), .int .i64, .sl .bool]) : rfn Tryz.prog qd2_ 6 18446744073709551616 (Ev.get qcs_) 46 q59_ J x = qc8_ x.1 x.2.1 x.2.2.1 := by kernel_rfl
theorem qme_ (x : As [.pr LAT0 (.sl .bool), .int .i64, .sl .bool]) : evT Tryz.prog qd2_ 6 18446744073709551616 (Ev.get qcs_) 46 q59_ x = model_table_bool_write x := by
  rw [rfn_eq, qly_]
  rfl
theorem qlv_ : CtOk Tryz.prog (fun _ => True) 46 ⟨q59_, model_table_bool_write⟩ := ct_of_ev env_nil qme_
@[reducible] def q44_ : Sh := ⟨[.d (.pr LAT0 (.sl (.int .u16))), .d (.int .i64), .d (.sl (.int .u16))], [], [.pr LAT0 (.sl (.int .u16)), .int .i64, .sl (.int .u16)], [], [], 0, []⟩
def qbh_ : Env := (cts [])
def qbe_ : List (Nat × Hint) := []
def qan_ (t : List LAT3 × List Int) (at' : Int) (l : List Int) : Option (As []) :=
  Option.bind (cut t.2 at' (Int.ofNat (List.length t.2))) fun (y : List Int) => Option.none
def model_table_uint16_write (x : As [.pr LAT0 (.sl (.int .u16)), .int .i64, .sl (.int .u16)]) : Option (As []) := qan_ x.1 x.2.1 x.2.2.1
theorem qkn_ (J : Orc (As [])) (x : As [.pr LAT0 (.sl (.int .u16)), .int .i64, .sl (.int .u16)]) : rfn Tryz.prog qbh_ 6 18446744073709551616 (Ev.get qbe_) 47 q44_ J x = qan_ x.1 x.2.1 x.2.2.1 := by kernel_rfl
theorem qlf_ (x : As [.pr LAT0 (.sl (.int .u16)), .int .i64, .sl (.int .u16)]) : evT Tryz.prog qbh_ 6 18446744073709551616 (Ev.get qbe_) 47 q44_ x = model_table_uint16_write x := by
  rw [rfn_eq, qkn_]
  rfl
theorem qkw_ : CtOk Tryz.prog (fun _ => True) 47 ⟨q44_, model_table_uint16_write⟩ := ct_of_ev env_nil qlf_
@[reducible] def q3f_ : Sh := ⟨[.d (.pr (.int .u8) LAT2)], [], [.pr (.int .u8) LAT2], [.d (.pr (.int .u8) LAT1), .d (.bool)], [], 0, [.pr (.int .u8) LAT1, .bool]⟩
def q5c_ : Env := (cts [(62, (⟨q3l_, ask_Right⟩ : Ct))])
def q4y_ : List (Nat × Hint) := [(15, ⟨[.rwb 4 2 4, .rwb 4 3 43], [2, 4]⟩), (1967, ⟨[], [1, 2, 4, 33]⟩)]
def q8w_ (t2 t2_2 t2_3 t2_4 r r_2 r_3 r_4 : Int) (o : List Bool) (o_2 : List Int) : St := { fr := [(2, .pb 0 0), (4, .pb 1 0)], nt := 40, up := [], own := [(0, .box 72 [.d (.int .u8) t2, .d (.int .u8) t2_2, .k (Go.Value.slice Option.none 0 0), .k (Go.Value.slice Option.none 0 0), .d (.int .u16) t2_3, .d (.int .u16) t2_4]), (1, .box 72 [.d (.int .u8) r, .d (.int .u8) r_2, .row 2, .row 3, .d (.int .u16) r_3, .d (.int .u16) r_4]), (2, .row .bool 4 o), (3, .row (.int .u16) 43 o_2)], nx := 4, log := [], ln := 0 }
def qfl_ (t33 : Bool) (a a_2 a_3 a_4 : Int) (a_5 : List Int) (a_6 : List Bool) (t2 t2_2 t2_3 t2_4 r r_2 r_3 r_4 : Int) : St := { fr := [(1, .pb 0 0), (2, .pb 1 0), (4, .pb 2 0), (33, .d .bool t33)], nt := 40, up := [], own := [(0, .box 65 [.d (.int .u8) a, .d (.int .u16) a_2, .d (.int .u16) a_3, .d (.int .u16) a_4, .d (.sl (.int .u16)) a_5, .d (.sl .bool) a_6]), (1, .box 72 [.d (.int .u8) t2, .d (.int .u8) t2_2, .k (Go.Value.slice Option.none 0 0), .k (Go.Value.slice Option.none 0 0), .d (.int .u16) t2_3, .d (.int .u16) t2_4]), (2, .box 72 [.d (.int .u8) r, .d (.int .u8) r_2, .k (Go.Value.slice Option.none 0 0), .k (Go.Value.slice Option.none 0 0), .d (.int .u16) r_3, .d (.int .u16) r_4])], nx := 3, log := [], ln := 0 }
def qqp_ (t2 t2_2 t2_3 t2_4 r r_2 r_3 r_4 : Int) (o : List Bool) (o_2 : List Int) : Option (As [.pr (.int .u8) LAT1, .bool]) :=
  some ((r, r_2, o, o_2, r_3, r_4), true, ())
def qqm_ (j1 : Int -> Int -> Int -> Int -> Int -> Int -> Int -> Int -> List Bool -> List Int -> Option (As [.pr (.int .u8) LAT1, .bool])) (t33 : Bool) (a a_2 a_3 a_4 : Int) (a_5 : List Int) (a_6 : List Bool) (t2 t2_2 t2_3 t2_4 r r_2 r_3 r_4 : Int) : Option (As [.pr (.int .u8) LAT1, .bool]) :=
  if t33 = true then j1 t2 t2_2 t2_3 t2_4 r r_2 r_3 a_3 [] [] else some ((0, 0, [], [], 0, 0), false, ())
def qfo_ (j1 : Int -> Int -> Int -> Int -> Int -> Int -> Int -> Int -> List Bool -> List Int -> Option (As [.pr (.int .u8) LAT1, .bool])) (j2 : Bool -> Int -> Int -> Int -> Int -> List Int -> List Bool -> Int -> Int -> Int -> Int -> Int -> Int -> Int -> Int -> Option (As [.pr (.int .u8) LAT1, .bool])) (a : Int × Int × Int × Int × List Int × List Bool) : Option (As [.pr (.int .u8) LAT1, .bool]) :=
  Option.bind (ask_Right (a, ())) fun (y : Bool × Unit) => if (!y.1) = true then some ((0, 0, [], [], 0, 0), false, ()) else if eqi a.1 5 = true then Option.bind (at? a.2.2.2.2.2 0) fun (y : Bool) => j1 0 0 0 0 a.1 0 a.2.1 0 [y] [] else if eqi a.1 6 = true then Option.bind (at? a.2.2.2.2.1 0) fun (y : Int) => j1 0 0 0 0 a.1 0 a.2.1 0 [] [y] else if eqi a.1 15 = true then j2 true a.1 a.2.1 a.2.2.1 a.2.2.2.1 a.2.2.2.2.1 a.2.2.2.2.2 0 0 0 0 a.1 0 a.2.1 0 else j2 (eqi a.1 16) a.1 a.2.1 a.2.2.1 a.2.2.2.1 a.2.2.2.2.1 a.2.2.2.2.2 0 0 0 0 a.1 0 a.2.1 0
def q8o_ (t2 t2_2 t2_3 t2_4 r r_2 r_3 r_4 : Int) (o : List Bool) (o_2 : List Int) : Option (As [.pr (.int .u8) LAT1, .bool]) := qqp_ t2 t2_2 t2_3 t2_4 r r_2 r_3 r_4 o o_2
def qfm_ (t33 : Bool) (a a_2 a_3 a_4 : Int) (a_5 : List Int) (a_6 : List Bool) (t2 t2_2 t2_3 t2_4 r r_2 r_3 r_4 : Int) : Option (As [.pr (.int .u8) LAT1, .bool]) := qqm_ (q8o_) t33 a a_2 a_3 a_4 a_5 a_6 t2 t2_2 t2_3 t2_4 r r_2 r_3 r_4
def reply_Echo (x : As [.pr (.int .u8) LAT2]) : Option (As [.pr (.int .u8) LAT1, .bool]) := qfo_ q8o_ qfm_ x.1
theorem q10m_ (J : Orc (As [.pr (.int .u8) LAT1, .bool])) (t2 t2_2 t2_3 t2_4 r r_2 r_3 r_4 : Int) (o : List Bool) (o_2 : List Int) : pfn Tryz.prog q5c_ 6 18446744073709551616 (Ev.get q4y_) 48 q3f_ J 15 [] (q8w_ t2 t2_2 t2_3 t2_4 r r_2 r_3 r_4 o o_2) = qqp_ t2 t2_2 t2_3 t2_4 r r_2 r_3 r_4 o o_2 := by kernel_rfl
theorem qz8_ (J : Orc (As [.pr (.int .u8) LAT1, .bool])) (t33 : Bool) (a a_2 a_3 a_4 : Int) (a_5 : List Int) (a_6 : List Bool) (t2 t2_2 t2_3 t2_4 r r_2 r_3 r_4 : Int) : pfn Tryz.prog q5c_ 6 18446744073709551616 (Ev.get q4y_) 48 q3f_ J 1967 [] (qfl_ t33 a a_2 a_3 a_4 a_5 a_6 t2 t2_2 t2_3 t2_4 r r_2 r_3 r_4) = qqm_ (fun t2 t2_2 t2_3 t2_4 r r_2 r_3 r_4 o o_2 => J 15 [] (q8w_ t2 t2_2 t2_3 t2_4 r r_2 r_3 r_4 o o_2)) t33 a a_2 a_3 a_4 a_5 a_6 t2 t2_2 t2_3 t2_4 r r_2 r_3 r_4 := by kernel_rfl
theorem q11b_ (J : Orc (As [.pr (.int .u8) LAT1, .bool])) (x : As [.pr (.int .u8) LAT2]) : rfn Tryz.prog q5c_ 6 18446744073709551616 (Ev.get q4y_) 48 q3f_ J x = qfo_ (fun t2 t2_2 t2_3 t2_4 r r_2 r_3 r_4 o o_2 => J 15 [] (q8w_ t2 t2_2 t2_3 t2_4 r r_2 r_3 r_4 o o_2)) (fun t33 a a_2 a_3 a_4 a_5 a_6 t2 t2_2 t2_3 t2_4 r r_2 r_3 r_4 => J 1967 [] (qfl_ t33 a a_2 a_3 a_4 a_5 a_6 t2 t2_2 t2_3 t2_4 r r_2 r_3 r_4)) x.1 := by kernel_rfl
theorem qr1_ (t2 t2_2 t2_3 t2_4 r r_2 r_3 r_4 : Int) (o : List Bool) (o_2 : List Int) : jfn Tryz.prog q5c_ 6 18446744073709551616 (Ev.get q4y_) 48 q3f_ 15 [] (q8w_ t2 t2_2 t2_3 t2_4 r r_2 r_3 r_4 o o_2) = q8o_ t2 t2_2 t2_3 t2_4 r r_2 r_3 r_4 o o_2 := by
  rw [pfn_eq (by decide)]
  rw [q10m_]
  rfl
theorem q11e_ (t33 : Bool) (a a_2 a_3 a_4 : Int) (a_5 : List Int) (a_6 : List Bool) (t2 t2_2 t2_3 t2_4 r r_2 r_3 r_4 : Int) : jfn Tryz.prog q5c_ 6 18446744073709551616 (Ev.get q4y_) 48 q3f_ 1967 [] (qfl_ t33 a a_2 a_3 a_4 a_5 a_6 t2 t2_2 t2_3 t2_4 r r_2 r_3 r_4) = qfm_ t33 a a_2 a_3 a_4 a_5 a_6 t2 t2_2 t2_3 t2_4 r r_2 r_3 r_4 := by
  rw [pfn_eq (by decide)]
  have e1 : (fun t2 t2_2 t2_3 t2_4 r r_2 r_3 r_4 o o_2 => (jfn Tryz.prog q5c_ 6 18446744073709551616 (Ev.get q4y_) 48 q3f_) 15 [] (q8w_ t2 t2_2 t2_3 t2_4 r r_2 r_3 r_4 o o_2)) = q8o_ := by funext t2 t2_2 t2_3 t2_4 r r_2 r_3 r_4 o o_2; exact qr1_ t2 t2_2 t2_3 t2_4 r r_2 r_3 r_4 o o_2
  rw [qz8_, e1]
  rfl
theorem q12f_ (x : As [.pr (.int .u8) LAT2]) : evT Tryz.prog q5c_ 6 18446744073709551616 (Ev.get q4y_) 48 q3f_ x = reply_Echo x := by
  have e1 : (fun t2 t2_2 t2_3 t2_4 r r_2 r_3 r_4 o o_2 => (jfn Tryz.prog q5c_ 6 18446744073709551616 (Ev.get q4y_) 48 q3f_) 15 [] (q8w_ t2 t2_2 t2_3 t2_4 r r_2 r_3 r_4 o o_2)) = q8o_ := by funext t2 t2_2 t2_3 t2_4 r r_2 r_3 r_4 o o_2; exact qr1_ t2 t2_2 t2_3 t2_4 r r_2 r_3 r_4 o o_2
  have e2 : (fun t33 a a_2 a_3 a_4 a_5 a_6 t2 t2_2 t2_3 t2_4 r r_2 r_3 r_4 => (jfn Tryz.prog q5c_ 6 18446744073709551616 (Ev.get q4y_) 48 q3f_) 1967 [] (qfl_ t33 a a_2 a_3 a_4 a_5 a_6 t2 t2_2 t2_3 t2_4 r r_2 r_3 r_4)) = qfm_ := by funext t33 a a_2 a_3 a_4 a_5 a_6 t2 t2_2 t2_3 t2_4 r r_2 r_3 r_4; exact q11e_ t33 a a_2 a_3 a_4 a_5 a_6 t2 t2_2 t2_3 t2_4 r r_2 r_3 r_4
  rw [rfn_eq, q11b_, e1, e2]
  rfl
theorem q10n_ : CtOk Tryz.prog (fun _ => True) 48 ⟨q3f_, reply_Echo⟩ := ct_of_ev (env_cons qmk_ env_nil) q12f_
@[reducible] def q5o_ : Sh := ⟨[.d (.pr LAT0 (.sl .bool)), .d (.int .i64), .d (.int .i64), .d (.int .i64)], [], [.pr LAT0 (.sl .bool), .int .i64, .int .i64, .int .i64], [.d (.sl .bool)], [], 0, [.sl .bool]⟩
def qey_ : Env := (cts [])
def qez_ : List (Nat × Hint) := []
def qdb_ (t : List LAT3 × List Bool) (at' many step : Int) : Option (As [.sl .bool]) :=
  need (nei step 0) (need (ge (mul .i64 (quo .i64 (Sx.sub .i64 (add .i64 many step) 1) step) step) 0) (need (Ev.capOk (mul .i64 (quo .i64 (Sx.sub .i64 (add .i64 many step) 1) step) step) (mul .i64 (quo .i64 (Sx.sub .i64 (add .i64 many step) 1) step) step)) (need (small (Int.toNat (mul .i64 (quo .i64 (Sx.sub .i64 (add .i64 many step) 1) step) step))) (Option.bind (cut t.2 at' (add .i64 at' many)) fun (y : List Bool) => need (le (Int.ofNat (0 + List.length (List.replicate (Int.toNat (mul .i64 (quo .i64 (Sx.sub .i64 (add .i64 many step) 1) step) step)) false))) (Int.ofNat (List.length (List.replicate (Int.toNat (mul .i64 (quo .i64 (Sx.sub .i64 (add .i64 many step) 1) step) step)) false)))) (some (List.take (Int.toNat (Int.ofNat (List.length (List.replicate (Int.toNat (mul .i64 (quo .i64 (Sx.sub .i64 (add .i64 many step) 1) step) step)) false)))) y ++ List.drop (0 + List.length (List.take (Int.toNat (Int.ofNat (List.length (List.replicate (Int.toNat (mul .i64 (quo .i64 (Sx.sub .i64 (add .i64 many step) 1) step) step)) false)))) y)) (List.replicate (Int.toNat (mul .i64 (quo .i64 (Sx.sub .i64 (add .i64 many step) 1) step) step)) false), ()))))))
def model_table_bool_read (x : As [.pr LAT0 (.sl .bool), .int .i64, .int .i64, .int .i64]) : Option (As [.sl .bool]) := qdb_ x.1 x.2.1 x.2.2.1 x.2.2.2.1
theorem qmr_ (J : Orc (As [.sl .bool])) (x : As [.pr LAT0 (.sl .bool), .int .i64, .int .i64, .int .i64]) : rfn Tryz.prog qey_ 6 18446744073709551616 (Ev.get qez_) 66 q5o_ J x = qdb_ x.1 x.2.1 x.2.2.1 x.2.2.2.1 := by kernel_rfl
theorem qna_ (x : As [.pr LAT0 (.sl .bool), .int .i64, .int .i64, .int .i64]) : evT Tryz.prog qey_ 6 18446744073709551616 (Ev.get qez_) 66 q5o_ x = model_table_bool_read x := by
  rw [rfn_eq, qmr_]
  rfl
theorem qmo_ : CtOk Tryz.prog (fun _ => True) 66 ⟨q5o_, model_table_bool_read⟩ := ct_of_ev env_nil qna_
@[reducible] def q4t_ : Sh := ⟨[.d (.pr LAT0 (.sl (.int .u16))), .d (.int .i64), .d (.int .i64), .d (.int .i64)], [], [.pr LAT0 (.sl (.int .u16)), .int .i64, .int .i64, .int .i64], [.d (.sl (.int .u16))], [], 0, [.sl (.int .u16)]⟩
def qcf_ : Env := (cts [])
def qce_ : List (Nat × Hint) := []
def q46_ (t : List LAT3 × List Int) (at' many step : Int) : Option (As [.sl (.int .u16)]) :=
  need (nei step 0) (need (ge (mul .i64 (quo .i64 (Sx.sub .i64 (add .i64 many step) 1) step) step) 0) (need (Ev.capOk (mul .i64 (quo .i64 (Sx.sub .i64 (add .i64 many step) 1) step) step) (mul .i64 (quo .i64 (Sx.sub .i64 (add .i64 many step) 1) step) step)) (need (small (Int.toNat (mul .i64 (quo .i64 (Sx.sub .i64 (add .i64 many step) 1) step) step))) (Option.bind (cut t.2 at' (add .i64 at' many)) fun (y : List Int) => need (le (Int.ofNat (0 + List.length (List.replicate (α := Int) (Int.toNat (mul .i64 (quo .i64 (Sx.sub .i64 (add .i64 many step) 1) step) step)) 0))) (Int.ofNat (List.length (List.replicate (α := Int) (Int.toNat (mul .i64 (quo .i64 (Sx.sub .i64 (add .i64 many step) 1) step) step)) 0)))) (some (List.take (Int.toNat (Int.ofNat (List.length (List.replicate (α := Int) (Int.toNat (mul .i64 (quo .i64 (Sx.sub .i64 (add .i64 many step) 1) step) step)) 0)))) y ++ List.drop (0 + List.length (List.take (Int.toNat (Int.ofNat (List.length (List.replicate (α := Int) (Int.toNat (mul .i64 (quo .i64 (Sx.sub .i64 (add .i64 many step) 1) step) step)) 0)))) y)) (List.replicate (Int.toNat (mul .i64 (quo .i64 (Sx.sub .i64 (add .i64 many step) 1) step) step)) 0), ()))))))
def model_table_uint16_read (x : As [.pr LAT0 (.sl (.int .u16)), .int .i64, .int .i64, .int .i64]) : Option (As [.sl (.int .u16)]) := q46_ x.1 x.2.1 x.2.2.1 x.2.2.2.1
theorem qlj_ (J : Orc (As [.sl (.int .u16)])) (x : As [.pr LAT0 (.sl (.int .u16)), .int .i64, .int .i64, .int .i64]) : rfn Tryz.prog qcf_ 6 18446744073709551616 (Ev.get qce_) 67 q4t_ J x = q46_ x.1 x.2.1 x.2.2.1 x.2.2.2.1 := by kernel_rfl
theorem qm3_ (x : As [.pr LAT0 (.sl (.int .u16)), .int .i64, .int .i64, .int .i64]) : evT Tryz.prog qcf_ 6 18446744073709551616 (Ev.get qce_) 67 q4t_ x = model_table_uint16_read x := by
  rw [rfn_eq, qlj_]
  rfl
theorem ql4_ : CtOk Tryz.prog (fun _ => True) 67 ⟨q4t_, model_table_uint16_read⟩ := ct_of_ev env_nil qm3_
@[reducible] def q6m_ : Sh := ⟨[.d (.pr (.pr LAT0 (.sl .bool)) (.pr (.pr LAT0 (.sl .bool)) (.pr (.pr LAT0 (.sl (.int .u16))) (.pr LAT0 (.sl (.int .u16)))))), .d (.int .i64), .d (.pr (.int .u8) LAT2)], [], [.pr (.pr LAT0 (.sl .bool)) (.pr (.pr LAT0 (.sl .bool)) (.pr (.pr LAT0 (.sl (.int .u16))) (.pr LAT0 (.sl (.int .u16))))), .int .i64, .pr (.int .u8) LAT2], [.d (.pr (.int .u8) LAT1)], [], 0, [.pr (.int .u8) LAT1]⟩
def qh7_ : Env := (cts [(66, (⟨q5o_, model_table_bool_read⟩ : Ct)), (67, (⟨q4t_, model_table_uint16_read⟩ : Ct))])
def qh9_ : List (Nat × Hint) := []
def qfk_ (v : (List LAT3 × List Bool) × (List LAT3 × List Bool) × (List LAT3 × List Int) × List LAT3 × List Int) (p : Int) (a : Int × Int × Int × Int × List Int × List Bool) : Option (As [.pr (.int .u8) LAT1]) :=
  if eqi p 1 = true then Option.bind (model_table_bool_read (v.1, cvt .i64 a.2.1, cvt .i64 a.2.2.1, 8, ())) fun (y : List Bool × Unit) => some ((a.1, 0, y.1, [], 0, 0), ()) else if eqi p 2 = true then Option.bind (model_table_bool_read (v.2.1, cvt .i64 a.2.1, cvt .i64 a.2.2.1, 8, ())) fun (y : List Bool × Unit) => some ((a.1, 0, y.1, [], 0, 0), ()) else if eqi p 3 = true then Option.bind (model_table_uint16_read (v.2.2.1, cvt .i64 a.2.1, cvt .i64 a.2.2.1, 1, ())) fun (y : List Int × Unit) => some ((a.1, 0, [], y.1, 0, 0), ()) else if eqi p 4 = true then Option.bind (model_table_uint16_read (v.2.2.2, cvt .i64 a.2.1, cvt .i64 a.2.2.1, 1, ())) fun (y : List Int × Unit) => some ((a.1, 0, [], y.1, 0, 0), ()) else some ((a.1, 0, [], [], 0, 0), ())
def model_server_answer (x : As [.pr (.pr LAT0 (.sl .bool)) (.pr (.pr LAT0 (.sl .bool)) (.pr (.pr LAT0 (.sl (.int .u16))) (.pr LAT0 (.sl (.int .u16))))), .int .i64, .pr (.int .u8) LAT2]) : Option (As [.pr (.int .u8) LAT1]) := qfk_ x.1 x.2.1 x.2.2.1
theorem qoc_ (J : Orc (As [.pr (.int .u8) LAT1])) (x : As [.pr (.pr LAT0 (.sl .bool)) (.pr (.pr LAT0 (.sl .bool)) (.pr (.pr LAT0 (.sl (.int .u16))) (.pr LAT0 (.sl (.int .u16))))), .int .i64, .pr (.int .u8) LAT2]) : rfn Tryz.prog qh7_ 6 18446744073709551616 (Ev.get qh9_) 49 q6m_ J x = qfk_ x.1 x.2.1 x.2.2.1 := by kernel_rfl
theorem qpr_ (x : As [.pr (.pr LAT0 (.sl .bool)) (.pr (.pr LAT0 (.sl .bool)) (.pr (.pr LAT0 (.sl (.int .u16))) (.pr LAT0 (.sl (.int .u16))))), .int .i64, .pr (.int .u8) LAT2]) : evT Tryz.prog qh7_ 6 18446744073709551616 (Ev.get qh9_) 49 q6m_ x = model_server_answer x := by
  rw [rfn_eq, qoc_]
  rfl
theorem qoa_ : CtOk Tryz.prog (fun _ => True) 49 ⟨q6m_, model_server_answer⟩ := ct_of_ev (env_cons qmo_ (env_cons ql4_ env_nil)) qpr_
end Go.Proofs.Lx
end
