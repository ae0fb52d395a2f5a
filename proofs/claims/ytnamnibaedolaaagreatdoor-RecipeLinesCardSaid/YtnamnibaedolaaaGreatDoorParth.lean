/- Proved in the last of these 12 parts (this is part 8): the law RecipeLines of chapter 14 returns true at every recipe and every number of lines ahead. Conditions: those of the given statement, and no others. -/
import Derived.Test.YtnamnibaedolaaaGreatDoorParte
import Derived.Test.YtnamnibaedolaaaGreatDoorPartg
import Derived.Test.YtnamnibaedolaaaGreatDoorProg
set_option linter.unusedVariables false
set_option linter.unusedSimpArgs false
set_option linter.unusedSectionVars false
section
open Go Go.Proofs Ev Sx
set_option maxRecDepth 100000
namespace Go.Proofs.Lx
def qia_ (j2 : Int -> List UInt8 × List QAT0 -> Option (As [.bool])) (t16 : Bool) (r : List UInt8 × List QAT0) : Option (As [.bool]) :=
  if t16 = true then some (false, ()) else j2 0 r
def qhw_ (j3 : Int -> Bool -> List UInt8 × List QAT0 -> List UInt8 × Int × List QAT3 -> Option (As [.bool])) (self2 : Int -> List UInt8 × List QAT0 -> Option (As [.bool])) (i : Int) (r : List UInt8 × List QAT0) : Option (As [.bool]) :=
  if lt i (Int.ofNat (List.length r.2)) = true then Option.bind (at? r.2 i) fun (y : List UInt8 × Int × List QAT3) => Option.bind (qbj_ (y.1, ())) fun (y_1 : Bool × Unit) => if (!y_1.1) = true then j3 i true r y else j3 i (gt (Int.ofNat (List.length y.2.2)) 64) r y else some (true, ())
def qhv_ (j4 : Int -> Int -> List UInt8 × List QAT0 -> List UInt8 × Int × List QAT3 -> Option (As [.bool])) (self2 : Int -> List UInt8 × List QAT0 -> Option (As [.bool])) (i : Int) (t38 : Bool) (r : List UInt8 × List QAT0) (p : List UInt8 × Int × List QAT3) : Option (As [.bool]) :=
  if t38 = true then some (false, ()) else j4 i 0 r p
def qk6_ (j5 : Int -> Int -> Bool -> List UInt8 × List QAT0 -> List UInt8 × Int × List QAT3 -> Option (As [.bool])) (j6 self2 : Int -> List UInt8 × List QAT0 -> Option (As [.bool])) (self4 : Int -> Int -> List UInt8 × List QAT0 -> List UInt8 × Int × List QAT3 -> Option (As [.bool])) (i k : Int) (r : List UInt8 × List QAT0) (p : List UInt8 × Int × List QAT3) : Option (As [.bool]) :=
  if lt k (Int.ofNat (List.length p.2.2)) = true then Option.bind (at? p.2.2 k) fun (y : List UInt8 × (Int × Int) × List UInt8 × Int) => Option.bind (qbj_ (y.1, ())) fun (y_1 : Bool × Unit) => if (!y_1.1) = true then j5 i k true r p else Option.bind (qo0_ (y.2.1, ())) fun (y_2 : Bool × Unit) => if (!y_2.1) = true then j5 i k true r p else if nes y.2.2.1 [] = true then Option.bind (qoa_ (y.2.2.1, ())) fun (y : Bool × Unit) => j5 i k (!y.1) r p else j5 i k false r p else j6 i r
def qkc_ (self2 : Int -> List UInt8 × List QAT0 -> Option (As [.bool])) (self4 : Int -> Int -> List UInt8 × List QAT0 -> List UInt8 × Int × List QAT3 -> Option (As [.bool])) (i k : Int) (t71 : Bool) (r : List UInt8 × List QAT0) (p : List UInt8 × Int × List QAT3) : Option (As [.bool]) :=
  if t71 = true then some (false, ()) else self4 i (add .i64 k 1) r p
def qjq_ (self2 : Int -> List UInt8 × List QAT0 -> Option (As [.bool])) (i : Int) (r : List UInt8 × List QAT0) : Option (As [.bool]) :=
  self2 (add .i64 i 1) r
def qju_ (j1 : Bool -> List UInt8 × List QAT0 -> Option (As [.bool])) (r : List UInt8 × List QAT0) : Option (As [.bool]) :=
  Option.bind (qbj_ (r.1, ())) fun (y : Bool × Unit) => if (!y.1) = true then j1 true r else j1 (gt (Int.ofNat (List.length r.2)) 8) r
def qhx_ (u2 : Int -> List UInt8 × List QAT0 -> Option (As [.bool])) (u4 : Int -> Int -> List UInt8 × List QAT0 -> List UInt8 × Int × List QAT3 -> Option (As [.bool])) (i k : Int) (t71 : Bool) (r : List UInt8 × List QAT0) (p : List UInt8 × Int × List QAT3) : Option (As [.bool]) := qkc_ u2 u4 i k t71 r p
def qik_ (u2 : Int -> List UInt8 × List QAT0 -> Option (As [.bool])) (i : Int) (r : List UInt8 × List QAT0) : Option (As [.bool]) := qjq_ u2 i r
def qjn_ (u2 : Int -> List UInt8 × List QAT0 -> Option (As [.bool])) (i k : Int) (r : List UInt8 × List QAT0) (p : List UInt8 × Int × List QAT3) : Option (As [.bool]) :=
  loopF (fun (self : (Int) × (Int) × (List UInt8 × List QAT0) × QAT0 -> Option (As [.bool])) (s : (Int) × (Int) × (List UInt8 × List QAT0) × QAT0) => qk6_ (qhx_ u2 (fun i k r p => self (i, k, r, p))) (qik_ u2) u2 (fun i k r p => self (i, k, r, p)) s.1 s.2.1 s.2.2.1 s.2.2.2) 18446744073709551616 (i, k, r, p)
def qjy_ (u2 : Int -> List UInt8 × List QAT0 -> Option (As [.bool])) (i : Int) (t38 : Bool) (r : List UInt8 × List QAT0) (p : List UInt8 × Int × List QAT3) : Option (As [.bool]) := qhv_ (qjn_ u2) u2 i t38 r p
def qiq_ (i : Int) (r : List UInt8 × List QAT0) : Option (As [.bool]) :=
  loopF (fun (self : (Int) × (List UInt8 × List QAT0) -> Option (As [.bool])) (s : (Int) × (List UInt8 × List QAT0)) => qhw_ (qjy_ (fun i r => self (i, r))) (fun i r => self (i, r)) s.1 s.2) 18446744073709551616 (i, r)
def qie_ (t16 : Bool) (r : List UInt8 × List QAT0) : Option (As [.bool]) := qia_ (qiq_) t16 r
def qfz_ (x : As [.pr .str (.sl QAT2)]) : Option (As [.bool]) := qju_ qie_ x.1
@[reducible] def q1g_ : Sh := ⟨[.d (.sl QAT5), .d (.sl QAT5), .fn (.func 47) [] []], [], [.sl QAT5, .sl QAT5], [.d .bool], [], 0, [.bool]⟩
def q32_ : Env := (cts [])
def q31_ : List (Nat × Hint) := [(58, ⟨[], [1, 2, 15, 16, 17]⟩)]
def q27_ (s2 t15 : List QAT3) (t16 t17 : Int) : St := { fr := [(1, .d (.sl QAT5) s2), (2, .fn (.func 47) [] []), (15, .d (.sl QAT5) t15), (16, .d (.int .i64) t16), (17, .d (.int .i64) t17)], nt := 32, up := [], own := [], nx := 0, log := [], ln := 0 }
def q28_ (self1 : List QAT3 -> List QAT3 -> Int -> Int -> Option (As [.bool])) (s2 t15 : List QAT3) (t16 t17 : Int) : Option (As [.bool]) :=
  if lt t17 t16 = true then Option.bind (at? t15 t17) fun (y : List UInt8 × (Int × Int) × List UInt8 × Int) => Option.bind (at? s2 t17) fun (y_1 : List UInt8 × (Int × Int) × List UInt8 × Int) => if eqs y.1 y_1.1 = true then if (eqi y.2.1.1 y_1.2.1.1 && (eqi y.2.1.2 y_1.2.1.2 && true)) = true then if (!eqs y.2.2.1 y_1.2.2.1) = true then some (false, ()) else self1 s2 t15 t16 (add .i64 t17 1) else some (false, ()) else some (false, ()) else some (true, ())
def q41_ (j1 : List QAT3 -> List QAT3 -> Int -> Int -> Option (As [.bool])) (s1 s2 : List QAT3) : Option (As [.bool]) :=
  if nei (Int.ofNat (List.length s1)) (Int.ofNat (List.length s2)) = true then some (false, ()) else j1 s2 s1 (Int.ofNat (List.length s1)) 0
def q2v_ (s2 t15 : List QAT3) (t16 t17 : Int) : Option (As [.bool]) :=
  loopF (fun (self : (List QAT3) × (List QAT3) × (Int) × (Int) -> Option (As [.bool])) (s : (List QAT3) × (List QAT3) × (Int) × (Int)) => q28_ (fun s2 t15 t16 t17 => self (s2, t15, t16, t17)) s.1 s.2.1 s.2.2.1 s.2.2.2) 18446744073709551616 (s2, t15, t16, t17)
def q3s_ (x : As [.sl QAT5, .sl QAT5]) : Option (As [.bool]) := q41_ q2v_ x.1 x.2.1
theorem qby_  (J w1 s2 t15 t16 t17) : pfn Tryz.prog q32_ 6 18446744073709551616 (Ev.get q31_) 49 q1g_ J 58 [w1] (q27_ s2 t15 t16 t17) = q28_ (fun s2 t15 t16 t17 => w1 (q27_ s2 t15 t16 t17)) s2 t15 t16 t17 := by kernel_rfl
theorem qc4_ (J : Orc (As [.bool])) (x : As [.sl QAT5, .sl QAT5]) : rfn Tryz.prog q32_ 6 18446744073709551616 (Ev.get q31_) 49 q1g_ J x = q41_ (fun s2 t15 t16 t17 => J 58 [] (q27_ s2 t15 t16 t17)) x.1 x.2.1 := by kernel_rfl
theorem qbw_  (s2 t15 t16 t17) : jfn Tryz.prog q32_ 6 18446744073709551616 (Ev.get q31_) 49 q1g_ 58 [] (q27_ s2 t15 t16 t17) = q2v_ s2 t15 t16 t17 := by
  rw [q2_ (by decide)]
  rw [qv_ (by kernel_rfl)]
  refine qi_ (σ := (List QAT3) × (List QAT3) × (Int) × (Int)) (mk := fun s => q27_ s.1 s.2.1 s.2.2.1 s.2.2.2) (fun w1 s => ?_) 18446744073709551616 (s2, t15, t16, t17)
  refine (qby_ _ w1 s.1 s.2.1 s.2.2.1 s.2.2.2).trans ?_
  rfl
theorem qch_ (x : As [.sl QAT5, .sl QAT5]) : evT Tryz.prog q32_ 6 18446744073709551616 (Ev.get q31_) 49 q1g_ x = q3s_ x := by
  have e1 : (fun s2 t15 t16 t17 => (jfn Tryz.prog q32_ 6 18446744073709551616 (Ev.get q31_) 49 q1g_) 58 [] (q27_ s2 t15 t16 t17)) = q2v_ := by funext s2 t15 t16 t17; exact qbw_ s2 t15 t16 t17
  rw [q1u_, qc4_, e1]
  rfl
theorem q88_ : CtOk Tryz.prog I0 49 ⟨q1g_, q3s_⟩ := qu_ q9_ qch_
@[reducible] def q29_ : Sh := ⟨[.d (.sl QAT2), .d (.sl QAT2), .fn (.func 48) [] [.pb 0 0]], [.box 111 [.fn (.func 47) [] []]], [.sl QAT2, .sl QAT2], [.d .bool], [(0, .box 111 [.fn (.func 47) [] []])], 0, [.bool]⟩
def q2t_ : Env := (cts [(49, (⟨q1g_, q3s_⟩ : Ct))])
def q2u_ : List (Nat × Hint) := [(58, ⟨[], [1, 2, 15, 16, 17]⟩)]
def q1v_ (s2 t15 : List QAT0) (t16 t17 : Int) : St := { fr := [(1, .d (.sl QAT2) s2), (2, .fn (.func 48) [] [.pb 0 0]), (15, .d (.sl QAT2) t15), (16, .d (.int .i64) t16), (17, .d (.int .i64) t17)], nt := 32, up := [], own := [(0, .box 111 [.fn (.func 47) [] []])], nx := 1, log := [], ln := 1 }
def q1w_ (self1 : List QAT0 -> List QAT0 -> Int -> Int -> Option (As [.bool])) (s2 t15 : List QAT0) (t16 t17 : Int) : Option (As [.bool]) :=
  if lt t17 t16 = true then Option.bind (at? t15 t17) fun (y : List UInt8 × Int × List QAT3) => Option.bind (at? s2 t17) fun (y_1 : List UInt8 × Int × List QAT3) => if eqs y.1 y_1.1 = true then Option.bind (q3s_ (y.2.2, y_1.2.2, ())) fun (y : Bool × Unit) => if (!y.1) = true then some (false, ()) else self1 s2 t15 t16 (add .i64 t17 1) else some (false, ()) else some (true, ())
def q3x_ (j1 : List QAT0 -> List QAT0 -> Int -> Int -> Option (As [.bool])) (s1 s2 : List QAT0) : Option (As [.bool]) :=
  if nei (Int.ofNat (List.length s1)) (Int.ofNat (List.length s2)) = true then some (false, ()) else j1 s2 s1 (Int.ofNat (List.length s1)) 0
def q2r_ (s2 t15 : List QAT0) (t16 t17 : Int) : Option (As [.bool]) :=
  loopF (fun (self : (List QAT0) × (List QAT0) × (Int) × (Int) -> Option (As [.bool])) (s : (List QAT0) × (List QAT0) × (Int) × (Int)) => q1w_ (fun s2 t15 t16 t17 => self (s2, t15, t16, t17)) s.1 s.2.1 s.2.2.1 s.2.2.2) 18446744073709551616 (s2, t15, t16, t17)
def q4g_ (x : As [.sl QAT2, .sl QAT2]) : Option (As [.bool]) := q3x_ q2r_ x.1 x.2.1
theorem qbo_  (J w1 s2 t15 t16 t17) : pfn Tryz.prog q2t_ 6 18446744073709551616 (Ev.get q2u_) 50 q29_ J 58 [w1] (q1v_ s2 t15 t16 t17) = q1w_ (fun s2 t15 t16 t17 => w1 (q1v_ s2 t15 t16 t17)) s2 t15 t16 t17 := by kernel_rfl
theorem qbq_ (J : Orc (As [.bool])) (x : As [.sl QAT2, .sl QAT2]) : rfn Tryz.prog q2t_ 6 18446744073709551616 (Ev.get q2u_) 50 q29_ J x = q3x_ (fun s2 t15 t16 t17 => J 58 [] (q1v_ s2 t15 t16 t17)) x.1 x.2.1 := by kernel_rfl
theorem qbp_  (s2 t15 t16 t17) : jfn Tryz.prog q2t_ 6 18446744073709551616 (Ev.get q2u_) 50 q29_ 58 [] (q1v_ s2 t15 t16 t17) = q2r_ s2 t15 t16 t17 := by
  rw [q2_ (by decide)]
  rw [qv_ (by kernel_rfl)]
  refine qi_ (σ := (List QAT0) × (List QAT0) × (Int) × (Int)) (mk := fun s => q1v_ s.1 s.2.1 s.2.2.1 s.2.2.2) (fun w1 s => ?_) 18446744073709551616 (s2, t15, t16, t17)
  refine (qbo_ _ w1 s.1 s.2.1 s.2.2.1 s.2.2.2).trans ?_
  rfl
theorem qc0_ (x : As [.sl QAT2, .sl QAT2]) : evT Tryz.prog q2t_ 6 18446744073709551616 (Ev.get q2u_) 50 q29_ x = q4g_ x := by
  have e1 : (fun s2 t15 t16 t17 => (jfn Tryz.prog q2t_ 6 18446744073709551616 (Ev.get q2u_) 50 q29_) 58 [] (q1v_ s2 t15 t16 t17)) = q2r_ := by funext s2 t15 t16 t17; exact qbp_ s2 t15 t16 t17
  rw [q1u_, qbq_, e1]
  rfl
theorem qbr_ : CtOk Tryz.prog I0 50 ⟨q29_, q4g_⟩ := qu_ (q0_ q88_ q9_) qc0_
@[reducible] def qf1_ : Sh := ⟨[.d (.pr .str (.sl QAT2)), .d (.pr .str (.sl QAT2))], [], [.pr .str (.sl QAT2), .pr .str (.sl QAT2)], [.d (.bool)], [], 0, [.bool]⟩
def qc7_ (a b : List UInt8 × List QAT0) : Option (As [.bool]) :=
  if eqs a.1 b.1 = true then Option.bind (q4g_ (a.2, b.2, ())) fun (y : Bool × Unit) => some (y.1, ()) else some (false, ())
def q7r_ (x : As [.pr .str (.sl QAT2), .pr .str (.sl QAT2)]) : Option (As [.bool]) := qc7_ x.1 x.2.1
theorem qio_ : CtOk Tryz.prog I0 19 ⟨qf1_, q7r_⟩ := ctn (q0_ q88_ (q0_ qbr_ q9_)) 6 fun J x => by kernel_rfl
@[reducible] def bits_Mul32_s : Sh := ⟨[.d (.int .u32), .d (.int .u32)], [], [.int .u32, .int .u32], [.d (.int .u32), .d (.int .u32)], [], 0, [.int .u32, .int .u32]⟩
def bits_Mul32_m0 (x y : Int) : Option (As [.int .u32, .int .u32]) :=
  some (cvt .u32 (Sx.shr .u64 (mul .u64 (cvt .u64 x) (cvt .u64 y)) 32), cvt .u32 (mul .u64 (cvt .u64 x) (cvt .u64 y)), ())
def bits_Mul32 (x : As [.int .u32, .int .u32]) : Option (As [.int .u32, .int .u32]) := bits_Mul32_m0 x.1 x.2.1
theorem bits_Mul32_ok : CtOk Tryz.prog I0 85 ⟨bits_Mul32_s, bits_Mul32⟩ := ctn q9_ 6 fun J x => by kernel_rfl
@[reducible] def bits_Mul64_s : Sh := ⟨[.d (.int .u64), .d (.int .u64)], [], [.int .u64, .int .u64], [.d (.int .u64), .d (.int .u64)], [], 0, [.int .u64, .int .u64]⟩
def bits_Mul64_m0 (x y : Int) : Option (As [.int .u64, .int .u64]) :=
  some (add .u64 (add .u64 (mul .u64 (Sx.shr .u64 x 32) (Sx.shr .u64 y 32)) (Sx.shr .u64 (add .u64 (mul .u64 (Sx.shr .u64 x 32) (Sx.band .u64 y 4294967295)) (Sx.shr .u64 (mul .u64 (Sx.band .u64 x 4294967295) (Sx.band .u64 y 4294967295)) 32)) 32)) (Sx.shr .u64 (add .u64 (Sx.band .u64 (add .u64 (mul .u64 (Sx.shr .u64 x 32) (Sx.band .u64 y 4294967295)) (Sx.shr .u64 (mul .u64 (Sx.band .u64 x 4294967295) (Sx.band .u64 y 4294967295)) 32)) 4294967295) (mul .u64 (Sx.band .u64 x 4294967295) (Sx.shr .u64 y 32))) 32), mul .u64 x y, ())
def bits_Mul64 (x : As [.int .u64, .int .u64]) : Option (As [.int .u64, .int .u64]) := bits_Mul64_m0 x.1 x.2.1
theorem bits_Mul64_ok : CtOk Tryz.prog I0 86 ⟨bits_Mul64_s, bits_Mul64⟩ := ctn q9_ 6 fun J x => by kernel_rfl
@[reducible] def bits_Mul_s : Sh := ⟨[.d (.int .u64), .d (.int .u64)], [], [.int .u64, .int .u64], [.d (.int .u64), .d (.int .u64)], [], 0, [.int .u64, .int .u64]⟩
def bits_Mul_m0 (x y : Int) : Option (As [.int .u64, .int .u64]) :=
  Option.bind (bits_Mul64 (x, y, ())) fun (y : Int × Int × Unit) => some (y.1, y.2.1, ())
def bits_Mul (x : As [.int .u64, .int .u64]) : Option (As [.int .u64, .int .u64]) := bits_Mul_m0 x.1 x.2.1
theorem bits_Mul_ok : CtOk Tryz.prog I0 59 ⟨bits_Mul_s, bits_Mul⟩ := ctn (q0_ bits_Mul32_ok (q0_ bits_Mul64_ok q9_)) 6 fun J x => by kernel_rfl
@[reducible] def strings_HasPrefix_s : Sh := ⟨[.d (.str), .d (.str)], [], [.str, .str], [.d (.bool)], [], 0, [.bool]⟩
def strings_HasPrefix_m0 (s prefixV : List UInt8) : Option (As [.bool]) :=
  Option.bind (q4e_ (s, prefixV, ())) fun (y : Bool × Unit) => some (y.1, ())
def q4a_ (x : As [.str, .str]) : Option (As [.bool]) := strings_HasPrefix_m0 x.1 x.2.1
theorem strings_HasPrefix_ok : CtOk Tryz.prog I0 60 ⟨strings_HasPrefix_s, q4a_⟩ := ctn (q0_ q9o_ q9_) 6 fun J x => by kernel_rfl
@[reducible] def strings_Repeat_s : Sh := ⟨[.d (.str), .d (.int .i64)], [], [.str, .int .i64], [.d (.str)], [], 0, [.str]⟩
def q3_ : Env := (cts [(59, (⟨bits_Mul_s, bits_Mul⟩ : Ct)), (60, (⟨strings_HasPrefix_s, q4a_⟩ : Ct))])
def q4_ : List (Nat × Hint) := [(7, ⟨[], [0, 1, 32, 33, 53, 54, 62, 63, 71, 72, 80, 81, 89, 90]⟩), (31, ⟨[], [0, 6, 53, 54, 62, 63, 71, 72, 80, 81, 89, 90]⟩), (255, ⟨[], [0, 7]⟩), (1023, ⟨[], [0, 7, 8]⟩), (65532, ⟨[], [7, 8, 9]⟩), (2042, ⟨[], [0, 7, 43, 53, 54, 62, 63, 71, 72, 80, 81, 89, 90]⟩), (16340, ⟨[], [0, 7, 49, 62, 63, 71, 72, 80, 81, 89, 90]⟩), (65363, ⟨[], [0, 7, 58, 71, 72, 80, 81, 89, 90]⟩), (261455, ⟨[], [0, 7, 67, 80, 81, 89, 90]⟩), (1045823, ⟨[], [0, 7, 76, 89, 90]⟩), (4183295, ⟨[], [0, 7, 85]⟩), (62, ⟨[], [0, 6, 34, 53, 54, 62, 63, 71, 72, 80, 81, 89, 90]⟩)]
def q7z_ (s : List UInt8) (count : Int) : St := { fr := [(0, .d .str s), (1, .d (.int .i64) count)], nt := 125, up := [], own := [], nx := 0, log := [], ln := 0 }
def q80_ (s : List UInt8) (lo : Int) (t34 : Bool) : St := { fr := [(0, .d .str s), (6, .d (.int .u64) lo), (34, .d .bool t34)], nt := 125, up := [], own := [], nx := 0, log := [], ln := 0 }
def q81_ (s : List UInt8) (lo : Int) : St := { fr := [(0, .d .str s), (6, .d (.int .u64) lo)], nt := 125, up := [], own := [], nx := 0, log := [], ln := 0 }
def q82_ (s : List UInt8) (n : Int) (t43 : Bool) : St := { fr := [(0, .d .str s), (7, .d (.int .i64) n), (43, .d .bool t43)], nt := 125, up := [], own := [], nx := 0, log := [], ln := 0 }
def q83_ (s : List UInt8) (n : Int) (t49 : Bool) : St := { fr := [(0, .d .str s), (7, .d (.int .i64) n), (49, .d .bool t49)], nt := 125, up := [], own := [], nx := 0, log := [], ln := 0 }
def q51_ (s : List UInt8) (n : Int) : St := { fr := [(0, .d .str s), (7, .d (.int .i64) n)], nt := 125, up := [], own := [], nx := 0, log := [], ln := 0 }
def q84_ (s : List UInt8) (n : Int) (t58 : Bool) : St := { fr := [(0, .d .str s), (7, .d (.int .i64) n), (58, .d .bool t58)], nt := 125, up := [], own := [], nx := 0, log := [], ln := 0 }
def q85_ (s : List UInt8) (n chunkMax : Int) : St := { fr := [(0, .d .str s), (7, .d (.int .i64) n), (8, .d (.int .i64) chunkMax)], nt := 125, up := [], own := [], nx := 0, log := [], ln := 0 }
def q86_ (s : List UInt8) (n : Int) (t67 : Bool) : St := { fr := [(0, .d .str s), (7, .d (.int .i64) n), (67, .d .bool t67)], nt := 125, up := [], own := [], nx := 0, log := [], ln := 0 }
def q7i_ (s : List UInt8) (n : Int) (t76 : Bool) : St := { fr := [(0, .d .str s), (7, .d (.int .i64) n), (76, .d .bool t76)], nt := 125, up := [], own := [], nx := 0, log := [], ln := 0 }
def q7j_ (s : List UInt8) (n : Int) (t85 : Bool) : St := { fr := [(0, .d .str s), (7, .d (.int .i64) n), (85, .d .bool t85)], nt := 125, up := [], own := [], nx := 0, log := [], ln := 0 }
def strings_Repeat_m1 (j2 : List UInt8 -> Int -> Bool -> Option (As [.str])) (s : List UInt8) (count : Int) : Option (As [.str]) :=
  Option.bind (bits_Mul (cvt .u64 (Int.ofNat (List.length s)), cvt .u64 count, ())) fun (y : Int × Int × Unit) => if gt y.1 0 = true then j2 s y.2.1 true else j2 s y.2.1 (gt y.2.1 9223372036854775807)
def strings_Repeat_m2 (j3 : List UInt8 -> Int -> Option (As [.str])) (s : List UInt8) (lo : Int) (t34 : Bool) : Option (As [.str]) :=
  if t34 = true then Option.none else j3 s lo
def strings_Repeat_m3 (j4 : List UInt8 -> Int -> Bool -> Option (As [.str])) (s : List UInt8) (lo : Int) : Option (As [.str]) :=
  if eqi (Int.ofNat (List.length s)) 0 = true then some ([], ()) else Option.bind (at? s 0) fun (c : UInt8) => if eqi (Int.ofNat (UInt8.toNat c)) 32 = true then j4 s (cvt .i64 lo) true else if eqi (Int.ofNat (UInt8.toNat c)) 45 = true then j4 s (cvt .i64 lo) true else if eqi (Int.ofNat (UInt8.toNat c)) 48 = true then j4 s (cvt .i64 lo) true else if eqi (Int.ofNat (UInt8.toNat c)) 61 = true then j4 s (cvt .i64 lo) true else j4 s (cvt .i64 lo) (eqi (Int.ofNat (UInt8.toNat c)) 9)
def strings_Repeat_m4 (j5 : List UInt8 -> Int -> Bool -> Option (As [.str])) (j6 : List UInt8 -> Int -> Option (As [.str])) (s : List UInt8) (n : Int) (t43 : Bool) : Option (As [.str]) :=
  if t43 = true then if le n 128 = true then Option.bind (q4a_ ([32, 32, 32, 32, 32, 32, 32, 32, 32, 32, 32, 32, 32, 32, 32, 32, 32, 32, 32, 32, 32, 32, 32, 32, 32, 32, 32, 32, 32, 32, 32, 32, 32, 32, 32, 32, 32, 32, 32, 32, 32, 32, 32, 32, 32, 32, 32, 32, 32, 32, 32, 32, 32, 32, 32, 32, 32, 32, 32, 32, 32, 32, 32, 32, 32, 32, 32, 32, 32, 32, 32, 32, 32, 32, 32, 32, 32, 32, 32, 32, 32, 32, 32, 32, 32, 32, 32, 32, 32, 32, 32, 32, 32, 32, 32, 32, 32, 32, 32, 32, 32, 32, 32, 32, 32, 32, 32, 32, 32, 32, 32, 32, 32, 32, 32, 32, 32, 32, 32, 32, 32, 32, 32, 32, 32, 32, 32, 32], s, ())) fun (y : Bool × Unit) => j5 s n y.1 else j5 s n false else j6 s n
def strings_Repeat_m5 (j7 : List UInt8 -> Int -> Bool -> Option (As [.str])) (s : List UInt8) (n : Int) (t49 : Bool) : Option (As [.str]) :=
  if t49 = true then Option.bind (cut [32, 32, 32, 32, 32, 32, 32, 32, 32, 32, 32, 32, 32, 32, 32, 32, 32, 32, 32, 32, 32, 32, 32, 32, 32, 32, 32, 32, 32, 32, 32, 32, 32, 32, 32, 32, 32, 32, 32, 32, 32, 32, 32, 32, 32, 32, 32, 32, 32, 32, 32, 32, 32, 32, 32, 32, 32, 32, 32, 32, 32, 32, 32, 32, 32, 32, 32, 32, 32, 32, 32, 32, 32, 32, 32, 32, 32, 32, 32, 32, 32, 32, 32, 32, 32, 32, 32, 32, 32, 32, 32, 32, 32, 32, 32, 32, 32, 32, 32, 32, 32, 32, 32, 32, 32, 32, 32, 32, 32, 32, 32, 32, 32, 32, 32, 32, 32, 32, 32, 32, 32, 32, 32, 32, 32, 32, 32, 32] 0 n) fun (y : List UInt8) => some (y, ()) else if le n 128 = true then Option.bind (q4a_ ([45, 45, 45, 45, 45, 45, 45, 45, 45, 45, 45, 45, 45, 45, 45, 45, 45, 45, 45, 45, 45, 45, 45, 45, 45, 45, 45, 45, 45, 45, 45, 45, 45, 45, 45, 45, 45, 45, 45, 45, 45, 45, 45, 45, 45, 45, 45, 45, 45, 45, 45, 45, 45, 45, 45, 45, 45, 45, 45, 45, 45, 45, 45, 45, 45, 45, 45, 45, 45, 45, 45, 45, 45, 45, 45, 45, 45, 45, 45, 45, 45, 45, 45, 45, 45, 45, 45, 45, 45, 45, 45, 45, 45, 45, 45, 45, 45, 45, 45, 45, 45, 45, 45, 45, 45, 45, 45, 45, 45, 45, 45, 45, 45, 45, 45, 45, 45, 45, 45, 45, 45, 45, 45, 45, 45, 45, 45, 45], s, ())) fun (y : Bool × Unit) => j7 s n y.1 else j7 s n false
def strings_Repeat_m6 (j8 : List UInt8 -> Int -> Int -> Option (As [.str])) (s : List UInt8) (n : Int) : Option (As [.str]) :=
  if gt n 8192 = true then need (nei (Int.ofNat (List.length s)) 0) (if eqi (mul .i64 (quo .i64 8192 (Int.ofNat (List.length s))) (Int.ofNat (List.length s))) 0 = true then j8 s n (Int.ofNat (List.length s)) else j8 s n (mul .i64 (quo .i64 8192 (Int.ofNat (List.length s))) (Int.ofNat (List.length s)))) else j8 s n n
def strings_Repeat_m7 (j9 : List UInt8 -> Int -> Bool -> Option (As [.str])) (s : List UInt8) (n : Int) (t58 : Bool) : Option (As [.str]) :=
  if t58 = true then Option.bind (cut [45, 45, 45, 45, 45, 45, 45, 45, 45, 45, 45, 45, 45, 45, 45, 45, 45, 45, 45, 45, 45, 45, 45, 45, 45, 45, 45, 45, 45, 45, 45, 45, 45, 45, 45, 45, 45, 45, 45, 45, 45, 45, 45, 45, 45, 45, 45, 45, 45, 45, 45, 45, 45, 45, 45, 45, 45, 45, 45, 45, 45, 45, 45, 45, 45, 45, 45, 45, 45, 45, 45, 45, 45, 45, 45, 45, 45, 45, 45, 45, 45, 45, 45, 45, 45, 45, 45, 45, 45, 45, 45, 45, 45, 45, 45, 45, 45, 45, 45, 45, 45, 45, 45, 45, 45, 45, 45, 45, 45, 45, 45, 45, 45, 45, 45, 45, 45, 45, 45, 45, 45, 45, 45, 45, 45, 45, 45, 45] 0 n) fun (y : List UInt8) => some (y, ()) else if le n 64 = true then Option.bind (q4a_ ([48, 48, 48, 48, 48, 48, 48, 48, 48, 48, 48, 48, 48, 48, 48, 48, 48, 48, 48, 48, 48, 48, 48, 48, 48, 48, 48, 48, 48, 48, 48, 48, 48, 48, 48, 48, 48, 48, 48, 48, 48, 48, 48, 48, 48, 48, 48, 48, 48, 48, 48, 48, 48, 48, 48, 48, 48, 48, 48, 48, 48, 48, 48, 48], s, ())) fun (y : Bool × Unit) => j9 s n y.1 else j9 s n false
def strings_Repeat_m8 (s : List UInt8) (n chunkMax : Int) : Option (As [.str]) :=
  if lt n 0 = true then Option.none else Option.none
def strings_Repeat_m9 (j10 : List UInt8 -> Int -> Bool -> Option (As [.str])) (s : List UInt8) (n : Int) (t67 : Bool) : Option (As [.str]) :=
  if t67 = true then Option.bind (cut [48, 48, 48, 48, 48, 48, 48, 48, 48, 48, 48, 48, 48, 48, 48, 48, 48, 48, 48, 48, 48, 48, 48, 48, 48, 48, 48, 48, 48, 48, 48, 48, 48, 48, 48, 48, 48, 48, 48, 48, 48, 48, 48, 48, 48, 48, 48, 48, 48, 48, 48, 48, 48, 48, 48, 48, 48, 48, 48, 48, 48, 48, 48, 48] 0 n) fun (y : List UInt8) => some (y, ()) else if le n 128 = true then Option.bind (q4a_ ([61, 61, 61, 61, 61, 61, 61, 61, 61, 61, 61, 61, 61, 61, 61, 61, 61, 61, 61, 61, 61, 61, 61, 61, 61, 61, 61, 61, 61, 61, 61, 61, 61, 61, 61, 61, 61, 61, 61, 61, 61, 61, 61, 61, 61, 61, 61, 61, 61, 61, 61, 61, 61, 61, 61, 61, 61, 61, 61, 61, 61, 61, 61, 61, 61, 61, 61, 61, 61, 61, 61, 61, 61, 61, 61, 61, 61, 61, 61, 61, 61, 61, 61, 61, 61, 61, 61, 61, 61, 61, 61, 61, 61, 61, 61, 61, 61, 61, 61, 61, 61, 61, 61, 61, 61, 61, 61, 61, 61, 61, 61, 61, 61, 61, 61, 61, 61, 61, 61, 61, 61, 61, 61, 61, 61, 61, 61, 61], s, ())) fun (y : Bool × Unit) => j10 s n y.1 else j10 s n false
def strings_Repeat_m10 (j11 : List UInt8 -> Int -> Bool -> Option (As [.str])) (s : List UInt8) (n : Int) (t76 : Bool) : Option (As [.str]) :=
  if t76 = true then Option.bind (cut [61, 61, 61, 61, 61, 61, 61, 61, 61, 61, 61, 61, 61, 61, 61, 61, 61, 61, 61, 61, 61, 61, 61, 61, 61, 61, 61, 61, 61, 61, 61, 61, 61, 61, 61, 61, 61, 61, 61, 61, 61, 61, 61, 61, 61, 61, 61, 61, 61, 61, 61, 61, 61, 61, 61, 61, 61, 61, 61, 61, 61, 61, 61, 61, 61, 61, 61, 61, 61, 61, 61, 61, 61, 61, 61, 61, 61, 61, 61, 61, 61, 61, 61, 61, 61, 61, 61, 61, 61, 61, 61, 61, 61, 61, 61, 61, 61, 61, 61, 61, 61, 61, 61, 61, 61, 61, 61, 61, 61, 61, 61, 61, 61, 61, 61, 61, 61, 61, 61, 61, 61, 61, 61, 61, 61, 61, 61, 61] 0 n) fun (y : List UInt8) => some (y, ()) else if le n 64 = true then Option.bind (q4a_ ([9, 9, 9, 9, 9, 9, 9, 9, 9, 9, 9, 9, 9, 9, 9, 9, 9, 9, 9, 9, 9, 9, 9, 9, 9, 9, 9, 9, 9, 9, 9, 9, 9, 9, 9, 9, 9, 9, 9, 9, 9, 9, 9, 9, 9, 9, 9, 9, 9, 9, 9, 9, 9, 9, 9, 9, 9, 9, 9, 9, 9, 9, 9, 9], s, ())) fun (y : Bool × Unit) => j11 s n y.1 else j11 s n false
def strings_Repeat_m11 (j6 : List UInt8 -> Int -> Option (As [.str])) (s : List UInt8) (n : Int) (t85 : Bool) : Option (As [.str]) :=
  if t85 = true then Option.bind (cut [9, 9, 9, 9, 9, 9, 9, 9, 9, 9, 9, 9, 9, 9, 9, 9, 9, 9, 9, 9, 9, 9, 9, 9, 9, 9, 9, 9, 9, 9, 9, 9, 9, 9, 9, 9, 9, 9, 9, 9, 9, 9, 9, 9, 9, 9, 9, 9, 9, 9, 9, 9, 9, 9, 9, 9, 9, 9, 9, 9, 9, 9, 9, 9] 0 n) fun (y : List UInt8) => some (y, ()) else j6 s n
def strings_Repeat_m0 (j1 : List UInt8 -> Int -> Option (As [.str])) (s : List UInt8) (count : Int) : Option (As [.str]) :=
  if eqi count 0 = true then some ([], ()) else if eqi count 1 = true then some (s, ()) else if lt count 0 = true then Option.none else j1 s count
def strings_Repeat_K8 (s : List UInt8) (n chunkMax : Int) : Option (As [.str]) := strings_Repeat_m8 s n chunkMax
def q5y_ (s : List UInt8) (n : Int) : Option (As [.str]) := strings_Repeat_m6 (strings_Repeat_K8) s n
def strings_Repeat_K11 (s : List UInt8) (n : Int) (t85 : Bool) : Option (As [.str]) := strings_Repeat_m11 (q5y_) s n t85
def strings_Repeat_K10 (s : List UInt8) (n : Int) (t76 : Bool) : Option (As [.str]) := strings_Repeat_m10 (strings_Repeat_K11) s n t76
def strings_Repeat_K9 (s : List UInt8) (n : Int) (t67 : Bool) : Option (As [.str]) := strings_Repeat_m9 (strings_Repeat_K10) s n t67
def strings_Repeat_K7 (s : List UInt8) (n : Int) (t58 : Bool) : Option (As [.str]) := strings_Repeat_m7 (strings_Repeat_K9) s n t58
def strings_Repeat_K5 (s : List UInt8) (n : Int) (t49 : Bool) : Option (As [.str]) := strings_Repeat_m5 (strings_Repeat_K7) s n t49
def strings_Repeat_K4 (s : List UInt8) (n : Int) (t43 : Bool) : Option (As [.str]) := strings_Repeat_m4 (strings_Repeat_K5) (q5y_) s n t43
def strings_Repeat_K3 (s : List UInt8) (lo : Int) : Option (As [.str]) := strings_Repeat_m3 (strings_Repeat_K4) s lo
def strings_Repeat_K2 (s : List UInt8) (lo : Int) (t34 : Bool) : Option (As [.str]) := strings_Repeat_m2 (strings_Repeat_K3) s lo t34
def strings_Repeat_K1 (s : List UInt8) (count : Int) : Option (As [.str]) := strings_Repeat_m1 (strings_Repeat_K2) s count
def strings_Repeat (x : As [.str, .int .i64]) : Option (As [.str]) := strings_Repeat_m0 strings_Repeat_K1 x.1 x.2.1
theorem strings_Repeat_c8  (J s n chunkMax) : pfn Tryz.prog q3_ 6 18446744073709551616 (Ev.get q4_) 27 strings_Repeat_s J 1023 [] (q85_ s n chunkMax) = strings_Repeat_m8 s n chunkMax := by kernel_rfl
theorem strings_Repeat_c6  (J s n) : pfn Tryz.prog q3_ 6 18446744073709551616 (Ev.get q4_) 27 strings_Repeat_s J 255 [] (q51_ s n) = strings_Repeat_m6 (fun s n chunkMax => J 1023 [] (q85_ s n chunkMax)) s n := by kernel_rfl
theorem strings_Repeat_c11  (J s n t85) : pfn Tryz.prog q3_ 6 18446744073709551616 (Ev.get q4_) 27 strings_Repeat_s J 4183295 [] (q7j_ s n t85) = strings_Repeat_m11 (fun s n => J 255 [] (q51_ s n)) s n t85 := by kernel_rfl
theorem strings_Repeat_c10  (J s n t76) : pfn Tryz.prog q3_ 6 18446744073709551616 (Ev.get q4_) 27 strings_Repeat_s J 1045823 [] (q7i_ s n t76) = strings_Repeat_m10 (fun s n t85 => J 4183295 [] (q7j_ s n t85)) s n t76 := by kernel_rfl
theorem strings_Repeat_c9  (J s n t67) : pfn Tryz.prog q3_ 6 18446744073709551616 (Ev.get q4_) 27 strings_Repeat_s J 261455 [] (q86_ s n t67) = strings_Repeat_m9 (fun s n t76 => J 1045823 [] (q7i_ s n t76)) s n t67 := by kernel_rfl
theorem strings_Repeat_c7  (J s n t58) : pfn Tryz.prog q3_ 6 18446744073709551616 (Ev.get q4_) 27 strings_Repeat_s J 65363 [] (q84_ s n t58) = strings_Repeat_m7 (fun s n t67 => J 261455 [] (q86_ s n t67)) s n t58 := by kernel_rfl
theorem strings_Repeat_c5  (J s n t49) : pfn Tryz.prog q3_ 6 18446744073709551616 (Ev.get q4_) 27 strings_Repeat_s J 16340 [] (q83_ s n t49) = strings_Repeat_m5 (fun s n t58 => J 65363 [] (q84_ s n t58)) s n t49 := by kernel_rfl
theorem strings_Repeat_c4  (J s n t43) : pfn Tryz.prog q3_ 6 18446744073709551616 (Ev.get q4_) 27 strings_Repeat_s J 2042 [] (q82_ s n t43) = strings_Repeat_m4 (fun s n t49 => J 16340 [] (q83_ s n t49)) (fun s n => J 255 [] (q51_ s n)) s n t43 := by kernel_rfl
theorem strings_Repeat_c3  (J s lo) : pfn Tryz.prog q3_ 6 18446744073709551616 (Ev.get q4_) 27 strings_Repeat_s J 31 [] (q81_ s lo) = strings_Repeat_m3 (fun s n t43 => J 2042 [] (q82_ s n t43)) s lo := by kernel_rfl
theorem strings_Repeat_c2  (J s lo t34) : pfn Tryz.prog q3_ 6 18446744073709551616 (Ev.get q4_) 27 strings_Repeat_s J 62 [] (q80_ s lo t34) = strings_Repeat_m2 (fun s lo => J 31 [] (q81_ s lo)) s lo t34 := by kernel_rfl
theorem strings_Repeat_c1  (J s count) : pfn Tryz.prog q3_ 6 18446744073709551616 (Ev.get q4_) 27 strings_Repeat_s J 7 [] (q7z_ s count) = strings_Repeat_m1 (fun s lo t34 => J 62 [] (q80_ s lo t34)) s count := by kernel_rfl
theorem strings_Repeat_c0 (J : Orc (As [.str])) (x : As [.str, .int .i64]) : rfn Tryz.prog q3_ 6 18446744073709551616 (Ev.get q4_) 27 strings_Repeat_s J x = strings_Repeat_m0 (fun s count => J 7 [] (q7z_ s count)) x.1 x.2.1 := by kernel_rfl
theorem strings_Repeat_g8  (s n chunkMax) : jfn Tryz.prog q3_ 6 18446744073709551616 (Ev.get q4_) 27 strings_Repeat_s 1023 [] (q85_ s n chunkMax) = strings_Repeat_K8 s n chunkMax := by
  rw [q2_ (by decide)]
  rw [strings_Repeat_c8]
  rfl
theorem strings_Repeat_g6  (s n) : jfn Tryz.prog q3_ 6 18446744073709551616 (Ev.get q4_) 27 strings_Repeat_s 255 [] (q51_ s n) = q5y_ s n := by
  rw [q2_ (by decide)]
  have e8 : (fun s n chunkMax => (jfn Tryz.prog q3_ 6 18446744073709551616 (Ev.get q4_) 27 strings_Repeat_s) 1023 [] (q85_ s n chunkMax)) = strings_Repeat_K8 := by funext s n chunkMax; exact strings_Repeat_g8 s n chunkMax
  rw [strings_Repeat_c6, e8]
  rfl
theorem strings_Repeat_g11  (s n t85) : jfn Tryz.prog q3_ 6 18446744073709551616 (Ev.get q4_) 27 strings_Repeat_s 4183295 [] (q7j_ s n t85) = strings_Repeat_K11 s n t85 := by
  rw [q2_ (by decide)]
  have e6 : (fun s n => (jfn Tryz.prog q3_ 6 18446744073709551616 (Ev.get q4_) 27 strings_Repeat_s) 255 [] (q51_ s n)) = q5y_ := by funext s n; exact strings_Repeat_g6 s n
  rw [strings_Repeat_c11, e6]
  rfl
theorem strings_Repeat_g10  (s n t76) : jfn Tryz.prog q3_ 6 18446744073709551616 (Ev.get q4_) 27 strings_Repeat_s 1045823 [] (q7i_ s n t76) = strings_Repeat_K10 s n t76 := by
  rw [q2_ (by decide)]
  have e11 : (fun s n t85 => (jfn Tryz.prog q3_ 6 18446744073709551616 (Ev.get q4_) 27 strings_Repeat_s) 4183295 [] (q7j_ s n t85)) = strings_Repeat_K11 := by funext s n t85; exact strings_Repeat_g11 s n t85
  rw [strings_Repeat_c10, e11]
  rfl
theorem strings_Repeat_g9  (s n t67) : jfn Tryz.prog q3_ 6 18446744073709551616 (Ev.get q4_) 27 strings_Repeat_s 261455 [] (q86_ s n t67) = strings_Repeat_K9 s n t67 := by
  rw [q2_ (by decide)]
  have e10 : (fun s n t76 => (jfn Tryz.prog q3_ 6 18446744073709551616 (Ev.get q4_) 27 strings_Repeat_s) 1045823 [] (q7i_ s n t76)) = strings_Repeat_K10 := by funext s n t76; exact strings_Repeat_g10 s n t76
  rw [strings_Repeat_c9, e10]
  rfl
theorem strings_Repeat_g7  (s n t58) : jfn Tryz.prog q3_ 6 18446744073709551616 (Ev.get q4_) 27 strings_Repeat_s 65363 [] (q84_ s n t58) = strings_Repeat_K7 s n t58 := by
  rw [q2_ (by decide)]
  have e9 : (fun s n t67 => (jfn Tryz.prog q3_ 6 18446744073709551616 (Ev.get q4_) 27 strings_Repeat_s) 261455 [] (q86_ s n t67)) = strings_Repeat_K9 := by funext s n t67; exact strings_Repeat_g9 s n t67
  rw [strings_Repeat_c7, e9]
  rfl
theorem strings_Repeat_g5  (s n t49) : jfn Tryz.prog q3_ 6 18446744073709551616 (Ev.get q4_) 27 strings_Repeat_s 16340 [] (q83_ s n t49) = strings_Repeat_K5 s n t49 := by
  rw [q2_ (by decide)]
  have e7 : (fun s n t58 => (jfn Tryz.prog q3_ 6 18446744073709551616 (Ev.get q4_) 27 strings_Repeat_s) 65363 [] (q84_ s n t58)) = strings_Repeat_K7 := by funext s n t58; exact strings_Repeat_g7 s n t58
  rw [strings_Repeat_c5, e7]
  rfl
theorem strings_Repeat_g4  (s n t43) : jfn Tryz.prog q3_ 6 18446744073709551616 (Ev.get q4_) 27 strings_Repeat_s 2042 [] (q82_ s n t43) = strings_Repeat_K4 s n t43 := by
  rw [q2_ (by decide)]
  have e5 : (fun s n t49 => (jfn Tryz.prog q3_ 6 18446744073709551616 (Ev.get q4_) 27 strings_Repeat_s) 16340 [] (q83_ s n t49)) = strings_Repeat_K5 := by funext s n t49; exact strings_Repeat_g5 s n t49
  have e6 : (fun s n => (jfn Tryz.prog q3_ 6 18446744073709551616 (Ev.get q4_) 27 strings_Repeat_s) 255 [] (q51_ s n)) = q5y_ := by funext s n; exact strings_Repeat_g6 s n
  rw [strings_Repeat_c4, e5, e6]
  rfl
theorem strings_Repeat_g3  (s lo) : jfn Tryz.prog q3_ 6 18446744073709551616 (Ev.get q4_) 27 strings_Repeat_s 31 [] (q81_ s lo) = strings_Repeat_K3 s lo := by
  rw [q2_ (by decide)]
  have e4 : (fun s n t43 => (jfn Tryz.prog q3_ 6 18446744073709551616 (Ev.get q4_) 27 strings_Repeat_s) 2042 [] (q82_ s n t43)) = strings_Repeat_K4 := by funext s n t43; exact strings_Repeat_g4 s n t43
  rw [strings_Repeat_c3, e4]
  rfl
theorem strings_Repeat_g2  (s lo t34) : jfn Tryz.prog q3_ 6 18446744073709551616 (Ev.get q4_) 27 strings_Repeat_s 62 [] (q80_ s lo t34) = strings_Repeat_K2 s lo t34 := by
  rw [q2_ (by decide)]
  have e3 : (fun s lo => (jfn Tryz.prog q3_ 6 18446744073709551616 (Ev.get q4_) 27 strings_Repeat_s) 31 [] (q81_ s lo)) = strings_Repeat_K3 := by funext s lo; exact strings_Repeat_g3 s lo
  rw [strings_Repeat_c2, e3]
  rfl
theorem strings_Repeat_g1  (s count) : jfn Tryz.prog q3_ 6 18446744073709551616 (Ev.get q4_) 27 strings_Repeat_s 7 [] (q7z_ s count) = strings_Repeat_K1 s count := by
  rw [q2_ (by decide)]
  have e2 : (fun s lo t34 => (jfn Tryz.prog q3_ 6 18446744073709551616 (Ev.get q4_) 27 strings_Repeat_s) 62 [] (q80_ s lo t34)) = strings_Repeat_K2 := by funext s lo t34; exact strings_Repeat_g2 s lo t34
  rw [strings_Repeat_c1, e2]
  rfl
theorem strings_Repeat_t (x : As [.str, .int .i64]) : evT Tryz.prog q3_ 6 18446744073709551616 (Ev.get q4_) 27 strings_Repeat_s x = strings_Repeat x := by
  have e1 : (fun s count => (jfn Tryz.prog q3_ 6 18446744073709551616 (Ev.get q4_) 27 strings_Repeat_s) 7 [] (q7z_ s count)) = strings_Repeat_K1 := by funext s count; exact strings_Repeat_g1 s count
  rw [q1u_, strings_Repeat_c0, e1]
  rfl
theorem strings_Repeat_ok : CtOk Tryz.prog I0 27 ⟨strings_Repeat_s, strings_Repeat⟩ := qu_ (q0_ bits_Mul_ok (q0_ strings_HasPrefix_ok q9_)) strings_Repeat_t
@[reducible] def q5s_ : Sh := ⟨[.d (.int .i64)], [], [.int .i64], [.d (.int .i64)], [], 0, [.int .i64]⟩
def q9a_ : Env := (cts [])
def q94_ : List (Nat × Hint) := [(58, ⟨[], [3, 4, 5]⟩)]
def q6f_ (p t4 t5 : Int) : St := { fr := [(3, .d (.int .i64) p), (4, .d (.int .i64) t4), (5, .d (.int .i64) t5)], nt := 11, up := [], own := [], nx := 0, log := [], ln := 0 }
def qds_ (self1 : Int -> Int -> Int -> Option (As [.int .i64])) (p t4 t5 : Int) : Option (As [.int .i64]) :=
  if lt t5 t4 = true then self1 (mul .i64 p 10) t4 (add .i64 t5 1) else some (p, ())
def qdr_ (j1 : Int -> Int -> Int -> Option (As [.int .i64])) (n : Int) : Option (As [.int .i64]) :=
  j1 1 n 0
def qbv_ (p t4 t5 : Int) : Option (As [.int .i64]) :=
  loopF (fun (self : (Int) × (Int) × (Int) -> Option (As [.int .i64])) (s : (Int) × (Int) × (Int)) => qds_ (fun p t4 t5 => self (p, t4, t5)) s.1 s.2.1 s.2.2) 18446744073709551616 (p, t4, t5)
def qan_ (x : As [.int .i64]) : Option (As [.int .i64]) := qdr_ qbv_ x.1
theorem qic_  (J w1 p t4 t5) : pfn Tryz.prog q9a_ 6 18446744073709551616 (Ev.get q94_) 68 q5s_ J 58 [w1] (q6f_ p t4 t5) = qds_ (fun p t4 t5 => w1 (q6f_ p t4 t5)) p t4 t5 := by kernel_rfl
theorem qjx_ (J : Orc (As [.int .i64])) (x : As [.int .i64]) : rfn Tryz.prog q9a_ 6 18446744073709551616 (Ev.get q94_) 68 q5s_ J x = qdr_ (fun p t4 t5 => J 58 [] (q6f_ p t4 t5)) x.1 := by kernel_rfl
theorem qjl_  (p t4 t5) : jfn Tryz.prog q9a_ 6 18446744073709551616 (Ev.get q94_) 68 q5s_ 58 [] (q6f_ p t4 t5) = qbv_ p t4 t5 := by
  rw [q2_ (by decide)]
  rw [qv_ (by kernel_rfl)]
  refine qi_ (σ := (Int) × (Int) × (Int)) (mk := fun s => q6f_ s.1 s.2.1 s.2.2) (fun w1 s => ?_) 18446744073709551616 (p, t4, t5)
  refine (qic_ _ w1 s.1 s.2.1 s.2.2).trans ?_
  rfl
theorem qls_ (x : As [.int .i64]) : evT Tryz.prog q9a_ 6 18446744073709551616 (Ev.get q94_) 68 q5s_ x = qan_ x := by
  have e1 : (fun p t4 t5 => (jfn Tryz.prog q9a_ 6 18446744073709551616 (Ev.get q94_) 68 q5s_) 58 [] (q6f_ p t4 t5)) = qbv_ := by funext p t4 t5; exact qjl_ p t4 t5
  rw [q1u_, qjx_, e1]
  rfl
theorem qif_ : CtOk Tryz.prog I0 68 ⟨q5s_, qan_⟩ := qu_ q9_ qls_
@[reducible] def strconv_FormatInt_s : Sh := ⟨[.d (.int .i64), .d (.int .i64)], [], [.int .i64, .int .i64], [.d (.str)], [], 0, [.str]⟩
def strconv_FormatInt_m0 (i base : Int) : Option (As [.str]) :=
  Option.bind (q7h_ (i, base, ())) fun (y : List UInt8 × Unit) => some (y.1, ())
def q5z_ (x : As [.int .i64, .int .i64]) : Option (As [.str]) := strconv_FormatInt_m0 x.1 x.2.1
theorem strconv_FormatInt_ok : CtOk Tryz.prog I0 69 ⟨strconv_FormatInt_s, q5z_⟩ := ctn (q0_ istrconv_FormatInt_ok q9_) 6 fun J x => by kernel_rfl
@[reducible] def q6o_ : Sh := ⟨[.d (.pr (.int .i64) (.int .u8))], [], [.pr (.int .i64) (.int .u8)], [.d (.str)], [], 0, [.str]⟩
def q9s_ : Env := (cts [(27, (⟨strings_Repeat_s, strings_Repeat⟩ : Ct)), (52, (⟨qcq_, q7t_⟩ : Ct)), (68, (⟨q5s_, qan_⟩ : Ct)), (69, (⟨strconv_FormatInt_s, q5z_⟩ : Ct))])
def q9t_ : List (Nat × Hint) := [(15, ⟨[], [1, 3, 4]⟩)]
def qat_ (n : Int) (sign : List UInt8) (d : Int × Int) : St := { fr := [(1, .pb 0 0), (3, .d (.int .i64) n), (4, .d .str sign)], nt := 47, up := [], own := [(0, .box 45 [.d (.int .i64) d.1, .d (.int .u8) d.2])], nx := 1, log := [], ln := 0 }
def qcr_ (n : Int) (sign : List UInt8) (d : Int × Int) : Option (As [.str]) :=
  Option.bind (qan_ (cvt .i64 d.2, ())) fun (y : Int × Unit) => need (nei y.1 0) (Option.bind (q5z_ (quo .i64 n y.1, 10, ())) fun (y_1 : List UInt8 × Unit) => need (small (List.length sign + List.length y_1.1)) (if eqi d.2 0 = true then some (sign ++ y_1.1, ()) else need (nei y.1 0) (Option.bind (q5z_ (rem n y.1, 10, ())) fun (y : List UInt8 × Unit) => need (small (List.length (sign ++ y_1.1) + 1)) (Option.bind (strings_Repeat ([48], Sx.sub .i64 (cvt .i64 d.2) (Int.ofNat (List.length y.1)), ())) fun (y_2 : List UInt8 × Unit) => need (small (List.length (sign ++ y_1.1 ++ [46]) + List.length y_2.1)) (need (small (List.length (sign ++ y_1.1 ++ [46] ++ y_2.1) + List.length y.1)) (some (sign ++ y_1.1 ++ [46] ++ y_2.1 ++ y.1, ())))))))
def qap_ (j1 : Int -> List UInt8 -> Int × Int -> Option (As [.str])) (d : Int × Int) : Option (As [.str]) :=
  Option.bind (q7t_ (d, ())) fun (y : Bool × Unit) => if (!y.1) = true then some ([], ()) else if lt d.1 0 = true then j1 (Sx.neg .i64 d.1) [45] d else j1 d.1 [] d
def q76_ (n : Int) (sign : List UInt8) (d : Int × Int) : Option (As [.str]) := qcr_ n sign d
def q90_ (x : As [.pr (.int .i64) (.int .u8)]) : Option (As [.str]) := qap_ q76_ x.1
theorem qm7_  (J n sign d) : pfn Tryz.prog q9s_ 6 18446744073709551616 (Ev.get q9t_) 37 q6o_ J 15 [] (qat_ n sign d) = qcr_ n sign d := by kernel_rfl
theorem ql8_ (J : Orc (As [.str])) (x : As [.pr (.int .i64) (.int .u8)]) : rfn Tryz.prog q9s_ 6 18446744073709551616 (Ev.get q9t_) 37 q6o_ J x = qap_ (fun n sign d => J 15 [] (qat_ n sign d)) x.1 := by kernel_rfl
theorem qlm_  (n sign d) : jfn Tryz.prog q9s_ 6 18446744073709551616 (Ev.get q9t_) 37 q6o_ 15 [] (qat_ n sign d) = q76_ n sign d := by
  rw [q2_ (by decide)]
  rw [qm7_]
  rfl
theorem qms_ (x : As [.pr (.int .i64) (.int .u8)]) : evT Tryz.prog q9s_ 6 18446744073709551616 (Ev.get q9t_) 37 q6o_ x = q90_ x := by
  have e1 : (fun n sign d => (jfn Tryz.prog q9s_ 6 18446744073709551616 (Ev.get q9t_) 37 q6o_) 15 [] (qat_ n sign d)) = q76_ := by funext n sign d; exact qlm_ n sign d
  rw [q1u_, ql8_, e1]
  rfl
theorem qm0_ : CtOk Tryz.prog I0 37 ⟨q6o_, q90_⟩ := qu_ (q0_ strings_Repeat_ok (q0_ qdo_ (q0_ qif_ (q0_ strconv_FormatInt_ok q9_)))) qms_
@[reducible] def qn_ : Sh := ⟨[.d (.pr .str (.sl QAT2))], [], [.pr .str (.sl QAT2)], [.d (.str), .d (.bool)], [], 0, [.str, .bool]⟩
def q14_ : Env := (cts [(21, (⟨qo_, q4t_⟩ : Ct)), (25, (⟨strings_Join_s, strings_Join⟩ : Ct)), (37, (⟨q6o_, q90_⟩ : Ct))])
def q13_ : List (Nat × Hint) := [(63, ⟨[], [4]⟩), (506, ⟨[], [4, 5, 21, 22, 23]⟩), (64819, ⟨[], [4, 5, 21, 22, 23]⟩), (518554, ⟨[], [4, 5, 21, 22, 23, 33, 34, 35]⟩), (66374963, ⟨[], [4, 5, 10, 21, 22, 23, 33, 34, 35]⟩)]
def q18_ (t21 : List QAT0) (t22 t23 : Int) (o : List Int) : St := { fr := [(4, .pb 0 0), (5, .fn (.func 34) [] [.pb 0 0]), (21, .d (.sl QAT2) t21), (22, .d (.int .i64) t22), (23, .d (.int .i64) t23)], nt := 63, up := [], own := [(0, .box 87 [.pb 0 0, .row 1]), (1, .row (.int .u8) 5 o)], nx := 2, log := [], ln := 0 }
def q3o_ (t21 : List QAT0) (t22 t23 : Int) (t33 : List QAT3) (t34 t35 : Int) (o : List Int) : St := { fr := [(4, .pb 0 0), (5, .fn (.func 34) [] [.pb 0 0]), (21, .d (.sl QAT2) t21), (22, .d (.int .i64) t22), (23, .d (.int .i64) t23), (33, .d (.sl QAT5) t33), (34, .d (.int .i64) t34), (35, .d (.int .i64) t35)], nt := 63, up := [], own := [(0, .box 87 [.pb 0 0, .row 1]), (1, .row (.int .u8) 5 o)], nx := 2, log := [], ln := 0 }
def q9i_ (o : List Int) : St := { fr := [(4, .pb 0 0)], nt := 63, up := [], own := [(0, .box 87 [.pb 0 0, .row 1]), (1, .row (.int .u8) 5 o)], nx := 2, log := [], ln := 0 }
def q9g_ (t21 : List QAT0) (t22 t23 : Int) (t33 : List QAT3) (t34 t35 : Int) (o : List Int) (words : List (List UInt8)) : St := { fr := [(4, .pb 0 0), (5, .fn (.func 34) [] [.pb 0 0]), (10, .row 2), (21, .d (.sl QAT2) t21), (22, .d (.int .i64) t22), (23, .d (.int .i64) t23), (33, .d (.sl QAT5) t33), (34, .d (.int .i64) t34), (35, .d (.int .i64) t35)], nt := 63, up := [], own := [(0, .box 87 [.pb 0 0, .row 1]), (1, .row (.int .u8) 5 o), (2, .row .str 9 words)], nx := 3, log := [], ln := 0 }
def q9k_ (t21 : List QAT0) (t22 t23 : Int) (o : List Int) : St := { fr := [(4, .pb 0 0), (5, .fn (.func 34) [] [.pb 0 0]), (21, .d (.sl QAT2) t21), (22, .d (.int .i64) t22), (23, .d (.int .i64) t23)], nt := 63, up := [], own := [(0, .box 87 [.pb 0 0, .row 1]), (1, .row (.int .u8) 5 o)], nx := 2, log := [], ln := 0 }
def q5p_ (j2 : List QAT0 -> Int -> Int -> List QAT3 -> Int -> Int -> List Int -> Option (As [.str, .bool])) (j3 : List Int -> Option (As [.str, .bool])) (self1 : List QAT0 -> Int -> Int -> List Int -> Option (As [.str, .bool])) (t21 : List QAT0) (t22 t23 : Int) (o : List Int) : Option (As [.str, .bool]) :=
  if lt t23 t22 = true then Option.bind (at? t21 t23) fun (y : List UInt8 × Int × List QAT3) => Option.bind (strings_Join ([[115, 108, 97, 118, 101], y.1], [32], ())) fun (y_1 : List UInt8 × Unit) => need (small (List.length o + List.length y_1.1)) (need (small (List.length (o ++ List.map (fun (b : UInt8) => Int.ofNat (UInt8.toNat b)) y_1.1) + 1)) (j2 t21 t22 t23 y.2.2 (Int.ofNat (List.length y.2.2)) 0 (o ++ List.map (fun (b : UInt8) => Int.ofNat (UInt8.toNat b)) y_1.1 ++ [10]))) else j3 o
def q5q_ (j4 : List QAT0 -> Int -> Int -> List QAT3 -> Int -> Int -> List Int -> List (List UInt8) -> Option (As [.str, .bool])) (j5 self1 : List QAT0 -> Int -> Int -> List Int -> Option (As [.str, .bool])) (self2 : List QAT0 -> Int -> Int -> List QAT3 -> Int -> Int -> List Int -> Option (As [.str, .bool])) (t21 : List QAT0) (t22 t23 : Int) (t33 : List QAT3) (t34 t35 : Int) (o : List Int) : Option (As [.str, .bool]) :=
  if lt t35 t34 = true then Option.bind (at? t33 t35) fun (y : List UInt8 × (Int × Int) × List UInt8 × Int) => need (small (2 + List.length y.1)) (Option.bind (q90_ (y.2.1, ())) fun (y_1 : List UInt8 × Unit) => if nes y.2.2.1 [] = true then need (small (Nat.succ (Nat.succ (Nat.succ 0)) + Nat.succ 0)) (j4 t21 t22 t23 t33 t34 t35 o [32 :: 32 :: y.1, [61], y_1.1, y.2.2.1]) else j4 t21 t22 t23 t33 t34 t35 o [32 :: 32 :: y.1, [61], y_1.1]) else j5 t21 t22 t23 o
def qbc_ (o : List Int) : Option (As [.str, .bool]) :=
  need (eqi (Int.ofNat (List.length o)) (Int.ofNat (List.length o))) (need (small (List.length o)) (need (Ev.u8s o) (some (Sx.toS o, true, ()))))
def qb8_ (self1 : List QAT0 -> Int -> Int -> List Int -> Option (As [.str, .bool])) (self2 : List QAT0 -> Int -> Int -> List QAT3 -> Int -> Int -> List Int -> Option (As [.str, .bool])) (t21 : List QAT0) (t22 t23 : Int) (t33 : List QAT3) (t34 t35 : Int) (o : List Int) (words : List (List UInt8)) : Option (As [.str, .bool]) :=
  Option.bind (strings_Join (words, [32], ())) fun (y : List UInt8 × Unit) => need (small (List.length o + List.length y.1)) (need (small (List.length (o ++ List.map (fun (b : UInt8) => Int.ofNat (UInt8.toNat b)) y.1) + 1)) (self2 t21 t22 t23 t33 t34 (add .i64 t35 1) (o ++ List.map (fun (b : UInt8) => Int.ofNat (UInt8.toNat b)) y.1 ++ [10])))
def qbf_ (self1 : List QAT0 -> Int -> Int -> List Int -> Option (As [.str, .bool])) (t21 : List QAT0) (t22 t23 : Int) (o : List Int) : Option (As [.str, .bool]) :=
  Option.bind (strings_Join ([[101, 110, 100]], [32], ())) fun (y : List UInt8 × Unit) => need (small (List.length o + List.length y.1)) (need (small (List.length (o ++ List.map (fun (b : UInt8) => Int.ofNat (UInt8.toNat b)) y.1) + 1)) (self1 t21 t22 (add .i64 t23 1) (o ++ List.map (fun (b : UInt8) => Int.ofNat (UInt8.toNat b)) y.1 ++ [10])))
def q5o_ (j1 : List QAT0 -> Int -> Int -> List Int -> Option (As [.str, .bool])) (r : List UInt8 × List QAT0) : Option (As [.str, .bool]) :=
  Option.bind (q4t_ (r, ())) fun (y : Bool × Unit) => if (!y.1) = true then some ([], false, ()) else Option.bind (strings_Join ([[114, 101, 99, 105, 112, 101], r.1], [32], ())) fun (y : List UInt8 × Unit) => need (small (0 + List.length y.1)) (need (small (List.length (List.map (fun (b : UInt8) => Int.ofNat (UInt8.toNat b)) y.1) + 1)) (j1 r.2 (Int.ofNat (List.length r.2)) 0 (List.map (fun (b : UInt8) => Int.ofNat (UInt8.toNat b)) y.1 ++ [10])))
def q5m_ (u1 : List QAT0 -> Int -> Int -> List Int -> Option (As [.str, .bool])) (u2 : List QAT0 -> Int -> Int -> List QAT3 -> Int -> Int -> List Int -> Option (As [.str, .bool])) (t21 : List QAT0) (t22 t23 : Int) (t33 : List QAT3) (t34 t35 : Int) (o : List Int) (words : List (List UInt8)) : Option (As [.str, .bool]) := qb8_ u1 u2 t21 t22 t23 t33 t34 t35 o words
def q79_ (u1 : List QAT0 -> Int -> Int -> List Int -> Option (As [.str, .bool])) (t21 : List QAT0) (t22 t23 : Int) (o : List Int) : Option (As [.str, .bool]) := qbf_ u1 t21 t22 t23 o
def q4x_ (u1 : List QAT0 -> Int -> Int -> List Int -> Option (As [.str, .bool])) (t21 : List QAT0) (t22 t23 : Int) (t33 : List QAT3) (t34 t35 : Int) (o : List Int) : Option (As [.str, .bool]) :=
  loopF (fun (self : (List QAT0) × (Int) × (Int) × (List QAT3) × (Int) × (Int) × (List Int) -> Option (As [.str, .bool])) (s : (List QAT0) × (Int) × (Int) × (List QAT3) × (Int) × (Int) × (List Int)) => q5q_ (q5m_ u1 (fun t21 t22 t23 t33 t34 t35 o => self (t21, t22, t23, t33, t34, t35, o))) (q79_ u1) u1 (fun t21 t22 t23 t33 t34 t35 o => self (t21, t22, t23, t33, t34, t35, o)) s.1 s.2.1 s.2.2.1 s.2.2.2.1 s.2.2.2.2.1 s.2.2.2.2.2.1 s.2.2.2.2.2.2) 18446744073709551616 (t21, t22, t23, t33, t34, t35, o)
def q7a_ (o : List Int) : Option (As [.str, .bool]) := qbc_ o
def q4s_ (t21 : List QAT0) (t22 t23 : Int) (o : List Int) : Option (As [.str, .bool]) :=
  loopF (fun (self : (List QAT0) × (Int) × (Int) × (List Int) -> Option (As [.str, .bool])) (s : (List QAT0) × (Int) × (Int) × (List Int)) => q5p_ (q4x_ (fun t21 t22 t23 o => self (t21, t22, t23, o))) (q7a_) (fun t21 t22 t23 o => self (t21, t22, t23, o)) s.1 s.2.1 s.2.2.1 s.2.2.2) 18446744073709551616 (t21, t22, t23, o)
def q3h_ (x : As [.pr .str (.sl QAT2)]) : Option (As [.str, .bool]) := q5o_ q4s_ x.1
theorem qhm_  (J w1 w2 t21 t22 t23 t33 t34 t35 o words) : pfn Tryz.prog q14_ 6 18446744073709551616 (Ev.get q13_) 12 qn_ J 66374963 [w1, w2] (q9g_ t21 t22 t23 t33 t34 t35 o words) = qb8_ (fun t21 t22 t23 o => w1 (q18_ t21 t22 t23 o)) (fun t21 t22 t23 t33 t34 t35 o => w2 (q3o_ t21 t22 t23 t33 t34 t35 o)) t21 t22 t23 t33 t34 t35 o words := by kernel_rfl
theorem qhj_  (J w1 t21 t22 t23 o) : pfn Tryz.prog q14_ 6 18446744073709551616 (Ev.get q13_) 12 qn_ J 64819 [w1] (q9k_ t21 t22 t23 o) = qbf_ (fun t21 t22 t23 o => w1 (q18_ t21 t22 t23 o)) t21 t22 t23 o := by kernel_rfl
theorem qht_  (J w1 w2 t21 t22 t23 t33 t34 t35 o) : pfn Tryz.prog q14_ 6 18446744073709551616 (Ev.get q13_) 12 qn_ J 518554 [w1, w2] (q3o_ t21 t22 t23 t33 t34 t35 o) = q5q_ (fun t21 t22 t23 t33 t34 t35 o words => J 66374963 [w1, w2] (q9g_ t21 t22 t23 t33 t34 t35 o words)) (fun t21 t22 t23 o => J 64819 [w1] (q9k_ t21 t22 t23 o)) (fun t21 t22 t23 o => w1 (q18_ t21 t22 t23 o)) (fun t21 t22 t23 t33 t34 t35 o => w2 (q3o_ t21 t22 t23 t33 t34 t35 o)) t21 t22 t23 t33 t34 t35 o := by kernel_rfl
theorem qgt_  (J o) : pfn Tryz.prog q14_ 6 18446744073709551616 (Ev.get q13_) 12 qn_ J 63 [] (q9i_ o) = qbc_ o := by kernel_rfl
theorem qhn_  (J w1 t21 t22 t23 o) : pfn Tryz.prog q14_ 6 18446744073709551616 (Ev.get q13_) 12 qn_ J 506 [w1] (q18_ t21 t22 t23 o) = q5p_ (fun t21 t22 t23 t33 t34 t35 o => J 518554 [w1] (q3o_ t21 t22 t23 t33 t34 t35 o)) (fun o => J 63 [] (q9i_ o)) (fun t21 t22 t23 o => w1 (q18_ t21 t22 t23 o)) t21 t22 t23 o := by kernel_rfl
theorem qgw_ (J : Orc (As [.str, .bool])) (x : As [.pr .str (.sl QAT2)]) : rfn Tryz.prog q14_ 6 18446744073709551616 (Ev.get q13_) 12 qn_ J x = q5o_ (fun t21 t22 t23 o => J 506 [] (q18_ t21 t22 t23 o)) x.1 := by kernel_rfl
theorem qh3_  (w1 w2 t21 t22 t23 t33 t34 t35 o words) : jfn Tryz.prog q14_ 6 18446744073709551616 (Ev.get q13_) 12 qn_ 66374963 [w1, w2] (q9g_ t21 t22 t23 t33 t34 t35 o words) = q5m_ (fun t21 t22 t23 o => w1 (q18_ t21 t22 t23 o)) (fun t21 t22 t23 t33 t34 t35 o => w2 (q3o_ t21 t22 t23 t33 t34 t35 o)) t21 t22 t23 t33 t34 t35 o words := by
  rw [q2_ (by decide)]
  rw [qhm_]
  rfl
theorem qh6_  (w1 t21 t22 t23 o) : jfn Tryz.prog q14_ 6 18446744073709551616 (Ev.get q13_) 12 qn_ 64819 [w1] (q9k_ t21 t22 t23 o) = q79_ (fun t21 t22 t23 o => w1 (q18_ t21 t22 t23 o)) t21 t22 t23 o := by
  rw [q2_ (by decide)]
  rw [qhj_]
  rfl
theorem qhf_  (w1 t21 t22 t23 t33 t34 t35 o) : jfn Tryz.prog q14_ 6 18446744073709551616 (Ev.get q13_) 12 qn_ 518554 [w1] (q3o_ t21 t22 t23 t33 t34 t35 o) = q4x_ (fun t21 t22 t23 o => w1 (q18_ t21 t22 t23 o)) t21 t22 t23 t33 t34 t35 o := by
  rw [q2_ (by decide)]
  rw [qv_ (by kernel_rfl)]
  refine qi_ (σ := (List QAT0) × (Int) × (Int) × (List QAT3) × (Int) × (Int) × (List Int)) (mk := fun s => q3o_ s.1 s.2.1 s.2.2.1 s.2.2.2.1 s.2.2.2.2.1 s.2.2.2.2.2.1 s.2.2.2.2.2.2) (fun w2 s => ?_) 18446744073709551616 (t21, t22, t23, t33, t34, t35, o)
  have e4 : (fun t21 t22 t23 t33 t34 t35 o words => (jfn Tryz.prog q14_ 6 18446744073709551616 (Ev.get q13_) 12 qn_) 66374963 [w1, w2] (q9g_ t21 t22 t23 t33 t34 t35 o words)) = q5m_ (fun t21 t22 t23 o => w1 (q18_ t21 t22 t23 o)) (fun t21 t22 t23 t33 t34 t35 o => w2 (q3o_ t21 t22 t23 t33 t34 t35 o)) := by funext t21 t22 t23 t33 t34 t35 o words; exact qh3_ w1 w2 t21 t22 t23 t33 t34 t35 o words
  have e5 : (fun t21 t22 t23 o => (jfn Tryz.prog q14_ 6 18446744073709551616 (Ev.get q13_) 12 qn_) 64819 [w1] (q9k_ t21 t22 t23 o)) = q79_ (fun t21 t22 t23 o => w1 (q18_ t21 t22 t23 o)) := by funext t21 t22 t23 o; exact qh6_ w1 t21 t22 t23 o
  refine (qht_ _ w1 w2 s.1 s.2.1 s.2.2.1 s.2.2.2.1 s.2.2.2.2.1 s.2.2.2.2.2.1 s.2.2.2.2.2.2).trans ?_
  rw [e4, e5]
theorem qgs_  (o) : jfn Tryz.prog q14_ 6 18446744073709551616 (Ev.get q13_) 12 qn_ 63 [] (q9i_ o) = q7a_ o := by
  rw [q2_ (by decide)]
  rw [qgt_]
  rfl
theorem qhg_  (t21 t22 t23 o) : jfn Tryz.prog q14_ 6 18446744073709551616 (Ev.get q13_) 12 qn_ 506 [] (q18_ t21 t22 t23 o) = q4s_ t21 t22 t23 o := by
  rw [q2_ (by decide)]
  rw [qv_ (by kernel_rfl)]
  refine qi_ (σ := (List QAT0) × (Int) × (Int) × (List Int)) (mk := fun s => q18_ s.1 s.2.1 s.2.2.1 s.2.2.2) (fun w1 s => ?_) 18446744073709551616 (t21, t22, t23, o)
  have e2 : (fun t21 t22 t23 t33 t34 t35 o => (jfn Tryz.prog q14_ 6 18446744073709551616 (Ev.get q13_) 12 qn_) 518554 [w1] (q3o_ t21 t22 t23 t33 t34 t35 o)) = q4x_ (fun t21 t22 t23 o => w1 (q18_ t21 t22 t23 o)) := by funext t21 t22 t23 t33 t34 t35 o; exact qhf_ w1 t21 t22 t23 t33 t34 t35 o
  have e3 : (fun o => (jfn Tryz.prog q14_ 6 18446744073709551616 (Ev.get q13_) 12 qn_) 63 [] (q9i_ o)) = q7a_ := funext fun o => qgs_ o
  refine (qhn_ _ w1 s.1 s.2.1 s.2.2.1 s.2.2.2).trans ?_
  rw [e2, e3]
theorem qkm_ (x : As [.pr .str (.sl QAT2)]) : evT Tryz.prog q14_ 6 18446744073709551616 (Ev.get q13_) 12 qn_ x = q3h_ x := by
  have e1 : (fun t21 t22 t23 o => (jfn Tryz.prog q14_ 6 18446744073709551616 (Ev.get q13_) 12 qn_) 506 [] (q18_ t21 t22 t23 o)) = q4s_ := by funext t21 t22 t23 o; exact qhg_ t21 t22 t23 o
  rw [q1u_, qgw_, e1]
  rfl
theorem qdd_ : CtOk Tryz.prog I0 12 ⟨qn_, q3h_⟩ := qu_ (q0_ qho_ (q0_ strings_Join_ok (q0_ qm0_ q9_))) qkm_
def qex_ (j2 : List UInt8 -> List UInt8 -> Int × Int -> Option (As [.str])) (n : Int) (sign : List UInt8) (d : Int × Int) : Option (As [.str]) :=
  Option.bind (qfj_ (n, ())) fun (y : List UInt8 × Unit) => if eqi d.2 0 = true then need (small (List.length sign + List.length y.1)) (some (sign ++ y.1, ())) else j2 sign y.1 d
def q95_ (j3 self2 : List UInt8 -> List UInt8 -> Int × Int -> Option (As [.str])) (sign s : List UInt8) (d : Int × Int) : Option (As [.str]) :=
  if le (Int.ofNat (List.length s)) (cvt .i64 d.2) = true then need (small (1 + List.length s)) (self2 sign (48 :: s) d) else j3 sign s d
def qep_ (sign s : List UInt8) (d : Int × Int) : Option (As [.str]) :=
  Option.bind (cut s 0 (Sx.sub .i64 (Int.ofNat (List.length s)) (cvt .i64 d.2))) fun (y : List UInt8) => need (small (List.length sign + List.length y)) (need (small (List.length (sign ++ y) + 1)) (Option.bind (cut s (Sx.sub .i64 (Int.ofNat (List.length s)) (cvt .i64 d.2)) (Int.ofNat (List.length s))) fun (y_1 : List UInt8) => need (small (List.length (sign ++ y ++ [46]) + List.length y_1)) (some (sign ++ y ++ [46] ++ y_1, ()))))
def qau_ (j1 : Int -> List UInt8 -> Int × Int -> Option (As [.str])) (d : Int × Int) : Option (As [.str]) :=
  if lt d.1 0 = true then j1 (Sx.neg .i64 d.1) [45] d else j1 d.1 [] d
def q77_ (sign s : List UInt8) (d : Int × Int) : Option (As [.str]) := qep_ sign s d
def qeq_ (sign s : List UInt8) (d : Int × Int) : Option (As [.str]) :=
  loopF (fun (self : (List UInt8) × (List UInt8) × (Int × Int) -> Option (As [.str])) (s : (List UInt8) × (List UInt8) × (Int × Int)) => q95_ (q77_) (fun sign s d => self (sign, s, d)) s.1 s.2.1 s.2.2) 18446744073709551616 (sign, s, d)
def q98_ (n : Int) (sign : List UInt8) (d : Int × Int) : Option (As [.str]) := qex_ (qeq_) n sign d
def qed_ (x : As [.pr (.int .i64) (.int .u8)]) : Option (As [.str]) := qau_ q98_ x.1
def qk3_ (j2 : List UInt8 -> Int -> Int -> List UInt8 × List QAT0 -> List UInt8 × Int × List QAT3 -> Option (As [.str])) (self1 : List UInt8 -> Int -> List UInt8 × List QAT0 -> Option (As [.str])) (s : List UInt8) (i : Int) (r : List UInt8 × List QAT0) : Option (As [.str]) :=
  if lt i (Int.ofNat (List.length r.2)) = true then Option.bind (at? r.2 i) fun (y : List UInt8 × Int × List QAT3) => need (small (List.length s + 6)) (need (small (List.length (s ++ [115, 108, 97, 118, 101, 32]) + List.length y.1)) (need (small (List.length (s ++ [115, 108, 97, 118, 101, 32] ++ y.1) + 1)) (j2 (s ++ [115, 108, 97, 118, 101, 32] ++ y.1 ++ [10]) i 0 r y))) else some (s, ())
def qjd_ (j3 : List UInt8 -> Int -> Int -> List UInt8 × List QAT0 -> List UInt8 × Int × List QAT3 -> Option (As [.str])) (j4 self1 : List UInt8 -> Int -> List UInt8 × List QAT0 -> Option (As [.str])) (self2 : List UInt8 -> Int -> Int -> List UInt8 × List QAT0 -> List UInt8 × Int × List QAT3 -> Option (As [.str])) (s : List UInt8) (i k : Int) (r : List UInt8 × List QAT0) (p : List UInt8 × Int × List QAT3) : Option (As [.str]) :=
  if lt k (Int.ofNat (List.length p.2.2)) = true then Option.bind (at? p.2.2 k) fun (y : List UInt8 × (Int × Int) × List UInt8 × Int) => need (small (List.length s + 2)) (need (small (List.length (s ++ [32, 32]) + List.length y.1)) (need (small (List.length (s ++ [32, 32] ++ y.1) + 3)) (Option.bind (qed_ (y.2.1, ())) fun (y_1 : List UInt8 × Unit) => need (small (List.length (s ++ [32, 32] ++ y.1 ++ [32, 61, 32]) + List.length y_1.1)) (if nes y.2.2.1 [] = true then need (small (List.length (s ++ [32, 32] ++ y.1 ++ [32, 61, 32] ++ y_1.1) + 1)) (need (small (List.length (s ++ [32, 32] ++ y.1 ++ [32, 61, 32] ++ y_1.1 ++ [32]) + List.length y.2.2.1)) (j3 (s ++ [32, 32] ++ y.1 ++ [32, 61, 32] ++ y_1.1 ++ [32] ++ y.2.2.1) i k r p)) else j3 (s ++ [32, 32] ++ y.1 ++ [32, 61, 32] ++ y_1.1) i k r p)))) else j4 s i r
def qi7_ (self1 : List UInt8 -> Int -> List UInt8 × List QAT0 -> Option (As [.str])) (self2 : List UInt8 -> Int -> Int -> List UInt8 × List QAT0 -> List UInt8 × Int × List QAT3 -> Option (As [.str])) (s : List UInt8) (i k : Int) (r : List UInt8 × List QAT0) (p : List UInt8 × Int × List QAT3) : Option (As [.str]) :=
  need (small (List.length s + 1)) (self2 (s ++ [10]) i (add .i64 k 1) r p)
def qjk_ (j5 self1 : List UInt8 -> Int -> List UInt8 × List QAT0 -> Option (As [.str])) (s : List UInt8) (i : Int) (r : List UInt8 × List QAT0) : Option (As [.str]) :=
  need (small (List.length s + 4)) (j5 (s ++ [101, 110, 100, 10]) i r)
def qk2_ (self1 : List UInt8 -> Int -> List UInt8 × List QAT0 -> Option (As [.str])) (s : List UInt8) (i : Int) (r : List UInt8 × List QAT0) : Option (As [.str]) :=
  self1 s (add .i64 i 1) r
def qjo_ (j1 : List UInt8 -> Int -> List UInt8 × List QAT0 -> Option (As [.str])) (r : List UInt8 × List QAT0) : Option (As [.str]) :=
  need (small (7 + List.length r.1)) (need (small (Nat.succ (Nat.succ (Nat.succ (Nat.succ (Nat.succ (Nat.succ (Nat.succ (List.length r.1))))))) + 1)) (j1 (114 :: 101 :: 99 :: 105 :: 112 :: 101 :: 32 :: (r.1 ++ [10])) 0 r))
def qj9_ (u1 : List UInt8 -> Int -> List UInt8 × List QAT0 -> Option (As [.str])) (u2 : List UInt8 -> Int -> Int -> List UInt8 × List QAT0 -> List UInt8 × Int × List QAT3 -> Option (As [.str])) (s : List UInt8) (i k : Int) (r : List UInt8 × List QAT0) (p : List UInt8 × Int × List QAT3) : Option (As [.str]) := qi7_ u1 u2 s i k r p
def qii_ (u1 : List UInt8 -> Int -> List UInt8 × List QAT0 -> Option (As [.str])) (s : List UInt8) (i : Int) (r : List UInt8 × List QAT0) : Option (As [.str]) := qk2_ u1 s i r
def qjt_ (u1 : List UInt8 -> Int -> List UInt8 × List QAT0 -> Option (As [.str])) (s : List UInt8) (i : Int) (r : List UInt8 × List QAT0) : Option (As [.str]) := qjk_ (qii_ u1) u1 s i r
def qi2_ (u1 : List UInt8 -> Int -> List UInt8 × List QAT0 -> Option (As [.str])) (s : List UInt8) (i k : Int) (r : List UInt8 × List QAT0) (p : List UInt8 × Int × List QAT3) : Option (As [.str]) :=
  loopF (fun (self : (List UInt8) × (Int) × (Int) × (List UInt8 × List QAT0) × QAT0 -> Option (As [.str])) (s : (List UInt8) × (Int) × (Int) × (List UInt8 × List QAT0) × QAT0) => qjd_ (qj9_ u1 (fun s i k r p => self (s, i, k, r, p))) (qjt_ u1) u1 (fun s i k r p => self (s, i, k, r, p)) s.1 s.2.1 s.2.2.1 s.2.2.2.1 s.2.2.2.2) 18446744073709551616 (s, i, k, r, p)
def qix_ (s : List UInt8) (i : Int) (r : List UInt8 × List QAT0) : Option (As [.str]) :=
  loopF (fun (self : (List UInt8) × (Int) × (List UInt8 × List QAT0) -> Option (As [.str])) (s : (List UInt8) × (Int) × (List UInt8 × List QAT0)) => qk3_ (qi2_ (fun s i r => self (s, i, r))) (fun s i r => self (s, i, r)) s.1 s.2.1 s.2.2) 18446744073709551616 (s, i, r)
def qnf_ (x : As [.pr .str (.sl QAT2)]) : Option (As [.str]) := qjo_ qix_ x.1
@[reducible] def qd_ : Sh := ⟨[.d (.pr .str (.sl QAT2)), .d (.pr .str (.sl QAT2))], [], [.pr .str (.sl QAT2), .pr .str (.sl QAT2)], [.d (.bool)], [], 0, [.bool]⟩
def qg_ : Env := (cts [])
def qh_ : List (Nat × Hint) := [(58, ⟨[], [2, 3, 5, 48, 49, 50, 51, 52, 53, 54, 79, 80, 81, 82, 83, 86, 87, 88, 89, 90]⟩), (233, ⟨[], [2, 3, 5, 48, 49, 50, 51, 52, 53, 54, 79, 80, 81, 82, 83, 86, 87, 88, 89, 90]⟩), (932, ⟨[], [2, 3, 5, 6, 7, 48, 49, 50, 51, 52, 53, 54, 79, 80, 81, 82, 83, 86, 87, 88, 89, 90]⟩), (14926, ⟨[], [2, 3, 5, 6, 7, 8, 48, 49, 50, 51, 52, 53, 54, 79, 80, 81, 82, 83, 86, 87, 88, 89, 90]⟩), (238820, ⟨[], [2, 3, 5, 6, 7, 8, 9, 10, 48, 49, 50, 51, 52, 53, 54, 79, 80, 81, 82, 83, 86, 87, 88, 89, 90]⟩), (477641, ⟨[.agd 80 (.pr (.int .i64) (.int .u8)), .agd 82 (.pr (.int .i64) (.int .u8)), .agd 83 .bool, .agd 87 .str, .agd 89 .str, .agd 90 .bool], [2, 3, 5, 6, 7, 8, 91]⟩), (3730, ⟨[.agd 49 (.sl QAT5), .agd 50 (.int .i64), .agd 52 (.sl QAT5), .agd 53 (.int .i64), .agd 54 .bool], [2, 3, 5, 6, 7, 55]⟩), (6, ⟨[], [2, 3, 24, 48, 49, 50, 51, 52, 53, 54, 79, 80, 81, 82, 83, 86, 87, 88, 89, 90]⟩)]
def qas_ (t24 : Bool) (a b : List UInt8 × List QAT0) : St := { fr := [(2, .pb 0 0), (3, .pb 1 0), (24, .d .bool t24)], nt := 92, up := [], own := [(0, .box 26 [.d .str a.1, .d (.sl QAT2) a.2]), (1, .box 26 [.d .str b.1, .d (.sl QAT2) b.2])], nx := 2, log := [], ln := 0 }
def qf_ (i : Int) (a b : List UInt8 × List QAT0) : St := { fr := [(2, .pb 0 0), (3, .pb 1 0), (5, .d (.int .i64) i)], nt := 92, up := [], own := [(0, .box 26 [.d .str a.1, .d (.sl QAT2) a.2]), (1, .box 26 [.d .str b.1, .d (.sl QAT2) b.2])], nx := 2, log := [], ln := 0 }
def qaq_ (i : Int) (a b : List UInt8 × List QAT0) (p q : List UInt8 × Int × List QAT3) : St := { fr := [(2, .pb 0 0), (3, .pb 1 0), (5, .d (.int .i64) i), (6, .pb 2 0), (7, .pb 3 0)], nt := 92, up := [], own := [(0, .box 26 [.d .str a.1, .d (.sl QAT2) a.2]), (1, .box 26 [.d .str b.1, .d (.sl QAT2) b.2]), (2, .box 43 [.d .str p.1, .d (.int .i64) p.2.1, .d (.sl QAT5) p.2.2]), (3, .box 43 [.d .str q.1, .d (.int .i64) q.2.1, .d (.sl QAT5) q.2.2])], nx := 4, log := [], ln := 0 }
def qaw_ (i : Int) (t55 : Bool) (a b : List UInt8 × List QAT0) (p q : List UInt8 × Int × List QAT3) : St := { fr := [(2, .pb 0 0), (3, .pb 1 0), (5, .d (.int .i64) i), (6, .pb 2 0), (7, .pb 3 0), (55, .d .bool t55)], nt := 92, up := [], own := [(0, .box 26 [.d .str a.1, .d (.sl QAT2) a.2]), (1, .box 26 [.d .str b.1, .d (.sl QAT2) b.2]), (2, .box 43 [.d .str p.1, .d (.int .i64) p.2.1, .d (.sl QAT5) p.2.2]), (3, .box 43 [.d .str q.1, .d (.int .i64) q.2.1, .d (.sl QAT5) q.2.2])], nx := 4, log := [], ln := 0 }
def q2s_ (i k : Int) (a b : List UInt8 × List QAT0) (p q : List UInt8 × Int × List QAT3) : St := { fr := [(2, .pb 0 0), (3, .pb 1 0), (5, .d (.int .i64) i), (6, .pb 2 0), (7, .pb 3 0), (8, .d (.int .i64) k)], nt := 92, up := [], own := [(0, .box 26 [.d .str a.1, .d (.sl QAT2) a.2]), (1, .box 26 [.d .str b.1, .d (.sl QAT2) b.2]), (2, .box 43 [.d .str p.1, .d (.int .i64) p.2.1, .d (.sl QAT5) p.2.2]), (3, .box 43 [.d .str q.1, .d (.int .i64) q.2.1, .d (.sl QAT5) q.2.2])], nx := 4, log := [], ln := 0 }
def qao_ (i k : Int) (a b : List UInt8 × List QAT0) (p q : List UInt8 × Int × List QAT3) (x y : List UInt8 × (Int × Int) × List UInt8 × Int) : St := { fr := [(2, .pb 0 0), (3, .pb 1 0), (5, .d (.int .i64) i), (6, .pb 2 0), (7, .pb 3 0), (8, .d (.int .i64) k), (9, .pb 4 0), (10, .pb 5 0)], nt := 92, up := [], own := [(0, .box 26 [.d .str a.1, .d (.sl QAT2) a.2]), (1, .box 26 [.d .str b.1, .d (.sl QAT2) b.2]), (2, .box 43 [.d .str p.1, .d (.int .i64) p.2.1, .d (.sl QAT5) p.2.2]), (3, .box 43 [.d .str q.1, .d (.int .i64) q.2.1, .d (.sl QAT5) q.2.2]), (4, .box 47 [.d .str x.1, .d (.int .i64) x.2.1.1, .d (.int .u8) x.2.1.2, .d .str x.2.2.1, .d (.int .i64) x.2.2.2]), (5, .box 47 [.d .str y.1, .d (.int .i64) y.2.1.1, .d (.int .u8) y.2.1.2, .d .str y.2.2.1, .d (.int .i64) y.2.2.2])], nx := 6, log := [], ln := 0 }
def qar_ (i : Int) (a b : List UInt8 × List QAT0) : St := { fr := [(2, .pb 0 0), (3, .pb 1 0), (5, .d (.int .i64) i)], nt := 92, up := [], own := [(0, .box 26 [.d .str a.1, .d (.sl QAT2) a.2]), (1, .box 26 [.d .str b.1, .d (.sl QAT2) b.2])], nx := 2, log := [], ln := 0 }
def qav_ (i k : Int) (t91 : Bool) (a b : List UInt8 × List QAT0) (p q : List UInt8 × Int × List QAT3) : St := { fr := [(2, .pb 0 0), (3, .pb 1 0), (5, .d (.int .i64) i), (6, .pb 2 0), (7, .pb 3 0), (8, .d (.int .i64) k), (91, .d .bool t91)], nt := 92, up := [], own := [(0, .box 26 [.d .str a.1, .d (.sl QAT2) a.2]), (1, .box 26 [.d .str b.1, .d (.sl QAT2) b.2]), (2, .box 43 [.d .str p.1, .d (.int .i64) p.2.1, .d (.sl QAT5) p.2.2]), (3, .box 43 [.d .str q.1, .d (.int .i64) q.2.1, .d (.sl QAT5) q.2.2])], nx := 4, log := [], ln := 0 }
def qez_ (j2 : Int -> List UInt8 × List QAT0 -> List UInt8 × List QAT0 -> Option (As [.bool])) (t24 : Bool) (a b : List UInt8 × List QAT0) : Option (As [.bool]) :=
  if t24 = true then some (false, ()) else j2 0 a b
def qew_ (j3 : Int -> List UInt8 × List QAT0 -> List UInt8 × List QAT0 -> List UInt8 × Int × List QAT3 -> List UInt8 × Int × List QAT3 -> Option (As [.bool])) (self2 : Int -> List UInt8 × List QAT0 -> List UInt8 × List QAT0 -> Option (As [.bool])) (i : Int) (a b : List UInt8 × List QAT0) : Option (As [.bool]) :=
  if lt i (Int.ofNat (List.length a.2)) = true then Option.bind (at? a.2 i) fun (y : List UInt8 × Int × List QAT3) => Option.bind (at? b.2 i) fun (y_1 : List UInt8 × Int × List QAT3) => amb (eqAs qd_.rs) [j3 i a b y y_1, j3 i a b y y_1] else some (true, ())
def qer_ (j4 : Int -> Bool -> List UInt8 × List QAT0 -> List UInt8 × List QAT0 -> List UInt8 × Int × List QAT3 -> List UInt8 × Int × List QAT3 -> Option (As [.bool])) (self2 : Int -> List UInt8 × List QAT0 -> List UInt8 × List QAT0 -> Option (As [.bool])) (i : Int) (a b : List UInt8 × List QAT0) (p q : List UInt8 × Int × List QAT3) : Option (As [.bool]) :=
  if nes p.1 q.1 = true then j4 i true a b p q else j4 i (nei (Int.ofNat (List.length p.2.2)) (Int.ofNat (List.length q.2.2))) a b p q
def qev_ (j5 : Int -> Int -> List UInt8 × List QAT0 -> List UInt8 × List QAT0 -> List UInt8 × Int × List QAT3 -> List UInt8 × Int × List QAT3 -> Option (As [.bool])) (self2 : Int -> List UInt8 × List QAT0 -> List UInt8 × List QAT0 -> Option (As [.bool])) (i : Int) (t55 : Bool) (a b : List UInt8 × List QAT0) (p q : List UInt8 × Int × List QAT3) : Option (As [.bool]) :=
  if t55 = true then some (false, ()) else j5 i 0 a b p q
def qey_ (j6 : Int -> Int -> List UInt8 × List QAT0 -> List UInt8 × List QAT0 -> List UInt8 × Int × List QAT3 -> List UInt8 × Int × List QAT3 -> List UInt8 × (Int × Int) × List UInt8 × Int -> List UInt8 × (Int × Int) × List UInt8 × Int -> Option (As [.bool])) (j7 self2 : Int -> List UInt8 × List QAT0 -> List UInt8 × List QAT0 -> Option (As [.bool])) (self5 : Int -> Int -> List UInt8 × List QAT0 -> List UInt8 × List QAT0 -> List UInt8 × Int × List QAT3 -> List UInt8 × Int × List QAT3 -> Option (As [.bool])) (i k : Int) (a b : List UInt8 × List QAT0) (p q : List UInt8 × Int × List QAT3) : Option (As [.bool]) :=
  if lt k (Int.ofNat (List.length p.2.2)) = true then Option.bind (at? p.2.2 k) fun (y : List UInt8 × (Int × Int) × List UInt8 × Int) => Option.bind (at? q.2.2 k) fun (y_1 : List UInt8 × (Int × Int) × List UInt8 × Int) => amb (eqAs qd_.rs) [j6 i k a b p q y y_1, j6 i k a b p q y y_1] else j7 i a b
def qf0_ (j8 : Int -> Int -> Bool -> List UInt8 × List QAT0 -> List UInt8 × List QAT0 -> List UInt8 × Int × List QAT3 -> List UInt8 × Int × List QAT3 -> Option (As [.bool])) (self2 : Int -> List UInt8 × List QAT0 -> List UInt8 × List QAT0 -> Option (As [.bool])) (self5 : Int -> Int -> List UInt8 × List QAT0 -> List UInt8 × List QAT0 -> List UInt8 × Int × List QAT3 -> List UInt8 × Int × List QAT3 -> Option (As [.bool])) (i k : Int) (a b : List UInt8 × List QAT0) (p q : List UInt8 × Int × List QAT3) (x y : List UInt8 × (Int × Int) × List UInt8 × Int) : Option (As [.bool]) :=
  if nes x.1 y.1 = true then j8 i k true a b p q else if (!(eqi x.2.1.1 y.2.1.1 && (eqi x.2.1.2 y.2.1.2 && true))) = true then j8 i k true a b p q else j8 i k (nes x.2.2.1 y.2.2.1) a b p q
def qf2_ (self2 : Int -> List UInt8 × List QAT0 -> List UInt8 × List QAT0 -> Option (As [.bool])) (i : Int) (a b : List UInt8 × List QAT0) : Option (As [.bool]) :=
  self2 (add .i64 i 1) a b
def qf3_ (self2 : Int -> List UInt8 × List QAT0 -> List UInt8 × List QAT0 -> Option (As [.bool])) (self5 : Int -> Int -> List UInt8 × List QAT0 -> List UInt8 × List QAT0 -> List UInt8 × Int × List QAT3 -> List UInt8 × Int × List QAT3 -> Option (As [.bool])) (i k : Int) (t91 : Bool) (a b : List UInt8 × List QAT0) (p q : List UInt8 × Int × List QAT3) : Option (As [.bool]) :=
  if t91 = true then some (false, ()) else self5 i (add .i64 k 1) a b p q
def qeo_ (j1 : Bool -> List UInt8 × List QAT0 -> List UInt8 × List QAT0 -> Option (As [.bool])) (a b : List UInt8 × List QAT0) : Option (As [.bool]) :=
  if nes a.1 b.1 = true then j1 true a b else j1 (nei (Int.ofNat (List.length a.2)) (Int.ofNat (List.length b.2))) a b
def qci_ (u2 : Int -> List UInt8 × List QAT0 -> List UInt8 × List QAT0 -> Option (As [.bool])) (u5 : Int -> Int -> List UInt8 × List QAT0 -> List UInt8 × List QAT0 -> List UInt8 × Int × List QAT3 -> List UInt8 × Int × List QAT3 -> Option (As [.bool])) (i k : Int) (t91 : Bool) (a b : List UInt8 × List QAT0) (p q : List UInt8 × Int × List QAT3) : Option (As [.bool]) := qf3_ u2 u5 i k t91 a b p q
def qck_ (u2 : Int -> List UInt8 × List QAT0 -> List UInt8 × List QAT0 -> Option (As [.bool])) (u5 : Int -> Int -> List UInt8 × List QAT0 -> List UInt8 × List QAT0 -> List UInt8 × Int × List QAT3 -> List UInt8 × Int × List QAT3 -> Option (As [.bool])) (i k : Int) (a b : List UInt8 × List QAT0) (p q : List UInt8 × Int × List QAT3) (x y : List UInt8 × (Int × Int) × List UInt8 × Int) : Option (As [.bool]) := qf0_ (qci_ u2 u5) u2 u5 i k a b p q x y
def qcl_ (u2 : Int -> List UInt8 × List QAT0 -> List UInt8 × List QAT0 -> Option (As [.bool])) (i : Int) (a b : List UInt8 × List QAT0) : Option (As [.bool]) := qf2_ u2 i a b
def qcp_ (u2 : Int -> List UInt8 × List QAT0 -> List UInt8 × List QAT0 -> Option (As [.bool])) (i k : Int) (a b : List UInt8 × List QAT0) (p q : List UInt8 × Int × List QAT3) : Option (As [.bool]) :=
  loopF (fun (self : (Int) × (Int) × (List UInt8 × List QAT0) × (List UInt8 × List QAT0) × QAT0 × QAT0 -> Option (As [.bool])) (s : (Int) × (Int) × (List UInt8 × List QAT0) × (List UInt8 × List QAT0) × QAT0 × QAT0) => qey_ (qck_ u2 (fun i k a b p q => self (i, k, a, b, p, q))) (qcl_ u2) u2 (fun i k a b p q => self (i, k, a, b, p, q)) s.1 s.2.1 s.2.2.1 s.2.2.2.1 s.2.2.2.2.1 s.2.2.2.2.2) 18446744073709551616 (i, k, a, b, p, q)
def qcn_ (u2 : Int -> List UInt8 × List QAT0 -> List UInt8 × List QAT0 -> Option (As [.bool])) (i : Int) (t55 : Bool) (a b : List UInt8 × List QAT0) (p q : List UInt8 × Int × List QAT3) : Option (As [.bool]) := qev_ (qcp_ u2) u2 i t55 a b p q
def qcj_ (u2 : Int -> List UInt8 × List QAT0 -> List UInt8 × List QAT0 -> Option (As [.bool])) (i : Int) (a b : List UInt8 × List QAT0) (p q : List UInt8 × Int × List QAT3) : Option (As [.bool]) := qer_ (qcn_ u2) u2 i a b p q
def qcm_ (i : Int) (a b : List UInt8 × List QAT0) : Option (As [.bool]) :=
  loopF (fun (self : (Int) × (List UInt8 × List QAT0) × (List UInt8 × List QAT0) -> Option (As [.bool])) (s : (Int) × (List UInt8 × List QAT0) × (List UInt8 × List QAT0)) => qew_ (qcj_ (fun i a b => self (i, a, b))) (fun i a b => self (i, a, b)) s.1 s.2.1 s.2.2) 18446744073709551616 (i, a, b)
def qco_ (t24 : Bool) (a b : List UInt8 × List QAT0) : Option (As [.bool]) := qez_ (qcm_) t24 a b
def qbn_ (x : As [.pr .str (.sl QAT2), .pr .str (.sl QAT2)]) : Option (As [.bool]) := qeo_ qco_ x.1 x.2.1
theorem qmc_  (J w2 w5 i k t91 a b p q) : pfn Tryz.prog qg_ 6 18446744073709551616 (Ev.get qh_) 20 qd_ J 477641 [w2, w5] (qav_ i k t91 a b p q) = qf3_ (fun i a b => w2 (qf_ i a b)) (fun i k a b p q => w5 (q2s_ i k a b p q)) i k t91 a b p q := by kernel_rfl
theorem qlo_  (J w2 w5 i k a b p q x y) : pfn Tryz.prog qg_ 6 18446744073709551616 (Ev.get qh_) 20 qd_ J 238820 [w2, w5] (qao_ i k a b p q x y) = qf0_ (fun i k t91 a b p q => J 477641 [w2, w5] (qav_ i k t91 a b p q)) (fun i a b => w2 (qf_ i a b)) (fun i k a b p q => w5 (q2s_ i k a b p q)) i k a b p q x y := by kernel_rfl
theorem ql3_  (J w2 i a b) : pfn Tryz.prog qg_ 6 18446744073709551616 (Ev.get qh_) 20 qd_ J 233 [w2] (qar_ i a b) = qf2_ (fun i a b => w2 (qf_ i a b)) i a b := by kernel_rfl
theorem qm4_  (J w2 w5 i k a b p q) : pfn Tryz.prog qg_ 6 18446744073709551616 (Ev.get qh_) 20 qd_ J 14926 [w2, w5] (q2s_ i k a b p q) = qey_ (fun i k a b p q x y => J 238820 [w2, w5] (qao_ i k a b p q x y)) (fun i a b => J 233 [w2] (qar_ i a b)) (fun i a b => w2 (qf_ i a b)) (fun i k a b p q => w5 (q2s_ i k a b p q)) i k a b p q := by kernel_rfl
theorem qla_  (J w2 i t55 a b p q) : pfn Tryz.prog qg_ 6 18446744073709551616 (Ev.get qh_) 20 qd_ J 3730 [w2] (qaw_ i t55 a b p q) = qev_ (fun i k a b p q => J 14926 [w2] (q2s_ i k a b p q)) (fun i a b => w2 (qf_ i a b)) i t55 a b p q := by kernel_rfl
theorem qlx_  (J w2 i a b p q) : pfn Tryz.prog qg_ 6 18446744073709551616 (Ev.get qh_) 20 qd_ J 932 [w2] (qaq_ i a b p q) = qer_ (fun i t55 a b p q => J 3730 [w2] (qaw_ i t55 a b p q)) (fun i a b => w2 (qf_ i a b)) i a b p q := by kernel_rfl
theorem qlh_  (J w2 i a b) : pfn Tryz.prog qg_ 6 18446744073709551616 (Ev.get qh_) 20 qd_ J 58 [w2] (qf_ i a b) = qew_ (fun i a b p q => J 932 [w2] (qaq_ i a b p q)) (fun i a b => w2 (qf_ i a b)) i a b := by kernel_rfl
theorem qln_  (J t24 a b) : pfn Tryz.prog qg_ 6 18446744073709551616 (Ev.get qh_) 20 qd_ J 6 [] (qas_ t24 a b) = qez_ (fun i a b => J 58 [] (qf_ i a b)) t24 a b := by kernel_rfl
theorem qlf_ (J : Orc (As [.bool])) (x : As [.pr .str (.sl QAT2), .pr .str (.sl QAT2)]) : rfn Tryz.prog qg_ 6 18446744073709551616 (Ev.get qh_) 20 qd_ J x = qeo_ (fun t24 a b => J 6 [] (qas_ t24 a b)) x.1 x.2.1 := by kernel_rfl
theorem qm8_  (w2 w5 i k t91 a b p q) : jfn Tryz.prog qg_ 6 18446744073709551616 (Ev.get qh_) 20 qd_ 477641 [w2, w5] (qav_ i k t91 a b p q) = qci_ (fun i a b => w2 (qf_ i a b)) (fun i k a b p q => w5 (q2s_ i k a b p q)) i k t91 a b p q := by
  rw [q2_ (by decide)]
  rw [qmc_]
  rfl
theorem ql5_  (w2 w5 i k a b p q x y) : jfn Tryz.prog qg_ 6 18446744073709551616 (Ev.get qh_) 20 qd_ 238820 [w2, w5] (qao_ i k a b p q x y) = qck_ (fun i a b => w2 (qf_ i a b)) (fun i k a b p q => w5 (q2s_ i k a b p q)) i k a b p q x y := by
  rw [q2_ (by decide)]
  have e8 : (fun i k t91 a b p q => (jfn Tryz.prog qg_ 6 18446744073709551616 (Ev.get qh_) 20 qd_) 477641 [w2, w5] (qav_ i k t91 a b p q)) = qci_ (fun i a b => w2 (qf_ i a b)) (fun i k a b p q => w5 (q2s_ i k a b p q)) := by funext i k t91 a b p q; exact qm8_ w2 w5 i k t91 a b p q
  rw [qlo_, e8]
  rfl
theorem qm2_  (w2 i a b) : jfn Tryz.prog qg_ 6 18446744073709551616 (Ev.get qh_) 20 qd_ 233 [w2] (qar_ i a b) = qcl_ (fun i a b => w2 (qf_ i a b)) i a b := by
  rw [q2_ (by decide)]
  rw [ql3_]
  rfl
theorem qma_  (w2 i k a b p q) : jfn Tryz.prog qg_ 6 18446744073709551616 (Ev.get qh_) 20 qd_ 14926 [w2] (q2s_ i k a b p q) = qcp_ (fun i a b => w2 (qf_ i a b)) i k a b p q := by
  rw [q2_ (by decide)]
  rw [qv_ (by kernel_rfl)]
  refine qi_ (σ := (Int) × (Int) × (List UInt8 × List QAT0) × (List UInt8 × List QAT0) × QAT0 × QAT0) (mk := fun s => q2s_ s.1 s.2.1 s.2.2.1 s.2.2.2.1 s.2.2.2.2.1 s.2.2.2.2.2) (fun w5 s => ?_) 18446744073709551616 (i, k, a, b, p, q)
  have e6 : (fun i k a b p q x y => (jfn Tryz.prog qg_ 6 18446744073709551616 (Ev.get qh_) 20 qd_) 238820 [w2, w5] (qao_ i k a b p q x y)) = qck_ (fun i a b => w2 (qf_ i a b)) (fun i k a b p q => w5 (q2s_ i k a b p q)) := by funext i k a b p q x y; exact ql5_ w2 w5 i k a b p q x y
  have e7 : (fun i a b => (jfn Tryz.prog qg_ 6 18446744073709551616 (Ev.get qh_) 20 qd_) 233 [w2] (qar_ i a b)) = qcl_ (fun i a b => w2 (qf_ i a b)) := by funext i a b; exact qm2_ w2 i a b
  refine (qm4_ _ w2 w5 s.1 s.2.1 s.2.2.1 s.2.2.2.1 s.2.2.2.2.1 s.2.2.2.2.2).trans ?_
  rw [e6, e7]
theorem qm1_  (w2 i t55 a b p q) : jfn Tryz.prog qg_ 6 18446744073709551616 (Ev.get qh_) 20 qd_ 3730 [w2] (qaw_ i t55 a b p q) = qcn_ (fun i a b => w2 (qf_ i a b)) i t55 a b p q := by
  rw [q2_ (by decide)]
  have e5 : (fun i k a b p q => (jfn Tryz.prog qg_ 6 18446744073709551616 (Ev.get qh_) 20 qd_) 14926 [w2] (q2s_ i k a b p q)) = qcp_ (fun i a b => w2 (qf_ i a b)) := by funext i k a b p q; exact qma_ w2 i k a b p q
  rw [qla_, e5]
  rfl
theorem qlq_  (w2 i a b p q) : jfn Tryz.prog qg_ 6 18446744073709551616 (Ev.get qh_) 20 qd_ 932 [w2] (qaq_ i a b p q) = qcj_ (fun i a b => w2 (qf_ i a b)) i a b p q := by
  rw [q2_ (by decide)]
  have e4 : (fun i t55 a b p q => (jfn Tryz.prog qg_ 6 18446744073709551616 (Ev.get qh_) 20 qd_) 3730 [w2] (qaw_ i t55 a b p q)) = qcn_ (fun i a b => w2 (qf_ i a b)) := by funext i t55 a b p q; exact qm1_ w2 i t55 a b p q
  rw [qlx_, e4]
  rfl
theorem qkx_  (i a b) : jfn Tryz.prog qg_ 6 18446744073709551616 (Ev.get qh_) 20 qd_ 58 [] (qf_ i a b) = qcm_ i a b := by
  rw [q2_ (by decide)]
  rw [qv_ (by kernel_rfl)]
  refine qi_ (σ := (Int) × (List UInt8 × List QAT0) × (List UInt8 × List QAT0)) (mk := fun s => qf_ s.1 s.2.1 s.2.2) (fun w2 s => ?_) 18446744073709551616 (i, a, b)
  have e3 : (fun i a b p q => (jfn Tryz.prog qg_ 6 18446744073709551616 (Ev.get qh_) 20 qd_) 932 [w2] (qaq_ i a b p q)) = qcj_ (fun i a b => w2 (qf_ i a b)) := by funext i a b p q; exact qlq_ w2 i a b p q
  refine (qlh_ _ w2 s.1 s.2.1 s.2.2).trans ?_
  rw [e3]
theorem qlw_  (t24 a b) : jfn Tryz.prog qg_ 6 18446744073709551616 (Ev.get qh_) 20 qd_ 6 [] (qas_ t24 a b) = qco_ t24 a b := by
  rw [q2_ (by decide)]
  have e2 : (fun i a b => (jfn Tryz.prog qg_ 6 18446744073709551616 (Ev.get qh_) 20 qd_) 58 [] (qf_ i a b)) = qcm_ := by funext i a b; exact qkx_ i a b
  rw [qln_, e2]
  rfl
theorem qmy_ (x : As [.pr .str (.sl QAT2), .pr .str (.sl QAT2)]) : evT Tryz.prog qg_ 6 18446744073709551616 (Ev.get qh_) 20 qd_ x = qbn_ x := by
  have e1 : (fun t24 a b => (jfn Tryz.prog qg_ 6 18446744073709551616 (Ev.get qh_) 20 qd_) 6 [] (qas_ t24 a b)) = qco_ := by funext t24 a b; exact qlw_ t24 a b
  rw [q1u_, qlf_, e1]
  rfl
theorem qlv_ : CtOk Tryz.prog I0 20 ⟨qd_, qbn_⟩ := qu_ q9_ qmy_
def qlr_ (l : List QAT4) (word : List UInt8) : Option (As [.bool]) :=
  if eqi (Int.ofNat (List.length l)) 2 = true then Option.bind (at? l 0) fun (y : Int × List UInt8 × (Int × Int) × Int) => if eqi y.1 1 = true then Option.bind (at? l 0) fun (y : Int × List UInt8 × (Int × Int) × Int) => if eqs y.2.1 word = true then Option.bind (at? l 1) fun (y : Int × List UInt8 × (Int × Int) × Int) => if eqi y.1 1 = true then Option.bind (at? l 1) fun (y : Int × List UInt8 × (Int × Int) × Int) => Option.bind (qbj_ (y.2.1, ())) fun (y : Bool × Unit) => some (y.1, ()) else some (false, ()) else some (false, ()) else some (false, ()) else some (false, ())
def qhl_ (x : As [.sl QAT1, .str]) : Option (As [.bool]) := qlr_ x.1 x.2.1
def qlp_ (j2 self1 : List QAT4 -> Int -> Int -> List (List QAT4) -> Option (As [.sl (.sl QAT1)])) (l : List QAT4) (from' i : Int) (out : List (List QAT4)) : Option (As [.sl (.sl QAT1)]) :=
  if lt i (Int.ofNat (List.length l)) = true then Option.bind (at? l i) fun (y : Int × List UInt8 × (Int × Int) × Int) => if eqi y.1 4 = true then Option.bind (cut l from' i) fun (y : List QAT4) => need (small (List.length out + Nat.succ 0)) (j2 l (add .i64 i 1) i (out ++ [y])) else j2 l from' i out else some (out, ())
def qkt_ (self1 : List QAT4 -> Int -> Int -> List (List QAT4) -> Option (As [.sl (.sl QAT1)])) (l : List QAT4) (from' i : Int) (out : List (List QAT4)) : Option (As [.sl (.sl QAT1)]) :=
  self1 l from' (add .i64 i 1) out
def qmd_ (j1 : List QAT4 -> Int -> Int -> List (List QAT4) -> Option (As [.sl (.sl QAT1)])) (l : List QAT4) : Option (As [.sl (.sl QAT1)]) :=
  j1 l 0 0 []
def qkv_ (u1 : List QAT4 -> Int -> Int -> List (List QAT4) -> Option (As [.sl (.sl QAT1)])) (l : List QAT4) (from' i : Int) (out : List (List QAT4)) : Option (As [.sl (.sl QAT1)]) := qkt_ u1 l from' i out
def qlc_ (l : List QAT4) (from' i : Int) (out : List (List QAT4)) : Option (As [.sl (.sl QAT1)]) :=
  loopF (fun (self : (List QAT4) × (Int) × (Int) × (List (List QAT4)) -> Option (As [.sl (.sl QAT1)])) (s : (List QAT4) × (Int) × (Int) × (List (List QAT4))) => qlp_ (qkv_ (fun l from' i out => self (l, from', i, out))) (fun l from' i out => self (l, from', i, out)) s.1 s.2.1 s.2.2.1 s.2.2.2) 18446744073709551616 (l, from', i, out)
def qo8_ (x : As [.sl QAT1]) : Option (As [.sl (.sl QAT1)]) := qmd_ qlc_ x.1
@[reducible] def q1f_ : Sh := ⟨[.d (.pr .str (.sl QAT2))], [], [.pr .str (.sl QAT2)], [.d (.bool)], [], 0, [.bool]⟩
def q22_ : Env := (cts [])
def q20_ : List (Nat × Hint) := [(58, ⟨[], [18, 19, 20, 29, 30, 31, 32, 46, 47, 48, 49]⟩), (29902, ⟨[], [18, 19, 20, 29, 30, 31, 32, 35, 36, 37, 46, 47, 48, 49]⟩), (1913753, ⟨[.agd 47 .str, .agd 48 (.int .i64), .agd 49 .bool], [18, 19, 20, 35, 36, 37, 50]⟩), (7474, ⟨[.agd 30 .str, .agd 31 (.int .i64), .agd 32 .bool], [4, 18, 19, 20, 33]⟩), (6, ⟨[], [1, 16, 29, 30, 31, 32, 46, 47, 48, 49]⟩)]
def qbl_ (t16 : Bool) (r : List UInt8 × List QAT0) : St := { fr := [(1, .pb 0 0), (16, .d .bool t16)], nt := 53, up := [], own := [(0, .box 26 [.d .str r.1, .d (.sl QAT2) r.2])], nx := 1, log := [], ln := 0 }
def q2d_ (t18 : List QAT0) (t19 t20 : Int) : St := { fr := [(18, .d (.sl QAT2) t18), (19, .d (.int .i64) t19), (20, .d (.int .i64) t20)], nt := 53, up := [], own := [], nx := 0, log := [], ln := 0 }
def qbi_ (t18 : List QAT0) (t19 t20 : Int) (t33 : Bool) (p : List UInt8 × Int × List QAT3) : St := { fr := [(4, .pb 0 0), (18, .d (.sl QAT2) t18), (19, .d (.int .i64) t19), (20, .d (.int .i64) t20), (33, .d .bool t33)], nt := 53, up := [], own := [(0, .box 43 [.d .str p.1, .d (.int .i64) p.2.1, .d (.sl QAT5) p.2.2])], nx := 1, log := [], ln := 0 }
def q4v_ (t18 : List QAT0) (t19 t20 : Int) (t35 : List QAT3) (t36 t37 : Int) : St := { fr := [(18, .d (.sl QAT2) t18), (19, .d (.int .i64) t19), (20, .d (.int .i64) t20), (35, .d (.sl QAT5) t35), (36, .d (.int .i64) t36), (37, .d (.int .i64) t37)], nt := 53, up := [], own := [], nx := 0, log := [], ln := 0 }
def qbk_ (t18 : List QAT0) (t19 t20 : Int) (t35 : List QAT3) (t36 t37 : Int) (t50 : Bool) : St := { fr := [(18, .d (.sl QAT2) t18), (19, .d (.int .i64) t19), (20, .d (.int .i64) t20), (35, .d (.sl QAT5) t35), (36, .d (.int .i64) t36), (37, .d (.int .i64) t37), (50, .d .bool t50)], nt := 53, up := [], own := [], nx := 0, log := [], ln := 0 }
def qfg_ (j2 : List QAT0 -> Int -> Int -> Option (As [.bool])) (t16 : Bool) (r : List UInt8 × List QAT0) : Option (As [.bool]) :=
  if t16 = true then some (false, ()) else j2 r.2 (Int.ofNat (List.length r.2)) 0
def q89_ (j3 : List QAT0 -> Int -> Int -> Bool -> List UInt8 × Int × List QAT3 -> Option (As [.bool])) (self2 : List QAT0 -> Int -> Int -> Option (As [.bool])) (t18 : List QAT0) (t19 t20 : Int) : Option (As [.bool]) :=
  if lt t20 t19 = true then Option.bind (at? t18 t20) fun (y : List UInt8 × Int × List QAT3) => if gt (Int.ofNat (List.length y.2.2)) 70 = true then j3 t18 t19 t20 true y else j3 t18 t19 t20 (gt (Int.ofNat (List.length y.1)) 40) y else some (true, ())
def qfh_ (j4 : List QAT0 -> Int -> Int -> List QAT3 -> Int -> Int -> Option (As [.bool])) (self2 : List QAT0 -> Int -> Int -> Option (As [.bool])) (t18 : List QAT0) (t19 t20 : Int) (t33 : Bool) (p : List UInt8 × Int × List QAT3) : Option (As [.bool]) :=
  if t33 = true then some (false, ()) else j4 t18 t19 t20 p.2.2 (Int.ofNat (List.length p.2.2)) 0
def q8g_ (j5 : List QAT0 -> Int -> Int -> List QAT3 -> Int -> Int -> Bool -> Option (As [.bool])) (self2 : List QAT0 -> Int -> Int -> Option (As [.bool])) (self4 : List QAT0 -> Int -> Int -> List QAT3 -> Int -> Int -> Option (As [.bool])) (t18 : List QAT0) (t19 t20 : Int) (t35 : List QAT3) (t36 t37 : Int) : Option (As [.bool]) :=
  if lt t37 t36 = true then Option.bind (at? t35 t37) fun (y : List UInt8 × (Int × Int) × List UInt8 × Int) => if gt (Int.ofNat (List.length y.1)) 40 = true then j5 t18 t19 t20 t35 t36 t37 true else j5 t18 t19 t20 t35 t36 t37 (gt (Int.ofNat (List.length y.2.2.1)) 40) else self2 t18 t19 (add .i64 t20 1)
def qbh_ (self2 : List QAT0 -> Int -> Int -> Option (As [.bool])) (self4 : List QAT0 -> Int -> Int -> List QAT3 -> Int -> Int -> Option (As [.bool])) (t18 : List QAT0) (t19 t20 : Int) (t35 : List QAT3) (t36 t37 : Int) (t50 : Bool) : Option (As [.bool]) :=
  if t50 = true then some (false, ()) else self4 t18 t19 t20 t35 t36 (add .i64 t37 1)
def qbd_ (j1 : Bool -> List UInt8 × List QAT0 -> Option (As [.bool])) (r : List UInt8 × List QAT0) : Option (As [.bool]) :=
  if gt (Int.ofNat (List.length r.2)) 12 = true then j1 true r else j1 (gt (Int.ofNat (List.length r.1)) 40) r
def q9w_ (u2 : List QAT0 -> Int -> Int -> Option (As [.bool])) (u4 : List QAT0 -> Int -> Int -> List QAT3 -> Int -> Int -> Option (As [.bool])) (t18 : List QAT0) (t19 t20 : Int) (t35 : List QAT3) (t36 t37 : Int) (t50 : Bool) : Option (As [.bool]) := qbh_ u2 u4 t18 t19 t20 t35 t36 t37 t50
def q8j_ (u2 : List QAT0 -> Int -> Int -> Option (As [.bool])) (t18 : List QAT0) (t19 t20 : Int) (t35 : List QAT3) (t36 t37 : Int) : Option (As [.bool]) :=
  loopF (fun (self : (List QAT0) × (Int) × (Int) × (List QAT3) × (Int) × (Int) -> Option (As [.bool])) (s : (List QAT0) × (Int) × (Int) × (List QAT3) × (Int) × (Int)) => q8g_ (q9w_ u2 (fun t18 t19 t20 t35 t36 t37 => self (t18, t19, t20, t35, t36, t37))) u2 (fun t18 t19 t20 t35 t36 t37 => self (t18, t19, t20, t35, t36, t37)) s.1 s.2.1 s.2.2.1 s.2.2.2.1 s.2.2.2.2.1 s.2.2.2.2.2) 18446744073709551616 (t18, t19, t20, t35, t36, t37)
def q9r_ (u2 : List QAT0 -> Int -> Int -> Option (As [.bool])) (t18 : List QAT0) (t19 t20 : Int) (t33 : Bool) (p : List UInt8 × Int × List QAT3) : Option (As [.bool]) := qfh_ (q8j_ u2) u2 t18 t19 t20 t33 p
def q8a_ (t18 : List QAT0) (t19 t20 : Int) : Option (As [.bool]) :=
  loopF (fun (self : (List QAT0) × (Int) × (Int) -> Option (As [.bool])) (s : (List QAT0) × (Int) × (Int)) => q89_ (q9r_ (fun t18 t19 t20 => self (t18, t19, t20))) (fun t18 t19 t20 => self (t18, t19, t20)) s.1 s.2.1 s.2.2) 18446744073709551616 (t18, t19, t20)
def q9v_ (t16 : Bool) (r : List UInt8 × List QAT0) : Option (As [.bool]) := qfg_ (q8a_) t16 r
def q8l_ (x : As [.pr .str (.sl QAT2)]) : Option (As [.bool]) := qbd_ q9v_ x.1
theorem qna_  (J w2 w4 t18 t19 t20 t35 t36 t37 t50) : pfn Tryz.prog q22_ 6 18446744073709551616 (Ev.get q20_) 9 q1f_ J 1913753 [w2, w4] (qbk_ t18 t19 t20 t35 t36 t37 t50) = qbh_ (fun t18 t19 t20 => w2 (q2d_ t18 t19 t20)) (fun t18 t19 t20 t35 t36 t37 => w4 (q4v_ t18 t19 t20 t35 t36 t37)) t18 t19 t20 t35 t36 t37 t50 := by kernel_rfl
theorem qml_  (J w2 w4 t18 t19 t20 t35 t36 t37) : pfn Tryz.prog q22_ 6 18446744073709551616 (Ev.get q20_) 9 q1f_ J 29902 [w2, w4] (q4v_ t18 t19 t20 t35 t36 t37) = q8g_ (fun t18 t19 t20 t35 t36 t37 t50 => J 1913753 [w2, w4] (qbk_ t18 t19 t20 t35 t36 t37 t50)) (fun t18 t19 t20 => w2 (q2d_ t18 t19 t20)) (fun t18 t19 t20 t35 t36 t37 => w4 (q4v_ t18 t19 t20 t35 t36 t37)) t18 t19 t20 t35 t36 t37 := by kernel_rfl
theorem qmk_  (J w2 t18 t19 t20 t33 p) : pfn Tryz.prog q22_ 6 18446744073709551616 (Ev.get q20_) 9 q1f_ J 7474 [w2] (qbi_ t18 t19 t20 t33 p) = qfh_ (fun t18 t19 t20 t35 t36 t37 => J 29902 [w2] (q4v_ t18 t19 t20 t35 t36 t37)) (fun t18 t19 t20 => w2 (q2d_ t18 t19 t20)) t18 t19 t20 t33 p := by kernel_rfl
theorem qmm_  (J w2 t18 t19 t20) : pfn Tryz.prog q22_ 6 18446744073709551616 (Ev.get q20_) 9 q1f_ J 58 [w2] (q2d_ t18 t19 t20) = q89_ (fun t18 t19 t20 t33 p => J 7474 [w2] (qbi_ t18 t19 t20 t33 p)) (fun t18 t19 t20 => w2 (q2d_ t18 t19 t20)) t18 t19 t20 := by kernel_rfl
theorem qmg_  (J t16 r) : pfn Tryz.prog q22_ 6 18446744073709551616 (Ev.get q20_) 9 q1f_ J 6 [] (qbl_ t16 r) = qfg_ (fun t18 t19 t20 => J 58 [] (q2d_ t18 t19 t20)) t16 r := by kernel_rfl
theorem qmh_ (J : Orc (As [.bool])) (x : As [.pr .str (.sl QAT2)]) : rfn Tryz.prog q22_ 6 18446744073709551616 (Ev.get q20_) 9 q1f_ J x = qbd_ (fun t16 r => J 6 [] (qbl_ t16 r)) x.1 := by kernel_rfl
theorem qn0_  (w2 w4 t18 t19 t20 t35 t36 t37 t50) : jfn Tryz.prog q22_ 6 18446744073709551616 (Ev.get q20_) 9 q1f_ 1913753 [w2, w4] (qbk_ t18 t19 t20 t35 t36 t37 t50) = q9w_ (fun t18 t19 t20 => w2 (q2d_ t18 t19 t20)) (fun t18 t19 t20 t35 t36 t37 => w4 (q4v_ t18 t19 t20 t35 t36 t37)) t18 t19 t20 t35 t36 t37 t50 := by
  rw [q2_ (by decide)]
  rw [qna_]
  rfl
theorem qn1_  (w2 t18 t19 t20 t35 t36 t37) : jfn Tryz.prog q22_ 6 18446744073709551616 (Ev.get q20_) 9 q1f_ 29902 [w2] (q4v_ t18 t19 t20 t35 t36 t37) = q8j_ (fun t18 t19 t20 => w2 (q2d_ t18 t19 t20)) t18 t19 t20 t35 t36 t37 := by
  rw [q2_ (by decide)]
  rw [qv_ (by kernel_rfl)]
  refine qi_ (σ := (List QAT0) × (Int) × (Int) × (List QAT3) × (Int) × (Int)) (mk := fun s => q4v_ s.1 s.2.1 s.2.2.1 s.2.2.2.1 s.2.2.2.2.1 s.2.2.2.2.2) (fun w4 s => ?_) 18446744073709551616 (t18, t19, t20, t35, t36, t37)
  have e5 : (fun t18 t19 t20 t35 t36 t37 t50 => (jfn Tryz.prog q22_ 6 18446744073709551616 (Ev.get q20_) 9 q1f_) 1913753 [w2, w4] (qbk_ t18 t19 t20 t35 t36 t37 t50)) = q9w_ (fun t18 t19 t20 => w2 (q2d_ t18 t19 t20)) (fun t18 t19 t20 t35 t36 t37 => w4 (q4v_ t18 t19 t20 t35 t36 t37)) := by funext t18 t19 t20 t35 t36 t37 t50; exact qn0_ w2 w4 t18 t19 t20 t35 t36 t37 t50
  refine (qml_ _ w2 w4 s.1 s.2.1 s.2.2.1 s.2.2.2.1 s.2.2.2.2.1 s.2.2.2.2.2).trans ?_
  rw [e5]
theorem qn2_  (w2 t18 t19 t20 t33 p) : jfn Tryz.prog q22_ 6 18446744073709551616 (Ev.get q20_) 9 q1f_ 7474 [w2] (qbi_ t18 t19 t20 t33 p) = q9r_ (fun t18 t19 t20 => w2 (q2d_ t18 t19 t20)) t18 t19 t20 t33 p := by
  rw [q2_ (by decide)]
  have e4 : (fun t18 t19 t20 t35 t36 t37 => (jfn Tryz.prog q22_ 6 18446744073709551616 (Ev.get q20_) 9 q1f_) 29902 [w2] (q4v_ t18 t19 t20 t35 t36 t37)) = q8j_ (fun t18 t19 t20 => w2 (q2d_ t18 t19 t20)) := by funext t18 t19 t20 t35 t36 t37; exact qn1_ w2 t18 t19 t20 t35 t36 t37
  rw [qmk_, e4]
  rfl
theorem qmr_  (t18 t19 t20) : jfn Tryz.prog q22_ 6 18446744073709551616 (Ev.get q20_) 9 q1f_ 58 [] (q2d_ t18 t19 t20) = q8a_ t18 t19 t20 := by
  rw [q2_ (by decide)]
  rw [qv_ (by kernel_rfl)]
  refine qi_ (σ := (List QAT0) × (Int) × (Int)) (mk := fun s => q2d_ s.1 s.2.1 s.2.2) (fun w2 s => ?_) 18446744073709551616 (t18, t19, t20)
  have e3 : (fun t18 t19 t20 t33 p => (jfn Tryz.prog q22_ 6 18446744073709551616 (Ev.get q20_) 9 q1f_) 7474 [w2] (qbi_ t18 t19 t20 t33 p)) = q9r_ (fun t18 t19 t20 => w2 (q2d_ t18 t19 t20)) := by funext t18 t19 t20 t33 p; exact qn2_ w2 t18 t19 t20 t33 p
  refine (qmm_ _ w2 s.1 s.2.1 s.2.2).trans ?_
  rw [e3]
theorem qme_  (t16 r) : jfn Tryz.prog q22_ 6 18446744073709551616 (Ev.get q20_) 9 q1f_ 6 [] (qbl_ t16 r) = q9v_ t16 r := by
  rw [q2_ (by decide)]
  have e2 : (fun t18 t19 t20 => (jfn Tryz.prog q22_ 6 18446744073709551616 (Ev.get q20_) 9 q1f_) 58 [] (q2d_ t18 t19 t20)) = q8a_ := by funext t18 t19 t20; exact qmr_ t18 t19 t20
  rw [qmg_, e2]
  rfl
theorem qnh_ (x : As [.pr .str (.sl QAT2)]) : evT Tryz.prog q22_ 6 18446744073709551616 (Ev.get q20_) 9 q1f_ x = q8l_ x := by
  have e1 : (fun t16 r => (jfn Tryz.prog q22_ 6 18446744073709551616 (Ev.get q20_) 9 q1f_) 6 [] (qbl_ t16 r)) = q9v_ := by funext t16 r; exact qme_ t16 r
  rw [q1u_, qmh_, e1]
  rfl
theorem qmw_ : CtOk Tryz.prog I0 9 ⟨q1f_, q8l_⟩ := qu_ q9_ qnh_
end Go.Proofs.Lx
end
section
open Go Go.Proofs Ev Sx
set_option maxRecDepth 100000
namespace Go.Proofs.Lx
@[reducible] def q4f_ : Sh := ⟨[.d (.pr .str (.sl QAT2)), .d (.pr .str (.sl QAT2))], [], [.pr .str (.sl QAT2), .pr .str (.sl QAT2)], [.d (.bool)], [], 0, [.bool]⟩
def q52_ : Env := (cts [(20, (⟨qd_, qbn_⟩ : Ct))])
def q53_ : List (Nat × Hint) := [(58, ⟨[], [2, 3, 13, 14]⟩), (29902, ⟨[], [2, 3, 5, 13, 14, 36, 37]⟩)]
def q45_ (t13 t14 : Int) (a b : List UInt8 × List QAT0) : St := { fr := [(2, .pb 0 0), (3, .pb 1 0), (13, .d (.int .i64) t13), (14, .d (.int .i64) t14)], nt := 63, up := [], own := [(0, .box 26 [.d .str a.1, .d (.sl QAT2) a.2]), (1, .box 26 [.d .str b.1, .d (.sl QAT2) b.2])], nx := 2, log := [], ln := 0 }
def q6h_ (i t13 t14 t36 t37 : Int) (a b : List UInt8 × List QAT0) : St := { fr := [(2, .pb 0 0), (3, .pb 1 0), (5, .d (.int .i64) i), (13, .d (.int .i64) t13), (14, .d (.int .i64) t14), (36, .d (.int .i64) t36), (37, .d (.int .i64) t37)], nt := 63, up := [], own := [(0, .box 26 [.d .str a.1, .d (.sl QAT2) a.2]), (1, .box 26 [.d .str b.1, .d (.sl QAT2) b.2])], nx := 2, log := [], ln := 0 }
def qdp_ (j2 : Int -> Int -> Int -> Int -> Int -> List UInt8 × List QAT0 -> List UInt8 × List QAT0 -> Option (As [.bool])) (self1 : Int -> Int -> List UInt8 × List QAT0 -> List UInt8 × List QAT0 -> Option (As [.bool])) (t13 t14 : Int) (a b : List UInt8 × List QAT0) : Option (As [.bool]) :=
  if lt t14 t13 = true then Option.bind (at? a.2 t14) fun (y : List UInt8 × Int × List QAT3) => Option.bind (at? b.2 t14) fun (y_1 : List UInt8 × Int × List QAT3) => if nei y.2.1 y_1.2.1 = true then some (false, ()) else Option.bind (at? a.2 t14) fun (y : List UInt8 × Int × List QAT3) => j2 t14 t13 t14 (Int.ofNat (List.length y.2.2)) 0 a b else some (true, ())
def qdn_ (self1 : Int -> Int -> List UInt8 × List QAT0 -> List UInt8 × List QAT0 -> Option (As [.bool])) (self2 : Int -> Int -> Int -> Int -> Int -> List UInt8 × List QAT0 -> List UInt8 × List QAT0 -> Option (As [.bool])) (i t13 t14 t36 t37 : Int) (a b : List UInt8 × List QAT0) : Option (As [.bool]) :=
  if lt t37 t36 = true then Option.bind (at? a.2 i) fun (y : List UInt8 × Int × List QAT3) => Option.bind (at? y.2.2 t37) fun (y : List UInt8 × (Int × Int) × List UInt8 × Int) => Option.bind (at? b.2 i) fun (y_1 : List UInt8 × Int × List QAT3) => Option.bind (at? y_1.2.2 t37) fun (y_2 : List UInt8 × (Int × Int) × List UInt8 × Int) => if nei y.2.2.2 y_2.2.2.2 = true then some (false, ()) else self2 i t13 t14 t36 (add .i64 t37 1) a b else self1 t13 (add .i64 t14 1) a b
def qdv_ (j1 : Int -> Int -> List UInt8 × List QAT0 -> List UInt8 × List QAT0 -> Option (As [.bool])) (a b : List UInt8 × List QAT0) : Option (As [.bool]) :=
  Option.bind (qbn_ (a, b, ())) fun (y : Bool × Unit) => if (!y.1) = true then some (false, ()) else j1 (Int.ofNat (List.length a.2)) 0 a b
def qc1_ (u1 : Int -> Int -> List UInt8 × List QAT0 -> List UInt8 × List QAT0 -> Option (As [.bool])) (i t13 t14 t36 t37 : Int) (a b : List UInt8 × List QAT0) : Option (As [.bool]) :=
  loopF (fun (self : (Int) × (Int) × (Int) × (Int) × (Int) × (List UInt8 × List QAT0) × (List UInt8 × List QAT0) -> Option (As [.bool])) (s : (Int) × (Int) × (Int) × (Int) × (Int) × (List UInt8 × List QAT0) × (List UInt8 × List QAT0)) => qdn_ u1 (fun i t13 t14 t36 t37 a b => self (i, t13, t14, t36, t37, a, b)) s.1 s.2.1 s.2.2.1 s.2.2.2.1 s.2.2.2.2.1 s.2.2.2.2.2.1 s.2.2.2.2.2.2) 18446744073709551616 (i, t13, t14, t36, t37, a, b)
def qc6_ (t13 t14 : Int) (a b : List UInt8 × List QAT0) : Option (As [.bool]) :=
  loopF (fun (self : (Int) × (Int) × (List UInt8 × List QAT0) × (List UInt8 × List QAT0) -> Option (As [.bool])) (s : (Int) × (Int) × (List UInt8 × List QAT0) × (List UInt8 × List QAT0)) => qdp_ (qc1_ (fun t13 t14 a b => self (t13, t14, a, b))) (fun t13 t14 a b => self (t13, t14, a, b)) s.1 s.2.1 s.2.2.1 s.2.2.2) 18446744073709551616 (t13, t14, a, b)
def qca_ (x : As [.pr .str (.sl QAT2), .pr .str (.sl QAT2)]) : Option (As [.bool]) := qdv_ qc6_ x.1 x.2.1
theorem qi8_  (J w1 w2 i t13 t14 t36 t37 a b) : pfn Tryz.prog q52_ 6 18446744073709551616 (Ev.get q53_) 18 q4f_ J 29902 [w1, w2] (q6h_ i t13 t14 t36 t37 a b) = qdn_ (fun t13 t14 a b => w1 (q45_ t13 t14 a b)) (fun i t13 t14 t36 t37 a b => w2 (q6h_ i t13 t14 t36 t37 a b)) i t13 t14 t36 t37 a b := by kernel_rfl
theorem qig_  (J w1 t13 t14 a b) : pfn Tryz.prog q52_ 6 18446744073709551616 (Ev.get q53_) 18 q4f_ J 58 [w1] (q45_ t13 t14 a b) = qdp_ (fun i t13 t14 t36 t37 a b => J 29902 [w1] (q6h_ i t13 t14 t36 t37 a b)) (fun t13 t14 a b => w1 (q45_ t13 t14 a b)) t13 t14 a b := by kernel_rfl
theorem qjh_ (J : Orc (As [.bool])) (x : As [.pr .str (.sl QAT2), .pr .str (.sl QAT2)]) : rfn Tryz.prog q52_ 6 18446744073709551616 (Ev.get q53_) 18 q4f_ J x = qdv_ (fun t13 t14 a b => J 58 [] (q45_ t13 t14 a b)) x.1 x.2.1 := by kernel_rfl
theorem qih_  (w1 i t13 t14 t36 t37 a b) : jfn Tryz.prog q52_ 6 18446744073709551616 (Ev.get q53_) 18 q4f_ 29902 [w1] (q6h_ i t13 t14 t36 t37 a b) = qc1_ (fun t13 t14 a b => w1 (q45_ t13 t14 a b)) i t13 t14 t36 t37 a b := by
  rw [q2_ (by decide)]
  rw [qv_ (by kernel_rfl)]
  refine qi_ (σ := (Int) × (Int) × (Int) × (Int) × (Int) × (List UInt8 × List QAT0) × (List UInt8 × List QAT0)) (mk := fun s => q6h_ s.1 s.2.1 s.2.2.1 s.2.2.2.1 s.2.2.2.2.1 s.2.2.2.2.2.1 s.2.2.2.2.2.2) (fun w2 s => ?_) 18446744073709551616 (i, t13, t14, t36, t37, a, b)
  refine (qi8_ _ w1 w2 s.1 s.2.1 s.2.2.1 s.2.2.2.1 s.2.2.2.2.1 s.2.2.2.2.2.1 s.2.2.2.2.2.2).trans ?_
  rfl
theorem qk0_  (t13 t14 a b) : jfn Tryz.prog q52_ 6 18446744073709551616 (Ev.get q53_) 18 q4f_ 58 [] (q45_ t13 t14 a b) = qc6_ t13 t14 a b := by
  rw [q2_ (by decide)]
  rw [qv_ (by kernel_rfl)]
  refine qi_ (σ := (Int) × (Int) × (List UInt8 × List QAT0) × (List UInt8 × List QAT0)) (mk := fun s => q45_ s.1 s.2.1 s.2.2.1 s.2.2.2) (fun w1 s => ?_) 18446744073709551616 (t13, t14, a, b)
  have e2 : (fun i t13 t14 t36 t37 a b => (jfn Tryz.prog q52_ 6 18446744073709551616 (Ev.get q53_) 18 q4f_) 29902 [w1] (q6h_ i t13 t14 t36 t37 a b)) = qc1_ (fun t13 t14 a b => w1 (q45_ t13 t14 a b)) := by funext i t13 t14 t36 t37 a b; exact qih_ w1 i t13 t14 t36 t37 a b
  refine (qig_ _ w1 s.1 s.2.1 s.2.2.1 s.2.2.2).trans ?_
  rw [e2]
theorem qlu_ (x : As [.pr .str (.sl QAT2), .pr .str (.sl QAT2)]) : evT Tryz.prog q52_ 6 18446744073709551616 (Ev.get q53_) 18 q4f_ x = qca_ x := by
  have e1 : (fun t13 t14 a b => (jfn Tryz.prog q52_ 6 18446744073709551616 (Ev.get q53_) 18 q4f_) 58 [] (q45_ t13 t14 a b)) = qc6_ := by funext t13 t14 a b; exact qk0_ t13 t14 a b
  rw [q1u_, qjh_, e1]
  rfl
theorem qid_ : CtOk Tryz.prog I0 18 ⟨q4f_, qca_⟩ := qu_ (q0_ qlv_ q9_) qlu_
@[reducible] def qdu_ : Sh := ⟨[.d (.sl QAT1), .d (.str)], [], [.sl QAT1, .str], [.d (.bool)], [], 0, [.bool]⟩
def qb9_ (l : List QAT4) (first : List UInt8) : Option (As [.bool]) :=
  if eqi (Int.ofNat (List.length l)) 2 = true then Option.bind (at? l 0) fun (y : Int × List UInt8 × (Int × Int) × Int) => if eqi y.1 1 = true then Option.bind (at? l 0) fun (y : Int × List UInt8 × (Int × Int) × Int) => if eqs y.2.1 first = true then Option.bind (at? l 1) fun (y : Int × List UInt8 × (Int × Int) × Int) => if eqi y.1 1 = true then Option.bind (at? l 1) fun (y : Int × List UInt8 × (Int × Int) × Int) => Option.bind (q21_ (y.2.1, ())) fun (y : Bool × Unit) => some (y.1, ()) else some (false, ()) else some (false, ()) else some (false, ()) else some (false, ())
def q9x_ (x : As [.sl QAT1, .str]) : Option (As [.bool]) := qb9_ x.1 x.2.1
theorem qhp_ : CtOk Tryz.prog I0 73 ⟨qdu_, q9x_⟩ := ctn (q0_ qbt_ q9_) 6 fun J x => by kernel_rfl
end Go.Proofs.Lx
end
