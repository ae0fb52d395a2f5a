/- Proved in the last of these 11 parts (this is part 8): the law RecipeBack of chapter 14 returns true at every recipe and every text. Conditions: those of the given statement, and no others. -/
import Derived.Test.YtnamnibaedolaaaGreatDoorParte
import Derived.Test.YtnamnibaedolaaaGreatDoorPartg
import Derived.Test.YtnamnibaedolaaaGreatDoorProg
set_option linter.unusedVariables false
set_option linter.unusedSimpArgs false
set_option linter.unusedSectionVars false
section
open Go Go.Proofs Ev Sx
set_option maxRecDepth 100000
namespace Go.Proofs.Lx
def qhy_ (j2 : Int -> List UInt8 × List QAT0 -> Option (As [.bool])) (t16 : Bool) (r : List UInt8 × List QAT0) : Option (As [.bool]) :=
  if t16 = true then some (false, ()) else j2 0 r
def qfs_ (j3 : Int -> Bool -> List UInt8 × List QAT0 -> List UInt8 × Int × List QAT3 -> Option (As [.bool])) (self2 : Int -> List UInt8 × List QAT0 -> Option (As [.bool])) (i : Int) (r : List UInt8 × List QAT0) : Option (As [.bool]) :=
  if lt i (Int.ofNat (List.length r.2)) = true then Option.bind (at? r.2 i) fun (y : List UInt8 × Int × List QAT3) => Option.bind (q9u_ (y.1, ())) fun (y_1 : Bool × Unit) => if (!y_1.1) = true then j3 i true r y else j3 i (gt (Int.ofNat (List.length y.2.2)) 64) r y else some (true, ())
def qhb_ (j4 : Int -> Int -> List UInt8 × List QAT0 -> List UInt8 × Int × List QAT3 -> Option (As [.bool])) (self2 : Int -> List UInt8 × List QAT0 -> Option (As [.bool])) (i : Int) (t38 : Bool) (r : List UInt8 × List QAT0) (p : List UInt8 × Int × List QAT3) : Option (As [.bool]) :=
  if t38 = true then some (false, ()) else j4 i 0 r p
def qfu_ (j5 : Int -> Int -> Bool -> List UInt8 × List QAT0 -> List UInt8 × Int × List QAT3 -> Option (As [.bool])) (j6 self2 : Int -> List UInt8 × List QAT0 -> Option (As [.bool])) (self4 : Int -> Int -> List UInt8 × List QAT0 -> List UInt8 × Int × List QAT3 -> Option (As [.bool])) (i k : Int) (r : List UInt8 × List QAT0) (p : List UInt8 × Int × List QAT3) : Option (As [.bool]) :=
  if lt k (Int.ofNat (List.length p.2.2)) = true then Option.bind (at? p.2.2 k) fun (y : List UInt8 × (Int × Int) × List UInt8 × Int) => Option.bind (q9u_ (y.1, ())) fun (y_1 : Bool × Unit) => if (!y_1.1) = true then j5 i k true r p else Option.bind (qlm_ (y.2.1, ())) fun (y_2 : Bool × Unit) => if (!y_2.1) = true then j5 i k true r p else if nes y.2.2.1 [] = true then Option.bind (qly_ (y.2.2.1, ())) fun (y : Bool × Unit) => j5 i k (!y.1) r p else j5 i k false r p else j6 i r
def qgp_ (self2 : Int -> List UInt8 × List QAT0 -> Option (As [.bool])) (self4 : Int -> Int -> List UInt8 × List QAT0 -> List UInt8 × Int × List QAT3 -> Option (As [.bool])) (i k : Int) (t71 : Bool) (r : List UInt8 × List QAT0) (p : List UInt8 × Int × List QAT3) : Option (As [.bool]) :=
  if t71 = true then some (false, ()) else self4 i (add .i64 k 1) r p
def qg2_ (self2 : Int -> List UInt8 × List QAT0 -> Option (As [.bool])) (i : Int) (r : List UInt8 × List QAT0) : Option (As [.bool]) :=
  self2 (add .i64 i 1) r
def qfw_ (j1 : Bool -> List UInt8 × List QAT0 -> Option (As [.bool])) (r : List UInt8 × List QAT0) : Option (As [.bool]) :=
  Option.bind (q9u_ (r.1, ())) fun (y : Bool × Unit) => if (!y.1) = true then j1 true r else j1 (gt (Int.ofNat (List.length r.2)) 8) r
def qhk_ (u2 : Int -> List UInt8 × List QAT0 -> Option (As [.bool])) (u4 : Int -> Int -> List UInt8 × List QAT0 -> List UInt8 × Int × List QAT3 -> Option (As [.bool])) (i k : Int) (t71 : Bool) (r : List UInt8 × List QAT0) (p : List UInt8 × Int × List QAT3) : Option (As [.bool]) := qgp_ u2 u4 i k t71 r p
def qgz_ (u2 : Int -> List UInt8 × List QAT0 -> Option (As [.bool])) (i : Int) (r : List UInt8 × List QAT0) : Option (As [.bool]) := qg2_ u2 i r
def qg1_ (u2 : Int -> List UInt8 × List QAT0 -> Option (As [.bool])) (i k : Int) (r : List UInt8 × List QAT0) (p : List UInt8 × Int × List QAT3) : Option (As [.bool]) :=
  loopF (fun (self : (Int) × (Int) × (List UInt8 × List QAT0) × QAT0 -> Option (As [.bool])) (s : (Int) × (Int) × (List UInt8 × List QAT0) × QAT0) => qfu_ (qhk_ u2 (fun i k r p => self (i, k, r, p))) (qgz_ u2) u2 (fun i k r p => self (i, k, r, p)) s.1 s.2.1 s.2.2.1 s.2.2.2) 18446744073709551616 (i, k, r, p)
def qio_ (u2 : Int -> List UInt8 × List QAT0 -> Option (As [.bool])) (i : Int) (t38 : Bool) (r : List UInt8 × List QAT0) (p : List UInt8 × Int × List QAT3) : Option (As [.bool]) := qhb_ (qg1_ u2) u2 i t38 r p
def qie_ (i : Int) (r : List UInt8 × List QAT0) : Option (As [.bool]) :=
  loopF (fun (self : (Int) × (List UInt8 × List QAT0) -> Option (As [.bool])) (s : (Int) × (List UInt8 × List QAT0)) => qfs_ (qio_ (fun i r => self (i, r))) (fun i r => self (i, r)) s.1 s.2) 18446744073709551616 (i, r)
def qig_ (t16 : Bool) (r : List UInt8 × List QAT0) : Option (As [.bool]) := qhy_ (qie_) t16 r
def qdz_ (x : As [.pr .str (.sl QAT2)]) : Option (As [.bool]) := qfw_ qig_ x.1
@[reducible] def q1c_ : Sh := ⟨[.d (.sl QAT5), .d (.sl QAT5), .fn (.func 47) [] []], [], [.sl QAT5, .sl QAT5], [.d .bool], [], 0, [.bool]⟩
def q2q_ : Env := (cts [])
def q2o_ : List (Nat × Hint) := [(58, ⟨[], [1, 2, 15, 16, 17]⟩)]
def q1w_ (s2 t15 : List QAT3) (t16 t17 : Int) : St := { fr := [(1, .d (.sl QAT5) s2), (2, .fn (.func 47) [] []), (15, .d (.sl QAT5) t15), (16, .d (.int .i64) t16), (17, .d (.int .i64) t17)], nt := 32, up := [], own := [], nx := 0, log := [], ln := 0 }
def q1y_ (self1 : List QAT3 -> List QAT3 -> Int -> Int -> Option (As [.bool])) (s2 t15 : List QAT3) (t16 t17 : Int) : Option (As [.bool]) :=
  if lt t17 t16 = true then Option.bind (at? t15 t17) fun (y : List UInt8 × (Int × Int) × List UInt8 × Int) => Option.bind (at? s2 t17) fun (y_1 : List UInt8 × (Int × Int) × List UInt8 × Int) => if eqs y.1 y_1.1 = true then if (eqi y.2.1.1 y_1.2.1.1 && (eqi y.2.1.2 y_1.2.1.2 && true)) = true then if (!eqs y.2.2.1 y_1.2.2.1) = true then some (false, ()) else self1 s2 t15 t16 (add .i64 t17 1) else some (false, ()) else some (false, ()) else some (true, ())
def q3k_ (j1 : List QAT3 -> List QAT3 -> Int -> Int -> Option (As [.bool])) (s1 s2 : List QAT3) : Option (As [.bool]) :=
  if nei (Int.ofNat (List.length s1)) (Int.ofNat (List.length s2)) = true then some (false, ()) else j1 s2 s1 (Int.ofNat (List.length s1)) 0
def q2j_ (s2 t15 : List QAT3) (t16 t17 : Int) : Option (As [.bool]) :=
  loopF (fun (self : (List QAT3) × (List QAT3) × (Int) × (Int) -> Option (As [.bool])) (s : (List QAT3) × (List QAT3) × (Int) × (Int)) => q1y_ (fun s2 t15 t16 t17 => self (s2, t15, t16, t17)) s.1 s.2.1 s.2.2.1 s.2.2.2) 18446744073709551616 (s2, t15, t16, t17)
def q37_ (x : As [.sl QAT5, .sl QAT5]) : Option (As [.bool]) := q3k_ q2j_ x.1 x.2.1
theorem qa9_  (J w1 s2 t15 t16 t17) : pfn Tryz.prog q2q_ 6 18446744073709551616 (Ev.get q2o_) 49 q1c_ J 58 [w1] (q1w_ s2 t15 t16 t17) = q1y_ (fun s2 t15 t16 t17 => w1 (q1w_ s2 t15 t16 t17)) s2 t15 t16 t17 := by kernel_rfl
theorem qac_ (J : Orc (As [.bool])) (x : As [.sl QAT5, .sl QAT5]) : rfn Tryz.prog q2q_ 6 18446744073709551616 (Ev.get q2o_) 49 q1c_ J x = q3k_ (fun s2 t15 t16 t17 => J 58 [] (q1w_ s2 t15 t16 t17)) x.1 x.2.1 := by kernel_rfl
theorem qaa_  (s2 t15 t16 t17) : jfn Tryz.prog q2q_ 6 18446744073709551616 (Ev.get q2o_) 49 q1c_ 58 [] (q1w_ s2 t15 t16 t17) = q2j_ s2 t15 t16 t17 := by
  rw [q5_ (by decide)]
  rw [q16_ (by kernel_rfl)]
  refine qp_ (σ := (List QAT3) × (List QAT3) × (Int) × (Int)) (mk := fun s => q1w_ s.1 s.2.1 s.2.2.1 s.2.2.2) (fun w1 s => ?_) 18446744073709551616 (s2, t15, t16, t17)
  refine (qa9_ _ w1 s.1 s.2.1 s.2.2.1 s.2.2.2).trans ?_
  rfl
theorem qav_ (x : As [.sl QAT5, .sl QAT5]) : evT Tryz.prog q2q_ 6 18446744073709551616 (Ev.get q2o_) 49 q1c_ x = q37_ x := by
  have e1 : (fun s2 t15 t16 t17 => (jfn Tryz.prog q2q_ 6 18446744073709551616 (Ev.get q2o_) 49 q1c_) 58 [] (q1w_ s2 t15 t16 t17)) = q2j_ := by funext s2 t15 t16 t17; exact qaa_ s2 t15 t16 t17
  rw [rfn_eq, qac_, e1]
  rfl
theorem q6x_ : CtOk Tryz.prog I0 49 ⟨q1c_, q37_⟩ := q18_ qa_ qav_
@[reducible] def q1x_ : Sh := ⟨[.d (.sl QAT2), .d (.sl QAT2), .fn (.func 48) [] [.pb 0 0]], [.box 111 [.fn (.func 47) [] []]], [.sl QAT2, .sl QAT2], [.d .bool], [(0, .box 111 [.fn (.func 47) [] []])], 0, [.bool]⟩
def q2h_ : Env := (cts [(49, (⟨q1c_, q37_⟩ : Ct))])
def q2i_ : List (Nat × Hint) := [(58, ⟨[], [1, 2, 15, 16, 17]⟩)]
def q1n_ (s2 t15 : List QAT0) (t16 t17 : Int) : St := { fr := [(1, .d (.sl QAT2) s2), (2, .fn (.func 48) [] [.pb 0 0]), (15, .d (.sl QAT2) t15), (16, .d (.int .i64) t16), (17, .d (.int .i64) t17)], nt := 32, up := [], own := [(0, .box 111 [.fn (.func 47) [] []])], nx := 1, log := [], ln := 1 }
def q1o_ (self1 : List QAT0 -> List QAT0 -> Int -> Int -> Option (As [.bool])) (s2 t15 : List QAT0) (t16 t17 : Int) : Option (As [.bool]) :=
  if lt t17 t16 = true then Option.bind (at? t15 t17) fun (y : List UInt8 × Int × List QAT3) => Option.bind (at? s2 t17) fun (y_1 : List UInt8 × Int × List QAT3) => if eqs y.1 y_1.1 = true then Option.bind (q37_ (y.2.2, y_1.2.2, ())) fun (y : Bool × Unit) => if (!y.1) = true then some (false, ()) else self1 s2 t15 t16 (add .i64 t17 1) else some (false, ()) else some (true, ())
def q3d_ (j1 : List QAT0 -> List QAT0 -> Int -> Int -> Option (As [.bool])) (s1 s2 : List QAT0) : Option (As [.bool]) :=
  if nei (Int.ofNat (List.length s1)) (Int.ofNat (List.length s2)) = true then some (false, ()) else j1 s2 s1 (Int.ofNat (List.length s1)) 0
def q2f_ (s2 t15 : List QAT0) (t16 t17 : Int) : Option (As [.bool]) :=
  loopF (fun (self : (List QAT0) × (List QAT0) × (Int) × (Int) -> Option (As [.bool])) (s : (List QAT0) × (List QAT0) × (Int) × (Int)) => q1o_ (fun s2 t15 t16 t17 => self (s2, t15, t16, t17)) s.1 s.2.1 s.2.2.1 s.2.2.2) 18446744073709551616 (s2, t15, t16, t17)
def q3t_ (x : As [.sl QAT2, .sl QAT2]) : Option (As [.bool]) := q3d_ q2f_ x.1 x.2.1
theorem qa4_  (J w1 s2 t15 t16 t17) : pfn Tryz.prog q2h_ 6 18446744073709551616 (Ev.get q2i_) 50 q1x_ J 58 [w1] (q1n_ s2 t15 t16 t17) = q1o_ (fun s2 t15 t16 t17 => w1 (q1n_ s2 t15 t16 t17)) s2 t15 t16 t17 := by kernel_rfl
theorem qa2_ (J : Orc (As [.bool])) (x : As [.sl QAT2, .sl QAT2]) : rfn Tryz.prog q2h_ 6 18446744073709551616 (Ev.get q2i_) 50 q1x_ J x = q3d_ (fun s2 t15 t16 t17 => J 58 [] (q1n_ s2 t15 t16 t17)) x.1 x.2.1 := by kernel_rfl
theorem qa1_  (s2 t15 t16 t17) : jfn Tryz.prog q2h_ 6 18446744073709551616 (Ev.get q2i_) 50 q1x_ 58 [] (q1n_ s2 t15 t16 t17) = q2f_ s2 t15 t16 t17 := by
  rw [q5_ (by decide)]
  rw [q16_ (by kernel_rfl)]
  refine qp_ (σ := (List QAT0) × (List QAT0) × (Int) × (Int)) (mk := fun s => q1n_ s.1 s.2.1 s.2.2.1 s.2.2.2) (fun w1 s => ?_) 18446744073709551616 (s2, t15, t16, t17)
  refine (qa4_ _ w1 s.1 s.2.1 s.2.2.1 s.2.2.2).trans ?_
  rfl
theorem qah_ (x : As [.sl QAT2, .sl QAT2]) : evT Tryz.prog q2h_ 6 18446744073709551616 (Ev.get q2i_) 50 q1x_ x = q3t_ x := by
  have e1 : (fun s2 t15 t16 t17 => (jfn Tryz.prog q2h_ 6 18446744073709551616 (Ev.get q2i_) 50 q1x_) 58 [] (q1n_ s2 t15 t16 t17)) = q2f_ := by funext s2 t15 t16 t17; exact qa1_ s2 t15 t16 t17
  rw [rfn_eq, qa2_, e1]
  rfl
theorem qa3_ : CtOk Tryz.prog I0 50 ⟨q1x_, q3t_⟩ := q18_ (q0_ q6x_ qa_) qah_
@[reducible] def qcq_ : Sh := ⟨[.d (.pr .str (.sl QAT2)), .d (.pr .str (.sl QAT2))], [], [.pr .str (.sl QAT2), .pr .str (.sl QAT2)], [.d (.bool)], [], 0, [.bool]⟩
def qa7_ (a b : List UInt8 × List QAT0) : Option (As [.bool]) :=
  if eqs a.1 b.1 = true then Option.bind (q3t_ (a.2, b.2, ())) fun (y : Bool × Unit) => some (y.1, ()) else some (false, ())
def q7o_ (x : As [.pr .str (.sl QAT2), .pr .str (.sl QAT2)]) : Option (As [.bool]) := qa7_ x.1 x.2.1
theorem qht_ : CtOk Tryz.prog I0 19 ⟨qcq_, q7o_⟩ := ctn (q0_ q6x_ (q0_ qa3_ qa_)) 6 fun J x => by kernel_rfl
@[reducible] def bits_Mul32_s : Sh := ⟨[.d (.int .u32), .d (.int .u32)], [], [.int .u32, .int .u32], [.d (.int .u32), .d (.int .u32)], [], 0, [.int .u32, .int .u32]⟩
def bits_Mul32_m0 (x y : Int) : Option (As [.int .u32, .int .u32]) :=
  some (cvt .u32 (Sx.shr .u64 (mul .u64 (cvt .u64 x) (cvt .u64 y)) 32), cvt .u32 (mul .u64 (cvt .u64 x) (cvt .u64 y)), ())
def bits_Mul32 (x : As [.int .u32, .int .u32]) : Option (As [.int .u32, .int .u32]) := bits_Mul32_m0 x.1 x.2.1
theorem bits_Mul32_ok : CtOk Tryz.prog I0 85 ⟨bits_Mul32_s, bits_Mul32⟩ := ctn qa_ 6 fun J x => by kernel_rfl
@[reducible] def bits_Mul64_s : Sh := ⟨[.d (.int .u64), .d (.int .u64)], [], [.int .u64, .int .u64], [.d (.int .u64), .d (.int .u64)], [], 0, [.int .u64, .int .u64]⟩
def bits_Mul64_m0 (x y : Int) : Option (As [.int .u64, .int .u64]) :=
  some (add .u64 (add .u64 (mul .u64 (Sx.shr .u64 x 32) (Sx.shr .u64 y 32)) (Sx.shr .u64 (add .u64 (mul .u64 (Sx.shr .u64 x 32) (Sx.band .u64 y 4294967295)) (Sx.shr .u64 (mul .u64 (Sx.band .u64 x 4294967295) (Sx.band .u64 y 4294967295)) 32)) 32)) (Sx.shr .u64 (add .u64 (Sx.band .u64 (add .u64 (mul .u64 (Sx.shr .u64 x 32) (Sx.band .u64 y 4294967295)) (Sx.shr .u64 (mul .u64 (Sx.band .u64 x 4294967295) (Sx.band .u64 y 4294967295)) 32)) 4294967295) (mul .u64 (Sx.band .u64 x 4294967295) (Sx.shr .u64 y 32))) 32), mul .u64 x y, ())
def bits_Mul64 (x : As [.int .u64, .int .u64]) : Option (As [.int .u64, .int .u64]) := bits_Mul64_m0 x.1 x.2.1
theorem bits_Mul64_ok : CtOk Tryz.prog I0 86 ⟨bits_Mul64_s, bits_Mul64⟩ := ctn qa_ 6 fun J x => by kernel_rfl
@[reducible] def bits_Mul_s : Sh := ⟨[.d (.int .u64), .d (.int .u64)], [], [.int .u64, .int .u64], [.d (.int .u64), .d (.int .u64)], [], 0, [.int .u64, .int .u64]⟩
def bits_Mul_m0 (x y : Int) : Option (As [.int .u64, .int .u64]) :=
  Option.bind (bits_Mul64 (x, y, ())) fun (y : Int × Int × Unit) => some (y.1, y.2.1, ())
def bits_Mul (x : As [.int .u64, .int .u64]) : Option (As [.int .u64, .int .u64]) := bits_Mul_m0 x.1 x.2.1
theorem bits_Mul_ok : CtOk Tryz.prog I0 59 ⟨bits_Mul_s, bits_Mul⟩ := ctn (q0_ bits_Mul32_ok (q0_ bits_Mul64_ok qa_)) 6 fun J x => by kernel_rfl
@[reducible] def strings_HasPrefix_s : Sh := ⟨[.d (.str), .d (.str)], [], [.str, .str], [.d (.bool)], [], 0, [.bool]⟩
def strings_HasPrefix_m0 (s prefixV : List UInt8) : Option (As [.bool]) :=
  Option.bind (q3r_ (s, prefixV, ())) fun (y : Bool × Unit) => some (y.1, ())
def q3p_ (x : As [.str, .str]) : Option (As [.bool]) := strings_HasPrefix_m0 x.1 x.2.1
theorem strings_HasPrefix_ok : CtOk Tryz.prog I0 60 ⟨strings_HasPrefix_s, q3p_⟩ := ctn (q0_ q82_ qa_) 6 fun J x => by kernel_rfl
@[reducible] def strings_Repeat_s : Sh := ⟨[.d (.str), .d (.int .i64)], [], [.str, .int .i64], [.d (.str)], [], 0, [.str]⟩
def q1_ : Env := (cts [(59, (⟨bits_Mul_s, bits_Mul⟩ : Ct)), (60, (⟨strings_HasPrefix_s, q3p_⟩ : Ct))])
def q2_ : List (Nat × Hint) := [(7, ⟨[], [0, 1, 32, 33, 53, 54, 62, 63, 71, 72, 80, 81, 89, 90]⟩), (31, ⟨[], [0, 6, 53, 54, 62, 63, 71, 72, 80, 81, 89, 90]⟩), (255, ⟨[], [0, 7]⟩), (1023, ⟨[], [0, 7, 8]⟩), (65532, ⟨[], [7, 8, 9]⟩), (2042, ⟨[], [0, 7, 43, 53, 54, 62, 63, 71, 72, 80, 81, 89, 90]⟩), (16340, ⟨[], [0, 7, 49, 62, 63, 71, 72, 80, 81, 89, 90]⟩), (65363, ⟨[], [0, 7, 58, 71, 72, 80, 81, 89, 90]⟩), (261455, ⟨[], [0, 7, 67, 80, 81, 89, 90]⟩), (1045823, ⟨[], [0, 7, 76, 89, 90]⟩), (4183295, ⟨[], [0, 7, 85]⟩), (62, ⟨[], [0, 6, 34, 53, 54, 62, 63, 71, 72, 80, 81, 89, 90]⟩)]
def q6h_ (s : List UInt8) (count : Int) : St := { fr := [(0, .d .str s), (1, .d (.int .i64) count)], nt := 125, up := [], own := [], nx := 0, log := [], ln := 0 }
def q6i_ (s : List UInt8) (lo : Int) (t34 : Bool) : St := { fr := [(0, .d .str s), (6, .d (.int .u64) lo), (34, .d .bool t34)], nt := 125, up := [], own := [], nx := 0, log := [], ln := 0 }
def q6j_ (s : List UInt8) (lo : Int) : St := { fr := [(0, .d .str s), (6, .d (.int .u64) lo)], nt := 125, up := [], own := [], nx := 0, log := [], ln := 0 }
def q6k_ (s : List UInt8) (n : Int) (t43 : Bool) : St := { fr := [(0, .d .str s), (7, .d (.int .i64) n), (43, .d .bool t43)], nt := 125, up := [], own := [], nx := 0, log := [], ln := 0 }
def q6l_ (s : List UInt8) (n : Int) (t49 : Bool) : St := { fr := [(0, .d .str s), (7, .d (.int .i64) n), (49, .d .bool t49)], nt := 125, up := [], own := [], nx := 0, log := [], ln := 0 }
def q49_ (s : List UInt8) (n : Int) : St := { fr := [(0, .d .str s), (7, .d (.int .i64) n)], nt := 125, up := [], own := [], nx := 0, log := [], ln := 0 }
def q6m_ (s : List UInt8) (n : Int) (t58 : Bool) : St := { fr := [(0, .d .str s), (7, .d (.int .i64) n), (58, .d .bool t58)], nt := 125, up := [], own := [], nx := 0, log := [], ln := 0 }
def q6n_ (s : List UInt8) (n chunkMax : Int) : St := { fr := [(0, .d .str s), (7, .d (.int .i64) n), (8, .d (.int .i64) chunkMax)], nt := 125, up := [], own := [], nx := 0, log := [], ln := 0 }
def q6o_ (s : List UInt8) (n : Int) (t67 : Bool) : St := { fr := [(0, .d .str s), (7, .d (.int .i64) n), (67, .d .bool t67)], nt := 125, up := [], own := [], nx := 0, log := [], ln := 0 }
def q6c_ (s : List UInt8) (n : Int) (t76 : Bool) : St := { fr := [(0, .d .str s), (7, .d (.int .i64) n), (76, .d .bool t76)], nt := 125, up := [], own := [], nx := 0, log := [], ln := 0 }
def q6d_ (s : List UInt8) (n : Int) (t85 : Bool) : St := { fr := [(0, .d .str s), (7, .d (.int .i64) n), (85, .d .bool t85)], nt := 125, up := [], own := [], nx := 0, log := [], ln := 0 }
def strings_Repeat_m1 (j2 : List UInt8 -> Int -> Bool -> Option (As [.str])) (s : List UInt8) (count : Int) : Option (As [.str]) :=
  Option.bind (bits_Mul (cvt .u64 (Int.ofNat (List.length s)), cvt .u64 count, ())) fun (y : Int × Int × Unit) => if gt y.1 0 = true then j2 s y.2.1 true else j2 s y.2.1 (gt y.2.1 9223372036854775807)
def strings_Repeat_m2 (j3 : List UInt8 -> Int -> Option (As [.str])) (s : List UInt8) (lo : Int) (t34 : Bool) : Option (As [.str]) :=
  if t34 = true then Option.none else j3 s lo
def strings_Repeat_m3 (j4 : List UInt8 -> Int -> Bool -> Option (As [.str])) (s : List UInt8) (lo : Int) : Option (As [.str]) :=
  if eqi (Int.ofNat (List.length s)) 0 = true then some ([], ()) else Option.bind (at? s 0) fun (c : UInt8) => if eqi (Int.ofNat (UInt8.toNat c)) 32 = true then j4 s (cvt .i64 lo) true else if eqi (Int.ofNat (UInt8.toNat c)) 45 = true then j4 s (cvt .i64 lo) true else if eqi (Int.ofNat (UInt8.toNat c)) 48 = true then j4 s (cvt .i64 lo) true else if eqi (Int.ofNat (UInt8.toNat c)) 61 = true then j4 s (cvt .i64 lo) true else j4 s (cvt .i64 lo) (eqi (Int.ofNat (UInt8.toNat c)) 9)
def strings_Repeat_m4 (j5 : List UInt8 -> Int -> Bool -> Option (As [.str])) (j6 : List UInt8 -> Int -> Option (As [.str])) (s : List UInt8) (n : Int) (t43 : Bool) : Option (As [.str]) :=
  if t43 = true then if le n 128 = true then Option.bind (q3p_ ([32, 32, 32, 32, 32, 32, 32, 32, 32, 32, 32, 32, 32, 32, 32, 32, 32, 32, 32, 32, 32, 32, 32, 32, 32, 32, 32, 32, 32, 32, 32, 32, 32, 32, 32, 32, 32, 32, 32, 32, 32, 32, 32, 32, 32, 32, 32, 32, 32, 32, 32, 32, 32, 32, 32, 32, 32, 32, 32, 32, 32, 32, 32, 32, 32, 32, 32, 32, 32, 32, 32, 32, 32, 32, 32, 32, 32, 32, 32, 32, 32, 32, 32, 32, 32, 32, 32, 32, 32, 32, 32, 32, 32, 32, 32, 32, 32, 32, 32, 32, 32, 32, 32, 32, 32, 32, 32, 32, 32, 32, 32, 32, 32, 32, 32, 32, 32, 32, 32, 32, 32, 32, 32, 32, 32, 32, 32, 32], s, ())) fun (y : Bool × Unit) => j5 s n y.1 else j5 s n false else j6 s n
def strings_Repeat_m5 (j7 : List UInt8 -> Int -> Bool -> Option (As [.str])) (s : List UInt8) (n : Int) (t49 : Bool) : Option (As [.str]) :=
  if t49 = true then Option.bind (cut [32, 32, 32, 32, 32, 32, 32, 32, 32, 32, 32, 32, 32, 32, 32, 32, 32, 32, 32, 32, 32, 32, 32, 32, 32, 32, 32, 32, 32, 32, 32, 32, 32, 32, 32, 32, 32, 32, 32, 32, 32, 32, 32, 32, 32, 32, 32, 32, 32, 32, 32, 32, 32, 32, 32, 32, 32, 32, 32, 32, 32, 32, 32, 32, 32, 32, 32, 32, 32, 32, 32, 32, 32, 32, 32, 32, 32, 32, 32, 32, 32, 32, 32, 32, 32, 32, 32, 32, 32, 32, 32, 32, 32, 32, 32, 32, 32, 32, 32, 32, 32, 32, 32, 32, 32, 32, 32, 32, 32, 32, 32, 32, 32, 32, 32, 32, 32, 32, 32, 32, 32, 32, 32, 32, 32, 32, 32, 32] 0 n) fun (y : List UInt8) => some (y, ()) else if le n 128 = true then Option.bind (q3p_ ([45, 45, 45, 45, 45, 45, 45, 45, 45, 45, 45, 45, 45, 45, 45, 45, 45, 45, 45, 45, 45, 45, 45, 45, 45, 45, 45, 45, 45, 45, 45, 45, 45, 45, 45, 45, 45, 45, 45, 45, 45, 45, 45, 45, 45, 45, 45, 45, 45, 45, 45, 45, 45, 45, 45, 45, 45, 45, 45, 45, 45, 45, 45, 45, 45, 45, 45, 45, 45, 45, 45, 45, 45, 45, 45, 45, 45, 45, 45, 45, 45, 45, 45, 45, 45, 45, 45, 45, 45, 45, 45, 45, 45, 45, 45, 45, 45, 45, 45, 45, 45, 45, 45, 45, 45, 45, 45, 45, 45, 45, 45, 45, 45, 45, 45, 45, 45, 45, 45, 45, 45, 45, 45, 45, 45, 45, 45, 45], s, ())) fun (y : Bool × Unit) => j7 s n y.1 else j7 s n false
def strings_Repeat_m6 (j8 : List UInt8 -> Int -> Int -> Option (As [.str])) (s : List UInt8) (n : Int) : Option (As [.str]) :=
  if gt n 8192 = true then need (nei (Int.ofNat (List.length s)) 0) (if eqi (mul .i64 (quo .i64 8192 (Int.ofNat (List.length s))) (Int.ofNat (List.length s))) 0 = true then j8 s n (Int.ofNat (List.length s)) else j8 s n (mul .i64 (quo .i64 8192 (Int.ofNat (List.length s))) (Int.ofNat (List.length s)))) else j8 s n n
def strings_Repeat_m7 (j9 : List UInt8 -> Int -> Bool -> Option (As [.str])) (s : List UInt8) (n : Int) (t58 : Bool) : Option (As [.str]) :=
  if t58 = true then Option.bind (cut [45, 45, 45, 45, 45, 45, 45, 45, 45, 45, 45, 45, 45, 45, 45, 45, 45, 45, 45, 45, 45, 45, 45, 45, 45, 45, 45, 45, 45, 45, 45, 45, 45, 45, 45, 45, 45, 45, 45, 45, 45, 45, 45, 45, 45, 45, 45, 45, 45, 45, 45, 45, 45, 45, 45, 45, 45, 45, 45, 45, 45, 45, 45, 45, 45, 45, 45, 45, 45, 45, 45, 45, 45, 45, 45, 45, 45, 45, 45, 45, 45, 45, 45, 45, 45, 45, 45, 45, 45, 45, 45, 45, 45, 45, 45, 45, 45, 45, 45, 45, 45, 45, 45, 45, 45, 45, 45, 45, 45, 45, 45, 45, 45, 45, 45, 45, 45, 45, 45, 45, 45, 45, 45, 45, 45, 45, 45, 45] 0 n) fun (y : List UInt8) => some (y, ()) else if le n 64 = true then Option.bind (q3p_ ([48, 48, 48, 48, 48, 48, 48, 48, 48, 48, 48, 48, 48, 48, 48, 48, 48, 48, 48, 48, 48, 48, 48, 48, 48, 48, 48, 48, 48, 48, 48, 48, 48, 48, 48, 48, 48, 48, 48, 48, 48, 48, 48, 48, 48, 48, 48, 48, 48, 48, 48, 48, 48, 48, 48, 48, 48, 48, 48, 48, 48, 48, 48, 48], s, ())) fun (y : Bool × Unit) => j9 s n y.1 else j9 s n false
def strings_Repeat_m8 (s : List UInt8) (n chunkMax : Int) : Option (As [.str]) :=
  if lt n 0 = true then Option.none else Option.none
def strings_Repeat_m9 (j10 : List UInt8 -> Int -> Bool -> Option (As [.str])) (s : List UInt8) (n : Int) (t67 : Bool) : Option (As [.str]) :=
  if t67 = true then Option.bind (cut [48, 48, 48, 48, 48, 48, 48, 48, 48, 48, 48, 48, 48, 48, 48, 48, 48, 48, 48, 48, 48, 48, 48, 48, 48, 48, 48, 48, 48, 48, 48, 48, 48, 48, 48, 48, 48, 48, 48, 48, 48, 48, 48, 48, 48, 48, 48, 48, 48, 48, 48, 48, 48, 48, 48, 48, 48, 48, 48, 48, 48, 48, 48, 48] 0 n) fun (y : List UInt8) => some (y, ()) else if le n 128 = true then Option.bind (q3p_ ([61, 61, 61, 61, 61, 61, 61, 61, 61, 61, 61, 61, 61, 61, 61, 61, 61, 61, 61, 61, 61, 61, 61, 61, 61, 61, 61, 61, 61, 61, 61, 61, 61, 61, 61, 61, 61, 61, 61, 61, 61, 61, 61, 61, 61, 61, 61, 61, 61, 61, 61, 61, 61, 61, 61, 61, 61, 61, 61, 61, 61, 61, 61, 61, 61, 61, 61, 61, 61, 61, 61, 61, 61, 61, 61, 61, 61, 61, 61, 61, 61, 61, 61, 61, 61, 61, 61, 61, 61, 61, 61, 61, 61, 61, 61, 61, 61, 61, 61, 61, 61, 61, 61, 61, 61, 61, 61, 61, 61, 61, 61, 61, 61, 61, 61, 61, 61, 61, 61, 61, 61, 61, 61, 61, 61, 61, 61, 61], s, ())) fun (y : Bool × Unit) => j10 s n y.1 else j10 s n false
def strings_Repeat_m10 (j11 : List UInt8 -> Int -> Bool -> Option (As [.str])) (s : List UInt8) (n : Int) (t76 : Bool) : Option (As [.str]) :=
  if t76 = true then Option.bind (cut [61, 61, 61, 61, 61, 61, 61, 61, 61, 61, 61, 61, 61, 61, 61, 61, 61, 61, 61, 61, 61, 61, 61, 61, 61, 61, 61, 61, 61, 61, 61, 61, 61, 61, 61, 61, 61, 61, 61, 61, 61, 61, 61, 61, 61, 61, 61, 61, 61, 61, 61, 61, 61, 61, 61, 61, 61, 61, 61, 61, 61, 61, 61, 61, 61, 61, 61, 61, 61, 61, 61, 61, 61, 61, 61, 61, 61, 61, 61, 61, 61, 61, 61, 61, 61, 61, 61, 61, 61, 61, 61, 61, 61, 61, 61, 61, 61, 61, 61, 61, 61, 61, 61, 61, 61, 61, 61, 61, 61, 61, 61, 61, 61, 61, 61, 61, 61, 61, 61, 61, 61, 61, 61, 61, 61, 61, 61, 61] 0 n) fun (y : List UInt8) => some (y, ()) else if le n 64 = true then Option.bind (q3p_ ([9, 9, 9, 9, 9, 9, 9, 9, 9, 9, 9, 9, 9, 9, 9, 9, 9, 9, 9, 9, 9, 9, 9, 9, 9, 9, 9, 9, 9, 9, 9, 9, 9, 9, 9, 9, 9, 9, 9, 9, 9, 9, 9, 9, 9, 9, 9, 9, 9, 9, 9, 9, 9, 9, 9, 9, 9, 9, 9, 9, 9, 9, 9, 9], s, ())) fun (y : Bool × Unit) => j11 s n y.1 else j11 s n false
def strings_Repeat_m11 (j6 : List UInt8 -> Int -> Option (As [.str])) (s : List UInt8) (n : Int) (t85 : Bool) : Option (As [.str]) :=
  if t85 = true then Option.bind (cut [9, 9, 9, 9, 9, 9, 9, 9, 9, 9, 9, 9, 9, 9, 9, 9, 9, 9, 9, 9, 9, 9, 9, 9, 9, 9, 9, 9, 9, 9, 9, 9, 9, 9, 9, 9, 9, 9, 9, 9, 9, 9, 9, 9, 9, 9, 9, 9, 9, 9, 9, 9, 9, 9, 9, 9, 9, 9, 9, 9, 9, 9, 9, 9] 0 n) fun (y : List UInt8) => some (y, ()) else j6 s n
def strings_Repeat_m0 (j1 : List UInt8 -> Int -> Option (As [.str])) (s : List UInt8) (count : Int) : Option (As [.str]) :=
  if eqi count 0 = true then some ([], ()) else if eqi count 1 = true then some (s, ()) else if lt count 0 = true then Option.none else j1 s count
def strings_Repeat_K8 (s : List UInt8) (n chunkMax : Int) : Option (As [.str]) := strings_Repeat_m8 s n chunkMax
def q53_ (s : List UInt8) (n : Int) : Option (As [.str]) := strings_Repeat_m6 (strings_Repeat_K8) s n
def strings_Repeat_K11 (s : List UInt8) (n : Int) (t85 : Bool) : Option (As [.str]) := strings_Repeat_m11 (q53_) s n t85
def strings_Repeat_K10 (s : List UInt8) (n : Int) (t76 : Bool) : Option (As [.str]) := strings_Repeat_m10 (strings_Repeat_K11) s n t76
def strings_Repeat_K9 (s : List UInt8) (n : Int) (t67 : Bool) : Option (As [.str]) := strings_Repeat_m9 (strings_Repeat_K10) s n t67
def strings_Repeat_K7 (s : List UInt8) (n : Int) (t58 : Bool) : Option (As [.str]) := strings_Repeat_m7 (strings_Repeat_K9) s n t58
def strings_Repeat_K5 (s : List UInt8) (n : Int) (t49 : Bool) : Option (As [.str]) := strings_Repeat_m5 (strings_Repeat_K7) s n t49
def strings_Repeat_K4 (s : List UInt8) (n : Int) (t43 : Bool) : Option (As [.str]) := strings_Repeat_m4 (strings_Repeat_K5) (q53_) s n t43
def strings_Repeat_K3 (s : List UInt8) (lo : Int) : Option (As [.str]) := strings_Repeat_m3 (strings_Repeat_K4) s lo
def strings_Repeat_K2 (s : List UInt8) (lo : Int) (t34 : Bool) : Option (As [.str]) := strings_Repeat_m2 (strings_Repeat_K3) s lo t34
def strings_Repeat_K1 (s : List UInt8) (count : Int) : Option (As [.str]) := strings_Repeat_m1 (strings_Repeat_K2) s count
def strings_Repeat (x : As [.str, .int .i64]) : Option (As [.str]) := strings_Repeat_m0 strings_Repeat_K1 x.1 x.2.1
theorem strings_Repeat_c8  (J s n chunkMax) : pfn Tryz.prog q1_ 6 18446744073709551616 (Ev.get q2_) 27 strings_Repeat_s J 1023 [] (q6n_ s n chunkMax) = strings_Repeat_m8 s n chunkMax := by kernel_rfl
theorem strings_Repeat_c6  (J s n) : pfn Tryz.prog q1_ 6 18446744073709551616 (Ev.get q2_) 27 strings_Repeat_s J 255 [] (q49_ s n) = strings_Repeat_m6 (fun s n chunkMax => J 1023 [] (q6n_ s n chunkMax)) s n := by kernel_rfl
theorem strings_Repeat_c11  (J s n t85) : pfn Tryz.prog q1_ 6 18446744073709551616 (Ev.get q2_) 27 strings_Repeat_s J 4183295 [] (q6d_ s n t85) = strings_Repeat_m11 (fun s n => J 255 [] (q49_ s n)) s n t85 := by kernel_rfl
theorem strings_Repeat_c10  (J s n t76) : pfn Tryz.prog q1_ 6 18446744073709551616 (Ev.get q2_) 27 strings_Repeat_s J 1045823 [] (q6c_ s n t76) = strings_Repeat_m10 (fun s n t85 => J 4183295 [] (q6d_ s n t85)) s n t76 := by kernel_rfl
theorem strings_Repeat_c9  (J s n t67) : pfn Tryz.prog q1_ 6 18446744073709551616 (Ev.get q2_) 27 strings_Repeat_s J 261455 [] (q6o_ s n t67) = strings_Repeat_m9 (fun s n t76 => J 1045823 [] (q6c_ s n t76)) s n t67 := by kernel_rfl
theorem strings_Repeat_c7  (J s n t58) : pfn Tryz.prog q1_ 6 18446744073709551616 (Ev.get q2_) 27 strings_Repeat_s J 65363 [] (q6m_ s n t58) = strings_Repeat_m7 (fun s n t67 => J 261455 [] (q6o_ s n t67)) s n t58 := by kernel_rfl
theorem strings_Repeat_c5  (J s n t49) : pfn Tryz.prog q1_ 6 18446744073709551616 (Ev.get q2_) 27 strings_Repeat_s J 16340 [] (q6l_ s n t49) = strings_Repeat_m5 (fun s n t58 => J 65363 [] (q6m_ s n t58)) s n t49 := by kernel_rfl
theorem strings_Repeat_c4  (J s n t43) : pfn Tryz.prog q1_ 6 18446744073709551616 (Ev.get q2_) 27 strings_Repeat_s J 2042 [] (q6k_ s n t43) = strings_Repeat_m4 (fun s n t49 => J 16340 [] (q6l_ s n t49)) (fun s n => J 255 [] (q49_ s n)) s n t43 := by kernel_rfl
theorem strings_Repeat_c3  (J s lo) : pfn Tryz.prog q1_ 6 18446744073709551616 (Ev.get q2_) 27 strings_Repeat_s J 31 [] (q6j_ s lo) = strings_Repeat_m3 (fun s n t43 => J 2042 [] (q6k_ s n t43)) s lo := by kernel_rfl
theorem strings_Repeat_c2  (J s lo t34) : pfn Tryz.prog q1_ 6 18446744073709551616 (Ev.get q2_) 27 strings_Repeat_s J 62 [] (q6i_ s lo t34) = strings_Repeat_m2 (fun s lo => J 31 [] (q6j_ s lo)) s lo t34 := by kernel_rfl
theorem strings_Repeat_c1  (J s count) : pfn Tryz.prog q1_ 6 18446744073709551616 (Ev.get q2_) 27 strings_Repeat_s J 7 [] (q6h_ s count) = strings_Repeat_m1 (fun s lo t34 => J 62 [] (q6i_ s lo t34)) s count := by kernel_rfl
theorem strings_Repeat_c0 (J : Orc (As [.str])) (x : As [.str, .int .i64]) : rfn Tryz.prog q1_ 6 18446744073709551616 (Ev.get q2_) 27 strings_Repeat_s J x = strings_Repeat_m0 (fun s count => J 7 [] (q6h_ s count)) x.1 x.2.1 := by kernel_rfl
theorem strings_Repeat_g8  (s n chunkMax) : jfn Tryz.prog q1_ 6 18446744073709551616 (Ev.get q2_) 27 strings_Repeat_s 1023 [] (q6n_ s n chunkMax) = strings_Repeat_K8 s n chunkMax := by
  rw [q5_ (by decide)]
  rw [strings_Repeat_c8]
  rfl
theorem strings_Repeat_g6  (s n) : jfn Tryz.prog q1_ 6 18446744073709551616 (Ev.get q2_) 27 strings_Repeat_s 255 [] (q49_ s n) = q53_ s n := by
  rw [q5_ (by decide)]
  have e8 : (fun s n chunkMax => (jfn Tryz.prog q1_ 6 18446744073709551616 (Ev.get q2_) 27 strings_Repeat_s) 1023 [] (q6n_ s n chunkMax)) = strings_Repeat_K8 := by funext s n chunkMax; exact strings_Repeat_g8 s n chunkMax
  rw [strings_Repeat_c6, e8]
  rfl
theorem strings_Repeat_g11  (s n t85) : jfn Tryz.prog q1_ 6 18446744073709551616 (Ev.get q2_) 27 strings_Repeat_s 4183295 [] (q6d_ s n t85) = strings_Repeat_K11 s n t85 := by
  rw [q5_ (by decide)]
  have e6 : (fun s n => (jfn Tryz.prog q1_ 6 18446744073709551616 (Ev.get q2_) 27 strings_Repeat_s) 255 [] (q49_ s n)) = q53_ := by funext s n; exact strings_Repeat_g6 s n
  rw [strings_Repeat_c11, e6]
  rfl
theorem strings_Repeat_g10  (s n t76) : jfn Tryz.prog q1_ 6 18446744073709551616 (Ev.get q2_) 27 strings_Repeat_s 1045823 [] (q6c_ s n t76) = strings_Repeat_K10 s n t76 := by
  rw [q5_ (by decide)]
  have e11 : (fun s n t85 => (jfn Tryz.prog q1_ 6 18446744073709551616 (Ev.get q2_) 27 strings_Repeat_s) 4183295 [] (q6d_ s n t85)) = strings_Repeat_K11 := by funext s n t85; exact strings_Repeat_g11 s n t85
  rw [strings_Repeat_c10, e11]
  rfl
theorem strings_Repeat_g9  (s n t67) : jfn Tryz.prog q1_ 6 18446744073709551616 (Ev.get q2_) 27 strings_Repeat_s 261455 [] (q6o_ s n t67) = strings_Repeat_K9 s n t67 := by
  rw [q5_ (by decide)]
  have e10 : (fun s n t76 => (jfn Tryz.prog q1_ 6 18446744073709551616 (Ev.get q2_) 27 strings_Repeat_s) 1045823 [] (q6c_ s n t76)) = strings_Repeat_K10 := by funext s n t76; exact strings_Repeat_g10 s n t76
  rw [strings_Repeat_c9, e10]
  rfl
theorem strings_Repeat_g7  (s n t58) : jfn Tryz.prog q1_ 6 18446744073709551616 (Ev.get q2_) 27 strings_Repeat_s 65363 [] (q6m_ s n t58) = strings_Repeat_K7 s n t58 := by
  rw [q5_ (by decide)]
  have e9 : (fun s n t67 => (jfn Tryz.prog q1_ 6 18446744073709551616 (Ev.get q2_) 27 strings_Repeat_s) 261455 [] (q6o_ s n t67)) = strings_Repeat_K9 := by funext s n t67; exact strings_Repeat_g9 s n t67
  rw [strings_Repeat_c7, e9]
  rfl
theorem strings_Repeat_g5  (s n t49) : jfn Tryz.prog q1_ 6 18446744073709551616 (Ev.get q2_) 27 strings_Repeat_s 16340 [] (q6l_ s n t49) = strings_Repeat_K5 s n t49 := by
  rw [q5_ (by decide)]
  have e7 : (fun s n t58 => (jfn Tryz.prog q1_ 6 18446744073709551616 (Ev.get q2_) 27 strings_Repeat_s) 65363 [] (q6m_ s n t58)) = strings_Repeat_K7 := by funext s n t58; exact strings_Repeat_g7 s n t58
  rw [strings_Repeat_c5, e7]
  rfl
theorem strings_Repeat_g4  (s n t43) : jfn Tryz.prog q1_ 6 18446744073709551616 (Ev.get q2_) 27 strings_Repeat_s 2042 [] (q6k_ s n t43) = strings_Repeat_K4 s n t43 := by
  rw [q5_ (by decide)]
  have e5 : (fun s n t49 => (jfn Tryz.prog q1_ 6 18446744073709551616 (Ev.get q2_) 27 strings_Repeat_s) 16340 [] (q6l_ s n t49)) = strings_Repeat_K5 := by funext s n t49; exact strings_Repeat_g5 s n t49
  have e6 : (fun s n => (jfn Tryz.prog q1_ 6 18446744073709551616 (Ev.get q2_) 27 strings_Repeat_s) 255 [] (q49_ s n)) = q53_ := by funext s n; exact strings_Repeat_g6 s n
  rw [strings_Repeat_c4, e5, e6]
  rfl
theorem strings_Repeat_g3  (s lo) : jfn Tryz.prog q1_ 6 18446744073709551616 (Ev.get q2_) 27 strings_Repeat_s 31 [] (q6j_ s lo) = strings_Repeat_K3 s lo := by
  rw [q5_ (by decide)]
  have e4 : (fun s n t43 => (jfn Tryz.prog q1_ 6 18446744073709551616 (Ev.get q2_) 27 strings_Repeat_s) 2042 [] (q6k_ s n t43)) = strings_Repeat_K4 := by funext s n t43; exact strings_Repeat_g4 s n t43
  rw [strings_Repeat_c3, e4]
  rfl
theorem strings_Repeat_g2  (s lo t34) : jfn Tryz.prog q1_ 6 18446744073709551616 (Ev.get q2_) 27 strings_Repeat_s 62 [] (q6i_ s lo t34) = strings_Repeat_K2 s lo t34 := by
  rw [q5_ (by decide)]
  have e3 : (fun s lo => (jfn Tryz.prog q1_ 6 18446744073709551616 (Ev.get q2_) 27 strings_Repeat_s) 31 [] (q6j_ s lo)) = strings_Repeat_K3 := by funext s lo; exact strings_Repeat_g3 s lo
  rw [strings_Repeat_c2, e3]
  rfl
theorem strings_Repeat_g1  (s count) : jfn Tryz.prog q1_ 6 18446744073709551616 (Ev.get q2_) 27 strings_Repeat_s 7 [] (q6h_ s count) = strings_Repeat_K1 s count := by
  rw [q5_ (by decide)]
  have e2 : (fun s lo t34 => (jfn Tryz.prog q1_ 6 18446744073709551616 (Ev.get q2_) 27 strings_Repeat_s) 62 [] (q6i_ s lo t34)) = strings_Repeat_K2 := by funext s lo t34; exact strings_Repeat_g2 s lo t34
  rw [strings_Repeat_c1, e2]
  rfl
theorem strings_Repeat_t (x : As [.str, .int .i64]) : evT Tryz.prog q1_ 6 18446744073709551616 (Ev.get q2_) 27 strings_Repeat_s x = strings_Repeat x := by
  have e1 : (fun s count => (jfn Tryz.prog q1_ 6 18446744073709551616 (Ev.get q2_) 27 strings_Repeat_s) 7 [] (q6h_ s count)) = strings_Repeat_K1 := by funext s count; exact strings_Repeat_g1 s count
  rw [rfn_eq, strings_Repeat_c0, e1]
  rfl
theorem strings_Repeat_ok : CtOk Tryz.prog I0 27 ⟨strings_Repeat_s, strings_Repeat⟩ := q18_ (q0_ bits_Mul_ok (q0_ strings_HasPrefix_ok qa_)) strings_Repeat_t
@[reducible] def q4z_ : Sh := ⟨[.d (.int .i64)], [], [.int .i64], [.d (.int .i64)], [], 0, [.int .i64]⟩
def q7i_ : Env := (cts [])
def q7g_ : List (Nat × Hint) := [(58, ⟨[], [3, 4, 5]⟩)]
def q5f_ (p t4 t5 : Int) : St := { fr := [(3, .d (.int .i64) p), (4, .d (.int .i64) t4), (5, .d (.int .i64) t5)], nt := 11, up := [], own := [], nx := 0, log := [], ln := 0 }
def qc2_ (self1 : Int -> Int -> Int -> Option (As [.int .i64])) (p t4 t5 : Int) : Option (As [.int .i64]) :=
  if lt t5 t4 = true then self1 (mul .i64 p 10) t4 (add .i64 t5 1) else some (p, ())
def qc3_ (j1 : Int -> Int -> Int -> Option (As [.int .i64])) (n : Int) : Option (As [.int .i64]) :=
  j1 1 n 0
def qak_ (p t4 t5 : Int) : Option (As [.int .i64]) :=
  loopF (fun (self : (Int) × (Int) × (Int) -> Option (As [.int .i64])) (s : (Int) × (Int) × (Int)) => qc2_ (fun p t4 t5 => self (p, t4, t5)) s.1 s.2.1 s.2.2) 18446744073709551616 (p, t4, t5)
def q90_ (x : As [.int .i64]) : Option (As [.int .i64]) := qc3_ qak_ x.1
theorem qil_  (J w1 p t4 t5) : pfn Tryz.prog q7i_ 6 18446744073709551616 (Ev.get q7g_) 68 q4z_ J 58 [w1] (q5f_ p t4 t5) = qc2_ (fun p t4 t5 => w1 (q5f_ p t4 t5)) p t4 t5 := by kernel_rfl
theorem qi2_ (J : Orc (As [.int .i64])) (x : As [.int .i64]) : rfn Tryz.prog q7i_ 6 18446744073709551616 (Ev.get q7g_) 68 q4z_ J x = qc3_ (fun p t4 t5 => J 58 [] (q5f_ p t4 t5)) x.1 := by kernel_rfl
theorem qg7_  (p t4 t5) : jfn Tryz.prog q7i_ 6 18446744073709551616 (Ev.get q7g_) 68 q4z_ 58 [] (q5f_ p t4 t5) = qak_ p t4 t5 := by
  rw [q5_ (by decide)]
  rw [q16_ (by kernel_rfl)]
  refine qp_ (σ := (Int) × (Int) × (Int)) (mk := fun s => q5f_ s.1 s.2.1 s.2.2) (fun w1 s => ?_) 18446744073709551616 (p, t4, t5)
  refine (qil_ _ w1 s.1 s.2.1 s.2.2).trans ?_
  rfl
theorem qjg_ (x : As [.int .i64]) : evT Tryz.prog q7i_ 6 18446744073709551616 (Ev.get q7g_) 68 q4z_ x = q90_ x := by
  have e1 : (fun p t4 t5 => (jfn Tryz.prog q7i_ 6 18446744073709551616 (Ev.get q7g_) 68 q4z_) 58 [] (q5f_ p t4 t5)) = qak_ := by funext p t4 t5; exact qg7_ p t4 t5
  rw [rfn_eq, qi2_, e1]
  rfl
theorem qhn_ : CtOk Tryz.prog I0 68 ⟨q4z_, q90_⟩ := q18_ qa_ qjg_
@[reducible] def strconv_FormatInt_s : Sh := ⟨[.d (.int .i64), .d (.int .i64)], [], [.int .i64, .int .i64], [.d (.str)], [], 0, [.str]⟩
def strconv_FormatInt_m0 (i base : Int) : Option (As [.str]) :=
  Option.bind (q6b_ (i, base, ())) fun (y : List UInt8 × Unit) => some (y.1, ())
def q54_ (x : As [.int .i64, .int .i64]) : Option (As [.str]) := strconv_FormatInt_m0 x.1 x.2.1
theorem strconv_FormatInt_ok : CtOk Tryz.prog I0 69 ⟨strconv_FormatInt_s, q54_⟩ := ctn (q0_ istrconv_FormatInt_ok qa_) 6 fun J x => by kernel_rfl
@[reducible] def q5i_ : Sh := ⟨[.d (.pr (.int .i64) (.int .u8))], [], [.pr (.int .i64) (.int .u8)], [.d (.str)], [], 0, [.str]⟩
def q86_ : Env := (cts [(27, (⟨strings_Repeat_s, strings_Repeat⟩ : Ct)), (52, (⟨qax_, q6f_⟩ : Ct)), (68, (⟨q4z_, q90_⟩ : Ct)), (69, (⟨strconv_FormatInt_s, q54_⟩ : Ct))])
def q8c_ : List (Nat × Hint) := [(15, ⟨[], [1, 3, 4]⟩)]
def q96_ (n : Int) (sign : List UInt8) (d : Int × Int) : St := { fr := [(1, .pb 0 0), (3, .d (.int .i64) n), (4, .d .str sign)], nt := 47, up := [], own := [(0, .box 45 [.d (.int .i64) d.1, .d (.int .u8) d.2])], nx := 1, log := [], ln := 0 }
def qaw_ (n : Int) (sign : List UInt8) (d : Int × Int) : Option (As [.str]) :=
  Option.bind (q90_ (cvt .i64 d.2, ())) fun (y : Int × Unit) => need (nei y.1 0) (Option.bind (q54_ (quo .i64 n y.1, 10, ())) fun (y_1 : List UInt8 × Unit) => need (small (List.length sign + List.length y_1.1)) (if eqi d.2 0 = true then some (sign ++ y_1.1, ()) else need (nei y.1 0) (Option.bind (q54_ (rem n y.1, 10, ())) fun (y : List UInt8 × Unit) => need (small (List.length (sign ++ y_1.1) + 1)) (Option.bind (strings_Repeat ([48], Sx.sub .i64 (cvt .i64 d.2) (Int.ofNat (List.length y.1)), ())) fun (y_2 : List UInt8 × Unit) => need (small (List.length (sign ++ y_1.1 ++ [46]) + List.length y_2.1)) (need (small (List.length (sign ++ y_1.1 ++ [46] ++ y_2.1) + List.length y.1)) (some (sign ++ y_1.1 ++ [46] ++ y_2.1 ++ y.1, ())))))))
def q98_ (j1 : Int -> List UInt8 -> Int × Int -> Option (As [.str])) (d : Int × Int) : Option (As [.str]) :=
  Option.bind (q6f_ (d, ())) fun (y : Bool × Unit) => if (!y.1) = true then some ([], ()) else if lt d.1 0 = true then j1 (Sx.neg .i64 d.1) [45] d else j1 d.1 [] d
def q5z_ (n : Int) (sign : List UInt8) (d : Int × Int) : Option (As [.str]) := qaw_ n sign d
def q76_ (x : As [.pr (.int .i64) (.int .u8)]) : Option (As [.str]) := q98_ q5z_ x.1
theorem qjt_  (J n sign d) : pfn Tryz.prog q86_ 6 18446744073709551616 (Ev.get q8c_) 37 q5i_ J 15 [] (q96_ n sign d) = qaw_ n sign d := by kernel_rfl
theorem qjk_ (J : Orc (As [.str])) (x : As [.pr (.int .i64) (.int .u8)]) : rfn Tryz.prog q86_ 6 18446744073709551616 (Ev.get q8c_) 37 q5i_ J x = q98_ (fun n sign d => J 15 [] (q96_ n sign d)) x.1 := by kernel_rfl
theorem qk3_  (n sign d) : jfn Tryz.prog q86_ 6 18446744073709551616 (Ev.get q8c_) 37 q5i_ 15 [] (q96_ n sign d) = q5z_ n sign d := by
  rw [q5_ (by decide)]
  rw [qjt_]
  rfl
theorem ql5_ (x : As [.pr (.int .i64) (.int .u8)]) : evT Tryz.prog q86_ 6 18446744073709551616 (Ev.get q8c_) 37 q5i_ x = q76_ x := by
  have e1 : (fun n sign d => (jfn Tryz.prog q86_ 6 18446744073709551616 (Ev.get q8c_) 37 q5i_) 15 [] (q96_ n sign d)) = q5z_ := by funext n sign d; exact qk3_ n sign d
  rw [rfn_eq, qjk_, e1]
  rfl
theorem qjx_ : CtOk Tryz.prog I0 37 ⟨q5i_, q76_⟩ := q18_ (q0_ strings_Repeat_ok (q0_ qc8_ (q0_ qhn_ (q0_ strconv_FormatInt_ok qa_)))) ql5_
@[reducible] def qk_ : Sh := ⟨[.d (.pr .str (.sl QAT2))], [], [.pr .str (.sl QAT2)], [.d (.str), .d (.bool)], [], 0, [.str, .bool]⟩
def qt_ : Env := (cts [(21, (⟨qh_, q44_⟩ : Ct)), (25, (⟨strings_Join_s, strings_Join⟩ : Ct)), (37, (⟨q5i_, q76_⟩ : Ct))])
def qv_ : List (Nat × Hint) := [(63, ⟨[], [4]⟩), (506, ⟨[], [4, 5, 21, 22, 23]⟩), (64819, ⟨[], [4, 5, 21, 22, 23]⟩), (518554, ⟨[], [4, 5, 21, 22, 23, 33, 34, 35]⟩), (66374963, ⟨[], [4, 5, 10, 21, 22, 23, 33, 34, 35]⟩)]
def q10_ (t21 : List QAT0) (t22 t23 : Int) (o : List Int) : St := { fr := [(4, .pb 0 0), (5, .fn (.func 34) [] [.pb 0 0]), (21, .d (.sl QAT2) t21), (22, .d (.int .i64) t22), (23, .d (.int .i64) t23)], nt := 63, up := [], own := [(0, .box 87 [.pb 0 0, .row 1]), (1, .row (.int .u8) 5 o)], nx := 2, log := [], ln := 0 }
def q38_ (t21 : List QAT0) (t22 t23 : Int) (t33 : List QAT3) (t34 t35 : Int) (o : List Int) : St := { fr := [(4, .pb 0 0), (5, .fn (.func 34) [] [.pb 0 0]), (21, .d (.sl QAT2) t21), (22, .d (.int .i64) t22), (23, .d (.int .i64) t23), (33, .d (.sl QAT5) t33), (34, .d (.int .i64) t34), (35, .d (.int .i64) t35)], nt := 63, up := [], own := [(0, .box 87 [.pb 0 0, .row 1]), (1, .row (.int .u8) 5 o)], nx := 2, log := [], ln := 0 }
def q80_ (o : List Int) : St := { fr := [(4, .pb 0 0)], nt := 63, up := [], own := [(0, .box 87 [.pb 0 0, .row 1]), (1, .row (.int .u8) 5 o)], nx := 2, log := [], ln := 0 }
def q7t_ (t21 : List QAT0) (t22 t23 : Int) (t33 : List QAT3) (t34 t35 : Int) (o : List Int) (words : List (List UInt8)) : St := { fr := [(4, .pb 0 0), (5, .fn (.func 34) [] [.pb 0 0]), (10, .row 2), (21, .d (.sl QAT2) t21), (22, .d (.int .i64) t22), (23, .d (.int .i64) t23), (33, .d (.sl QAT5) t33), (34, .d (.int .i64) t34), (35, .d (.int .i64) t35)], nt := 63, up := [], own := [(0, .box 87 [.pb 0 0, .row 1]), (1, .row (.int .u8) 5 o), (2, .row .str 9 words)], nx := 3, log := [], ln := 0 }
def q7y_ (t21 : List QAT0) (t22 t23 : Int) (o : List Int) : St := { fr := [(4, .pb 0 0), (5, .fn (.func 34) [] [.pb 0 0]), (21, .d (.sl QAT2) t21), (22, .d (.int .i64) t22), (23, .d (.int .i64) t23)], nt := 63, up := [], own := [(0, .box 87 [.pb 0 0, .row 1]), (1, .row (.int .u8) 5 o)], nx := 2, log := [], ln := 0 }
def q4u_ (j2 : List QAT0 -> Int -> Int -> List QAT3 -> Int -> Int -> List Int -> Option (As [.str, .bool])) (j3 : List Int -> Option (As [.str, .bool])) (self1 : List QAT0 -> Int -> Int -> List Int -> Option (As [.str, .bool])) (t21 : List QAT0) (t22 t23 : Int) (o : List Int) : Option (As [.str, .bool]) :=
  if lt t23 t22 = true then Option.bind (at? t21 t23) fun (y : List UInt8 × Int × List QAT3) => Option.bind (strings_Join ([[115, 108, 97, 118, 101], y.1], [32], ())) fun (y_1 : List UInt8 × Unit) => need (small (List.length o + List.length y_1.1)) (need (small (List.length (o ++ List.map (fun (b : UInt8) => Int.ofNat (UInt8.toNat b)) y_1.1) + 1)) (j2 t21 t22 t23 y.2.2 (Int.ofNat (List.length y.2.2)) 0 (o ++ List.map (fun (b : UInt8) => Int.ofNat (UInt8.toNat b)) y_1.1 ++ [10]))) else j3 o
def q4x_ (j4 : List QAT0 -> Int -> Int -> List QAT3 -> Int -> Int -> List Int -> List (List UInt8) -> Option (As [.str, .bool])) (j5 self1 : List QAT0 -> Int -> Int -> List Int -> Option (As [.str, .bool])) (self2 : List QAT0 -> Int -> Int -> List QAT3 -> Int -> Int -> List Int -> Option (As [.str, .bool])) (t21 : List QAT0) (t22 t23 : Int) (t33 : List QAT3) (t34 t35 : Int) (o : List Int) : Option (As [.str, .bool]) :=
  if lt t35 t34 = true then Option.bind (at? t33 t35) fun (y : List UInt8 × (Int × Int) × List UInt8 × Int) => need (small (2 + List.length y.1)) (Option.bind (q76_ (y.2.1, ())) fun (y_1 : List UInt8 × Unit) => if nes y.2.2.1 [] = true then need (small (Nat.succ (Nat.succ (Nat.succ 0)) + Nat.succ 0)) (j4 t21 t22 t23 t33 t34 t35 o [32 :: 32 :: y.1, [61], y_1.1, y.2.2.1]) else j4 t21 t22 t23 t33 t34 t35 o [32 :: 32 :: y.1, [61], y_1.1]) else j5 t21 t22 t23 o
def q9n_ (o : List Int) : Option (As [.str, .bool]) :=
  need (eqi (Int.ofNat (List.length o)) (Int.ofNat (List.length o))) (need (small (List.length o)) (need (Ev.u8s o) (some (Sx.toS o, true, ()))))
def q9v_ (self1 : List QAT0 -> Int -> Int -> List Int -> Option (As [.str, .bool])) (self2 : List QAT0 -> Int -> Int -> List QAT3 -> Int -> Int -> List Int -> Option (As [.str, .bool])) (t21 : List QAT0) (t22 t23 : Int) (t33 : List QAT3) (t34 t35 : Int) (o : List Int) (words : List (List UInt8)) : Option (As [.str, .bool]) :=
  Option.bind (strings_Join (words, [32], ())) fun (y : List UInt8 × Unit) => need (small (List.length o + List.length y.1)) (need (small (List.length (o ++ List.map (fun (b : UInt8) => Int.ofNat (UInt8.toNat b)) y.1) + 1)) (self2 t21 t22 t23 t33 t34 (add .i64 t35 1) (o ++ List.map (fun (b : UInt8) => Int.ofNat (UInt8.toNat b)) y.1 ++ [10])))
def q9s_ (self1 : List QAT0 -> Int -> Int -> List Int -> Option (As [.str, .bool])) (t21 : List QAT0) (t22 t23 : Int) (o : List Int) : Option (As [.str, .bool]) :=
  Option.bind (strings_Join ([[101, 110, 100]], [32], ())) fun (y : List UInt8 × Unit) => need (small (List.length o + List.length y.1)) (need (small (List.length (o ++ List.map (fun (b : UInt8) => Int.ofNat (UInt8.toNat b)) y.1) + 1)) (self1 t21 t22 (add .i64 t23 1) (o ++ List.map (fun (b : UInt8) => Int.ofNat (UInt8.toNat b)) y.1 ++ [10])))
def q4q_ (j1 : List QAT0 -> Int -> Int -> List Int -> Option (As [.str, .bool])) (r : List UInt8 × List QAT0) : Option (As [.str, .bool]) :=
  Option.bind (q44_ (r, ())) fun (y : Bool × Unit) => if (!y.1) = true then some ([], false, ()) else Option.bind (strings_Join ([[114, 101, 99, 105, 112, 101], r.1], [32], ())) fun (y : List UInt8 × Unit) => need (small (0 + List.length y.1)) (need (small (List.length (List.map (fun (b : UInt8) => Int.ofNat (UInt8.toNat b)) y.1) + 1)) (j1 r.2 (Int.ofNat (List.length r.2)) 0 (List.map (fun (b : UInt8) => Int.ofNat (UInt8.toNat b)) y.1 ++ [10])))
def q4y_ (u1 : List QAT0 -> Int -> Int -> List Int -> Option (As [.str, .bool])) (u2 : List QAT0 -> Int -> Int -> List QAT3 -> Int -> Int -> List Int -> Option (As [.str, .bool])) (t21 : List QAT0) (t22 t23 : Int) (t33 : List QAT3) (t34 t35 : Int) (o : List Int) (words : List (List UInt8)) : Option (As [.str, .bool]) := q9v_ u1 u2 t21 t22 t23 t33 t34 t35 o words
def q61_ (u1 : List QAT0 -> Int -> Int -> List Int -> Option (As [.str, .bool])) (t21 : List QAT0) (t22 t23 : Int) (o : List Int) : Option (As [.str, .bool]) := q9s_ u1 t21 t22 t23 o
def q43_ (u1 : List QAT0 -> Int -> Int -> List Int -> Option (As [.str, .bool])) (t21 : List QAT0) (t22 t23 : Int) (t33 : List QAT3) (t34 t35 : Int) (o : List Int) : Option (As [.str, .bool]) :=
  loopF (fun (self : (List QAT0) × (Int) × (Int) × (List QAT3) × (Int) × (Int) × (List Int) -> Option (As [.str, .bool])) (s : (List QAT0) × (Int) × (Int) × (List QAT3) × (Int) × (Int) × (List Int)) => q4x_ (q4y_ u1 (fun t21 t22 t23 t33 t34 t35 o => self (t21, t22, t23, t33, t34, t35, o))) (q61_ u1) u1 (fun t21 t22 t23 t33 t34 t35 o => self (t21, t22, t23, t33, t34, t35, o)) s.1 s.2.1 s.2.2.1 s.2.2.2.1 s.2.2.2.2.1 s.2.2.2.2.2.1 s.2.2.2.2.2.2) 18446744073709551616 (t21, t22, t23, t33, t34, t35, o)
def q65_ (o : List Int) : Option (As [.str, .bool]) := q9n_ o
def q45_ (t21 : List QAT0) (t22 t23 : Int) (o : List Int) : Option (As [.str, .bool]) :=
  loopF (fun (self : (List QAT0) × (Int) × (Int) × (List Int) -> Option (As [.str, .bool])) (s : (List QAT0) × (Int) × (Int) × (List Int)) => q4u_ (q43_ (fun t21 t22 t23 o => self (t21, t22, t23, o))) (q65_) (fun t21 t22 t23 o => self (t21, t22, t23, o)) s.1 s.2.1 s.2.2.1 s.2.2.2) 18446744073709551616 (t21, t22, t23, o)
def q3e_ (x : As [.pr .str (.sl QAT2)]) : Option (As [.str, .bool]) := q4q_ q45_ x.1
theorem qfb_  (J w1 w2 t21 t22 t23 t33 t34 t35 o words) : pfn Tryz.prog qt_ 6 18446744073709551616 (Ev.get qv_) 12 qk_ J 66374963 [w1, w2] (q7t_ t21 t22 t23 t33 t34 t35 o words) = q9v_ (fun t21 t22 t23 o => w1 (q10_ t21 t22 t23 o)) (fun t21 t22 t23 t33 t34 t35 o => w2 (q38_ t21 t22 t23 t33 t34 t35 o)) t21 t22 t23 t33 t34 t35 o words := by kernel_rfl
theorem qfl_  (J w1 t21 t22 t23 o) : pfn Tryz.prog qt_ 6 18446744073709551616 (Ev.get qv_) 12 qk_ J 64819 [w1] (q7y_ t21 t22 t23 o) = q9s_ (fun t21 t22 t23 o => w1 (q10_ t21 t22 t23 o)) t21 t22 t23 o := by kernel_rfl
theorem qes_  (J w1 w2 t21 t22 t23 t33 t34 t35 o) : pfn Tryz.prog qt_ 6 18446744073709551616 (Ev.get qv_) 12 qk_ J 518554 [w1, w2] (q38_ t21 t22 t23 t33 t34 t35 o) = q4x_ (fun t21 t22 t23 t33 t34 t35 o words => J 66374963 [w1, w2] (q7t_ t21 t22 t23 t33 t34 t35 o words)) (fun t21 t22 t23 o => J 64819 [w1] (q7y_ t21 t22 t23 o)) (fun t21 t22 t23 o => w1 (q10_ t21 t22 t23 o)) (fun t21 t22 t23 t33 t34 t35 o => w2 (q38_ t21 t22 t23 t33 t34 t35 o)) t21 t22 t23 t33 t34 t35 o := by kernel_rfl
theorem qfh_  (J o) : pfn Tryz.prog qt_ 6 18446744073709551616 (Ev.get qv_) 12 qk_ J 63 [] (q80_ o) = q9n_ o := by kernel_rfl
theorem qf6_  (J w1 t21 t22 t23 o) : pfn Tryz.prog qt_ 6 18446744073709551616 (Ev.get qv_) 12 qk_ J 506 [w1] (q10_ t21 t22 t23 o) = q4u_ (fun t21 t22 t23 t33 t34 t35 o => J 518554 [w1] (q38_ t21 t22 t23 t33 t34 t35 o)) (fun o => J 63 [] (q80_ o)) (fun t21 t22 t23 o => w1 (q10_ t21 t22 t23 o)) t21 t22 t23 o := by kernel_rfl
theorem qeq_ (J : Orc (As [.str, .bool])) (x : As [.pr .str (.sl QAT2)]) : rfn Tryz.prog qt_ 6 18446744073709551616 (Ev.get qv_) 12 qk_ J x = q4q_ (fun t21 t22 t23 o => J 506 [] (q10_ t21 t22 t23 o)) x.1 := by kernel_rfl
theorem qfn_  (w1 w2 t21 t22 t23 t33 t34 t35 o words) : jfn Tryz.prog qt_ 6 18446744073709551616 (Ev.get qv_) 12 qk_ 66374963 [w1, w2] (q7t_ t21 t22 t23 t33 t34 t35 o words) = q4y_ (fun t21 t22 t23 o => w1 (q10_ t21 t22 t23 o)) (fun t21 t22 t23 t33 t34 t35 o => w2 (q38_ t21 t22 t23 t33 t34 t35 o)) t21 t22 t23 t33 t34 t35 o words := by
  rw [q5_ (by decide)]
  rw [qfb_]
  rfl
theorem qf7_  (w1 t21 t22 t23 o) : jfn Tryz.prog qt_ 6 18446744073709551616 (Ev.get qv_) 12 qk_ 64819 [w1] (q7y_ t21 t22 t23 o) = q61_ (fun t21 t22 t23 o => w1 (q10_ t21 t22 t23 o)) t21 t22 t23 o := by
  rw [q5_ (by decide)]
  rw [qfl_]
  rfl
theorem qfa_  (w1 t21 t22 t23 t33 t34 t35 o) : jfn Tryz.prog qt_ 6 18446744073709551616 (Ev.get qv_) 12 qk_ 518554 [w1] (q38_ t21 t22 t23 t33 t34 t35 o) = q43_ (fun t21 t22 t23 o => w1 (q10_ t21 t22 t23 o)) t21 t22 t23 t33 t34 t35 o := by
  rw [q5_ (by decide)]
  rw [q16_ (by kernel_rfl)]
  refine qp_ (σ := (List QAT0) × (Int) × (Int) × (List QAT3) × (Int) × (Int) × (List Int)) (mk := fun s => q38_ s.1 s.2.1 s.2.2.1 s.2.2.2.1 s.2.2.2.2.1 s.2.2.2.2.2.1 s.2.2.2.2.2.2) (fun w2 s => ?_) 18446744073709551616 (t21, t22, t23, t33, t34, t35, o)
  have e4 : (fun t21 t22 t23 t33 t34 t35 o words => (jfn Tryz.prog qt_ 6 18446744073709551616 (Ev.get qv_) 12 qk_) 66374963 [w1, w2] (q7t_ t21 t22 t23 t33 t34 t35 o words)) = q4y_ (fun t21 t22 t23 o => w1 (q10_ t21 t22 t23 o)) (fun t21 t22 t23 t33 t34 t35 o => w2 (q38_ t21 t22 t23 t33 t34 t35 o)) := by funext t21 t22 t23 t33 t34 t35 o words; exact qfn_ w1 w2 t21 t22 t23 t33 t34 t35 o words
  have e5 : (fun t21 t22 t23 o => (jfn Tryz.prog qt_ 6 18446744073709551616 (Ev.get qv_) 12 qk_) 64819 [w1] (q7y_ t21 t22 t23 o)) = q61_ (fun t21 t22 t23 o => w1 (q10_ t21 t22 t23 o)) := by funext t21 t22 t23 o; exact qf7_ w1 t21 t22 t23 o
  refine (qes_ _ w1 w2 s.1 s.2.1 s.2.2.1 s.2.2.2.1 s.2.2.2.2.1 s.2.2.2.2.2.1 s.2.2.2.2.2.2).trans ?_
  rw [e4, e5]
theorem qfq_  (o) : jfn Tryz.prog qt_ 6 18446744073709551616 (Ev.get qv_) 12 qk_ 63 [] (q80_ o) = q65_ o := by
  rw [q5_ (by decide)]
  rw [qfh_]
  rfl
theorem qfo_  (t21 t22 t23 o) : jfn Tryz.prog qt_ 6 18446744073709551616 (Ev.get qv_) 12 qk_ 506 [] (q10_ t21 t22 t23 o) = q45_ t21 t22 t23 o := by
  rw [q5_ (by decide)]
  rw [q16_ (by kernel_rfl)]
  refine qp_ (σ := (List QAT0) × (Int) × (Int) × (List Int)) (mk := fun s => q10_ s.1 s.2.1 s.2.2.1 s.2.2.2) (fun w1 s => ?_) 18446744073709551616 (t21, t22, t23, o)
  have e2 : (fun t21 t22 t23 t33 t34 t35 o => (jfn Tryz.prog qt_ 6 18446744073709551616 (Ev.get qv_) 12 qk_) 518554 [w1] (q38_ t21 t22 t23 t33 t34 t35 o)) = q43_ (fun t21 t22 t23 o => w1 (q10_ t21 t22 t23 o)) := by funext t21 t22 t23 t33 t34 t35 o; exact qfa_ w1 t21 t22 t23 t33 t34 t35 o
  have e3 : (fun o => (jfn Tryz.prog qt_ 6 18446744073709551616 (Ev.get qv_) 12 qk_) 63 [] (q80_ o)) = q65_ := funext fun o => qfq_ o
  refine (qf6_ _ w1 s.1 s.2.1 s.2.2.1 s.2.2.2).trans ?_
  rw [e2, e3]
theorem qgx_ (x : As [.pr .str (.sl QAT2)]) : evT Tryz.prog qt_ 6 18446744073709551616 (Ev.get qv_) 12 qk_ x = q3e_ x := by
  have e1 : (fun t21 t22 t23 o => (jfn Tryz.prog qt_ 6 18446744073709551616 (Ev.get qv_) 12 qk_) 506 [] (q10_ t21 t22 t23 o)) = q45_ := by funext t21 t22 t23 o; exact qfo_ t21 t22 t23 o
  rw [rfn_eq, qeq_, e1]
  rfl
theorem qbt_ : CtOk Tryz.prog I0 12 ⟨qk_, q3e_⟩ := q18_ (q0_ qbq_ (q0_ strings_Join_ok (q0_ qjx_ qa_))) qgx_
def qcr_ (j2 : List UInt8 -> List UInt8 -> Int × Int -> Option (As [.str])) (n : Int) (sign : List UInt8) (d : Int × Int) : Option (As [.str]) :=
  Option.bind (qdh_ (n, ())) fun (y : List UInt8 × Unit) => if eqi d.2 0 = true then need (small (List.length sign + List.length y.1)) (some (sign ++ y.1, ())) else j2 sign y.1 d
def q7m_ (j3 self2 : List UInt8 -> List UInt8 -> Int × Int -> Option (As [.str])) (sign s : List UInt8) (d : Int × Int) : Option (As [.str]) :=
  if le (Int.ofNat (List.length s)) (cvt .i64 d.2) = true then need (small (1 + List.length s)) (self2 sign (48 :: s) d) else j3 sign s d
def qcy_ (sign s : List UInt8) (d : Int × Int) : Option (As [.str]) :=
  Option.bind (cut s 0 (Sx.sub .i64 (Int.ofNat (List.length s)) (cvt .i64 d.2))) fun (y : List UInt8) => need (small (List.length sign + List.length y)) (need (small (List.length (sign ++ y) + 1)) (Option.bind (cut s (Sx.sub .i64 (Int.ofNat (List.length s)) (cvt .i64 d.2)) (Int.ofNat (List.length s))) fun (y_1 : List UInt8) => need (small (List.length (sign ++ y ++ [46]) + List.length y_1)) (some (sign ++ y ++ [46] ++ y_1, ()))))
def q94_ (j1 : Int -> List UInt8 -> Int × Int -> Option (As [.str])) (d : Int × Int) : Option (As [.str]) :=
  if lt d.1 0 = true then j1 (Sx.neg .i64 d.1) [45] d else j1 d.1 [] d
def q5y_ (sign s : List UInt8) (d : Int × Int) : Option (As [.str]) := qcy_ sign s d
def qcx_ (sign s : List UInt8) (d : Int × Int) : Option (As [.str]) :=
  loopF (fun (self : (List UInt8) × (List UInt8) × (Int × Int) -> Option (As [.str])) (s : (List UInt8) × (List UInt8) × (Int × Int)) => q7m_ (q5y_) (fun sign s d => self (sign, s, d)) s.1 s.2.1 s.2.2) 18446744073709551616 (sign, s, d)
def q7h_ (n : Int) (sign : List UInt8) (d : Int × Int) : Option (As [.str]) := qcr_ (qcx_) n sign d
def qcb_ (x : As [.pr (.int .i64) (.int .u8)]) : Option (As [.str]) := q94_ q7h_ x.1
def qg9_ (j2 : List UInt8 -> Int -> Int -> List UInt8 × List QAT0 -> List UInt8 × Int × List QAT3 -> Option (As [.str])) (self1 : List UInt8 -> Int -> List UInt8 × List QAT0 -> Option (As [.str])) (s : List UInt8) (i : Int) (r : List UInt8 × List QAT0) : Option (As [.str]) :=
  if lt i (Int.ofNat (List.length r.2)) = true then Option.bind (at? r.2 i) fun (y : List UInt8 × Int × List QAT3) => need (small (List.length s + 6)) (need (small (List.length (s ++ [115, 108, 97, 118, 101, 32]) + List.length y.1)) (need (small (List.length (s ++ [115, 108, 97, 118, 101, 32] ++ y.1) + 1)) (j2 (s ++ [115, 108, 97, 118, 101, 32] ++ y.1 ++ [10]) i 0 r y))) else some (s, ())
def qg8_ (j3 : List UInt8 -> Int -> Int -> List UInt8 × List QAT0 -> List UInt8 × Int × List QAT3 -> Option (As [.str])) (j4 self1 : List UInt8 -> Int -> List UInt8 × List QAT0 -> Option (As [.str])) (self2 : List UInt8 -> Int -> Int -> List UInt8 × List QAT0 -> List UInt8 × Int × List QAT3 -> Option (As [.str])) (s : List UInt8) (i k : Int) (r : List UInt8 × List QAT0) (p : List UInt8 × Int × List QAT3) : Option (As [.str]) :=
  if lt k (Int.ofNat (List.length p.2.2)) = true then Option.bind (at? p.2.2 k) fun (y : List UInt8 × (Int × Int) × List UInt8 × Int) => need (small (List.length s + 2)) (need (small (List.length (s ++ [32, 32]) + List.length y.1)) (need (small (List.length (s ++ [32, 32] ++ y.1) + 3)) (Option.bind (qcb_ (y.2.1, ())) fun (y_1 : List UInt8 × Unit) => need (small (List.length (s ++ [32, 32] ++ y.1 ++ [32, 61, 32]) + List.length y_1.1)) (if nes y.2.2.1 [] = true then need (small (List.length (s ++ [32, 32] ++ y.1 ++ [32, 61, 32] ++ y_1.1) + 1)) (need (small (List.length (s ++ [32, 32] ++ y.1 ++ [32, 61, 32] ++ y_1.1 ++ [32]) + List.length y.2.2.1)) (j3 (s ++ [32, 32] ++ y.1 ++ [32, 61, 32] ++ y_1.1 ++ [32] ++ y.2.2.1) i k r p)) else j3 (s ++ [32, 32] ++ y.1 ++ [32, 61, 32] ++ y_1.1) i k r p)))) else j4 s i r
def qhd_ (self1 : List UInt8 -> Int -> List UInt8 × List QAT0 -> Option (As [.str])) (self2 : List UInt8 -> Int -> Int -> List UInt8 × List QAT0 -> List UInt8 × Int × List QAT3 -> Option (As [.str])) (s : List UInt8) (i k : Int) (r : List UInt8 × List QAT0) (p : List UInt8 × Int × List QAT3) : Option (As [.str]) :=
  need (small (List.length s + 1)) (self2 (s ++ [10]) i (add .i64 k 1) r p)
def qi7_ (j5 self1 : List UInt8 -> Int -> List UInt8 × List QAT0 -> Option (As [.str])) (s : List UInt8) (i : Int) (r : List UInt8 × List QAT0) : Option (As [.str]) :=
  need (small (List.length s + 4)) (j5 (s ++ [101, 110, 100, 10]) i r)
def qh9_ (self1 : List UInt8 -> Int -> List UInt8 × List QAT0 -> Option (As [.str])) (s : List UInt8) (i : Int) (r : List UInt8 × List QAT0) : Option (As [.str]) :=
  self1 s (add .i64 i 1) r
def qha_ (j1 : List UInt8 -> Int -> List UInt8 × List QAT0 -> Option (As [.str])) (r : List UInt8 × List QAT0) : Option (As [.str]) :=
  need (small (7 + List.length r.1)) (need (small (Nat.succ (Nat.succ (Nat.succ (Nat.succ (Nat.succ (Nat.succ (Nat.succ (List.length r.1))))))) + 1)) (j1 (114 :: 101 :: 99 :: 105 :: 112 :: 101 :: 32 :: (r.1 ++ [10])) 0 r))
def qh4_ (u1 : List UInt8 -> Int -> List UInt8 × List QAT0 -> Option (As [.str])) (u2 : List UInt8 -> Int -> Int -> List UInt8 × List QAT0 -> List UInt8 × Int × List QAT3 -> Option (As [.str])) (s : List UInt8) (i k : Int) (r : List UInt8 × List QAT0) (p : List UInt8 × Int × List QAT3) : Option (As [.str]) := qhd_ u1 u2 s i k r p
def qfv_ (u1 : List UInt8 -> Int -> List UInt8 × List QAT0 -> Option (As [.str])) (s : List UInt8) (i : Int) (r : List UInt8 × List QAT0) : Option (As [.str]) := qh9_ u1 s i r
def qih_ (u1 : List UInt8 -> Int -> List UInt8 × List QAT0 -> Option (As [.str])) (s : List UInt8) (i : Int) (r : List UInt8 × List QAT0) : Option (As [.str]) := qi7_ (qfv_ u1) u1 s i r
def qgy_ (u1 : List UInt8 -> Int -> List UInt8 × List QAT0 -> Option (As [.str])) (s : List UInt8) (i k : Int) (r : List UInt8 × List QAT0) (p : List UInt8 × Int × List QAT3) : Option (As [.str]) :=
  loopF (fun (self : (List UInt8) × (Int) × (Int) × (List UInt8 × List QAT0) × QAT0 -> Option (As [.str])) (s : (List UInt8) × (Int) × (Int) × (List UInt8 × List QAT0) × QAT0) => qg8_ (qh4_ u1 (fun s i k r p => self (s, i, k, r, p))) (qih_ u1) u1 (fun s i k r p => self (s, i, k, r, p)) s.1 s.2.1 s.2.2.1 s.2.2.2.1 s.2.2.2.2) 18446744073709551616 (s, i, k, r, p)
def qg4_ (s : List UInt8) (i : Int) (r : List UInt8 × List QAT0) : Option (As [.str]) :=
  loopF (fun (self : (List UInt8) × (Int) × (List UInt8 × List QAT0) -> Option (As [.str])) (s : (List UInt8) × (Int) × (List UInt8 × List QAT0)) => qg9_ (qgy_ (fun s i r => self (s, i, r))) (fun s i r => self (s, i, r)) s.1 s.2.1 s.2.2) 18446744073709551616 (s, i, r)
def qle_ (x : As [.pr .str (.sl QAT2)]) : Option (As [.str]) := qha_ qg4_ x.1
@[reducible] def q9_ : Sh := ⟨[.d (.pr .str (.sl QAT2)), .d (.pr .str (.sl QAT2))], [], [.pr .str (.sl QAT2), .pr .str (.sl QAT2)], [.d (.bool)], [], 0, [.bool]⟩
def qe_ : Env := (cts [])
def qd_ : List (Nat × Hint) := [(58, ⟨[], [2, 3, 5, 48, 49, 50, 51, 52, 53, 54, 79, 80, 81, 82, 83, 86, 87, 88, 89, 90]⟩), (233, ⟨[], [2, 3, 5, 48, 49, 50, 51, 52, 53, 54, 79, 80, 81, 82, 83, 86, 87, 88, 89, 90]⟩), (932, ⟨[], [2, 3, 5, 6, 7, 48, 49, 50, 51, 52, 53, 54, 79, 80, 81, 82, 83, 86, 87, 88, 89, 90]⟩), (14926, ⟨[], [2, 3, 5, 6, 7, 8, 48, 49, 50, 51, 52, 53, 54, 79, 80, 81, 82, 83, 86, 87, 88, 89, 90]⟩), (238820, ⟨[], [2, 3, 5, 6, 7, 8, 9, 10, 48, 49, 50, 51, 52, 53, 54, 79, 80, 81, 82, 83, 86, 87, 88, 89, 90]⟩), (477641, ⟨[.agd 80 (.pr (.int .i64) (.int .u8)), .agd 82 (.pr (.int .i64) (.int .u8)), .agd 83 .bool, .agd 87 .str, .agd 89 .str, .agd 90 .bool], [2, 3, 5, 6, 7, 8, 91]⟩), (3730, ⟨[.agd 49 (.sl QAT5), .agd 50 (.int .i64), .agd 52 (.sl QAT5), .agd 53 (.int .i64), .agd 54 .bool], [2, 3, 5, 6, 7, 55]⟩), (6, ⟨[], [2, 3, 24, 48, 49, 50, 51, 52, 53, 54, 79, 80, 81, 82, 83, 86, 87, 88, 89, 90]⟩)]
def q92_ (t24 : Bool) (a b : List UInt8 × List QAT0) : St := { fr := [(2, .pb 0 0), (3, .pb 1 0), (24, .d .bool t24)], nt := 92, up := [], own := [(0, .box 26 [.d .str a.1, .d (.sl QAT2) a.2]), (1, .box 26 [.d .str b.1, .d (.sl QAT2) b.2])], nx := 2, log := [], ln := 0 }
def qc_ (i : Int) (a b : List UInt8 × List QAT0) : St := { fr := [(2, .pb 0 0), (3, .pb 1 0), (5, .d (.int .i64) i)], nt := 92, up := [], own := [(0, .box 26 [.d .str a.1, .d (.sl QAT2) a.2]), (1, .box 26 [.d .str b.1, .d (.sl QAT2) b.2])], nx := 2, log := [], ln := 0 }
def q99_ (i : Int) (a b : List UInt8 × List QAT0) (p q : List UInt8 × Int × List QAT3) : St := { fr := [(2, .pb 0 0), (3, .pb 1 0), (5, .d (.int .i64) i), (6, .pb 2 0), (7, .pb 3 0)], nt := 92, up := [], own := [(0, .box 26 [.d .str a.1, .d (.sl QAT2) a.2]), (1, .box 26 [.d .str b.1, .d (.sl QAT2) b.2]), (2, .box 43 [.d .str p.1, .d (.int .i64) p.2.1, .d (.sl QAT5) p.2.2]), (3, .box 43 [.d .str q.1, .d (.int .i64) q.2.1, .d (.sl QAT5) q.2.2])], nx := 4, log := [], ln := 0 }
def q91_ (i : Int) (t55 : Bool) (a b : List UInt8 × List QAT0) (p q : List UInt8 × Int × List QAT3) : St := { fr := [(2, .pb 0 0), (3, .pb 1 0), (5, .d (.int .i64) i), (6, .pb 2 0), (7, .pb 3 0), (55, .d .bool t55)], nt := 92, up := [], own := [(0, .box 26 [.d .str a.1, .d (.sl QAT2) a.2]), (1, .box 26 [.d .str b.1, .d (.sl QAT2) b.2]), (2, .box 43 [.d .str p.1, .d (.int .i64) p.2.1, .d (.sl QAT5) p.2.2]), (3, .box 43 [.d .str q.1, .d (.int .i64) q.2.1, .d (.sl QAT5) q.2.2])], nx := 4, log := [], ln := 0 }
def q2g_ (i k : Int) (a b : List UInt8 × List QAT0) (p q : List UInt8 × Int × List QAT3) : St := { fr := [(2, .pb 0 0), (3, .pb 1 0), (5, .d (.int .i64) i), (6, .pb 2 0), (7, .pb 3 0), (8, .d (.int .i64) k)], nt := 92, up := [], own := [(0, .box 26 [.d .str a.1, .d (.sl QAT2) a.2]), (1, .box 26 [.d .str b.1, .d (.sl QAT2) b.2]), (2, .box 43 [.d .str p.1, .d (.int .i64) p.2.1, .d (.sl QAT5) p.2.2]), (3, .box 43 [.d .str q.1, .d (.int .i64) q.2.1, .d (.sl QAT5) q.2.2])], nx := 4, log := [], ln := 0 }
def q95_ (i k : Int) (a b : List UInt8 × List QAT0) (p q : List UInt8 × Int × List QAT3) (x y : List UInt8 × (Int × Int) × List UInt8 × Int) : St := { fr := [(2, .pb 0 0), (3, .pb 1 0), (5, .d (.int .i64) i), (6, .pb 2 0), (7, .pb 3 0), (8, .d (.int .i64) k), (9, .pb 4 0), (10, .pb 5 0)], nt := 92, up := [], own := [(0, .box 26 [.d .str a.1, .d (.sl QAT2) a.2]), (1, .box 26 [.d .str b.1, .d (.sl QAT2) b.2]), (2, .box 43 [.d .str p.1, .d (.int .i64) p.2.1, .d (.sl QAT5) p.2.2]), (3, .box 43 [.d .str q.1, .d (.int .i64) q.2.1, .d (.sl QAT5) q.2.2]), (4, .box 47 [.d .str x.1, .d (.int .i64) x.2.1.1, .d (.int .u8) x.2.1.2, .d .str x.2.2.1, .d (.int .i64) x.2.2.2]), (5, .box 47 [.d .str y.1, .d (.int .i64) y.2.1.1, .d (.int .u8) y.2.1.2, .d .str y.2.2.1, .d (.int .i64) y.2.2.2])], nx := 6, log := [], ln := 0 }
def q97_ (i : Int) (a b : List UInt8 × List QAT0) : St := { fr := [(2, .pb 0 0), (3, .pb 1 0), (5, .d (.int .i64) i)], nt := 92, up := [], own := [(0, .box 26 [.d .str a.1, .d (.sl QAT2) a.2]), (1, .box 26 [.d .str b.1, .d (.sl QAT2) b.2])], nx := 2, log := [], ln := 0 }
def q93_ (i k : Int) (t91 : Bool) (a b : List UInt8 × List QAT0) (p q : List UInt8 × Int × List QAT3) : St := { fr := [(2, .pb 0 0), (3, .pb 1 0), (5, .d (.int .i64) i), (6, .pb 2 0), (7, .pb 3 0), (8, .d (.int .i64) k), (91, .d .bool t91)], nt := 92, up := [], own := [(0, .box 26 [.d .str a.1, .d (.sl QAT2) a.2]), (1, .box 26 [.d .str b.1, .d (.sl QAT2) b.2]), (2, .box 43 [.d .str p.1, .d (.int .i64) p.2.1, .d (.sl QAT5) p.2.2]), (3, .box 43 [.d .str q.1, .d (.int .i64) q.2.1, .d (.sl QAT5) q.2.2])], nx := 4, log := [], ln := 0 }
def qcj_ (j2 : Int -> List UInt8 × List QAT0 -> List UInt8 × List QAT0 -> Option (As [.bool])) (t24 : Bool) (a b : List UInt8 × List QAT0) : Option (As [.bool]) :=
  if t24 = true then some (false, ()) else j2 0 a b
def qd0_ (j3 : Int -> List UInt8 × List QAT0 -> List UInt8 × List QAT0 -> List UInt8 × Int × List QAT3 -> List UInt8 × Int × List QAT3 -> Option (As [.bool])) (self2 : Int -> List UInt8 × List QAT0 -> List UInt8 × List QAT0 -> Option (As [.bool])) (i : Int) (a b : List UInt8 × List QAT0) : Option (As [.bool]) :=
  if lt i (Int.ofNat (List.length a.2)) = true then Option.bind (at? a.2 i) fun (y : List UInt8 × Int × List QAT3) => Option.bind (at? b.2 i) fun (y_1 : List UInt8 × Int × List QAT3) => amb (eqAs q9_.rs) [j3 i a b y y_1, j3 i a b y y_1] else some (true, ())
def qcw_ (j4 : Int -> Bool -> List UInt8 × List QAT0 -> List UInt8 × List QAT0 -> List UInt8 × Int × List QAT3 -> List UInt8 × Int × List QAT3 -> Option (As [.bool])) (self2 : Int -> List UInt8 × List QAT0 -> List UInt8 × List QAT0 -> Option (As [.bool])) (i : Int) (a b : List UInt8 × List QAT0) (p q : List UInt8 × Int × List QAT3) : Option (As [.bool]) :=
  if nes p.1 q.1 = true then j4 i true a b p q else j4 i (nei (Int.ofNat (List.length p.2.2)) (Int.ofNat (List.length q.2.2))) a b p q
def qcl_ (j5 : Int -> Int -> List UInt8 × List QAT0 -> List UInt8 × List QAT0 -> List UInt8 × Int × List QAT3 -> List UInt8 × Int × List QAT3 -> Option (As [.bool])) (self2 : Int -> List UInt8 × List QAT0 -> List UInt8 × List QAT0 -> Option (As [.bool])) (i : Int) (t55 : Bool) (a b : List UInt8 × List QAT0) (p q : List UInt8 × Int × List QAT3) : Option (As [.bool]) :=
  if t55 = true then some (false, ()) else j5 i 0 a b p q
def qcn_ (j6 : Int -> Int -> List UInt8 × List QAT0 -> List UInt8 × List QAT0 -> List UInt8 × Int × List QAT3 -> List UInt8 × Int × List QAT3 -> List UInt8 × (Int × Int) × List UInt8 × Int -> List UInt8 × (Int × Int) × List UInt8 × Int -> Option (As [.bool])) (j7 self2 : Int -> List UInt8 × List QAT0 -> List UInt8 × List QAT0 -> Option (As [.bool])) (self5 : Int -> Int -> List UInt8 × List QAT0 -> List UInt8 × List QAT0 -> List UInt8 × Int × List QAT3 -> List UInt8 × Int × List QAT3 -> Option (As [.bool])) (i k : Int) (a b : List UInt8 × List QAT0) (p q : List UInt8 × Int × List QAT3) : Option (As [.bool]) :=
  if lt k (Int.ofNat (List.length p.2.2)) = true then Option.bind (at? p.2.2 k) fun (y : List UInt8 × (Int × Int) × List UInt8 × Int) => Option.bind (at? q.2.2 k) fun (y_1 : List UInt8 × (Int × Int) × List UInt8 × Int) => amb (eqAs q9_.rs) [j6 i k a b p q y y_1, j6 i k a b p q y y_1] else j7 i a b
def qcm_ (j8 : Int -> Int -> Bool -> List UInt8 × List QAT0 -> List UInt8 × List QAT0 -> List UInt8 × Int × List QAT3 -> List UInt8 × Int × List QAT3 -> Option (As [.bool])) (self2 : Int -> List UInt8 × List QAT0 -> List UInt8 × List QAT0 -> Option (As [.bool])) (self5 : Int -> Int -> List UInt8 × List QAT0 -> List UInt8 × List QAT0 -> List UInt8 × Int × List QAT3 -> List UInt8 × Int × List QAT3 -> Option (As [.bool])) (i k : Int) (a b : List UInt8 × List QAT0) (p q : List UInt8 × Int × List QAT3) (x y : List UInt8 × (Int × Int) × List UInt8 × Int) : Option (As [.bool]) :=
  if nes x.1 y.1 = true then j8 i k true a b p q else if (!(eqi x.2.1.1 y.2.1.1 && (eqi x.2.1.2 y.2.1.2 && true))) = true then j8 i k true a b p q else j8 i k (nes x.2.2.1 y.2.2.1) a b p q
def qct_ (self2 : Int -> List UInt8 × List QAT0 -> List UInt8 × List QAT0 -> Option (As [.bool])) (i : Int) (a b : List UInt8 × List QAT0) : Option (As [.bool]) :=
  self2 (add .i64 i 1) a b
def qco_ (self2 : Int -> List UInt8 × List QAT0 -> List UInt8 × List QAT0 -> Option (As [.bool])) (self5 : Int -> Int -> List UInt8 × List QAT0 -> List UInt8 × List QAT0 -> List UInt8 × Int × List QAT3 -> List UInt8 × Int × List QAT3 -> Option (As [.bool])) (i k : Int) (t91 : Bool) (a b : List UInt8 × List QAT0) (p q : List UInt8 × Int × List QAT3) : Option (As [.bool]) :=
  if t91 = true then some (false, ()) else self5 i (add .i64 k 1) a b p q
def qcu_ (j1 : Bool -> List UInt8 × List QAT0 -> List UInt8 × List QAT0 -> Option (As [.bool])) (a b : List UInt8 × List QAT0) : Option (As [.bool]) :=
  if nes a.1 b.1 = true then j1 true a b else j1 (nei (Int.ofNat (List.length a.2)) (Int.ofNat (List.length b.2))) a b
def qb2_ (u2 : Int -> List UInt8 × List QAT0 -> List UInt8 × List QAT0 -> Option (As [.bool])) (u5 : Int -> Int -> List UInt8 × List QAT0 -> List UInt8 × List QAT0 -> List UInt8 × Int × List QAT3 -> List UInt8 × Int × List QAT3 -> Option (As [.bool])) (i k : Int) (t91 : Bool) (a b : List UInt8 × List QAT0) (p q : List UInt8 × Int × List QAT3) : Option (As [.bool]) := qco_ u2 u5 i k t91 a b p q
def qaz_ (u2 : Int -> List UInt8 × List QAT0 -> List UInt8 × List QAT0 -> Option (As [.bool])) (u5 : Int -> Int -> List UInt8 × List QAT0 -> List UInt8 × List QAT0 -> List UInt8 × Int × List QAT3 -> List UInt8 × Int × List QAT3 -> Option (As [.bool])) (i k : Int) (a b : List UInt8 × List QAT0) (p q : List UInt8 × Int × List QAT3) (x y : List UInt8 × (Int × Int) × List UInt8 × Int) : Option (As [.bool]) := qcm_ (qb2_ u2 u5) u2 u5 i k a b p q x y
def qb4_ (u2 : Int -> List UInt8 × List QAT0 -> List UInt8 × List QAT0 -> Option (As [.bool])) (i : Int) (a b : List UInt8 × List QAT0) : Option (As [.bool]) := qct_ u2 i a b
def qb0_ (u2 : Int -> List UInt8 × List QAT0 -> List UInt8 × List QAT0 -> Option (As [.bool])) (i k : Int) (a b : List UInt8 × List QAT0) (p q : List UInt8 × Int × List QAT3) : Option (As [.bool]) :=
  loopF (fun (self : (Int) × (Int) × (List UInt8 × List QAT0) × (List UInt8 × List QAT0) × QAT0 × QAT0 -> Option (As [.bool])) (s : (Int) × (Int) × (List UInt8 × List QAT0) × (List UInt8 × List QAT0) × QAT0 × QAT0) => qcn_ (qaz_ u2 (fun i k a b p q => self (i, k, a, b, p, q))) (qb4_ u2) u2 (fun i k a b p q => self (i, k, a, b, p, q)) s.1 s.2.1 s.2.2.1 s.2.2.2.1 s.2.2.2.2.1 s.2.2.2.2.2) 18446744073709551616 (i, k, a, b, p, q)
def qay_ (u2 : Int -> List UInt8 × List QAT0 -> List UInt8 × List QAT0 -> Option (As [.bool])) (i : Int) (t55 : Bool) (a b : List UInt8 × List QAT0) (p q : List UInt8 × Int × List QAT3) : Option (As [.bool]) := qcl_ (qb0_ u2) u2 i t55 a b p q
def qb3_ (u2 : Int -> List UInt8 × List QAT0 -> List UInt8 × List QAT0 -> Option (As [.bool])) (i : Int) (a b : List UInt8 × List QAT0) (p q : List UInt8 × Int × List QAT3) : Option (As [.bool]) := qcw_ (qay_ u2) u2 i a b p q
def qb1_ (i : Int) (a b : List UInt8 × List QAT0) : Option (As [.bool]) :=
  loopF (fun (self : (Int) × (List UInt8 × List QAT0) × (List UInt8 × List QAT0) -> Option (As [.bool])) (s : (Int) × (List UInt8 × List QAT0) × (List UInt8 × List QAT0)) => qd0_ (qb3_ (fun i a b => self (i, a, b))) (fun i a b => self (i, a, b)) s.1 s.2.1 s.2.2) 18446744073709551616 (i, a, b)
def qb5_ (t24 : Bool) (a b : List UInt8 × List QAT0) : Option (As [.bool]) := qcj_ (qb1_) t24 a b
def qa0_ (x : As [.pr .str (.sl QAT2), .pr .str (.sl QAT2)]) : Option (As [.bool]) := qcu_ qb5_ x.1 x.2.1
theorem qk7_  (J w2 w5 i k t91 a b p q) : pfn Tryz.prog qe_ 6 18446744073709551616 (Ev.get qd_) 20 q9_ J 477641 [w2, w5] (q93_ i k t91 a b p q) = qco_ (fun i a b => w2 (qc_ i a b)) (fun i k a b p q => w5 (q2g_ i k a b p q)) i k t91 a b p q := by kernel_rfl
theorem qiu_  (J w2 w5 i k a b p q x y) : pfn Tryz.prog qe_ 6 18446744073709551616 (Ev.get qd_) 20 q9_ J 238820 [w2, w5] (q95_ i k a b p q x y) = qcm_ (fun i k t91 a b p q => J 477641 [w2, w5] (q93_ i k t91 a b p q)) (fun i a b => w2 (qc_ i a b)) (fun i k a b p q => w5 (q2g_ i k a b p q)) i k a b p q x y := by kernel_rfl
theorem qiw_  (J w2 i a b) : pfn Tryz.prog qe_ 6 18446744073709551616 (Ev.get qd_) 20 q9_ J 233 [w2] (q97_ i a b) = qct_ (fun i a b => w2 (qc_ i a b)) i a b := by kernel_rfl
theorem qk4_  (J w2 w5 i k a b p q) : pfn Tryz.prog qe_ 6 18446744073709551616 (Ev.get qd_) 20 q9_ J 14926 [w2, w5] (q2g_ i k a b p q) = qcn_ (fun i k a b p q x y => J 238820 [w2, w5] (q95_ i k a b p q x y)) (fun i a b => J 233 [w2] (q97_ i a b)) (fun i a b => w2 (qc_ i a b)) (fun i k a b p q => w5 (q2g_ i k a b p q)) i k a b p q := by kernel_rfl
theorem qjb_  (J w2 i t55 a b p q) : pfn Tryz.prog qe_ 6 18446744073709551616 (Ev.get qd_) 20 q9_ J 3730 [w2] (q91_ i t55 a b p q) = qcl_ (fun i k a b p q => J 14926 [w2] (q2g_ i k a b p q)) (fun i a b => w2 (qc_ i a b)) i t55 a b p q := by kernel_rfl
theorem qjr_  (J w2 i a b p q) : pfn Tryz.prog qe_ 6 18446744073709551616 (Ev.get qd_) 20 q9_ J 932 [w2] (q99_ i a b p q) = qcw_ (fun i t55 a b p q => J 3730 [w2] (q91_ i t55 a b p q)) (fun i a b => w2 (qc_ i a b)) i a b p q := by kernel_rfl
theorem qjp_  (J w2 i a b) : pfn Tryz.prog qe_ 6 18446744073709551616 (Ev.get qd_) 20 q9_ J 58 [w2] (qc_ i a b) = qd0_ (fun i a b p q => J 932 [w2] (q99_ i a b p q)) (fun i a b => w2 (qc_ i a b)) i a b := by kernel_rfl
theorem qjd_  (J t24 a b) : pfn Tryz.prog qe_ 6 18446744073709551616 (Ev.get qd_) 20 q9_ J 6 [] (q92_ t24 a b) = qcj_ (fun i a b => J 58 [] (qc_ i a b)) t24 a b := by kernel_rfl
theorem qjs_ (J : Orc (As [.bool])) (x : As [.pr .str (.sl QAT2), .pr .str (.sl QAT2)]) : rfn Tryz.prog qe_ 6 18446744073709551616 (Ev.get qd_) 20 q9_ J x = qcu_ (fun t24 a b => J 6 [] (q92_ t24 a b)) x.1 x.2.1 := by kernel_rfl
theorem qjy_  (w2 w5 i k t91 a b p q) : jfn Tryz.prog qe_ 6 18446744073709551616 (Ev.get qd_) 20 q9_ 477641 [w2, w5] (q93_ i k t91 a b p q) = qb2_ (fun i a b => w2 (qc_ i a b)) (fun i k a b p q => w5 (q2g_ i k a b p q)) i k t91 a b p q := by
  rw [q5_ (by decide)]
  rw [qk7_]
  rfl
theorem qj2_  (w2 w5 i k a b p q x y) : jfn Tryz.prog qe_ 6 18446744073709551616 (Ev.get qd_) 20 q9_ 238820 [w2, w5] (q95_ i k a b p q x y) = qaz_ (fun i a b => w2 (qc_ i a b)) (fun i k a b p q => w5 (q2g_ i k a b p q)) i k a b p q x y := by
  rw [q5_ (by decide)]
  have e8 : (fun i k t91 a b p q => (jfn Tryz.prog qe_ 6 18446744073709551616 (Ev.get qd_) 20 q9_) 477641 [w2, w5] (q93_ i k t91 a b p q)) = qb2_ (fun i a b => w2 (qc_ i a b)) (fun i k a b p q => w5 (q2g_ i k a b p q)) := by funext i k t91 a b p q; exact qjy_ w2 w5 i k t91 a b p q
  rw [qiu_, e8]
  rfl
theorem qjl_  (w2 i a b) : jfn Tryz.prog qe_ 6 18446744073709551616 (Ev.get qd_) 20 q9_ 233 [w2] (q97_ i a b) = qb4_ (fun i a b => w2 (qc_ i a b)) i a b := by
  rw [q5_ (by decide)]
  rw [qiw_]
  rfl
theorem qje_  (w2 i k a b p q) : jfn Tryz.prog qe_ 6 18446744073709551616 (Ev.get qd_) 20 q9_ 14926 [w2] (q2g_ i k a b p q) = qb0_ (fun i a b => w2 (qc_ i a b)) i k a b p q := by
  rw [q5_ (by decide)]
  rw [q16_ (by kernel_rfl)]
  refine qp_ (σ := (Int) × (Int) × (List UInt8 × List QAT0) × (List UInt8 × List QAT0) × QAT0 × QAT0) (mk := fun s => q2g_ s.1 s.2.1 s.2.2.1 s.2.2.2.1 s.2.2.2.2.1 s.2.2.2.2.2) (fun w5 s => ?_) 18446744073709551616 (i, k, a, b, p, q)
  have e6 : (fun i k a b p q x y => (jfn Tryz.prog qe_ 6 18446744073709551616 (Ev.get qd_) 20 q9_) 238820 [w2, w5] (q95_ i k a b p q x y)) = qaz_ (fun i a b => w2 (qc_ i a b)) (fun i k a b p q => w5 (q2g_ i k a b p q)) := by funext i k a b p q x y; exact qj2_ w2 w5 i k a b p q x y
  have e7 : (fun i a b => (jfn Tryz.prog qe_ 6 18446744073709551616 (Ev.get qd_) 20 q9_) 233 [w2] (q97_ i a b)) = qb4_ (fun i a b => w2 (qc_ i a b)) := by funext i a b; exact qjl_ w2 i a b
  refine (qk4_ _ w2 w5 s.1 s.2.1 s.2.2.1 s.2.2.2.1 s.2.2.2.2.1 s.2.2.2.2.2).trans ?_
  rw [e6, e7]
theorem qji_  (w2 i t55 a b p q) : jfn Tryz.prog qe_ 6 18446744073709551616 (Ev.get qd_) 20 q9_ 3730 [w2] (q91_ i t55 a b p q) = qay_ (fun i a b => w2 (qc_ i a b)) i t55 a b p q := by
  rw [q5_ (by decide)]
  have e5 : (fun i k a b p q => (jfn Tryz.prog qe_ 6 18446744073709551616 (Ev.get qd_) 20 q9_) 14926 [w2] (q2g_ i k a b p q)) = qb0_ (fun i a b => w2 (qc_ i a b)) := by funext i k a b p q; exact qje_ w2 i k a b p q
  rw [qjb_, e5]
  rfl
theorem qjo_  (w2 i a b p q) : jfn Tryz.prog qe_ 6 18446744073709551616 (Ev.get qd_) 20 q9_ 932 [w2] (q99_ i a b p q) = qb3_ (fun i a b => w2 (qc_ i a b)) i a b p q := by
  rw [q5_ (by decide)]
  have e4 : (fun i t55 a b p q => (jfn Tryz.prog qe_ 6 18446744073709551616 (Ev.get qd_) 20 q9_) 3730 [w2] (q91_ i t55 a b p q)) = qay_ (fun i a b => w2 (qc_ i a b)) := by funext i t55 a b p q; exact qji_ w2 i t55 a b p q
  rw [qjr_, e4]
  rfl
theorem qj5_  (i a b) : jfn Tryz.prog qe_ 6 18446744073709551616 (Ev.get qd_) 20 q9_ 58 [] (qc_ i a b) = qb1_ i a b := by
  rw [q5_ (by decide)]
  rw [q16_ (by kernel_rfl)]
  refine qp_ (σ := (Int) × (List UInt8 × List QAT0) × (List UInt8 × List QAT0)) (mk := fun s => qc_ s.1 s.2.1 s.2.2) (fun w2 s => ?_) 18446744073709551616 (i, a, b)
  have e3 : (fun i a b p q => (jfn Tryz.prog qe_ 6 18446744073709551616 (Ev.get qd_) 20 q9_) 932 [w2] (q99_ i a b p q)) = qb3_ (fun i a b => w2 (qc_ i a b)) := by funext i a b p q; exact qjo_ w2 i a b p q
  refine (qjp_ _ w2 s.1 s.2.1 s.2.2).trans ?_
  rw [e3]
theorem qjm_  (t24 a b) : jfn Tryz.prog qe_ 6 18446744073709551616 (Ev.get qd_) 20 q9_ 6 [] (q92_ t24 a b) = qb5_ t24 a b := by
  rw [q5_ (by decide)]
  have e2 : (fun i a b => (jfn Tryz.prog qe_ 6 18446744073709551616 (Ev.get qd_) 20 q9_) 58 [] (qc_ i a b)) = qb1_ := by funext i a b; exact qj5_ i a b
  rw [qjd_, e2]
  rfl
theorem ql4_ (x : As [.pr .str (.sl QAT2), .pr .str (.sl QAT2)]) : evT Tryz.prog qe_ 6 18446744073709551616 (Ev.get qd_) 20 q9_ x = qa0_ x := by
  have e1 : (fun t24 a b => (jfn Tryz.prog qe_ 6 18446744073709551616 (Ev.get qd_) 20 q9_) 6 [] (q92_ t24 a b)) = qb5_ := by funext t24 a b; exact qjm_ t24 a b
  rw [rfn_eq, qjs_, e1]
  rfl
theorem qj7_ : CtOk Tryz.prog I0 20 ⟨q9_, qa0_⟩ := q18_ qa_ ql4_
def qju_ (l : List QAT4) (word : List UInt8) : Option (As [.bool]) :=
  if eqi (Int.ofNat (List.length l)) 2 = true then Option.bind (at? l 0) fun (y : Int × List UInt8 × (Int × Int) × Int) => if eqi y.1 1 = true then Option.bind (at? l 0) fun (y : Int × List UInt8 × (Int × Int) × Int) => if eqs y.2.1 word = true then Option.bind (at? l 1) fun (y : Int × List UInt8 × (Int × Int) × Int) => if eqi y.1 1 = true then Option.bind (at? l 1) fun (y : Int × List UInt8 × (Int × Int) × Int) => Option.bind (q9u_ (y.2.1, ())) fun (y : Bool × Unit) => some (y.1, ()) else some (false, ()) else some (false, ()) else some (false, ()) else some (false, ())
def qez_ (x : As [.sl QAT1, .str]) : Option (As [.bool]) := qju_ x.1 x.2.1
def qiq_ (j2 self1 : List QAT4 -> Int -> Int -> List (List QAT4) -> Option (As [.sl (.sl QAT1)])) (l : List QAT4) (from' i : Int) (out : List (List QAT4)) : Option (As [.sl (.sl QAT1)]) :=
  if lt i (Int.ofNat (List.length l)) = true then Option.bind (at? l i) fun (y : Int × List UInt8 × (Int × Int) × Int) => if eqi y.1 4 = true then Option.bind (cut l from' i) fun (y : List QAT4) => need (small (List.length out + Nat.succ 0)) (j2 l (add .i64 i 1) i (out ++ [y])) else j2 l from' i out else some (out, ())
def qj8_ (self1 : List QAT4 -> Int -> Int -> List (List QAT4) -> Option (As [.sl (.sl QAT1)])) (l : List QAT4) (from' i : Int) (out : List (List QAT4)) : Option (As [.sl (.sl QAT1)]) :=
  self1 l from' (add .i64 i 1) out
def qiy_ (j1 : List QAT4 -> Int -> Int -> List (List QAT4) -> Option (As [.sl (.sl QAT1)])) (l : List QAT4) : Option (As [.sl (.sl QAT1)]) :=
  j1 l 0 0 []
def qjj_ (u1 : List QAT4 -> Int -> Int -> List (List QAT4) -> Option (As [.sl (.sl QAT1)])) (l : List QAT4) (from' i : Int) (out : List (List QAT4)) : Option (As [.sl (.sl QAT1)]) := qj8_ u1 l from' i out
def qit_ (l : List QAT4) (from' i : Int) (out : List (List QAT4)) : Option (As [.sl (.sl QAT1)]) :=
  loopF (fun (self : (List QAT4) × (Int) × (Int) × (List (List QAT4)) -> Option (As [.sl (.sl QAT1)])) (s : (List QAT4) × (Int) × (Int) × (List (List QAT4))) => qiq_ (qjj_ (fun l from' i out => self (l, from', i, out))) (fun l from' i out => self (l, from', i, out)) s.1 s.2.1 s.2.2.1 s.2.2.2) 18446744073709551616 (l, from', i, out)
def qm5_ (x : As [.sl QAT1]) : Option (As [.sl (.sl QAT1)]) := qiy_ qit_ x.1
@[reducible] def q1a_ : Sh := ⟨[.d (.pr .str (.sl QAT2))], [], [.pr .str (.sl QAT2)], [.d (.bool)], [], 0, [.bool]⟩
def q1r_ : Env := (cts [])
def q1p_ : List (Nat × Hint) := [(58, ⟨[], [18, 19, 20, 29, 30, 31, 32, 46, 47, 48, 49]⟩), (29902, ⟨[], [18, 19, 20, 29, 30, 31, 32, 35, 36, 37, 46, 47, 48, 49]⟩), (1913753, ⟨[.agd 47 .str, .agd 48 (.int .i64), .agd 49 .bool], [18, 19, 20, 35, 36, 37, 50]⟩), (7474, ⟨[.agd 30 .str, .agd 31 (.int .i64), .agd 32 .bool], [4, 18, 19, 20, 33]⟩), (6, ⟨[], [1, 16, 29, 30, 31, 32, 46, 47, 48, 49]⟩)]
def q9x_ (t16 : Bool) (r : List UInt8 × List QAT0) : St := { fr := [(1, .pb 0 0), (16, .d .bool t16)], nt := 53, up := [], own := [(0, .box 26 [.d .str r.1, .d (.sl QAT2) r.2])], nx := 1, log := [], ln := 0 }
def q22_ (t18 : List QAT0) (t19 t20 : Int) : St := { fr := [(18, .d (.sl QAT2) t18), (19, .d (.int .i64) t19), (20, .d (.int .i64) t20)], nt := 53, up := [], own := [], nx := 0, log := [], ln := 0 }
def q9z_ (t18 : List QAT0) (t19 t20 : Int) (t33 : Bool) (p : List UInt8 × Int × List QAT3) : St := { fr := [(4, .pb 0 0), (18, .d (.sl QAT2) t18), (19, .d (.int .i64) t19), (20, .d (.int .i64) t20), (33, .d .bool t33)], nt := 53, up := [], own := [(0, .box 43 [.d .str p.1, .d (.int .i64) p.2.1, .d (.sl QAT5) p.2.2])], nx := 1, log := [], ln := 0 }
def q42_ (t18 : List QAT0) (t19 t20 : Int) (t35 : List QAT3) (t36 t37 : Int) : St := { fr := [(18, .d (.sl QAT2) t18), (19, .d (.int .i64) t19), (20, .d (.int .i64) t20), (35, .d (.sl QAT5) t35), (36, .d (.int .i64) t36), (37, .d (.int .i64) t37)], nt := 53, up := [], own := [], nx := 0, log := [], ln := 0 }
def q9y_ (t18 : List QAT0) (t19 t20 : Int) (t35 : List QAT3) (t36 t37 : Int) (t50 : Bool) : St := { fr := [(18, .d (.sl QAT2) t18), (19, .d (.int .i64) t19), (20, .d (.int .i64) t20), (35, .d (.sl QAT5) t35), (36, .d (.int .i64) t36), (37, .d (.int .i64) t37), (50, .d .bool t50)], nt := 53, up := [], own := [], nx := 0, log := [], ln := 0 }
def qdk_ (j2 : List QAT0 -> Int -> Int -> Option (As [.bool])) (t16 : Bool) (r : List UInt8 × List QAT0) : Option (As [.bool]) :=
  if t16 = true then some (false, ()) else j2 r.2 (Int.ofNat (List.length r.2)) 0
def q6w_ (j3 : List QAT0 -> Int -> Int -> Bool -> List UInt8 × Int × List QAT3 -> Option (As [.bool])) (self2 : List QAT0 -> Int -> Int -> Option (As [.bool])) (t18 : List QAT0) (t19 t20 : Int) : Option (As [.bool]) :=
  if lt t20 t19 = true then Option.bind (at? t18 t20) fun (y : List UInt8 × Int × List QAT3) => if gt (Int.ofNat (List.length y.2.2)) 70 = true then j3 t18 t19 t20 true y else j3 t18 t19 t20 (gt (Int.ofNat (List.length y.1)) 40) y else some (true, ())
def qdd_ (j4 : List QAT0 -> Int -> Int -> List QAT3 -> Int -> Int -> Option (As [.bool])) (self2 : List QAT0 -> Int -> Int -> Option (As [.bool])) (t18 : List QAT0) (t19 t20 : Int) (t33 : Bool) (p : List UInt8 × Int × List QAT3) : Option (As [.bool]) :=
  if t33 = true then some (false, ()) else j4 t18 t19 t20 p.2.2 (Int.ofNat (List.length p.2.2)) 0
def q71_ (j5 : List QAT0 -> Int -> Int -> List QAT3 -> Int -> Int -> Bool -> Option (As [.bool])) (self2 : List QAT0 -> Int -> Int -> Option (As [.bool])) (self4 : List QAT0 -> Int -> Int -> List QAT3 -> Int -> Int -> Option (As [.bool])) (t18 : List QAT0) (t19 t20 : Int) (t35 : List QAT3) (t36 t37 : Int) : Option (As [.bool]) :=
  if lt t37 t36 = true then Option.bind (at? t35 t37) fun (y : List UInt8 × (Int × Int) × List UInt8 × Int) => if gt (Int.ofNat (List.length y.1)) 40 = true then j5 t18 t19 t20 t35 t36 t37 true else j5 t18 t19 t20 t35 t36 t37 (gt (Int.ofNat (List.length y.2.2.1)) 40) else self2 t18 t19 (add .i64 t20 1)
def q9l_ (self2 : List QAT0 -> Int -> Int -> Option (As [.bool])) (self4 : List QAT0 -> Int -> Int -> List QAT3 -> Int -> Int -> Option (As [.bool])) (t18 : List QAT0) (t19 t20 : Int) (t35 : List QAT3) (t36 t37 : Int) (t50 : Bool) : Option (As [.bool]) :=
  if t50 = true then some (false, ()) else self4 t18 t19 t20 t35 t36 (add .i64 t37 1)
def q9w_ (j1 : Bool -> List UInt8 × List QAT0 -> Option (As [.bool])) (r : List UInt8 × List QAT0) : Option (As [.bool]) :=
  if gt (Int.ofNat (List.length r.2)) 12 = true then j1 true r else j1 (gt (Int.ofNat (List.length r.1)) 40) r
def q8b_ (u2 : List QAT0 -> Int -> Int -> Option (As [.bool])) (u4 : List QAT0 -> Int -> Int -> List QAT3 -> Int -> Int -> Option (As [.bool])) (t18 : List QAT0) (t19 t20 : Int) (t35 : List QAT3) (t36 t37 : Int) (t50 : Bool) : Option (As [.bool]) := q9l_ u2 u4 t18 t19 t20 t35 t36 t37 t50
def q6z_ (u2 : List QAT0 -> Int -> Int -> Option (As [.bool])) (t18 : List QAT0) (t19 t20 : Int) (t35 : List QAT3) (t36 t37 : Int) : Option (As [.bool]) :=
  loopF (fun (self : (List QAT0) × (Int) × (Int) × (List QAT3) × (Int) × (Int) -> Option (As [.bool])) (s : (List QAT0) × (Int) × (Int) × (List QAT3) × (Int) × (Int)) => q71_ (q8b_ u2 (fun t18 t19 t20 t35 t36 t37 => self (t18, t19, t20, t35, t36, t37))) u2 (fun t18 t19 t20 t35 t36 t37 => self (t18, t19, t20, t35, t36, t37)) s.1 s.2.1 s.2.2.1 s.2.2.2.1 s.2.2.2.2.1 s.2.2.2.2.2) 18446744073709551616 (t18, t19, t20, t35, t36, t37)
def q84_ (u2 : List QAT0 -> Int -> Int -> Option (As [.bool])) (t18 : List QAT0) (t19 t20 : Int) (t33 : Bool) (p : List UInt8 × Int × List QAT3) : Option (As [.bool]) := qdd_ (q6z_ u2) u2 t18 t19 t20 t33 p
def q6y_ (t18 : List QAT0) (t19 t20 : Int) : Option (As [.bool]) :=
  loopF (fun (self : (List QAT0) × (Int) × (Int) -> Option (As [.bool])) (s : (List QAT0) × (Int) × (Int)) => q6w_ (q84_ (fun t18 t19 t20 => self (t18, t19, t20))) (fun t18 t19 t20 => self (t18, t19, t20)) s.1 s.2.1 s.2.2) 18446744073709551616 (t18, t19, t20)
def q8a_ (t16 : Bool) (r : List UInt8 × List QAT0) : Option (As [.bool]) := qdk_ (q6y_) t16 r
def q85_ (x : As [.pr .str (.sl QAT2)]) : Option (As [.bool]) := q9w_ q8a_ x.1
theorem qke_  (J w2 w4 t18 t19 t20 t35 t36 t37 t50) : pfn Tryz.prog q1r_ 6 18446744073709551616 (Ev.get q1p_) 9 q1a_ J 1913753 [w2, w4] (q9y_ t18 t19 t20 t35 t36 t37 t50) = q9l_ (fun t18 t19 t20 => w2 (q22_ t18 t19 t20)) (fun t18 t19 t20 t35 t36 t37 => w4 (q42_ t18 t19 t20 t35 t36 t37)) t18 t19 t20 t35 t36 t37 t50 := by kernel_rfl
theorem qkk_  (J w2 w4 t18 t19 t20 t35 t36 t37) : pfn Tryz.prog q1r_ 6 18446744073709551616 (Ev.get q1p_) 9 q1a_ J 29902 [w2, w4] (q42_ t18 t19 t20 t35 t36 t37) = q71_ (fun t18 t19 t20 t35 t36 t37 t50 => J 1913753 [w2, w4] (q9y_ t18 t19 t20 t35 t36 t37 t50)) (fun t18 t19 t20 => w2 (q22_ t18 t19 t20)) (fun t18 t19 t20 t35 t36 t37 => w4 (q42_ t18 t19 t20 t35 t36 t37)) t18 t19 t20 t35 t36 t37 := by kernel_rfl
theorem qkc_  (J w2 t18 t19 t20 t33 p) : pfn Tryz.prog q1r_ 6 18446744073709551616 (Ev.get q1p_) 9 q1a_ J 7474 [w2] (q9z_ t18 t19 t20 t33 p) = qdd_ (fun t18 t19 t20 t35 t36 t37 => J 29902 [w2] (q42_ t18 t19 t20 t35 t36 t37)) (fun t18 t19 t20 => w2 (q22_ t18 t19 t20)) t18 t19 t20 t33 p := by kernel_rfl
theorem ql3_  (J w2 t18 t19 t20) : pfn Tryz.prog q1r_ 6 18446744073709551616 (Ev.get q1p_) 9 q1a_ J 58 [w2] (q22_ t18 t19 t20) = q6w_ (fun t18 t19 t20 t33 p => J 7474 [w2] (q9z_ t18 t19 t20 t33 p)) (fun t18 t19 t20 => w2 (q22_ t18 t19 t20)) t18 t19 t20 := by kernel_rfl
theorem ql7_  (J t16 r) : pfn Tryz.prog q1r_ 6 18446744073709551616 (Ev.get q1p_) 9 q1a_ J 6 [] (q9x_ t16 r) = qdk_ (fun t18 t19 t20 => J 58 [] (q22_ t18 t19 t20)) t16 r := by kernel_rfl
theorem qkz_ (J : Orc (As [.bool])) (x : As [.pr .str (.sl QAT2)]) : rfn Tryz.prog q1r_ 6 18446744073709551616 (Ev.get q1p_) 9 q1a_ J x = q9w_ (fun t16 r => J 6 [] (q9x_ t16 r)) x.1 := by kernel_rfl
theorem qkv_  (w2 w4 t18 t19 t20 t35 t36 t37 t50) : jfn Tryz.prog q1r_ 6 18446744073709551616 (Ev.get q1p_) 9 q1a_ 1913753 [w2, w4] (q9y_ t18 t19 t20 t35 t36 t37 t50) = q8b_ (fun t18 t19 t20 => w2 (q22_ t18 t19 t20)) (fun t18 t19 t20 t35 t36 t37 => w4 (q42_ t18 t19 t20 t35 t36 t37)) t18 t19 t20 t35 t36 t37 t50 := by
  rw [q5_ (by decide)]
  rw [qke_]
  rfl
theorem qkj_  (w2 t18 t19 t20 t35 t36 t37) : jfn Tryz.prog q1r_ 6 18446744073709551616 (Ev.get q1p_) 9 q1a_ 29902 [w2] (q42_ t18 t19 t20 t35 t36 t37) = q6z_ (fun t18 t19 t20 => w2 (q22_ t18 t19 t20)) t18 t19 t20 t35 t36 t37 := by
  rw [q5_ (by decide)]
  rw [q16_ (by kernel_rfl)]
  refine qp_ (σ := (List QAT0) × (Int) × (Int) × (List QAT3) × (Int) × (Int)) (mk := fun s => q42_ s.1 s.2.1 s.2.2.1 s.2.2.2.1 s.2.2.2.2.1 s.2.2.2.2.2) (fun w4 s => ?_) 18446744073709551616 (t18, t19, t20, t35, t36, t37)
  have e5 : (fun t18 t19 t20 t35 t36 t37 t50 => (jfn Tryz.prog q1r_ 6 18446744073709551616 (Ev.get q1p_) 9 q1a_) 1913753 [w2, w4] (q9y_ t18 t19 t20 t35 t36 t37 t50)) = q8b_ (fun t18 t19 t20 => w2 (q22_ t18 t19 t20)) (fun t18 t19 t20 t35 t36 t37 => w4 (q42_ t18 t19 t20 t35 t36 t37)) := by funext t18 t19 t20 t35 t36 t37 t50; exact qkv_ w2 w4 t18 t19 t20 t35 t36 t37 t50
  refine (qkk_ _ w2 w4 s.1 s.2.1 s.2.2.1 s.2.2.2.1 s.2.2.2.2.1 s.2.2.2.2.2).trans ?_
  rw [e5]
theorem ql6_  (w2 t18 t19 t20 t33 p) : jfn Tryz.prog q1r_ 6 18446744073709551616 (Ev.get q1p_) 9 q1a_ 7474 [w2] (q9z_ t18 t19 t20 t33 p) = q84_ (fun t18 t19 t20 => w2 (q22_ t18 t19 t20)) t18 t19 t20 t33 p := by
  rw [q5_ (by decide)]
  have e4 : (fun t18 t19 t20 t35 t36 t37 => (jfn Tryz.prog q1r_ 6 18446744073709551616 (Ev.get q1p_) 9 q1a_) 29902 [w2] (q42_ t18 t19 t20 t35 t36 t37)) = q6z_ (fun t18 t19 t20 => w2 (q22_ t18 t19 t20)) := by funext t18 t19 t20 t35 t36 t37; exact qkj_ w2 t18 t19 t20 t35 t36 t37
  rw [qkc_, e4]
  rfl
theorem ql1_  (t18 t19 t20) : jfn Tryz.prog q1r_ 6 18446744073709551616 (Ev.get q1p_) 9 q1a_ 58 [] (q22_ t18 t19 t20) = q6y_ t18 t19 t20 := by
  rw [q5_ (by decide)]
  rw [q16_ (by kernel_rfl)]
  refine qp_ (σ := (List QAT0) × (Int) × (Int)) (mk := fun s => q22_ s.1 s.2.1 s.2.2) (fun w2 s => ?_) 18446744073709551616 (t18, t19, t20)
  have e3 : (fun t18 t19 t20 t33 p => (jfn Tryz.prog q1r_ 6 18446744073709551616 (Ev.get q1p_) 9 q1a_) 7474 [w2] (q9z_ t18 t19 t20 t33 p)) = q84_ (fun t18 t19 t20 => w2 (q22_ t18 t19 t20)) := by funext t18 t19 t20 t33 p; exact ql6_ w2 t18 t19 t20 t33 p
  refine (ql3_ _ w2 s.1 s.2.1 s.2.2).trans ?_
  rw [e3]
theorem qkl_  (t16 r) : jfn Tryz.prog q1r_ 6 18446744073709551616 (Ev.get q1p_) 9 q1a_ 6 [] (q9x_ t16 r) = q8a_ t16 r := by
  rw [q5_ (by decide)]
  have e2 : (fun t18 t19 t20 => (jfn Tryz.prog q1r_ 6 18446744073709551616 (Ev.get q1p_) 9 q1a_) 58 [] (q22_ t18 t19 t20)) = q6y_ := by funext t18 t19 t20; exact ql1_ t18 t19 t20
  rw [ql7_, e2]
  rfl
theorem qlc_ (x : As [.pr .str (.sl QAT2)]) : evT Tryz.prog q1r_ 6 18446744073709551616 (Ev.get q1p_) 9 q1a_ x = q85_ x := by
  have e1 : (fun t16 r => (jfn Tryz.prog q1r_ 6 18446744073709551616 (Ev.get q1p_) 9 q1a_) 6 [] (q9x_ t16 r)) = q8a_ := by funext t16 r; exact qkl_ t16 r
  rw [rfn_eq, qkz_, e1]
  rfl
theorem qkw_ : CtOk Tryz.prog I0 9 ⟨q1a_, q85_⟩ := q18_ qa_ qlc_
end Go.Proofs.Lx
end
section
open Go Go.Proofs Ev Sx
set_option maxRecDepth 100000
namespace Go.Proofs.Lx
@[reducible] def q3s_ : Sh := ⟨[.d (.pr .str (.sl QAT2)), .d (.pr .str (.sl QAT2))], [], [.pr .str (.sl QAT2), .pr .str (.sl QAT2)], [.d (.bool)], [], 0, [.bool]⟩
def q4a_ : Env := (cts [(20, (⟨q9_, qa0_⟩ : Ct))])
def q4b_ : List (Nat × Hint) := [(58, ⟨[], [2, 3, 13, 14]⟩), (29902, ⟨[], [2, 3, 5, 13, 14, 36, 37]⟩)]
def q3j_ (t13 t14 : Int) (a b : List UInt8 × List QAT0) : St := { fr := [(2, .pb 0 0), (3, .pb 1 0), (13, .d (.int .i64) t13), (14, .d (.int .i64) t14)], nt := 63, up := [], own := [(0, .box 26 [.d .str a.1, .d (.sl QAT2) a.2]), (1, .box 26 [.d .str b.1, .d (.sl QAT2) b.2])], nx := 2, log := [], ln := 0 }
def q5b_ (i t13 t14 t36 t37 : Int) (a b : List UInt8 × List QAT0) : St := { fr := [(2, .pb 0 0), (3, .pb 1 0), (5, .d (.int .i64) i), (13, .d (.int .i64) t13), (14, .d (.int .i64) t14), (36, .d (.int .i64) t36), (37, .d (.int .i64) t37)], nt := 63, up := [], own := [(0, .box 26 [.d .str a.1, .d (.sl QAT2) a.2]), (1, .box 26 [.d .str b.1, .d (.sl QAT2) b.2])], nx := 2, log := [], ln := 0 }
def qc4_ (j2 : Int -> Int -> Int -> Int -> Int -> List UInt8 × List QAT0 -> List UInt8 × List QAT0 -> Option (As [.bool])) (self1 : Int -> Int -> List UInt8 × List QAT0 -> List UInt8 × List QAT0 -> Option (As [.bool])) (t13 t14 : Int) (a b : List UInt8 × List QAT0) : Option (As [.bool]) :=
  if lt t14 t13 = true then Option.bind (at? a.2 t14) fun (y : List UInt8 × Int × List QAT3) => Option.bind (at? b.2 t14) fun (y_1 : List UInt8 × Int × List QAT3) => if nei y.2.1 y_1.2.1 = true then some (false, ()) else Option.bind (at? a.2 t14) fun (y : List UInt8 × Int × List QAT3) => j2 t14 t13 t14 (Int.ofNat (List.length y.2.2)) 0 a b else some (true, ())
def qc5_ (self1 : Int -> Int -> List UInt8 × List QAT0 -> List UInt8 × List QAT0 -> Option (As [.bool])) (self2 : Int -> Int -> Int -> Int -> Int -> List UInt8 × List QAT0 -> List UInt8 × List QAT0 -> Option (As [.bool])) (i t13 t14 t36 t37 : Int) (a b : List UInt8 × List QAT0) : Option (As [.bool]) :=
  if lt t37 t36 = true then Option.bind (at? a.2 i) fun (y : List UInt8 × Int × List QAT3) => Option.bind (at? y.2.2 t37) fun (y : List UInt8 × (Int × Int) × List UInt8 × Int) => Option.bind (at? b.2 i) fun (y_1 : List UInt8 × Int × List QAT3) => Option.bind (at? y_1.2.2 t37) fun (y_2 : List UInt8 × (Int × Int) × List UInt8 × Int) => if nei y.2.2.2 y_2.2.2.2 = true then some (false, ()) else self2 i t13 t14 t36 (add .i64 t37 1) a b else self1 t13 (add .i64 t14 1) a b
def qc9_ (j1 : Int -> Int -> List UInt8 × List QAT0 -> List UInt8 × List QAT0 -> Option (As [.bool])) (a b : List UInt8 × List QAT0) : Option (As [.bool]) :=
  Option.bind (qa0_ (a, b, ())) fun (y : Bool × Unit) => if (!y.1) = true then some (false, ()) else j1 (Int.ofNat (List.length a.2)) 0 a b
def qad_ (u1 : Int -> Int -> List UInt8 × List QAT0 -> List UInt8 × List QAT0 -> Option (As [.bool])) (i t13 t14 t36 t37 : Int) (a b : List UInt8 × List QAT0) : Option (As [.bool]) :=
  loopF (fun (self : (Int) × (Int) × (Int) × (Int) × (Int) × (List UInt8 × List QAT0) × (List UInt8 × List QAT0) -> Option (As [.bool])) (s : (Int) × (Int) × (Int) × (Int) × (Int) × (List UInt8 × List QAT0) × (List UInt8 × List QAT0)) => qc5_ u1 (fun i t13 t14 t36 t37 a b => self (i, t13, t14, t36, t37, a, b)) s.1 s.2.1 s.2.2.1 s.2.2.2.1 s.2.2.2.2.1 s.2.2.2.2.2.1 s.2.2.2.2.2.2) 18446744073709551616 (i, t13, t14, t36, t37, a, b)
def qae_ (t13 t14 : Int) (a b : List UInt8 × List QAT0) : Option (As [.bool]) :=
  loopF (fun (self : (Int) × (Int) × (List UInt8 × List QAT0) × (List UInt8 × List QAT0) -> Option (As [.bool])) (s : (Int) × (Int) × (List UInt8 × List QAT0) × (List UInt8 × List QAT0)) => qc4_ (qad_ (fun t13 t14 a b => self (t13, t14, a, b))) (fun t13 t14 a b => self (t13, t14, a, b)) s.1 s.2.1 s.2.2.1 s.2.2.2) 18446744073709551616 (t13, t14, a, b)
def qar_ (x : As [.pr .str (.sl QAT2), .pr .str (.sl QAT2)]) : Option (As [.bool]) := qc9_ qae_ x.1 x.2.1
theorem qhs_  (J w1 w2 i t13 t14 t36 t37 a b) : pfn Tryz.prog q4a_ 6 18446744073709551616 (Ev.get q4b_) 18 q3s_ J 29902 [w1, w2] (q5b_ i t13 t14 t36 t37 a b) = qc5_ (fun t13 t14 a b => w1 (q3j_ t13 t14 a b)) (fun i t13 t14 t36 t37 a b => w2 (q5b_ i t13 t14 t36 t37 a b)) i t13 t14 t36 t37 a b := by kernel_rfl
theorem qgd_  (J w1 t13 t14 a b) : pfn Tryz.prog q4a_ 6 18446744073709551616 (Ev.get q4b_) 18 q3s_ J 58 [w1] (q3j_ t13 t14 a b) = qc4_ (fun i t13 t14 t36 t37 a b => J 29902 [w1] (q5b_ i t13 t14 t36 t37 a b)) (fun t13 t14 a b => w1 (q3j_ t13 t14 a b)) t13 t14 a b := by kernel_rfl
theorem qh8_ (J : Orc (As [.bool])) (x : As [.pr .str (.sl QAT2), .pr .str (.sl QAT2)]) : rfn Tryz.prog q4a_ 6 18446744073709551616 (Ev.get q4b_) 18 q3s_ J x = qc9_ (fun t13 t14 a b => J 58 [] (q3j_ t13 t14 a b)) x.1 x.2.1 := by kernel_rfl
theorem qga_  (w1 i t13 t14 t36 t37 a b) : jfn Tryz.prog q4a_ 6 18446744073709551616 (Ev.get q4b_) 18 q3s_ 29902 [w1] (q5b_ i t13 t14 t36 t37 a b) = qad_ (fun t13 t14 a b => w1 (q3j_ t13 t14 a b)) i t13 t14 t36 t37 a b := by
  rw [q5_ (by decide)]
  rw [q16_ (by kernel_rfl)]
  refine qp_ (σ := (Int) × (Int) × (Int) × (Int) × (Int) × (List UInt8 × List QAT0) × (List UInt8 × List QAT0)) (mk := fun s => q5b_ s.1 s.2.1 s.2.2.1 s.2.2.2.1 s.2.2.2.2.1 s.2.2.2.2.2.1 s.2.2.2.2.2.2) (fun w2 s => ?_) 18446744073709551616 (i, t13, t14, t36, t37, a, b)
  refine (qhs_ _ w1 w2 s.1 s.2.1 s.2.2.1 s.2.2.2.1 s.2.2.2.2.1 s.2.2.2.2.2.1 s.2.2.2.2.2.2).trans ?_
  rfl
theorem qif_  (t13 t14 a b) : jfn Tryz.prog q4a_ 6 18446744073709551616 (Ev.get q4b_) 18 q3s_ 58 [] (q3j_ t13 t14 a b) = qae_ t13 t14 a b := by
  rw [q5_ (by decide)]
  rw [q16_ (by kernel_rfl)]
  refine qp_ (σ := (Int) × (Int) × (List UInt8 × List QAT0) × (List UInt8 × List QAT0)) (mk := fun s => q3j_ s.1 s.2.1 s.2.2.1 s.2.2.2) (fun w1 s => ?_) 18446744073709551616 (t13, t14, a, b)
  have e2 : (fun i t13 t14 t36 t37 a b => (jfn Tryz.prog q4a_ 6 18446744073709551616 (Ev.get q4b_) 18 q3s_) 29902 [w1] (q5b_ i t13 t14 t36 t37 a b)) = qad_ (fun t13 t14 a b => w1 (q3j_ t13 t14 a b)) := by funext i t13 t14 t36 t37 a b; exact qga_ w1 i t13 t14 t36 t37 a b
  refine (qgd_ _ w1 s.1 s.2.1 s.2.2.1 s.2.2.2).trans ?_
  rw [e2]
theorem qk1_ (x : As [.pr .str (.sl QAT2), .pr .str (.sl QAT2)]) : evT Tryz.prog q4a_ 6 18446744073709551616 (Ev.get q4b_) 18 q3s_ x = qar_ x := by
  have e1 : (fun t13 t14 a b => (jfn Tryz.prog q4a_ 6 18446744073709551616 (Ev.get q4b_) 18 q3s_) 58 [] (q3j_ t13 t14 a b)) = qae_ := by funext t13 t14 a b; exact qif_ t13 t14 a b
  rw [rfn_eq, qh8_, e1]
  rfl
theorem qgl_ : CtOk Tryz.prog I0 18 ⟨q3s_, qar_⟩ := q18_ (q0_ qj7_ qa_) qk1_
@[reducible] def qc1_ : Sh := ⟨[.d (.sl QAT1), .d (.str)], [], [.sl QAT1, .str], [.d (.bool)], [], 0, [.bool]⟩
def q9p_ (l : List QAT4) (first : List UInt8) : Option (As [.bool]) :=
  if eqi (Int.ofNat (List.length l)) 2 = true then Option.bind (at? l 0) fun (y : Int × List UInt8 × (Int × Int) × Int) => if eqi y.1 1 = true then Option.bind (at? l 0) fun (y : Int × List UInt8 × (Int × Int) × Int) => if eqs y.2.1 first = true then Option.bind (at? l 1) fun (y : Int × List UInt8 × (Int × Int) × Int) => if eqi y.1 1 = true then Option.bind (at? l 1) fun (y : Int × List UInt8 × (Int × Int) × Int) => Option.bind (q1q_ (y.2.1, ())) fun (y : Bool × Unit) => some (y.1, ()) else some (false, ()) else some (false, ()) else some (false, ()) else some (false, ())
def q83_ (x : As [.sl QAT1, .str]) : Option (As [.bool]) := q9p_ x.1 x.2.1
theorem qfp_ : CtOk Tryz.prog I0 73 ⟨qc1_, q83_⟩ := ctn (q0_ qag_ qa_) 6 fun J x => by kernel_rfl
end Go.Proofs.Lx
end
