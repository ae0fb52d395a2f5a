/- Proved in the last of these 11 parts (this is part 9): StatusTells: whatever the line, the order, the ledger, the numbers that wait, the number and the fault, the law returns true.. Conditions: those of the given statement, and no others. -/
import Derived.Test.YtlpbpoknpjgnbaaGreatDoorParte
import Derived.Test.YtlpbpoknpjgnbaaGreatDoorProg
import Derived.Test.YtlpbpoknpjgnbaaGreatDoorParth
set_option linter.unusedVariables false
set_option linter.unusedSimpArgs false
set_option linter.unusedSectionVars false
section
open Go Go.Proofs Ev Sx
set_option maxRecDepth 100000
namespace Go.Proofs.Lx
abbrev TZT2 : Ty := (.pr (.int .u8) (.pr (.sl (.int .u8)) (.int .u8)))
abbrev TZT0 : Ty := (.pr (.int .u32) TZT2)
abbrev TZT1 : Type := (Int × Int × List Int × Int)
abbrev TZT3 : Ty := (.pr (.int .u8) (.pr (.int .u32) .str))
@[reducible] def istringslite_HasPrefix_s : Sh := ⟨[.d (.str), .d (.str)], [], [.str, .str], [.d (.bool)], [], 0, [.bool]⟩
def qbg_ (s prefixV : List UInt8) : Option (As [.bool]) :=
  if ge (Int.ofNat (List.length s)) (Int.ofNat (List.length prefixV)) = true then Option.bind (cut s 0 (Int.ofNat (List.length prefixV))) fun (y : List UInt8) => some (eqs y prefixV, ()) else some (false, ())
def qdq_ (x : As [.str, .str]) : Option (As [.bool]) := qbg_ x.1 x.2.1
theorem istringslite_HasPrefix_ok : CtOk Tryz.prog I0 57 ⟨istringslite_HasPrefix_s, qdq_⟩ := ctn env_nil 6 fun J x => by kernel_rfl
@[reducible] def istringslite_CutPrefix_s : Sh := ⟨[.d (.str), .d (.str)], [], [.str, .str], [.d (.str), .d (.bool)], [], 0, [.str, .bool]⟩
def qbh_ (s prefixV : List UInt8) : Option (As [.str, .bool]) :=
  Option.bind (qdq_ (s, prefixV, ())) fun (y : Bool × Unit) => if (!y.1) = true then some (s, false, ()) else Option.bind (cut s (Int.ofNat (List.length prefixV)) (Int.ofNat (List.length s))) fun (y : List UInt8) => some (y, true, ())
def qdr_ (x : As [.str, .str]) : Option (As [.str, .bool]) := qbh_ x.1 x.2.1
theorem istringslite_CutPrefix_ok : CtOk Tryz.prog I0 42 ⟨istringslite_CutPrefix_s, qdr_⟩ := ctn (env_cons istringslite_HasPrefix_ok env_nil) 6 fun J x => by kernel_rfl
@[reducible] def strings_CutPrefix_s : Sh := ⟨[.d (.str), .d (.str)], [], [.str, .str], [.d (.str), .d (.bool)], [], 0, [.str, .bool]⟩
def qet_ (s prefixV : List UInt8) : Option (As [.str, .bool]) :=
  Option.bind (qdr_ (s, prefixV, ())) fun (y : List UInt8 × Bool × Unit) => some (y.1, y.2.1, ())
def q3l_ (x : As [.str, .str]) : Option (As [.str, .bool]) := qet_ x.1 x.2.1
theorem qeu_ : CtOk Tryz.prog I0 19 ⟨strings_CutPrefix_s, q3l_⟩ := ctn (env_cons istringslite_CutPrefix_ok env_nil) 6 fun J x => by kernel_rfl
@[reducible] def q7x_ : Sh := ⟨[.d (.str)], [], [.str], [.d (.bool)], [], 0, [.bool]⟩
def q90_ : Env := (cts [])
def q8z_ : List (Nat × Hint) := [(58, ⟨[], [0, 9, 10, 19, 20, 21, 22, 23, 24]⟩), (7475, ⟨[.agd 22 (.int .u8), .agd 23 .bool, .agd 19 (.int .u8), .agd 20 .bool, .agd 21 .bool, .agd 24 .bool], [0, 9, 10, 25]⟩)]
def q84_ (text : List UInt8) (t9 t10 : Int) : St := { fr := [(0, .d .str text), (9, .d (.int .i64) t9), (10, .d (.int .i64) t10)], nt := 27, up := [], own := [], nx := 0, log := [], ln := 0 }
def qg7_ (text : List UInt8) (t9 t10 : Int) (t25 : Bool) : St := { fr := [(0, .d .str text), (9, .d (.int .i64) t9), (10, .d (.int .i64) t10), (25, .d .bool t25)], nt := 27, up := [], own := [], nx := 0, log := [], ln := 0 }
def qau_ (j2 : List UInt8 -> Int -> Int -> Bool -> Option (As [.bool])) (self1 : List UInt8 -> Int -> Int -> Option (As [.bool])) (text : List UInt8) (t9 t10 : Int) : Option (As [.bool]) :=
  if lt t10 t9 = true then Option.bind (at? text t10) fun (c : UInt8) => if nei (Int.ofNat (UInt8.toNat c)) 10 = true then if lt (Int.ofNat (UInt8.toNat c)) 32 = true then j2 text t9 t10 true else j2 text t9 t10 (gt (Int.ofNat (UInt8.toNat c)) 126) else j2 text t9 t10 false else some (true, ())
def qks_ (self1 : List UInt8 -> Int -> Int -> Option (As [.bool])) (text : List UInt8) (t9 t10 : Int) (t25 : Bool) : Option (As [.bool]) :=
  if t25 = true then some (false, ()) else self1 text t9 (add .i64 t10 1)
def qgc_ (j1 : List UInt8 -> Int -> Int -> Option (As [.bool])) (text : List UInt8) : Option (As [.bool]) :=
  if gt (Int.ofNat (List.length text)) 8192 = true then some (false, ()) else j1 text (Int.ofNat (List.length text)) 0
def qd6_ (u1 : List UInt8 -> Int -> Int -> Option (As [.bool])) (text : List UInt8) (t9 t10 : Int) (t25 : Bool) : Option (As [.bool]) := qks_ u1 text t9 t10 t25
def qdj_ (text : List UInt8) (t9 t10 : Int) : Option (As [.bool]) :=
  loopF (fun (self : (List UInt8) × (Int) × (Int) -> Option (As [.bool])) (s : (List UInt8) × (Int) × (Int)) => qau_ (qd6_ (fun text t9 t10 => self (text, t9, t10))) (fun text t9 t10 => self (text, t9, t10)) s.1 s.2.1 s.2.2) 18446744073709551616 (text, t9, t10)
def qgv_ (x : As [.str]) : Option (As [.bool]) := qgc_ qdj_ x.1
theorem qoi_  (J w1 text t9 t10 t25) : pfn Tryz.prog q90_ 6 18446744073709551616 (Ev.get q8z_) 43 q7x_ J 7475 [w1] (qg7_ text t9 t10 t25) = qks_ (fun text t9 t10 => w1 (q84_ text t9 t10)) text t9 t10 t25 := by kernel_rfl
theorem qoe_  (J w1 text t9 t10) : pfn Tryz.prog q90_ 6 18446744073709551616 (Ev.get q8z_) 43 q7x_ J 58 [w1] (q84_ text t9 t10) = qau_ (fun text t9 t10 t25 => J 7475 [w1] (qg7_ text t9 t10 t25)) (fun text t9 t10 => w1 (q84_ text t9 t10)) text t9 t10 := by kernel_rfl
theorem qos_ (J : Orc (As [.bool])) (x : As [.str]) : rfn Tryz.prog q90_ 6 18446744073709551616 (Ev.get q8z_) 43 q7x_ J x = qgc_ (fun text t9 t10 => J 58 [] (q84_ text t9 t10)) x.1 := by kernel_rfl
theorem qp1_  (w1 text t9 t10 t25) : jfn Tryz.prog q90_ 6 18446744073709551616 (Ev.get q8z_) 43 q7x_ 7475 [w1] (qg7_ text t9 t10 t25) = qd6_ (fun text t9 t10 => w1 (q84_ text t9 t10)) text t9 t10 t25 := by
  rw [qi_ (by decide)]
  rw [qoi_]
  rfl
theorem qo8_  (text t9 t10) : jfn Tryz.prog q90_ 6 18446744073709551616 (Ev.get q8z_) 43 q7x_ 58 [] (q84_ text t9 t10) = qdj_ text t9 t10 := by
  rw [qi_ (by decide)]
  rw [q2a_ (by kernel_rfl)]
  refine q1c_ (σ := (List UInt8) × (Int) × (Int)) (mk := fun s => q84_ s.1 s.2.1 s.2.2) (fun w1 s => ?_) 18446744073709551616 (text, t9, t10)
  have e2 : (fun text t9 t10 t25 => (jfn Tryz.prog q90_ 6 18446744073709551616 (Ev.get q8z_) 43 q7x_) 7475 [w1] (qg7_ text t9 t10 t25)) = qd6_ (fun text t9 t10 => w1 (q84_ text t9 t10)) := by funext text t9 t10 t25; exact qp1_ w1 text t9 t10 t25
  refine (qoe_ _ w1 s.1 s.2.1 s.2.2).trans ?_
  rw [e2]
theorem qq3_ (x : As [.str]) : evT Tryz.prog q90_ 6 18446744073709551616 (Ev.get q8z_) 43 q7x_ x = qgv_ x := by
  have e1 : (fun text t9 t10 => (jfn Tryz.prog q90_ 6 18446744073709551616 (Ev.get q8z_) 43 q7x_) 58 [] (q84_ text t9 t10)) = qdj_ := by funext text t9 t10; exact qo8_ text t9 t10
  rw [q3s_, qos_, e1]
  rfl
theorem qoh_ : CtOk Tryz.prog I0 43 ⟨q7x_, qgv_⟩ := ct_of_ev env_nil qq3_
@[reducible] def q73_ : Sh := ⟨[.d TZT3], [], [.pr (.int .u8) (.pr (.int .u32) .str)], [.d (.bool)], [], 0, [.bool]⟩
def q93_ : Env := (cts [(43, (⟨q7x_, qgv_⟩ : Ct))])
def q8x_ : List (Nat × Hint) := [(107, ⟨[], [1, 4, 15, 22, 23, 24, 33, 34, 35]⟩), (431, ⟨[], [1, 26, 33, 34, 35]⟩)]
def qg3_ (t4 : Int) (t15 : Bool) (o : Int × Int × List UInt8) : St := { fr := [(1, .pb 0 0), (4, .d (.int .u8) t4), (15, .d .bool t15)], nt := 37, up := [], own := [(0, .box 24 [.d (.int .u8) o.1, .d (.int .u32) o.2.1, .d .str o.2.2])], nx := 1, log := [], ln := 0 }
def qg4_ (t26 : Bool) (o : Int × Int × List UInt8) : St := { fr := [(1, .pb 0 0), (26, .d .bool t26)], nt := 37, up := [], own := [(0, .box 24 [.d (.int .u8) o.1, .d (.int .u32) o.2.1, .d .str o.2.2])], nx := 1, log := [], ln := 0 }
def qkp_ (j2 : Bool -> Int × Int × List UInt8 -> Option (As [.bool])) (t4 : Int) (t15 : Bool) (o : Int × Int × List UInt8) : Option (As [.bool]) :=
  if t15 = true then if gt o.2.1 0 = true then some (eqs o.2.2 [], ()) else some (false, ()) else if eqi t4 4 = true then j2 true o else j2 (eqi t4 5) o
def qkw_ (t26 : Bool) (o : Int × Int × List UInt8) : Option (As [.bool]) :=
  if t26 = true then if eqi o.2.1 0 = true then some (eqs o.2.2 [], ()) else some (false, ()) else some (false, ())
def qg2_ (j1 : Int -> Bool -> Int × Int × List UInt8 -> Option (As [.bool])) (o : Int × Int × List UInt8) : Option (As [.bool]) :=
  if eqi o.1 1 = true then if eqi o.2.1 0 = true then Option.bind (qgv_ (o.2.2, ())) fun (y : Bool × Unit) => some (y.1, ()) else some (false, ()) else if eqi o.1 2 = true then j1 o.1 true o else j1 o.1 (eqi o.1 3) o
def qcv_ (t26 : Bool) (o : Int × Int × List UInt8) : Option (As [.bool]) := qkw_ t26 o
def qav_ (t4 : Int) (t15 : Bool) (o : Int × Int × List UInt8) : Option (As [.bool]) := qkp_ (qcv_) t4 t15 o
def q70_ (x : As [.pr (.int .u8) (.pr (.int .u32) .str)]) : Option (As [.bool]) := qg2_ qav_ x.1
theorem qod_  (J t26 o) : pfn Tryz.prog q93_ 6 18446744073709551616 (Ev.get q8x_) 20 q73_ J 431 [] (qg4_ t26 o) = qkw_ t26 o := by kernel_rfl
theorem qox_  (J t4 t15 o) : pfn Tryz.prog q93_ 6 18446744073709551616 (Ev.get q8x_) 20 q73_ J 107 [] (qg3_ t4 t15 o) = qkp_ (fun t26 o => J 431 [] (qg4_ t26 o)) t4 t15 o := by kernel_rfl
theorem qoo_ (J : Orc (As [.bool])) (x : As [.pr (.int .u8) (.pr (.int .u32) .str)]) : rfn Tryz.prog q93_ 6 18446744073709551616 (Ev.get q8x_) 20 q73_ J x = qg2_ (fun t4 t15 o => J 107 [] (qg3_ t4 t15 o)) x.1 := by kernel_rfl
theorem qoq_  (t26 o) : jfn Tryz.prog q93_ 6 18446744073709551616 (Ev.get q8x_) 20 q73_ 431 [] (qg4_ t26 o) = qcv_ t26 o := by
  rw [qi_ (by decide)]
  rw [qod_]
  rfl
theorem qp0_  (t4 t15 o) : jfn Tryz.prog q93_ 6 18446744073709551616 (Ev.get q8x_) 20 q73_ 107 [] (qg3_ t4 t15 o) = qav_ t4 t15 o := by
  rw [qi_ (by decide)]
  have e2 : (fun t26 o => (jfn Tryz.prog q93_ 6 18446744073709551616 (Ev.get q8x_) 20 q73_) 431 [] (qg4_ t26 o)) = qcv_ := by funext t26 o; exact qoq_ t26 o
  rw [qox_, e2]
  rfl
theorem qqb_ (x : As [.pr (.int .u8) (.pr (.int .u32) .str)]) : evT Tryz.prog q93_ 6 18446744073709551616 (Ev.get q8x_) 20 q73_ x = q70_ x := by
  have e1 : (fun t4 t15 o => (jfn Tryz.prog q93_ 6 18446744073709551616 (Ev.get q8x_) 20 q73_) 107 [] (qg3_ t4 t15 o)) = qav_ := by funext t4 t15 o; exact qp0_ t4 t15 o
  rw [q3s_, qoo_, e1]
  rfl
theorem qlz_ : CtOk Tryz.prog I0 20 ⟨q73_, q70_⟩ := ct_of_ev (env_cons qoh_ env_nil) qqb_
@[reducible] def q3p_ : Sh := ⟨[.d (.str)], [], [.str], [.d (.str), .d (.bool)], [], 0, [.str, .bool]⟩
def q4n_ : Env := (cts [])
def q4m_ : List (Nat × Hint) := [(7, ⟨[], [4]⟩), (58, ⟨[.rwb 4 1 5, .slf 4 0], [0, 4, 5]⟩), (233, ⟨[.slf 4 0], [0, 4, 5]⟩)]
def q5q_ (s : List UInt8) (i : Int) (b : Bool) (o : List Int) : St := { fr := [(0, .d .str s), (4, .pb 0 0), (5, .d (.int .i64) i)], nt := 36, up := [], own := [(0, .box 71 [.opb b 0 0, .row 1]), (1, .row (.int .u8) 5 o)], nx := 2, log := [], ln := 0 }
def qcc_ (s : List UInt8) (i : Int) (b : Bool) (o : List Int) : St := { fr := [(0, .d .str s), (4, .pb 0 0), (5, .d (.int .i64) i)], nt := 36, up := [], own := [(0, .box 71 [.opb b 0 0, .row 1]), (1, .row (.int .u8) 5 o)], nx := 2, log := [], ln := 0 }
def qcg_ (b : Bool) (o : List Int) : St := { fr := [(4, .pb 0 0)], nt := 36, up := [], own := [(0, .box 71 [.opb b 0 0, .row 1]), (1, .row (.int .u8) 5 o)], nx := 2, log := [], ln := 0 }
def qcd_ (j2 : List UInt8 -> Int -> Bool -> List Int -> Option (As [.str, .bool])) (j3 : Bool -> List Int -> Option (As [.str, .bool])) (self1 : List UInt8 -> Int -> Bool -> List Int -> Option (As [.str, .bool])) (s : List UInt8) (i : Int) (b : Bool) (o : List Int) : Option (As [.str, .bool]) :=
  if lt i (Int.ofNat (List.length s)) = true then Option.bind (at? s i) fun (c : UInt8) => if eqi (Int.ofNat (UInt8.toNat c)) 10 = true then some ([], false, ()) else if eqi (Int.ofNat (UInt8.toNat c)) 92 = true then if eqi (add .i64 i 1) (Int.ofNat (List.length s)) = true then some ([], false, ()) else Option.bind (at? s (add .i64 i 1)) fun (c_1 : UInt8) => if eqi (Int.ofNat (UInt8.toNat c_1)) 110 = true then if b = true then if b = true then need (small (List.length o + 1)) (j2 s (add .i64 i 1) b (o ++ [10])) else Option.none else need (small (List.length o + 1)) (j2 s (add .i64 i 1) true (o ++ [10])) else if eqi (Int.ofNat (UInt8.toNat c_1)) 92 = true then if b = true then if b = true then need (small (List.length o + Nat.succ 0)) (j2 s (add .i64 i 1) b (o ++ [Int.ofNat (UInt8.toNat c)])) else Option.none else need (small (List.length o + Nat.succ 0)) (j2 s (add .i64 i 1) true (o ++ [Int.ofNat (UInt8.toNat c)])) else some ([], false, ()) else if b = true then if b = true then need (small (List.length o + Nat.succ 0)) (j2 s i b (o ++ [Int.ofNat (UInt8.toNat c)])) else Option.none else need (small (List.length o + Nat.succ 0)) (j2 s i true (o ++ [Int.ofNat (UInt8.toNat c)])) else j3 b o
def qch_ (self1 : List UInt8 -> Int -> Bool -> List Int -> Option (As [.str, .bool])) (s : List UInt8) (i : Int) (b : Bool) (o : List Int) : Option (As [.str, .bool]) :=
  self1 s (add .i64 i 1) b o
def qfy_ (b : Bool) (o : List Int) : Option (As [.str, .bool]) :=
  need (eqi (Int.ofNat (List.length o)) (Int.ofNat (List.length o))) (need (small (List.length o)) (need (Ev.u8s o) (some (Sx.toS o, true, ()))))
def qcf_ (j1 : List UInt8 -> Int -> Bool -> List Int -> Option (As [.str, .bool])) (s : List UInt8) : Option (As [.str, .bool]) :=
  j1 s 0 false []
def q4s_ (u1 : List UInt8 -> Int -> Bool -> List Int -> Option (As [.str, .bool])) (s : List UInt8) (i : Int) (b : Bool) (o : List Int) : Option (As [.str, .bool]) := qch_ u1 s i b o
def qcb_ (b : Bool) (o : List Int) : Option (As [.str, .bool]) := qfy_ b o
def q9y_ (s : List UInt8) (i : Int) (b : Bool) (o : List Int) : Option (As [.str, .bool]) :=
  loopF (fun (self : (List UInt8) × (Int) × (Bool) × (List Int) -> Option (As [.str, .bool])) (s : (List UInt8) × (Int) × (Bool) × (List Int)) => qcd_ (q4s_ (fun s i b o => self (s, i, b, o))) (qcb_) (fun s i b o => self (s, i, b, o)) s.1 s.2.1 s.2.2.1 s.2.2.2) 18446744073709551616 (s, i, b, o)
def qa9_ (x : As [.str]) : Option (As [.str, .bool]) := qcf_ q9y_ x.1
theorem qn5_  (J w1 s i b o) : pfn Tryz.prog q4n_ 6 18446744073709551616 (Ev.get q4m_) 55 q3p_ J 233 [w1] (qcc_ s i b o) = qch_ (fun s i b o => w1 (q5q_ s i b o)) s i b o := by kernel_rfl
theorem qn3_  (J b o) : pfn Tryz.prog q4n_ 6 18446744073709551616 (Ev.get q4m_) 55 q3p_ J 7 [] (qcg_ b o) = qfy_ b o := by kernel_rfl
theorem qn7_  (J w1 s i b o) : pfn Tryz.prog q4n_ 6 18446744073709551616 (Ev.get q4m_) 55 q3p_ J 58 [w1] (q5q_ s i b o) = qcd_ (fun s i b o => J 233 [w1] (qcc_ s i b o)) (fun b o => J 7 [] (qcg_ b o)) (fun s i b o => w1 (q5q_ s i b o)) s i b o := by kernel_rfl
theorem qmz_ (J : Orc (As [.str, .bool])) (x : As [.str]) : rfn Tryz.prog q4n_ 6 18446744073709551616 (Ev.get q4m_) 55 q3p_ J x = qcf_ (fun s i b o => J 58 [] (q5q_ s i b o)) x.1 := by kernel_rfl
theorem qn8_  (w1 s i b o) : jfn Tryz.prog q4n_ 6 18446744073709551616 (Ev.get q4m_) 55 q3p_ 233 [w1] (qcc_ s i b o) = q4s_ (fun s i b o => w1 (q5q_ s i b o)) s i b o := by
  rw [qi_ (by decide)]
  rw [qn5_]
  rfl
theorem qn4_  (b o) : jfn Tryz.prog q4n_ 6 18446744073709551616 (Ev.get q4m_) 55 q3p_ 7 [] (qcg_ b o) = qcb_ b o := by
  rw [qi_ (by decide)]
  rw [qn3_]
  rfl
theorem qn0_  (s i b o) : jfn Tryz.prog q4n_ 6 18446744073709551616 (Ev.get q4m_) 55 q3p_ 58 [] (q5q_ s i b o) = q9y_ s i b o := by
  rw [qi_ (by decide)]
  rw [q2a_ (by kernel_rfl)]
  refine q1c_ (σ := (List UInt8) × (Int) × (Bool) × (List Int)) (mk := fun s => q5q_ s.1 s.2.1 s.2.2.1 s.2.2.2) (fun w1 s => ?_) 18446744073709551616 (s, i, b, o)
  have e2 : (fun s i b o => (jfn Tryz.prog q4n_ 6 18446744073709551616 (Ev.get q4m_) 55 q3p_) 233 [w1] (qcc_ s i b o)) = q4s_ (fun s i b o => w1 (q5q_ s i b o)) := by funext s i b o; exact qn8_ w1 s i b o
  have e3 : (fun b o => (jfn Tryz.prog q4n_ 6 18446744073709551616 (Ev.get q4m_) 55 q3p_) 7 [] (qcg_ b o)) = qcb_ := by funext b o; exact qn4_ b o
  refine (qn7_ _ w1 s.1 s.2.1 s.2.2.1 s.2.2.2).trans ?_
  rw [e2, e3]
theorem qnd_ (x : As [.str]) : evT Tryz.prog q4n_ 6 18446744073709551616 (Ev.get q4m_) 55 q3p_ x = qa9_ x := by
  have e1 : (fun s i b o => (jfn Tryz.prog q4n_ 6 18446744073709551616 (Ev.get q4m_) 55 q3p_) 58 [] (q5q_ s i b o)) = q9y_ := by funext s i b o; exact qn0_ s i b o
  rw [q3s_, qmz_, e1]
  rfl
theorem qn6_ : CtOk Tryz.prog I0 55 ⟨q3p_, qa9_⟩ := ct_of_ev env_nil qnd_
@[reducible] def qiz_ : Sh := ⟨[.d (.int .u8), .d (.str)], [], [.int .u8, .str], [.d TZT3, .d (.bool)], [], 0, [.pr (.int .u8) (.pr (.int .u32) .str), .bool]⟩
def qn9_ (what : Int) (rest : List UInt8) : Option (As [.pr (.int .u8) (.pr (.int .u32) .str), .bool]) :=
  Option.bind (q3l_ (rest, [32], ())) fun (y : List UInt8 × Bool × Unit) => if (!y.2.1) = true then some ((0, 0, []), false, ()) else Option.bind (qa9_ (y.1, ())) fun (y : List UInt8 × Bool × Unit) => some ((what, 0, y.1), y.2.1, ())
def q9b_ (x : As [.int .u8, .str]) : Option (As [.pr (.int .u8) (.pr (.int .u32) .str), .bool]) := qn9_ x.1 x.2.1
theorem qlb_ : CtOk Tryz.prog I0 39 ⟨qiz_, q9b_⟩ := ctn (env_cons qeu_ (env_cons qn6_ env_nil)) 6 fun J x => by kernel_rfl
@[reducible] def strconv_FormatUint_s : Sh := ⟨[.d (.int .u64), .d (.int .i64)], [], [.int .u64, .int .i64], [.d (.str)], [], 0, [.str]⟩
def qef_ (i base : Int) : Option (As [.str]) :=
  Option.bind (istrconv_FormatUint (i, base, ())) fun (y : List UInt8 × Unit) => some (y.1, ())
def strconv_FormatUint (x : As [.int .u64, .int .i64]) : Option (As [.str]) := qef_ x.1 x.2.1
theorem strconv_FormatUint_ok : CtOk Tryz.prog I0 45 ⟨strconv_FormatUint_s, strconv_FormatUint⟩ := ctn (env_cons istrconv_FormatUint_ok env_nil) 6 fun J x => by kernel_rfl
@[reducible] def qgb_ : Sh := ⟨[.d (.int .u32)], [], [.int .u32], [.d (.str)], [], 0, [.str]⟩
def qk8_ (tx : Int) : Option (As [.str]) :=
  Option.bind (strconv_FormatUint (cvt .u64 tx, 10, ())) fun (y : List UInt8 × Unit) => some (y.1, ())
def q2o_ (x : As [.int .u32]) : Option (As [.str]) := qk8_ x.1
theorem qk3_ : CtOk Tryz.prog I0 25 ⟨qgb_, q2o_⟩ := ctn (env_cons strconv_FormatUint_ok env_nil) 6 fun J x => by kernel_rfl
@[reducible] def q6h_ : Sh := ⟨[.d (.int .u8), .d (.str)], [], [.int .u8, .str], [.d TZT3, .d (.bool)], [], 0, [.pr (.int .u8) (.pr (.int .u32) .str), .bool]⟩
def q9w_ : Env := (cts [(19, (⟨strings_CutPrefix_s, q3l_⟩ : Ct)), (25, (⟨qgb_, q2o_⟩ : Ct)), (56, (⟨strconv_ParseUint_ok_s, q9k_⟩ : Ct)), (56, (⟨strconv_ParseUint_er_s, q9l_⟩ : Ct))])
def q9z_ : List (Nat × Hint) := [(62, ⟨[], [0, 4, 8, 35]⟩)]
def qba_ (what n : Int) (t35 : Bool) (t4 : Int × Int × List UInt8) : St := { fr := [(0, .d (.int .u8) what), (4, .pb 0 0), (8, .d (.int .u64) n), (35, .d .bool t35)], nt := 41, up := [], own := [(0, .box 24 [.d (.int .u8) t4.1, .d (.int .u32) t4.2.1, .d .str t4.2.2])], nx := 1, log := [], ln := 0 }
def qko_ (what n : Int) (t35 : Bool) (t4 : Int × Int × List UInt8) : Option (As [.pr (.int .u8) (.pr (.int .u32) .str), .bool]) :=
  if t35 = true then some ((0, 0, []), false, ()) else some ((what, cvt .u32 n, []), true, ())
def qb9_ (j1 : Int -> Int -> Bool -> Int × Int × List UInt8 -> Option (As [.pr (.int .u8) (.pr (.int .u32) .str), .bool])) (what : Int) (rest : List UInt8) : Option (As [.pr (.int .u8) (.pr (.int .u32) .str), .bool]) :=
  Option.bind (q3l_ (rest, [32], ())) fun (y : List UInt8 × Bool × Unit) => if (!y.2.1) = true then some ((0, 0, []), false, ()) else orE (Option.bind (q9k_ (y.1, 10, 32, ())) fun (y_1 : Int × Unit) => if eqi y_1.1 0 = true then j1 what y_1.1 true (0, 0, []) else Option.bind (q2o_ (cvt .u32 y_1.1, ())) fun (y_2 : List UInt8 × Unit) => j1 what y_1.1 (nes y_2.1 y.1) (0, 0, [])) (Option.bind (q9l_ (y.1, 10, 32, ())) fun (y : Int × Unit × Unit) => j1 what y.1 true (0, 0, []))
def q9h_ (what n : Int) (t35 : Bool) (t4 : Int × Int × List UInt8) : Option (As [.pr (.int .u8) (.pr (.int .u32) .str), .bool]) := qko_ what n t35 t4
def q5w_ (x : As [.int .u8, .str]) : Option (As [.pr (.int .u8) (.pr (.int .u32) .str), .bool]) := qb9_ q9h_ x.1 x.2.1
theorem qms_  (J what n t35 t4) : pfn Tryz.prog q9w_ 6 18446744073709551616 (Ev.get q9z_) 40 q6h_ J 62 [] (qba_ what n t35 t4) = qko_ what n t35 t4 := by kernel_rfl
theorem qmo_ (J : Orc (As [.pr (.int .u8) (.pr (.int .u32) .str), .bool])) (x : As [.int .u8, .str]) : rfn Tryz.prog q9w_ 6 18446744073709551616 (Ev.get q9z_) 40 q6h_ J x = qb9_ (fun what n t35 t4 => J 62 [] (qba_ what n t35 t4)) x.1 x.2.1 := by kernel_rfl
theorem qml_  (what n t35 t4) : jfn Tryz.prog q9w_ 6 18446744073709551616 (Ev.get q9z_) 40 q6h_ 62 [] (qba_ what n t35 t4) = q9h_ what n t35 t4 := by
  rw [qi_ (by decide)]
  rw [qms_]
  rfl
theorem qn2_ (x : As [.int .u8, .str]) : evT Tryz.prog q9w_ 6 18446744073709551616 (Ev.get q9z_) 40 q6h_ x = q5w_ x := by
  have e1 : (fun what n t35 t4 => (jfn Tryz.prog q9w_ 6 18446744073709551616 (Ev.get q9z_) 40 q6h_) 62 [] (qba_ what n t35 t4)) = q9h_ := by funext what n t35 t4; exact qml_ what n t35 t4
  rw [q3s_, qmo_, e1]
  rfl
theorem qku_ : CtOk Tryz.prog I0 40 ⟨q6h_, q5w_⟩ := ct_of_ev (env_cons qeu_ (env_cons qk3_ (env_cons strconv_ParseUint_ok_ok (env_cons strconv_ParseUint_er_ok env_nil)))) qn2_
@[reducible] def qep_ : Sh := ⟨[.d (.int .u8), .d (.str)], [], [.int .u8, .str], [.d TZT3, .d (.bool)], [], 0, [.pr (.int .u8) (.pr (.int .u32) .str), .bool]⟩
def qmh_ (what : Int) (rest : List UInt8) : Option (As [.pr (.int .u8) (.pr (.int .u32) .str), .bool]) :=
  some ((what, 0, []), eqs rest [], ())
def q66_ (x : As [.int .u8, .str]) : Option (As [.pr (.int .u8) (.pr (.int .u32) .str), .bool]) := qmh_ x.1 x.2.1
theorem qkb_ : CtOk Tryz.prog I0 41 ⟨qep_, q66_⟩ := ctn env_nil 6 fun J x => by kernel_rfl
@[reducible] def q57_ : Sh := ⟨[.d (.str)], [], [.str], [.d TZT3, .d (.int .i64)], [], 0, [.pr (.int .u8) (.pr (.int .u32) .str), .int .i64]⟩
def q6w_ : Env := (cts [(19, (⟨strings_CutPrefix_s, q3l_⟩ : Ct)), (20, (⟨q73_, q70_⟩ : Ct)), (39, (⟨qiz_, q9b_⟩ : Ct)), (40, (⟨q6h_, q5w_⟩ : Ct)), (41, (⟨qep_, q66_⟩ : Ct))])
def q6x_ : List (Nat × Hint) := [(3, ⟨[], [2]⟩), (26, ⟨[], [0, 2, 9, 10, 33, 34]⟩), (13519, ⟨[.agd 33 TZT3, .agd 34 .bool], [0, 2, 8, 9, 10, 35]⟩)]
def q83_ (line : List UInt8) (t9 : Int) (t9_2 : List UInt8) (t9_3 : Int) (t9_4 : List UInt8) (t9_5 : Int) (t9_6 : List UInt8) (t9_7 : Int) (t9_8 : List UInt8) (t9_9 : Int) (t9_10 : List UInt8) (t10 : Int) (t2 : Int × Int × List UInt8) : St := { fr := [(0, .d .str line), (2, .pb 0 0), (9, .agg [.d (.int .u8) t9, .d .str t9_2, .fn (.func 39) [] [], .d (.int .u8) t9_3, .d .str t9_4, .fn (.func 40) [] [], .d (.int .u8) t9_5, .d .str t9_6, .fn (.func 40) [] [], .d (.int .u8) t9_7, .d .str t9_8, .fn (.func 41) [] [], .d (.int .u8) t9_9, .d .str t9_10, .fn (.func 41) [] []]), (10, .d (.int .i64) t10)], nt := 39, up := [], own := [(0, .box 24 [.d (.int .u8) t2.1, .d (.int .u32) t2.2.1, .d .str t2.2.2])], nx := 1, log := [], ln := 0 }
def qg1_ (line : List UInt8) (t9 : Int) (t9_2 : List UInt8) (t9_3 : Int) (t9_4 : List UInt8) (t9_5 : Int) (t9_6 : List UInt8) (t9_7 : Int) (t9_8 : List UInt8) (t9_9 : Int) (t9_10 : List UInt8) (t10 : Int) (t35 : Bool) (t2 o : Int × Int × List UInt8) : St := { fr := [(0, .d .str line), (2, .pb 0 0), (8, .pb 1 0), (9, .agg [.d (.int .u8) t9, .d .str t9_2, .fn (.func 39) [] [], .d (.int .u8) t9_3, .d .str t9_4, .fn (.func 40) [] [], .d (.int .u8) t9_5, .d .str t9_6, .fn (.func 40) [] [], .d (.int .u8) t9_7, .d .str t9_8, .fn (.func 41) [] [], .d (.int .u8) t9_9, .d .str t9_10, .fn (.func 41) [] []]), (10, .d (.int .i64) t10), (35, .d .bool t35)], nt := 39, up := [], own := [(0, .box 24 [.d (.int .u8) t2.1, .d (.int .u32) t2.2.1, .d .str t2.2.2]), (1, .box 24 [.d (.int .u8) o.1, .d (.int .u32) o.2.1, .d .str o.2.2])], nx := 2, log := [], ln := 0 }
def qge_ (t2 : Int × Int × List UInt8) : St := { fr := [(2, .pb 0 0)], nt := 39, up := [], own := [(0, .box 24 [.d (.int .u8) t2.1, .d (.int .u32) t2.2.1, .d .str t2.2.2])], nx := 1, log := [], ln := 0 }
def ql0_ (j2 : List UInt8 -> Int -> List UInt8 -> Int -> List UInt8 -> Int -> List UInt8 -> Int -> List UInt8 -> Int -> List UInt8 -> Int -> Bool -> Int × Int × List UInt8 -> Int × Int × List UInt8 -> Option (As [.pr (.int .u8) (.pr (.int .u32) .str), .int .i64])) (j3 : Int × Int × List UInt8 -> Option (As [.pr (.int .u8) (.pr (.int .u32) .str), .int .i64])) (self1 : List UInt8 -> Int -> List UInt8 -> Int -> List UInt8 -> Int -> List UInt8 -> Int -> List UInt8 -> Int -> List UInt8 -> Int -> Int × Int × List UInt8 -> Option (As [.pr (.int .u8) (.pr (.int .u32) .str), .int .i64])) (line : List UInt8) (t9 : Int) (t9_2 : List UInt8) (t9_3 : Int) (t9_4 : List UInt8) (t9_5 : Int) (t9_6 : List UInt8) (t9_7 : Int) (t9_8 : List UInt8) (t9_9 : Int) (t9_10 : List UInt8) (t10 : Int) (t2 : Int × Int × List UInt8) : Option (As [.pr (.int .u8) (.pr (.int .u32) .str), .int .i64]) :=
  if lt t10 5 = true then if eqi t10 4 = true then Option.bind (q3l_ (line, t9_10, ())) fun (y : List UInt8 × Bool × Unit) => if (!y.2.1) = true then self1 line t9 t9_2 t9_3 t9_4 t9_5 t9_6 t9_7 t9_8 t9_9 t9_10 (add .i64 t10 1) t2 else Option.bind (q66_ (t9_9, y.1, ())) fun (y : (Int × Int × List UInt8) × Bool × Unit) => if y.2.1 = true then Option.bind (q70_ (y.1, ())) fun (y_1 : Bool × Unit) => j2 line t9 t9_2 t9_3 t9_4 t9_5 t9_6 t9_7 t9_8 t9_9 t9_10 t10 y_1.1 t2 y.1 else j2 line t9 t9_2 t9_3 t9_4 t9_5 t9_6 t9_7 t9_8 t9_9 t9_10 t10 false t2 y.1 else if eqi t10 3 = true then Option.bind (q3l_ (line, t9_8, ())) fun (y : List UInt8 × Bool × Unit) => if (!y.2.1) = true then self1 line t9 t9_2 t9_3 t9_4 t9_5 t9_6 t9_7 t9_8 t9_9 t9_10 (add .i64 t10 1) t2 else Option.bind (q66_ (t9_7, y.1, ())) fun (y : (Int × Int × List UInt8) × Bool × Unit) => if y.2.1 = true then Option.bind (q70_ (y.1, ())) fun (y_1 : Bool × Unit) => j2 line t9 t9_2 t9_3 t9_4 t9_5 t9_6 t9_7 t9_8 t9_9 t9_10 t10 y_1.1 t2 y.1 else j2 line t9 t9_2 t9_3 t9_4 t9_5 t9_6 t9_7 t9_8 t9_9 t9_10 t10 false t2 y.1 else if eqi t10 2 = true then Option.bind (q3l_ (line, t9_6, ())) fun (y : List UInt8 × Bool × Unit) => if (!y.2.1) = true then self1 line t9 t9_2 t9_3 t9_4 t9_5 t9_6 t9_7 t9_8 t9_9 t9_10 (add .i64 t10 1) t2 else Option.bind (q5w_ (t9_5, y.1, ())) fun (y : (Int × Int × List UInt8) × Bool × Unit) => if y.2.1 = true then Option.bind (q70_ (y.1, ())) fun (y_1 : Bool × Unit) => j2 line t9 t9_2 t9_3 t9_4 t9_5 t9_6 t9_7 t9_8 t9_9 t9_10 t10 y_1.1 t2 y.1 else j2 line t9 t9_2 t9_3 t9_4 t9_5 t9_6 t9_7 t9_8 t9_9 t9_10 t10 false t2 y.1 else if eqi t10 1 = true then Option.bind (q3l_ (line, t9_4, ())) fun (y : List UInt8 × Bool × Unit) => if (!y.2.1) = true then self1 line t9 t9_2 t9_3 t9_4 t9_5 t9_6 t9_7 t9_8 t9_9 t9_10 (add .i64 t10 1) t2 else Option.bind (q5w_ (t9_3, y.1, ())) fun (y : (Int × Int × List UInt8) × Bool × Unit) => if y.2.1 = true then Option.bind (q70_ (y.1, ())) fun (y_1 : Bool × Unit) => j2 line t9 t9_2 t9_3 t9_4 t9_5 t9_6 t9_7 t9_8 t9_9 t9_10 t10 y_1.1 t2 y.1 else j2 line t9 t9_2 t9_3 t9_4 t9_5 t9_6 t9_7 t9_8 t9_9 t9_10 t10 false t2 y.1 else if eqi t10 0 = true then Option.bind (q3l_ (line, t9_2, ())) fun (y : List UInt8 × Bool × Unit) => if (!y.2.1) = true then self1 line t9 t9_2 t9_3 t9_4 t9_5 t9_6 t9_7 t9_8 t9_9 t9_10 (add .i64 t10 1) t2 else Option.bind (q9b_ (t9, y.1, ())) fun (y : (Int × Int × List UInt8) × Bool × Unit) => if y.2.1 = true then Option.bind (q70_ (y.1, ())) fun (y_1 : Bool × Unit) => j2 line t9 t9_2 t9_3 t9_4 t9_5 t9_6 t9_7 t9_8 t9_9 t9_10 t10 y_1.1 t2 y.1 else j2 line t9 t9_2 t9_3 t9_4 t9_5 t9_6 t9_7 t9_8 t9_9 t9_10 t10 false t2 y.1 else Option.none else j3 t2
def qm0_ (self1 : List UInt8 -> Int -> List UInt8 -> Int -> List UInt8 -> Int -> List UInt8 -> Int -> List UInt8 -> Int -> List UInt8 -> Int -> Int × Int × List UInt8 -> Option (As [.pr (.int .u8) (.pr (.int .u32) .str), .int .i64])) (line : List UInt8) (t9 : Int) (t9_2 : List UInt8) (t9_3 : Int) (t9_4 : List UInt8) (t9_5 : Int) (t9_6 : List UInt8) (t9_7 : Int) (t9_8 : List UInt8) (t9_9 : Int) (t9_10 : List UInt8) (t10 : Int) (t35 : Bool) (t2 o : Int × Int × List UInt8) : Option (As [.pr (.int .u8) (.pr (.int .u32) .str), .int .i64]) :=
  if t35 = true then some (o, 0, ()) else self1 line t9 t9_2 t9_3 t9_4 t9_5 t9_6 t9_7 t9_8 t9_9 t9_10 (add .i64 t10 1) t2
def qm6_ (t2 : Int × Int × List UInt8) : Option (As [.pr (.int .u8) (.pr (.int .u32) .str), .int .i64]) :=
  some ((0, 0, []), 280, ())
def qm1_ (j1 : List UInt8 -> Int -> List UInt8 -> Int -> List UInt8 -> Int -> List UInt8 -> Int -> List UInt8 -> Int -> List UInt8 -> Int -> Int × Int × List UInt8 -> Option (As [.pr (.int .u8) (.pr (.int .u32) .str), .int .i64])) (line : List UInt8) : Option (As [.pr (.int .u8) (.pr (.int .u32) .str), .int .i64]) :=
  j1 line 1 [115, 117, 98, 109, 105, 116] 2 [99, 97, 110, 99, 101, 108] 3 [115, 116, 97, 116, 117, 115] 4 [104, 105, 115, 116, 111, 114, 121] 5 [115, 108, 97, 118, 101, 115] 0 (0, 0, [])
def qg8_ (u1 : List UInt8 -> Int -> List UInt8 -> Int -> List UInt8 -> Int -> List UInt8 -> Int -> List UInt8 -> Int -> List UInt8 -> Int -> Int × Int × List UInt8 -> Option (As [.pr (.int .u8) (.pr (.int .u32) .str), .int .i64])) (line : List UInt8) (t9 : Int) (t9_2 : List UInt8) (t9_3 : Int) (t9_4 : List UInt8) (t9_5 : Int) (t9_6 : List UInt8) (t9_7 : Int) (t9_8 : List UInt8) (t9_9 : Int) (t9_10 : List UInt8) (t10 : Int) (t35 : Bool) (t2 o : Int × Int × List UInt8) : Option (As [.pr (.int .u8) (.pr (.int .u32) .str), .int .i64]) := qm0_ u1 line t9 t9_2 t9_3 t9_4 t9_5 t9_6 t9_7 t9_8 t9_9 t9_10 t10 t35 t2 o
def qg6_ (t2 : Int × Int × List UInt8) : Option (As [.pr (.int .u8) (.pr (.int .u32) .str), .int .i64]) := qm6_ t2
def qkm_ (line : List UInt8) (t9 : Int) (t9_2 : List UInt8) (t9_3 : Int) (t9_4 : List UInt8) (t9_5 : Int) (t9_6 : List UInt8) (t9_7 : Int) (t9_8 : List UInt8) (t9_9 : Int) (t9_10 : List UInt8) (t10 : Int) (t2 : Int × Int × List UInt8) : Option (As [.pr (.int .u8) (.pr (.int .u32) .str), .int .i64]) :=
  loopF (fun (self : (List UInt8) × (Int) × (List UInt8) × (Int) × (List UInt8) × (Int) × (List UInt8) × (Int) × (List UInt8) × (Int) × (List UInt8) × (Int) × (Int × Int × List UInt8) -> Option (As [.pr (.int .u8) (.pr (.int .u32) .str), .int .i64])) (s : (List UInt8) × (Int) × (List UInt8) × (Int) × (List UInt8) × (Int) × (List UInt8) × (Int) × (List UInt8) × (Int) × (List UInt8) × (Int) × (Int × Int × List UInt8)) => ql0_ (qg8_ (fun line t9 t9_2 t9_3 t9_4 t9_5 t9_6 t9_7 t9_8 t9_9 t9_10 t10 t2 => self (line, t9, t9_2, t9_3, t9_4, t9_5, t9_6, t9_7, t9_8, t9_9, t9_10, t10, t2))) (qg6_) (fun line t9 t9_2 t9_3 t9_4 t9_5 t9_6 t9_7 t9_8 t9_9 t9_10 t10 t2 => self (line, t9, t9_2, t9_3, t9_4, t9_5, t9_6, t9_7, t9_8, t9_9, t9_10, t10, t2)) s.1 s.2.1 s.2.2.1 s.2.2.2.1 s.2.2.2.2.1 s.2.2.2.2.2.1 s.2.2.2.2.2.2.1 s.2.2.2.2.2.2.2.1 s.2.2.2.2.2.2.2.2.1 s.2.2.2.2.2.2.2.2.2.1 s.2.2.2.2.2.2.2.2.2.2.1 s.2.2.2.2.2.2.2.2.2.2.2.1 s.2.2.2.2.2.2.2.2.2.2.2.2) 18446744073709551616 (line, t9, t9_2, t9_3, t9_4, t9_5, t9_6, t9_7, t9_8, t9_9, t9_10, t10, t2)
def q9f_ (x : As [.str]) : Option (As [.pr (.int .u8) (.pr (.int .u32) .str), .int .i64]) := qm1_ qkm_ x.1
theorem qoa_  (J w1 line t9 t9_2 t9_3 t9_4 t9_5 t9_6 t9_7 t9_8 t9_9 t9_10 t10 t35 t2 o) : pfn Tryz.prog q6w_ 6 18446744073709551616 (Ev.get q6x_) 5 q57_ J 13519 [w1] (qg1_ line t9 t9_2 t9_3 t9_4 t9_5 t9_6 t9_7 t9_8 t9_9 t9_10 t10 t35 t2 o) = qm0_ (fun line t9 t9_2 t9_3 t9_4 t9_5 t9_6 t9_7 t9_8 t9_9 t9_10 t10 t2 => w1 (q83_ line t9 t9_2 t9_3 t9_4 t9_5 t9_6 t9_7 t9_8 t9_9 t9_10 t10 t2)) line t9 t9_2 t9_3 t9_4 t9_5 t9_6 t9_7 t9_8 t9_9 t9_10 t10 t35 t2 o := by kernel_rfl
theorem qoy_  (J t2) : pfn Tryz.prog q6w_ 6 18446744073709551616 (Ev.get q6x_) 5 q57_ J 3 [] (qge_ t2) = qm6_ t2 := by kernel_rfl
theorem qom_  (J w1 line t9 t9_2 t9_3 t9_4 t9_5 t9_6 t9_7 t9_8 t9_9 t9_10 t10 t2) : pfn Tryz.prog q6w_ 6 18446744073709551616 (Ev.get q6x_) 5 q57_ J 26 [w1] (q83_ line t9 t9_2 t9_3 t9_4 t9_5 t9_6 t9_7 t9_8 t9_9 t9_10 t10 t2) = ql0_ (fun line t9 t9_2 t9_3 t9_4 t9_5 t9_6 t9_7 t9_8 t9_9 t9_10 t10 t35 t2 o => J 13519 [w1] (qg1_ line t9 t9_2 t9_3 t9_4 t9_5 t9_6 t9_7 t9_8 t9_9 t9_10 t10 t35 t2 o)) (fun t2 => J 3 [] (qge_ t2)) (fun line t9 t9_2 t9_3 t9_4 t9_5 t9_6 t9_7 t9_8 t9_9 t9_10 t10 t2 => w1 (q83_ line t9 t9_2 t9_3 t9_4 t9_5 t9_6 t9_7 t9_8 t9_9 t9_10 t10 t2)) line t9 t9_2 t9_3 t9_4 t9_5 t9_6 t9_7 t9_8 t9_9 t9_10 t10 t2 := by kernel_rfl
theorem qo6_ (J : Orc (As [.pr (.int .u8) (.pr (.int .u32) .str), .int .i64])) (x : As [.str]) : rfn Tryz.prog q6w_ 6 18446744073709551616 (Ev.get q6x_) 5 q57_ J x = qm1_ (fun line t9 t9_2 t9_3 t9_4 t9_5 t9_6 t9_7 t9_8 t9_9 t9_10 t10 t2 => J 26 [] (q83_ line t9 t9_2 t9_3 t9_4 t9_5 t9_6 t9_7 t9_8 t9_9 t9_10 t10 t2)) x.1 := by kernel_rfl
theorem qoj_  (w1 line t9 t9_2 t9_3 t9_4 t9_5 t9_6 t9_7 t9_8 t9_9 t9_10 t10 t35 t2 o) : jfn Tryz.prog q6w_ 6 18446744073709551616 (Ev.get q6x_) 5 q57_ 13519 [w1] (qg1_ line t9 t9_2 t9_3 t9_4 t9_5 t9_6 t9_7 t9_8 t9_9 t9_10 t10 t35 t2 o) = qg8_ (fun line t9 t9_2 t9_3 t9_4 t9_5 t9_6 t9_7 t9_8 t9_9 t9_10 t10 t2 => w1 (q83_ line t9 t9_2 t9_3 t9_4 t9_5 t9_6 t9_7 t9_8 t9_9 t9_10 t10 t2)) line t9 t9_2 t9_3 t9_4 t9_5 t9_6 t9_7 t9_8 t9_9 t9_10 t10 t35 t2 o := by
  rw [qi_ (by decide)]
  rw [qoa_]
  rfl
theorem qo5_  (t2) : jfn Tryz.prog q6w_ 6 18446744073709551616 (Ev.get q6x_) 5 q57_ 3 [] (qge_ t2) = qg6_ t2 := by
  rw [qi_ (by decide)]
  rw [qoy_]
  rfl
theorem qo7_  (line t9 t9_2 t9_3 t9_4 t9_5 t9_6 t9_7 t9_8 t9_9 t9_10 t10 t2) : jfn Tryz.prog q6w_ 6 18446744073709551616 (Ev.get q6x_) 5 q57_ 26 [] (q83_ line t9 t9_2 t9_3 t9_4 t9_5 t9_6 t9_7 t9_8 t9_9 t9_10 t10 t2) = qkm_ line t9 t9_2 t9_3 t9_4 t9_5 t9_6 t9_7 t9_8 t9_9 t9_10 t10 t2 := by
  rw [qi_ (by decide)]
  rw [q2a_ (by kernel_rfl)]
  refine q1c_ (σ := (List UInt8) × (Int) × (List UInt8) × (Int) × (List UInt8) × (Int) × (List UInt8) × (Int) × (List UInt8) × (Int) × (List UInt8) × (Int) × (Int × Int × List UInt8)) (mk := fun s => q83_ s.1 s.2.1 s.2.2.1 s.2.2.2.1 s.2.2.2.2.1 s.2.2.2.2.2.1 s.2.2.2.2.2.2.1 s.2.2.2.2.2.2.2.1 s.2.2.2.2.2.2.2.2.1 s.2.2.2.2.2.2.2.2.2.1 s.2.2.2.2.2.2.2.2.2.2.1 s.2.2.2.2.2.2.2.2.2.2.2.1 s.2.2.2.2.2.2.2.2.2.2.2.2) (fun w1 s => ?_) 18446744073709551616 (line, t9, t9_2, t9_3, t9_4, t9_5, t9_6, t9_7, t9_8, t9_9, t9_10, t10, t2)
  have e2 : (fun line t9 t9_2 t9_3 t9_4 t9_5 t9_6 t9_7 t9_8 t9_9 t9_10 t10 t35 t2 o => (jfn Tryz.prog q6w_ 6 18446744073709551616 (Ev.get q6x_) 5 q57_) 13519 [w1] (qg1_ line t9 t9_2 t9_3 t9_4 t9_5 t9_6 t9_7 t9_8 t9_9 t9_10 t10 t35 t2 o)) = qg8_ (fun line t9 t9_2 t9_3 t9_4 t9_5 t9_6 t9_7 t9_8 t9_9 t9_10 t10 t2 => w1 (q83_ line t9 t9_2 t9_3 t9_4 t9_5 t9_6 t9_7 t9_8 t9_9 t9_10 t10 t2)) := by funext line t9 t9_2 t9_3 t9_4 t9_5 t9_6 t9_7 t9_8 t9_9 t9_10 t10 t35 t2 o; exact qoj_ w1 line t9 t9_2 t9_3 t9_4 t9_5 t9_6 t9_7 t9_8 t9_9 t9_10 t10 t35 t2 o
  have e3 : (fun t2 => (jfn Tryz.prog q6w_ 6 18446744073709551616 (Ev.get q6x_) 5 q57_) 3 [] (qge_ t2)) = qg6_ := funext fun t2 => qo5_ t2
  refine (qom_ _ w1 s.1 s.2.1 s.2.2.1 s.2.2.2.1 s.2.2.2.2.1 s.2.2.2.2.2.1 s.2.2.2.2.2.2.1 s.2.2.2.2.2.2.2.1 s.2.2.2.2.2.2.2.2.1 s.2.2.2.2.2.2.2.2.2.1 s.2.2.2.2.2.2.2.2.2.2.1 s.2.2.2.2.2.2.2.2.2.2.2.1 s.2.2.2.2.2.2.2.2.2.2.2.2).trans ?_
  rw [e2, e3]
theorem qq7_ (x : As [.str]) : evT Tryz.prog q6w_ 6 18446744073709551616 (Ev.get q6x_) 5 q57_ x = q9f_ x := by
  have e1 : (fun line t9 t9_2 t9_3 t9_4 t9_5 t9_6 t9_7 t9_8 t9_9 t9_10 t10 t2 => (jfn Tryz.prog q6w_ 6 18446744073709551616 (Ev.get q6x_) 5 q57_) 26 [] (q83_ line t9 t9_2 t9_3 t9_4 t9_5 t9_6 t9_7 t9_8 t9_9 t9_10 t10 t2)) = qkm_ := by funext line t9 t9_2 t9_3 t9_4 t9_5 t9_6 t9_7 t9_8 t9_9 t9_10 t10 t2; exact qo7_ line t9 t9_2 t9_3 t9_4 t9_5 t9_6 t9_7 t9_8 t9_9 t9_10 t10 t2
  rw [q3s_, qo6_, e1]
  rfl
theorem qky_ : CtOk Tryz.prog I0 5 ⟨q57_, q9f_⟩ := ct_of_ev (env_cons qeu_ (env_cons qlz_ (env_cons qlb_ (env_cons qku_ (env_cons qkb_ env_nil))))) qq7_
@[reducible] def qlr_ : Sh := ⟨[.d (.pr (.int .i64) (.int .i64))], [], [.pr (.int .i64) (.int .i64)], [.d (.str)], [], 0, [.str]⟩
def qif_ (f : Int × Int) : Option (As [.str]) :=
  Option.bind (strconv_Itoa (f.1, ())) fun (y : List UInt8 × Unit) => need (small (8 + List.length y.1)) (if gt f.2 0 = true then Option.bind (strconv_Itoa (f.2, ())) fun (y_1 : List UInt8 × Unit) => need (small (6 + List.length y_1.1)) (need (small (Nat.succ (Nat.succ (Nat.succ (Nat.succ (Nat.succ (Nat.succ (Nat.succ (Nat.succ (List.length y.1)))))))) + Nat.succ (Nat.succ (Nat.succ (Nat.succ (Nat.succ (Nat.succ (List.length y_1.1)))))))) (some (114 :: 101 :: 102 :: 117 :: 115 :: 101 :: 100 :: 32 :: (y.1 ++ (32 :: 108 :: 105 :: 110 :: 101 :: 32 :: y_1.1)), ()))) else some (114 :: 101 :: 102 :: 117 :: 115 :: 101 :: 100 :: 32 :: y.1, ()))
def qe1_ (x : As [.pr (.int .i64) (.int .i64)]) : Option (As [.str]) := qif_ x.1
theorem qlh_ : CtOk Tryz.prog I0 7 ⟨qlr_, qe1_⟩ := ctn (env_cons strconv_Itoa_ok env_nil) 6 fun J x => by kernel_rfl
@[reducible] def qme_ : Sh := ⟨[.d TZT0, .d (.int .u32)], [], [.pr (.int .u32) TZT2, .int .u32], [.d (.int .i64)], [], 0, [.int .i64]⟩
def qkl_ (j : Int × Int × List Int × Int) (tx : Int) : Option (As [.int .i64]) :=
  if lt j.1 tx = true then some (-1, ()) else if gt j.1 tx = true then some (1, ()) else some (0, ())
def qh2_ (x : As [.pr (.int .u32) TZT2, .int .u32]) : Option (As [.int .i64]) := qkl_ x.1 x.2.1
theorem qm3_ : CtOk Tryz.prog I0 61 ⟨qme_, qh2_⟩ := ctn env_nil 6 fun J x => by kernel_rfl
@[reducible] def q1p_ : Sh := ⟨[.d (.sl TZT0), .d (.int .u32), .fn (.func 61) [] []], [], [.sl TZT0, .int .u32], [.d (.int .i64), .d (.bool)], [], 0, [.int .i64, .bool]⟩
def q2b_ : Env := (cts [(61, (⟨qme_, qh2_⟩ : Ct))])
def q2c_ : List (Nat × Hint) := [(15, ⟨[], [0, 1, 2, 8, 9, 40, 41, 42, 43, 44, 45, 46, 47]⟩), (60, ⟨[], [0, 1, 2, 8, 9, 10, 40, 41, 42, 43, 44, 45, 46, 47]⟩)]
def q3i_ (x : List TZT1) (target n i j : Int) : St := { fr := [(0, .d (.sl TZT0) x), (1, .d (.int .u32) target), (2, .fn (.func 61) [] []), (8, .d (.int .i64) n), (9, .d (.int .i64) i), (10, .d (.int .i64) j)], nt := 49, up := [], own := [], nx := 0, log := [], ln := 0 }
def q6o_ (x : List TZT1) (target n i : Int) : St := { fr := [(0, .d (.sl TZT0) x), (1, .d (.int .u32) target), (2, .fn (.func 61) [] []), (8, .d (.int .i64) n), (9, .d (.int .i64) i)], nt := 49, up := [], own := [], nx := 0, log := [], ln := 0 }
def q6l_ (j2 : List TZT1 -> Int -> Int -> Int -> Option (As [.int .i64, .bool])) (self1 : List TZT1 -> Int -> Int -> Int -> Int -> Option (As [.int .i64, .bool])) (x : List TZT1) (target n i j : Int) : Option (As [.int .i64, .bool]) :=
  if lt i j = true then Option.bind (at? x (cvt .i64 (Sx.shr .u64 (cvt .u64 (add .i64 i j)) 1))) fun (y : Int × Int × List Int × Int) => Option.bind (qh2_ (y, target, ())) fun (y : Int × Unit) => if lt y.1 0 = true then self1 x target n (add .i64 (cvt .i64 (Sx.shr .u64 (cvt .u64 (add .i64 i j)) 1)) 1) j else self1 x target n i (cvt .i64 (Sx.shr .u64 (cvt .u64 (add .i64 i j)) 1)) else j2 x target n i
def q8k_ (x : List TZT1) (target n i : Int) : Option (As [.int .i64, .bool]) :=
  if lt i n = true then Option.bind (at? x i) fun (y : Int × Int × List Int × Int) => Option.bind (qh2_ (y, target, ())) fun (y : Int × Unit) => some (i, eqi y.1 0, ()) else some (i, false, ())
def qb2_ (j1 : List TZT1 -> Int -> Int -> Int -> Int -> Option (As [.int .i64, .bool])) (x : List TZT1) (target : Int) : Option (As [.int .i64, .bool]) :=
  j1 x target (Int.ofNat (List.length x)) 0 (Int.ofNat (List.length x))
def q4v_ (x : List TZT1) (target n i : Int) : Option (As [.int .i64, .bool]) := q8k_ x target n i
def q4u_ (x : List TZT1) (target n i j : Int) : Option (As [.int .i64, .bool]) :=
  loopF (fun (self : (List TZT1) × (Int) × (Int) × (Int) × (Int) -> Option (As [.int .i64, .bool])) (s : (List TZT1) × (Int) × (Int) × (Int) × (Int)) => q6l_ (q4v_) (fun x target n i j => self (x, target, n, i, j)) s.1 s.2.1 s.2.2.1 s.2.2.2.1 s.2.2.2.2) 18446744073709551616 (x, target, n, i, j)
def q4h_ (x : As [.sl TZT0, .int .u32]) : Option (As [.int .i64, .bool]) := qb2_ q4u_ x.1 x.2.1
theorem qik_  (J x target n i) : pfn Tryz.prog q2b_ 6 18446744073709551616 (Ev.get q2c_) 60 q1p_ J 15 [] (q6o_ x target n i) = q8k_ x target n i := by kernel_rfl
theorem qiy_  (J w1 x target n i j) : pfn Tryz.prog q2b_ 6 18446744073709551616 (Ev.get q2c_) 60 q1p_ J 60 [w1] (q3i_ x target n i j) = q6l_ (fun x target n i => J 15 [] (q6o_ x target n i)) (fun x target n i j => w1 (q3i_ x target n i j)) x target n i j := by kernel_rfl
theorem qij_ (J : Orc (As [.int .i64, .bool])) (x : As [.sl TZT0, .int .u32]) : rfn Tryz.prog q2b_ 6 18446744073709551616 (Ev.get q2c_) 60 q1p_ J x = qb2_ (fun x target n i j => J 60 [] (q3i_ x target n i j)) x.1 x.2.1 := by kernel_rfl
theorem qim_  (x target n i) : jfn Tryz.prog q2b_ 6 18446744073709551616 (Ev.get q2c_) 60 q1p_ 15 [] (q6o_ x target n i) = q4v_ x target n i := by
  rw [qi_ (by decide)]
  rw [qik_]
  rfl
theorem qie_  (x target n i j) : jfn Tryz.prog q2b_ 6 18446744073709551616 (Ev.get q2c_) 60 q1p_ 60 [] (q3i_ x target n i j) = q4u_ x target n i j := by
  rw [qi_ (by decide)]
  rw [q2a_ (by kernel_rfl)]
  refine q1c_ (σ := (List TZT1) × (Int) × (Int) × (Int) × (Int)) (mk := fun s => q3i_ s.1 s.2.1 s.2.2.1 s.2.2.2.1 s.2.2.2.2) (fun w1 s => ?_) 18446744073709551616 (x, target, n, i, j)
  have e2 : (fun x target n i => (jfn Tryz.prog q2b_ 6 18446744073709551616 (Ev.get q2c_) 60 q1p_) 15 [] (q6o_ x target n i)) = q4v_ := by funext x target n i; exact qim_ x target n i
  refine (qiy_ _ w1 s.1 s.2.1 s.2.2.1 s.2.2.2.1 s.2.2.2.2).trans ?_
  rw [e2]
theorem qjf_ (x : As [.sl TZT0, .int .u32]) : evT Tryz.prog q2b_ 6 18446744073709551616 (Ev.get q2c_) 60 q1p_ x = q4h_ x := by
  have e1 : (fun x target n i j => (jfn Tryz.prog q2b_ 6 18446744073709551616 (Ev.get q2c_) 60 q1p_) 60 [] (q3i_ x target n i j)) = q4u_ := by funext x target n i j; exact qie_ x target n i j
  rw [q3s_, qij_, e1]
  rfl
theorem qi9_ : CtOk Tryz.prog I0 60 ⟨q1p_, q4h_⟩ := ct_of_ev (env_cons qm3_ env_nil) qjf_
@[reducible] def qnt_ : Sh := ⟨[.d (.sl TZT0), .d (.int .u32)], [], [.sl TZT0, .int .u32], [.d (.int .i64)], [], 0, [.int .i64]⟩
def qqr_ (l : List TZT1) (tx : Int) : Option (As [.int .i64]) :=
  Option.bind (q4h_ (l, tx, ())) fun (y : Int × Bool × Unit) => some (y.1, ())
def qld_ (x : As [.sl TZT0, .int .u32]) : Option (As [.int .i64]) := qqr_ x.1 x.2.1
theorem qqs_ : CtOk Tryz.prog I0 46 ⟨qnt_, qld_⟩ := ctn (env_cons qi9_ (env_cons qm3_ env_nil)) 6 fun J x => by kernel_rfl
@[reducible] def qcm_ : Sh := ⟨[.d (.sl TZT0), .d (.int .u32)], [], [.sl TZT0, .int .u32], [.d (.int .i64), .d (.bool)], [], 0, [.int .i64, .bool]⟩
def qez_ : Env := (cts [(46, (⟨qnt_, qld_⟩ : Ct))])
def qew_ : List (Nat × Hint) := [(14, ⟨[], [6, 22]⟩)]
def qh8_ (i : Int) (t22 : Bool) : St := { fr := [(6, .d (.int .i64) i), (22, .d .bool t22)], nt := 24, up := [], own := [], nx := 0, log := [], ln := 0 }
def qmg_ (i : Int) (t22 : Bool) : Option (As [.int .i64, .bool]) :=
  if t22 = true then some (0, false, ()) else some (i, true, ())
def qbq_ (j1 : Int -> Bool -> Option (As [.int .i64, .bool])) (l : List TZT1) (tx : Int) : Option (As [.int .i64, .bool]) :=
  Option.bind (qld_ (l, tx, ())) fun (y : Int × Unit) => if ge y.1 (Int.ofNat (List.length l)) = true then j1 y.1 true else Option.bind (at? l y.1) fun (y_1 : Int × Int × List Int × Int) => j1 y.1 (nei y_1.1 tx)
def qdw_ (i : Int) (t22 : Bool) : Option (As [.int .i64, .bool]) := qmg_ i t22
def qje_ (x : As [.sl TZT0, .int .u32]) : Option (As [.int .i64, .bool]) := qbq_ qdw_ x.1 x.2.1
theorem qpn_  (J i t22) : pfn Tryz.prog qez_ 6 18446744073709551616 (Ev.get qew_) 26 qcm_ J 14 [] (qh8_ i t22) = qmg_ i t22 := by kernel_rfl
theorem qpr_ (J : Orc (As [.int .i64, .bool])) (x : As [.sl TZT0, .int .u32]) : rfn Tryz.prog qez_ 6 18446744073709551616 (Ev.get qew_) 26 qcm_ J x = qbq_ (fun i t22 => J 14 [] (qh8_ i t22)) x.1 x.2.1 := by kernel_rfl
theorem qpk_  (i t22) : jfn Tryz.prog qez_ 6 18446744073709551616 (Ev.get qew_) 26 qcm_ 14 [] (qh8_ i t22) = qdw_ i t22 := by
  rw [qi_ (by decide)]
  rw [qpn_]
  rfl
theorem qqf_ (x : As [.sl TZT0, .int .u32]) : evT Tryz.prog qez_ 6 18446744073709551616 (Ev.get qew_) 26 qcm_ x = qje_ x := by
  have e1 : (fun i t22 => (jfn Tryz.prog qez_ 6 18446744073709551616 (Ev.get qew_) 26 qcm_) 14 [] (qh8_ i t22)) = qdw_ := by funext i t22; exact qpk_ i t22
  rw [q3s_, qpr_, e1]
  rfl
theorem qpq_ : CtOk Tryz.prog I0 26 ⟨qcm_, qje_⟩ := ct_of_ev (env_cons qqs_ env_nil) qqf_
@[reducible] def q7w_ : Sh := ⟨[.d (.sl (.int .u32)), .d (.int .u32)], [], [.sl (.int .u32), .int .u32], [.d (.int .i64)], [], 0, [.int .i64]⟩
def q8s_ : Env := (cts [])
def q8t_ : List (Nat × Hint) := [(26, ⟨[], [0, 1, 7, 8]⟩)]
def q7c_ (s : List Int) (v t7 t8 : Int) : St := { fr := [(0, .d (.sl (.int .u32)) s), (1, .d (.int .u32) v), (7, .d (.int .i64) t7), (8, .d (.int .i64) t8)], nt := 19, up := [], own := [], nx := 0, log := [], ln := 0 }
def q7b_ (self1 : List Int -> Int -> Int -> Int -> Option (As [.int .i64])) (s : List Int) (v t7 t8 : Int) : Option (As [.int .i64]) :=
  if lt t8 t7 = true then Option.bind (at? s t8) fun (y : Int) => if eqi v y = true then some (t8, ()) else self1 s v t7 (add .i64 t8 1) else some (-1, ())
def qi4_ (j1 : List Int -> Int -> Int -> Int -> Option (As [.int .i64])) (s : List Int) (v : Int) : Option (As [.int .i64]) :=
  j1 s v (Int.ofNat (List.length s)) 0
def q8i_ (s : List Int) (v t7 t8 : Int) : Option (As [.int .i64]) :=
  loopF (fun (self : (List Int) × (Int) × (Int) × (Int) -> Option (As [.int .i64])) (s : (List Int) × (Int) × (Int) × (Int)) => q7b_ (fun s v t7 t8 => self (s, v, t7, t8)) s.1 s.2.1 s.2.2.1 s.2.2.2) 18446744073709551616 (s, v, t7, t8)
def qbf_ (x : As [.sl (.int .u32), .int .u32]) : Option (As [.int .i64]) := qi4_ q8i_ x.1 x.2.1
theorem qlx_  (J w1 s v t7 t8) : pfn Tryz.prog q8s_ 6 18446744073709551616 (Ev.get q8t_) 47 q7w_ J 26 [w1] (q7c_ s v t7 t8) = q7b_ (fun s v t7 t8 => w1 (q7c_ s v t7 t8)) s v t7 t8 := by kernel_rfl
theorem qlt_ (J : Orc (As [.int .i64])) (x : As [.sl (.int .u32), .int .u32]) : rfn Tryz.prog q8s_ 6 18446744073709551616 (Ev.get q8t_) 47 q7w_ J x = qi4_ (fun s v t7 t8 => J 26 [] (q7c_ s v t7 t8)) x.1 x.2.1 := by kernel_rfl
theorem qlw_  (s v t7 t8) : jfn Tryz.prog q8s_ 6 18446744073709551616 (Ev.get q8t_) 47 q7w_ 26 [] (q7c_ s v t7 t8) = q8i_ s v t7 t8 := by
  rw [qi_ (by decide)]
  rw [q2a_ (by kernel_rfl)]
  refine q1c_ (σ := (List Int) × (Int) × (Int) × (Int)) (mk := fun s => q7c_ s.1 s.2.1 s.2.2.1 s.2.2.2) (fun w1 s => ?_) 18446744073709551616 (s, v, t7, t8)
  refine (qlx_ _ w1 s.1 s.2.1 s.2.2.1 s.2.2.2).trans ?_
  rfl
theorem qm8_ (x : As [.sl (.int .u32), .int .u32]) : evT Tryz.prog q8s_ 6 18446744073709551616 (Ev.get q8t_) 47 q7w_ x = qbf_ x := by
  have e1 : (fun s v t7 t8 => (jfn Tryz.prog q8s_ 6 18446744073709551616 (Ev.get q8t_) 47 q7w_) 26 [] (q7c_ s v t7 t8)) = q8i_ := by funext s v t7 t8; exact qlw_ s v t7 t8
  rw [q3s_, qlt_, e1]
  rfl
theorem qly_ : CtOk Tryz.prog I0 47 ⟨q7w_, qbf_⟩ := ct_of_ev env_nil qm8_
@[reducible] def qlk_ : Sh := ⟨[.d (.sl (.int .u32)), .d (.int .u32)], [], [.sl (.int .u32), .int .u32], [.d (.bool)], [], 0, [.bool]⟩
def qay_ (s : List Int) (v : Int) : Option (As [.bool]) :=
  Option.bind (qbf_ (s, v, ())) fun (y : Int × Unit) => some (ge y.1 0, ())
def qcl_ (x : As [.sl (.int .u32), .int .u32]) : Option (As [.bool]) := qay_ x.1 x.2.1
theorem qlg_ : CtOk Tryz.prog I0 29 ⟨qlk_, qcl_⟩ := ctn (env_cons qly_ env_nil) 6 fun J x => by kernel_rfl
@[reducible] def qjq_ : Sh := ⟨[.d (.int .u32), .pb 0 0], [.box 26 [.d (.sl (.int .u32))]], [.int .u32, .sl (.int .u32)], [.d (.bool)], [(0, .box 26 [.d (.sl (.int .u32))])], 0, [.bool, .sl (.int .u32)]⟩
def qir_ (tx : Int) (v : List Int) : Option (As [.bool, .sl (.int .u32)]) :=
  Option.bind (qcl_ (v, tx, ())) fun (y : Bool × Unit) => some (y.1, v, ())
def qdx_ (x : As [.int .u32, .sl (.int .u32)]) : Option (As [.bool, .sl (.int .u32)]) := qir_ x.1 x.2.1
theorem qiw_ : CtOk Tryz.prog I0 28 ⟨qjq_, qdx_⟩ := ctn (env_cons qlg_ env_nil) 6 fun J x => by kernel_rfl
@[reducible] def qji_ : Sh := ⟨[.d (.int .u32)], [], [.int .u32], [.d (.bool)], [], 0, [.bool]⟩
def qcj_ (x : Int) : Option (As [.bool]) :=
  some (nei x x, ())
def q9i_ (x : As [.int .u32]) : Option (As [.bool]) := qcj_ x.1
theorem qlu_ : CtOk Tryz.prog I0 53 ⟨qji_, q9i_⟩ := ctn env_nil 6 fun J x => by kernel_rfl
@[reducible] def q2d_ : Sh := ⟨[.d (.sl (.int .u32)), .d (.int .u32)], [], [.sl (.int .u32), .int .u32], [.d (.int .i64), .d (.bool)], [], 0, [.int .i64, .bool]⟩
def q33_ : Env := (cts [(52, (⟨cmp_Less_Guint32_s, qw_⟩ : Ct)), (53, (⟨qji_, q9i_⟩ : Ct))])
def q32_ : List (Nat × Hint) := [(15, ⟨[], [0, 1, 6, 7, 36, 37, 38, 39, 40, 41, 42, 43, 44, 45, 46, 47, 48, 49, 50, 51, 52]⟩), (60, ⟨[], [0, 1, 6, 7, 8, 36, 37, 38, 39, 40, 41, 42, 43, 44, 45, 46, 47, 48, 49, 50, 51, 52]⟩)]
def q4o_ (x : List Int) (target n i j : Int) : St := { fr := [(0, .d (.sl (.int .u32)) x), (1, .d (.int .u32) target), (6, .d (.int .i64) n), (7, .d (.int .i64) i), (8, .d (.int .i64) j)], nt := 54, up := [], own := [], nx := 0, log := [], ln := 0 }
def q82_ (x : List Int) (target n i : Int) : St := { fr := [(0, .d (.sl (.int .u32)) x), (1, .d (.int .u32) target), (6, .d (.int .i64) n), (7, .d (.int .i64) i)], nt := 54, up := [], own := [], nx := 0, log := [], ln := 0 }
def q80_ (j2 : List Int -> Int -> Int -> Int -> Option (As [.int .i64, .bool])) (self1 : List Int -> Int -> Int -> Int -> Int -> Option (As [.int .i64, .bool])) (x : List Int) (target n i j : Int) : Option (As [.int .i64, .bool]) :=
  if lt i j = true then Option.bind (at? x (cvt .i64 (Sx.shr .u64 (cvt .u64 (add .i64 i j)) 1))) fun (y : Int) => Option.bind (qw_ (y, target, ())) fun (y : Bool × Unit) => if y.1 = true then self1 x target n (add .i64 (cvt .i64 (Sx.shr .u64 (cvt .u64 (add .i64 i j)) 1)) 1) j else self1 x target n i (cvt .i64 (Sx.shr .u64 (cvt .u64 (add .i64 i j)) 1)) else j2 x target n i
def q9c_ (x : List Int) (target n i : Int) : Option (As [.int .i64, .bool]) :=
  if lt i n = true then Option.bind (at? x i) fun (y : Int) => if eqi y target = true then some (i, true, ()) else Option.bind (at? x i) fun (y : Int) => Option.bind (q9i_ (y, ())) fun (y : Bool × Unit) => if y.1 = true then Option.bind (q9i_ (target, ())) fun (y : Bool × Unit) => some (i, y.1, ()) else some (i, false, ()) else some (i, false, ())
def qdc_ (j1 : List Int -> Int -> Int -> Int -> Int -> Option (As [.int .i64, .bool])) (x : List Int) (target : Int) : Option (As [.int .i64, .bool]) :=
  j1 x target (Int.ofNat (List.length x)) 0 (Int.ofNat (List.length x))
def q63_ (x : List Int) (target n i : Int) : Option (As [.int .i64, .bool]) := q9c_ x target n i
def q60_ (x : List Int) (target n i j : Int) : Option (As [.int .i64, .bool]) :=
  loopF (fun (self : (List Int) × (Int) × (Int) × (Int) × (Int) -> Option (As [.int .i64, .bool])) (s : (List Int) × (Int) × (Int) × (Int) × (Int)) => q80_ (q63_) (fun x target n i j => self (x, target, n, i, j)) s.1 s.2.1 s.2.2.1 s.2.2.2.1 s.2.2.2.2) 18446744073709551616 (x, target, n, i, j)
def q8n_ (x : As [.sl (.int .u32), .int .u32]) : Option (As [.int .i64, .bool]) := qdc_ q60_ x.1 x.2.1
theorem qkk_  (J x target n i) : pfn Tryz.prog q33_ 6 18446744073709551616 (Ev.get q32_) 35 q2d_ J 15 [] (q82_ x target n i) = q9c_ x target n i := by kernel_rfl
theorem qkt_  (J w1 x target n i j) : pfn Tryz.prog q33_ 6 18446744073709551616 (Ev.get q32_) 35 q2d_ J 60 [w1] (q4o_ x target n i j) = q80_ (fun x target n i => J 15 [] (q82_ x target n i)) (fun x target n i j => w1 (q4o_ x target n i j)) x target n i j := by kernel_rfl
theorem qkx_ (J : Orc (As [.int .i64, .bool])) (x : As [.sl (.int .u32), .int .u32]) : rfn Tryz.prog q33_ 6 18446744073709551616 (Ev.get q32_) 35 q2d_ J x = qdc_ (fun x target n i j => J 60 [] (q4o_ x target n i j)) x.1 x.2.1 := by kernel_rfl
theorem qkf_  (x target n i) : jfn Tryz.prog q33_ 6 18446744073709551616 (Ev.get q32_) 35 q2d_ 15 [] (q82_ x target n i) = q63_ x target n i := by
  rw [qi_ (by decide)]
  rw [qkk_]
  rfl
theorem qkr_  (x target n i j) : jfn Tryz.prog q33_ 6 18446744073709551616 (Ev.get q32_) 35 q2d_ 60 [] (q4o_ x target n i j) = q60_ x target n i j := by
  rw [qi_ (by decide)]
  rw [q2a_ (by kernel_rfl)]
  refine q1c_ (σ := (List Int) × (Int) × (Int) × (Int) × (Int)) (mk := fun s => q4o_ s.1 s.2.1 s.2.2.1 s.2.2.2.1 s.2.2.2.2) (fun w1 s => ?_) 18446744073709551616 (x, target, n, i, j)
  have e2 : (fun x target n i => (jfn Tryz.prog q33_ 6 18446744073709551616 (Ev.get q32_) 35 q2d_) 15 [] (q82_ x target n i)) = q63_ := by funext x target n i; exact qkf_ x target n i
  refine (qkt_ _ w1 s.1 s.2.1 s.2.2.1 s.2.2.2.1 s.2.2.2.2).trans ?_
  rw [e2]
theorem ql1_ (x : As [.sl (.int .u32), .int .u32]) : evT Tryz.prog q33_ 6 18446744073709551616 (Ev.get q32_) 35 q2d_ x = q8n_ x := by
  have e1 : (fun x target n i j => (jfn Tryz.prog q33_ 6 18446744073709551616 (Ev.get q32_) 35 q2d_) 60 [] (q4o_ x target n i j)) = q60_ := by funext x target n i j; exact qkr_ x target n i j
  rw [q3s_, qkx_, e1]
  rfl
theorem qkg_ : CtOk Tryz.prog I0 35 ⟨q2d_, q8n_⟩ := ct_of_ev (env_cons (ct_weak q6i_) (env_cons qlu_ env_nil)) ql1_
@[reducible] def qca_ : Sh := ⟨[.d (.int .u32), .pb 0 0], [.box 26 [.d (.sl (.int .u32))]], [.int .u32, .sl (.int .u32)], [.d (.bool)], [(0, .box 26 [.d (.sl (.int .u32))])], 0, [.bool, .sl (.int .u32)]⟩
def qen_ (tx : Int) (v : List Int) : Option (As [.bool, .sl (.int .u32)]) :=
  Option.bind (q8n_ (v, tx, ())) fun (y : Int × Bool × Unit) => some (y.2.1, v, ())
def q9p_ (x : As [.int .u32, .sl (.int .u32)]) : Option (As [.bool, .sl (.int .u32)]) := qen_ x.1 x.2.1
theorem qeq_ : CtOk Tryz.prog I0 34 ⟨qca_, q9p_⟩ := ctn (env_cons qkg_ env_nil) 6 fun J x => by kernel_rfl
@[reducible] def q8j_ : Sh := ⟨[.d TZT0, .fn (.func 28) [] [.pb 0 0]], [.box 26 [.d (.sl (.int .u32))]], [.pr (.int .u32) TZT2, .sl (.int .u32)], [.d (.str)], [(0, .box 26 [.d (.sl (.int .u32))])], 0, [.str, .sl (.int .u32)]⟩
def qaz_ : Env := (cts [(28, (⟨qjq_, qdx_⟩ : Ct)), (34, (⟨qca_, q9p_⟩ : Ct))])
def qb5_ : List (Nat × Hint) := [(14, ⟨[], [2, 5, 15]⟩)]
def qcp_ (t15 : Bool) (o : List Int) (j : Int × Int × List Int × Int) (reports : List (List UInt8)) : St := { fr := [(2, .pb 1 0), (5, .pb 2 0), (15, .d .bool t15)], nt := 24, up := [], own := [(0, .box 26 [.d (.sl (.int .u32)) o]), (1, .box 44 [.d (.int .u32) j.1, .d (.int .u8) j.2.1, .d (.sl (.int .u8)) j.2.2.1, .d (.int .u8) j.2.2.2]), (2, .row .str 80 reports)], nx := 3, log := [], ln := 1 }
def qh1_ (t15 : Bool) (o : List Int) (j : Int × Int × List Int × Int) (reports : List (List UInt8)) : Option (As [.str, .sl (.int .u32)]) :=
  if t15 = true then some ([119, 97, 105, 116, 105, 110, 103], o, ()) else if ge (cvt .i64 j.2.2.2) 6 = true then some ([], o, ()) else need (lt j.2.2.2 6) (Option.bind (at? reports j.2.2.2) fun (x : List UInt8) => Option.bind (at? reports j.2.2.2) fun (y : List UInt8) => some (y, o, ()))
def qdg_ (j1 : Bool -> List Int -> Int × Int × List Int × Int -> List (List UInt8) -> Option (As [.str, .sl (.int .u32)])) (j : Int × Int × List Int × Int) (waits : List Int) : Option (As [.str, .sl (.int .u32)]) :=
  if eqi j.2.2.2 1 = true then Option.bind (qdx_ (j.1, waits, ())) fun (y : Bool × List Int × Unit) => j1 y.1 y.2.1 j [[], [114, 117, 110, 110, 105, 110, 103], [99, 111, 109, 109, 105, 116, 116, 101, 100], [97, 98, 111, 114, 116, 101, 100], [99, 111, 109, 109, 105, 116, 116, 101, 100, 32, 100, 111, 110, 101], [97, 98, 111, 114, 116, 101, 100, 32, 100, 111, 110, 101]] else j1 false waits j [[], [114, 117, 110, 110, 105, 110, 103], [99, 111, 109, 109, 105, 116, 116, 101, 100], [97, 98, 111, 114, 116, 101, 100], [99, 111, 109, 109, 105, 116, 116, 101, 100, 32, 100, 111, 110, 101], [97, 98, 111, 114, 116, 101, 100, 32, 100, 111, 110, 101]]
def q8y_ (t15 : Bool) (o : List Int) (j : Int × Int × List Int × Int) (reports : List (List UInt8)) : Option (As [.str, .sl (.int .u32)]) := qh1_ t15 o j reports
def qcx_ (x : As [.pr (.int .u32) TZT2, .sl (.int .u32)]) : Option (As [.str, .sl (.int .u32)]) := qdg_ q8y_ x.1 x.2.1
theorem qnb_  (J t15 o j reports) : pfn Tryz.prog qaz_ 6 18446744073709551616 (Ev.get qb5_) 27 q8j_ J 14 [] (qcp_ t15 o j reports) = qh1_ t15 o j reports := by kernel_rfl
theorem qnc_ (J : Orc (As [.str, .sl (.int .u32)])) (x : As [.pr (.int .u32) TZT2, .sl (.int .u32)]) : rfn Tryz.prog qaz_ 6 18446744073709551616 (Ev.get qb5_) 27 q8j_ J x = qdg_ (fun t15 o j reports => J 14 [] (qcp_ t15 o j reports)) x.1 x.2.1 := by kernel_rfl
theorem qnf_  (t15 o j reports) : jfn Tryz.prog qaz_ 6 18446744073709551616 (Ev.get qb5_) 27 q8j_ 14 [] (qcp_ t15 o j reports) = q8y_ t15 o j reports := by
  rw [qi_ (by decide)]
  rw [qnb_]
  rfl
theorem qnr_ (x : As [.pr (.int .u32) TZT2, .sl (.int .u32)]) : evT Tryz.prog qaz_ 6 18446744073709551616 (Ev.get qb5_) 27 q8j_ x = qcx_ x := by
  have e1 : (fun t15 o j reports => (jfn Tryz.prog qaz_ 6 18446744073709551616 (Ev.get qb5_) 27 q8j_) 14 [] (qcp_ t15 o j reports)) = q8y_ := by funext t15 o j reports; exact qnf_ t15 o j reports
  rw [q3s_, qnc_, e1]
  rfl
theorem qle_ : CtOk Tryz.prog I0 27 ⟨q8j_, qcx_⟩ := ct_of_ev (env_cons qiw_ (env_cons qeq_ env_nil)) qnr_
@[reducible] def q8l_ : Sh := ⟨[.d TZT0, .fn (.func 34) [] [.pb 0 0]], [.box 26 [.d (.sl (.int .u32))]], [.pr (.int .u32) TZT2, .sl (.int .u32)], [.d (.str)], [(0, .box 26 [.d (.sl (.int .u32))])], 0, [.str, .sl (.int .u32)]⟩
def qb1_ : Env := (cts [(28, (⟨qjq_, qdx_⟩ : Ct)), (34, (⟨qca_, q9p_⟩ : Ct))])
def qb0_ : List (Nat × Hint) := [(14, ⟨[], [2, 5, 15]⟩)]
def qcs_ (t15 : Bool) (o : List Int) (j : Int × Int × List Int × Int) (reports : List (List UInt8)) : St := { fr := [(2, .pb 1 0), (5, .pb 2 0), (15, .d .bool t15)], nt := 24, up := [], own := [(0, .box 26 [.d (.sl (.int .u32)) o]), (1, .box 44 [.d (.int .u32) j.1, .d (.int .u8) j.2.1, .d (.sl (.int .u8)) j.2.2.1, .d (.int .u8) j.2.2.2]), (2, .row .str 80 reports)], nx := 3, log := [], ln := 1 }
def qgs_ (t15 : Bool) (o : List Int) (j : Int × Int × List Int × Int) (reports : List (List UInt8)) : Option (As [.str, .sl (.int .u32)]) :=
  if t15 = true then some ([119, 97, 105, 116, 105, 110, 103], o, ()) else if ge (cvt .i64 j.2.2.2) 6 = true then some ([], o, ()) else need (lt j.2.2.2 6) (Option.bind (at? reports j.2.2.2) fun (x : List UInt8) => Option.bind (at? reports j.2.2.2) fun (y : List UInt8) => some (y, o, ()))
def qcq_ (j1 : Bool -> List Int -> Int × Int × List Int × Int -> List (List UInt8) -> Option (As [.str, .sl (.int .u32)])) (j : Int × Int × List Int × Int) (waits : List Int) : Option (As [.str, .sl (.int .u32)]) :=
  if eqi j.2.2.2 1 = true then Option.bind (q9p_ (j.1, waits, ())) fun (y : Bool × List Int × Unit) => j1 y.1 y.2.1 j [[], [114, 117, 110, 110, 105, 110, 103], [99, 111, 109, 109, 105, 116, 116, 101, 100], [97, 98, 111, 114, 116, 101, 100], [99, 111, 109, 109, 105, 116, 116, 101, 100, 32, 100, 111, 110, 101], [97, 98, 111, 114, 116, 101, 100, 32, 100, 111, 110, 101]] else j1 false waits j [[], [114, 117, 110, 110, 105, 110, 103], [99, 111, 109, 109, 105, 116, 116, 101, 100], [97, 98, 111, 114, 116, 101, 100], [99, 111, 109, 109, 105, 116, 116, 101, 100, 32, 100, 111, 110, 101], [97, 98, 111, 114, 116, 101, 100, 32, 100, 111, 110, 101]]
def q94_ (t15 : Bool) (o : List Int) (j : Int × Int × List Int × Int) (reports : List (List UInt8)) : Option (As [.str, .sl (.int .u32)]) := qgs_ t15 o j reports
def q9g_ (x : As [.pr (.int .u32) TZT2, .sl (.int .u32)]) : Option (As [.str, .sl (.int .u32)]) := qcq_ q94_ x.1 x.2.1
theorem qne_  (J t15 o j reports) : pfn Tryz.prog qb1_ 6 18446744073709551616 (Ev.get qb0_) 27 q8l_ J 14 [] (qcs_ t15 o j reports) = qgs_ t15 o j reports := by kernel_rfl
theorem qna_ (J : Orc (As [.str, .sl (.int .u32)])) (x : As [.pr (.int .u32) TZT2, .sl (.int .u32)]) : rfn Tryz.prog qb1_ 6 18446744073709551616 (Ev.get qb0_) 27 q8l_ J x = qcq_ (fun t15 o j reports => J 14 [] (qcs_ t15 o j reports)) x.1 x.2.1 := by kernel_rfl
theorem qnh_  (t15 o j reports) : jfn Tryz.prog qb1_ 6 18446744073709551616 (Ev.get qb0_) 27 q8l_ 14 [] (qcs_ t15 o j reports) = q94_ t15 o j reports := by
  rw [qi_ (by decide)]
  rw [qne_]
  rfl
theorem qns_ (x : As [.pr (.int .u32) TZT2, .sl (.int .u32)]) : evT Tryz.prog qb1_ 6 18446744073709551616 (Ev.get qb0_) 27 q8l_ x = q9g_ x := by
  have e1 : (fun t15 o j reports => (jfn Tryz.prog qb1_ 6 18446744073709551616 (Ev.get qb0_) 27 q8l_) 14 [] (qcs_ t15 o j reports)) = q94_ := by funext t15 o j reports; exact qnh_ t15 o j reports
  rw [q3s_, qna_, e1]
  rfl
theorem qlc_ : CtOk Tryz.prog I0 27 ⟨q8l_, q9g_⟩ := ct_of_ev (env_cons qiw_ (env_cons qeq_ env_nil)) qns_
@[reducible] def qmv_ : Sh := ⟨[.d (.sl TZT0), .d (.sl (.int .u32)), .d (.int .u32)], [], [.sl TZT0, .sl (.int .u32), .int .u32], [.d (.str)], [], 0, [.str]⟩
def qe4_ (l : List TZT1) (waits : List Int) (tx : Int) : Option (As [.str]) :=
  Option.bind (qje_ (l, tx, ())) fun (y : Int × Bool × Unit) => if (!y.2.1) = true then some ([117, 110, 107, 110, 111, 119, 110], ()) else Option.bind (at? l y.1) fun (y : Int × Int × List Int × Int) => Option.bind (qcx_ (y, waits, ())) fun (y : List UInt8 × List Int × Unit) => some (y.1, ())
def qah_ (x : As [.sl TZT0, .sl (.int .u32), .int .u32]) : Option (As [.str]) := qe4_ x.1 x.2.1 x.2.2.1
theorem qmb_ : CtOk Tryz.prog I0 13 ⟨qmv_, qah_⟩ := ctn (env_cons qpq_ (env_cons qle_ (env_cons qlc_ (env_cons qiw_ env_nil)))) 6 fun J x => by kernel_rfl
@[reducible] def qqq_ : Sh := ⟨[.d (.str)], [], [.str], [.d (.bool)], [], 0, [.bool]⟩
def qqg_ (s : List UInt8) : Option (As [.bool]) :=
  Option.bind (q9f_ (s, ())) fun (y : (Int × Int × List UInt8) × Int × Unit) => if eqi y.2.1 280 = true then some (eqi y.1.1 0 && (eqi y.1.2.1 0 && (eqs y.1.2.2 [] && true)), ()) else some (false, ())
def qi2_ (x : As [.str]) : Option (As [.bool]) := qqg_ x.1
theorem qqj_ : CtOk Tryz.prog I0 17 ⟨qqq_, qi2_⟩ := ctn (env_cons qky_ env_nil) 6 fun J x => by kernel_rfl
@[reducible] def qmx_ : Sh := ⟨[], [], [], [.d (.bool)], [], 0, [.bool]⟩
def qpe_ : Option (As [.bool]) :=
  Option.bind (q9f_ ([115, 117, 98, 109, 105, 116, 32, 114, 101, 99, 105, 112, 101, 32, 97, 92, 110, 115, 108, 97, 118, 101, 32, 98, 92, 110, 101, 110, 100], ())) fun (y : (Int × Int × List UInt8) × Int × Unit) => Option.bind (q9f_ ([99, 97, 110, 99, 101, 108, 32, 55], ())) fun (y_1 : (Int × Int × List UInt8) × Int × Unit) => if eqi y.2.1 0 = true then if (eqi y.1.1 1 && (eqi y.1.2.1 0 && (eqs y.1.2.2 [114, 101, 99, 105, 112, 101, 32, 97, 10, 115, 108, 97, 118, 101, 32, 98, 10, 101, 110, 100] && true))) = true then if eqi y_1.2.1 0 = true then if (eqi y_1.1.1 2 && (eqi y_1.1.2.1 7 && (eqs y_1.1.2.2 [] && true))) = true then Option.bind (qi2_ ([99, 97, 110, 99, 101, 108, 32, 48, 55], ())) fun (y : Bool × Unit) => if y.1 = true then Option.bind (qi2_ ([99, 97, 110, 99, 101, 108], ())) fun (y : Bool × Unit) => if y.1 = true then Option.bind (qi2_ ([115, 116, 97, 116, 117, 115, 32, 48], ())) fun (y : Bool × Unit) => if y.1 = true then Option.bind (qi2_ ([104, 105, 115, 116, 111, 114, 121, 32], ())) fun (y : Bool × Unit) => if y.1 = true then Option.bind (qi2_ ([115, 117, 98, 109, 105, 116], ())) fun (y : Bool × Unit) => if y.1 = true then Option.bind (qah_ ([(5, 1, [], 1), (7, 1, [], 2)], [7], 5, ())) fun (y : List UInt8 × Unit) => if eqs y.1 [114, 117, 110, 110, 105, 110, 103] = true then Option.bind (qah_ ([(5, 1, [], 1), (7, 1, [], 2)], [7], 7, ())) fun (y : List UInt8 × Unit) => if eqs y.1 [99, 111, 109, 109, 105, 116, 116, 101, 100] = true then Option.bind (qah_ ([(5, 1, [], 1), (7, 1, [], 2)], [], 9, ())) fun (y : List UInt8 × Unit) => if eqs y.1 [117, 110, 107, 110, 111, 119, 110] = true then Option.bind (qe1_ ((140, 3), ())) fun (y : List UInt8 × Unit) => some (eqs y.1 [114, 101, 102, 117, 115, 101, 100, 32, 49, 52, 48, 32, 108, 105, 110, 101, 32, 51], ()) else some (false, ()) else some (false, ()) else some (false, ()) else some (false, ()) else some (false, ()) else some (false, ()) else some (false, ()) else some (false, ()) else some (false, ()) else some (false, ()) else some (false, ()) else some (false, ())
def qdn_ (x : As []) : Option (As [.bool]) := qpe_
theorem qq6_ : CtOk Tryz.prog I0 4 ⟨qmx_, qdn_⟩ := ctn (env_cons qky_ (env_cons qlh_ (env_cons qmb_ (env_cons qqj_ env_nil)))) 6 fun J x => by kernel_rfl
@[reducible] def q2l_ : Sh := ⟨[.d TZT3], [], [.pr (.int .u8) (.pr (.int .u32) .str)], [.d (.bool)], [], 0, [.bool]⟩
def q3o_ : Env := (cts [])
def q3r_ : List (Nat × Hint) := [(3, ⟨[], [1, 46, 47, 48, 54, 55, 56, 62, 63, 64, 67, 68, 69, 72, 73, 74]⟩), (14, ⟨[], [1, 49, 54, 55, 56, 62, 63, 64, 67, 68, 69, 72, 73, 74]⟩), (26, ⟨[], [1, 37, 38, 39, 40]⟩), (210, ⟨[], [1, 3, 20, 21, 22, 23, 24, 27, 28, 29, 30, 31, 37, 38, 39, 40]⟩), (3364, ⟨[.agd 21 .str, .agd 22 (.int .i64), .agd 23 (.int .u8), .agd 24 .bool, .agd 28 .str, .agd 29 (.int .i64), .agd 30 (.int .u8), .agd 31 .bool], [1, 3, 32]⟩)]
def q8f_ (i : Int) (o : Int × Int × List UInt8) : St := { fr := [(1, .pb 0 0), (3, .d (.int .i64) i)], nt := 76, up := [], own := [(0, .box 24 [.d (.int .u8) o.1, .d (.int .u32) o.2.1, .d .str o.2.2])], nx := 1, log := [], ln := 0 }
def qht_ (o : Int × Int × List UInt8) : St := { fr := [(1, .pb 0 0)], nt := 76, up := [], own := [(0, .box 24 [.d (.int .u8) o.1, .d (.int .u32) o.2.1, .d .str o.2.2])], nx := 1, log := [], ln := 0 }
def qhq_ (i : Int) (t32 : Bool) (o : Int × Int × List UInt8) : St := { fr := [(1, .pb 0 0), (3, .d (.int .i64) i), (32, .d .bool t32)], nt := 76, up := [], own := [(0, .box 24 [.d (.int .u8) o.1, .d (.int .u32) o.2.1, .d .str o.2.2])], nx := 1, log := [], ln := 0 }
def qhc_ (o : Int × Int × List UInt8) : St := { fr := [(1, .pb 0 0)], nt := 76, up := [], own := [(0, .box 24 [.d (.int .u8) o.1, .d (.int .u32) o.2.1, .d .str o.2.2])], nx := 1, log := [], ln := 0 }
def qhs_ (t49 : Bool) (o : Int × Int × List UInt8) : St := { fr := [(1, .pb 0 0), (49, .d .bool t49)], nt := 76, up := [], own := [(0, .box 24 [.d (.int .u8) o.1, .d (.int .u32) o.2.1, .d .str o.2.2])], nx := 1, log := [], ln := 0 }
def qa2_ (j3 : Int -> Bool -> Int × Int × List UInt8 -> Option (As [.bool])) (j4 : Int × Int × List UInt8 -> Option (As [.bool])) (self1 : Int -> Int × Int × List UInt8 -> Option (As [.bool])) (i : Int) (o : Int × Int × List UInt8) : Option (As [.bool]) :=
  if lt i (Int.ofNat (List.length o.2.2)) = true then Option.bind (at? o.2.2 i) fun (c : UInt8) => if lt (Int.ofNat (UInt8.toNat c)) 32 = true then Option.bind (at? o.2.2 i) fun (c : UInt8) => j3 i (nei (Int.ofNat (UInt8.toNat c)) 10) o else Option.bind (at? o.2.2 i) fun (c : UInt8) => if gt (Int.ofNat (UInt8.toNat c)) 126 = true then Option.bind (at? o.2.2 i) fun (c : UInt8) => j3 i (nei (Int.ofNat (UInt8.toNat c)) 10) o else j3 i false o else j4 o
def qi1_ (j5 : Bool -> Int × Int × List UInt8 -> Option (As [.bool])) (o : Int × Int × List UInt8) : Option (As [.bool]) :=
  if eqi o.1 2 = true then j5 true o else j5 (eqi o.1 3) o
def ql7_ (self1 : Int -> Int × Int × List UInt8 -> Option (As [.bool])) (i : Int) (t32 : Bool) (o : Int × Int × List UInt8) : Option (As [.bool]) :=
  if t32 = true then some (false, ()) else self1 (add .i64 i 1) o
def ql6_ (o : Int × Int × List UInt8) : Option (As [.bool]) :=
  if eqi o.2.1 0 = true then some (le (Int.ofNat (List.length o.2.2)) 8192, ()) else some (false, ())
def ql8_ (t49 : Bool) (o : Int × Int × List UInt8) : Option (As [.bool]) :=
  if t49 = true then if gt o.2.1 0 = true then some (eqs o.2.2 [], ()) else some (false, ()) else if eqi o.1 4 = true then if eqi o.2.1 0 = true then some (eqs o.2.2 [], ()) else some (false, ()) else if eqi o.1 5 = true then if eqi o.2.1 0 = true then some (eqs o.2.2 [], ()) else some (false, ()) else some (false, ())
def qhh_ (j1 : Int -> Int × Int × List UInt8 -> Option (As [.bool])) (j2 : Int × Int × List UInt8 -> Option (As [.bool])) (o : Int × Int × List UInt8) : Option (As [.bool]) :=
  if eqi o.1 1 = true then j1 0 o else j2 o
def qbp_ (u1 : Int -> Int × Int × List UInt8 -> Option (As [.bool])) (i : Int) (t32 : Bool) (o : Int × Int × List UInt8) : Option (As [.bool]) := ql7_ u1 i t32 o
def qa6_ (o : Int × Int × List UInt8) : Option (As [.bool]) := ql6_ o
def qdy_ (i : Int) (o : Int × Int × List UInt8) : Option (As [.bool]) :=
  loopF (fun (self : (Int) × (Int × Int × List UInt8) -> Option (As [.bool])) (s : (Int) × (Int × Int × List UInt8)) => qa2_ (qbp_ (fun i o => self (i, o))) (qa6_) (fun i o => self (i, o)) s.1 s.2) 18446744073709551616 (i, o)
def qbr_ (t49 : Bool) (o : Int × Int × List UInt8) : Option (As [.bool]) := ql8_ t49 o
def qhg_ (o : Int × Int × List UInt8) : Option (As [.bool]) := qi1_ (qbr_) o
def qdl_ (x : As [.pr (.int .u8) (.pr (.int .u32) .str)]) : Option (As [.bool]) := qhh_ qdy_ qhg_ x.1
theorem qp9_  (J w1 i t32 o) : pfn Tryz.prog q3o_ 6 18446744073709551616 (Ev.get q3r_) 10 q2l_ J 3364 [w1] (qhq_ i t32 o) = ql7_ (fun i o => w1 (q8f_ i o)) i t32 o := by kernel_rfl
theorem qp2_  (J o) : pfn Tryz.prog q3o_ 6 18446744073709551616 (Ev.get q3r_) 10 q2l_ J 26 [] (qhc_ o) = ql6_ o := by kernel_rfl
theorem qq5_  (J w1 i o) : pfn Tryz.prog q3o_ 6 18446744073709551616 (Ev.get q3r_) 10 q2l_ J 210 [w1] (q8f_ i o) = qa2_ (fun i t32 o => J 3364 [w1] (qhq_ i t32 o)) (fun o => J 26 [] (qhc_ o)) (fun i o => w1 (q8f_ i o)) i o := by kernel_rfl
theorem qpw_  (J t49 o) : pfn Tryz.prog q3o_ 6 18446744073709551616 (Ev.get q3r_) 10 q2l_ J 14 [] (qhs_ t49 o) = ql8_ t49 o := by kernel_rfl
theorem qps_  (J o) : pfn Tryz.prog q3o_ 6 18446744073709551616 (Ev.get q3r_) 10 q2l_ J 3 [] (qht_ o) = qi1_ (fun t49 o => J 14 [] (qhs_ t49 o)) o := by kernel_rfl
theorem qpb_ (J : Orc (As [.bool])) (x : As [.pr (.int .u8) (.pr (.int .u32) .str)]) : rfn Tryz.prog q3o_ 6 18446744073709551616 (Ev.get q3r_) 10 q2l_ J x = qhh_ (fun i o => J 210 [] (q8f_ i o)) (fun o => J 3 [] (qht_ o)) x.1 := by kernel_rfl
theorem qpj_  (w1 i t32 o) : jfn Tryz.prog q3o_ 6 18446744073709551616 (Ev.get q3r_) 10 q2l_ 3364 [w1] (qhq_ i t32 o) = qbp_ (fun i o => w1 (q8f_ i o)) i t32 o := by
  rw [qi_ (by decide)]
  rw [qp9_]
  rfl
theorem qp6_  (o) : jfn Tryz.prog q3o_ 6 18446744073709551616 (Ev.get q3r_) 10 q2l_ 26 [] (qhc_ o) = qa6_ o := by
  rw [qi_ (by decide)]
  rw [qp2_]
  rfl
theorem qp7_  (i o) : jfn Tryz.prog q3o_ 6 18446744073709551616 (Ev.get q3r_) 10 q2l_ 210 [] (q8f_ i o) = qdy_ i o := by
  rw [qi_ (by decide)]
  rw [q2a_ (by kernel_rfl)]
  refine q1c_ (σ := (Int) × (Int × Int × List UInt8)) (mk := fun s => q8f_ s.1 s.2) (fun w1 s => ?_) 18446744073709551616 (i, o)
  have e3 : (fun i t32 o => (jfn Tryz.prog q3o_ 6 18446744073709551616 (Ev.get q3r_) 10 q2l_) 3364 [w1] (qhq_ i t32 o)) = qbp_ (fun i o => w1 (q8f_ i o)) := by funext i t32 o; exact qpj_ w1 i t32 o
  have e4 : (fun o => (jfn Tryz.prog q3o_ 6 18446744073709551616 (Ev.get q3r_) 10 q2l_) 26 [] (qhc_ o)) = qa6_ := funext fun o => qp6_ o
  refine (qq5_ _ w1 s.1 s.2).trans ?_
  rw [e3, e4]
theorem qpm_  (t49 o) : jfn Tryz.prog q3o_ 6 18446744073709551616 (Ev.get q3r_) 10 q2l_ 14 [] (qhs_ t49 o) = qbr_ t49 o := by
  rw [qi_ (by decide)]
  rw [qpw_]
  rfl
theorem qpy_  (o) : jfn Tryz.prog q3o_ 6 18446744073709551616 (Ev.get q3r_) 10 q2l_ 3 [] (qht_ o) = qhg_ o := by
  rw [qi_ (by decide)]
  have e5 : (fun t49 o => (jfn Tryz.prog q3o_ 6 18446744073709551616 (Ev.get q3r_) 10 q2l_) 14 [] (qhs_ t49 o)) = qbr_ := by funext t49 o; exact qpm_ t49 o
  rw [qps_, e5]
  rfl
theorem qqk_ (x : As [.pr (.int .u8) (.pr (.int .u32) .str)]) : evT Tryz.prog q3o_ 6 18446744073709551616 (Ev.get q3r_) 10 q2l_ x = qdl_ x := by
  have e1 : (fun i o => (jfn Tryz.prog q3o_ 6 18446744073709551616 (Ev.get q3r_) 10 q2l_) 210 [] (q8f_ i o)) = qdy_ := by funext i o; exact qp7_ i o
  have e2 : (fun o => (jfn Tryz.prog q3o_ 6 18446744073709551616 (Ev.get q3r_) 10 q2l_) 3 [] (qht_ o)) = qhg_ := funext fun o => qpy_ o
  rw [q3s_, qpb_, e1, e2]
  rfl
theorem qmd_ : CtOk Tryz.prog I0 10 ⟨q2l_, qdl_⟩ := ct_of_ev env_nil qqk_
@[reducible] def q59_ : Sh := ⟨[.d TZT3], [], [.pr (.int .u8) (.pr (.int .u32) .str)], [.d (.str)], [], 0, [.str]⟩
def q7u_ : Env := (cts [(23, (⟨qa8_, q71_⟩ : Ct))])
def q7s_ : List (Nat × Hint) := [(213, ⟨[], [3]⟩), (1706, ⟨[.row 3 5], [1, 3, 4]⟩), (6825, ⟨[], [1, 3, 4]⟩)]
def q8e_ (i : Int) (o : Int × Int × List UInt8) (out : List Int) : St := { fr := [(1, .pb 0 0), (3, .row 1), (4, .d (.int .i64) i)], nt := 58, up := [], own := [(0, .box 24 [.d (.int .u8) o.1, .d (.int .u32) o.2.1, .d .str o.2.2]), (1, .row (.int .u8) 5 out)], nx := 2, log := [], ln := 0 }
def qhu_ (i : Int) (o : Int × Int × List UInt8) (out : List Int) : St := { fr := [(1, .pb 0 0), (3, .row 1), (4, .d (.int .i64) i)], nt := 58, up := [], own := [(0, .box 24 [.d (.int .u8) o.1, .d (.int .u32) o.2.1, .d .str o.2.2]), (1, .row (.int .u8) 5 out)], nx := 2, log := [], ln := 0 }
def qhj_ (out : List Int) : St := { fr := [(3, .row 0)], nt := 58, up := [], own := [(0, .row (.int .u8) 5 out)], nx := 1, log := [], ln := 0 }
def qbo_ (j2 : Int -> Int × Int × List UInt8 -> List Int -> Option (As [.str])) (j3 : List Int -> Option (As [.str])) (self1 : Int -> Int × Int × List UInt8 -> List Int -> Option (As [.str])) (i : Int) (o : Int × Int × List UInt8) (out : List Int) : Option (As [.str]) :=
  if lt i (Int.ofNat (List.length o.2.2)) = true then Option.bind (at? o.2.2 i) fun (c : UInt8) => if eqi (Int.ofNat (UInt8.toNat c)) 10 = true then need (small (List.length out + 2)) (j2 i o (out ++ [92, 110])) else Option.bind (at? o.2.2 i) fun (c : UInt8) => if eqi (Int.ofNat (UInt8.toNat c)) 92 = true then need (small (List.length out + 2)) (j2 i o (out ++ [92, 92])) else Option.bind (at? o.2.2 i) fun (c : UInt8) => need (small (List.length out + Nat.succ 0)) (j2 i o (out ++ [Int.ofNat (UInt8.toNat c)])) else j3 out
def qla_ (self1 : Int -> Int × Int × List UInt8 -> List Int -> Option (As [.str])) (i : Int) (o : Int × Int × List UInt8) (out : List Int) : Option (As [.str]) :=
  self1 (add .i64 i 1) o out
def ql5_ (out : List Int) : Option (As [.str]) :=
  need (small (7 + List.length (Sx.toS out))) (some (115 :: 117 :: 98 :: 109 :: 105 :: 116 :: 32 :: Sx.toS out, ()))
def qhl_ (j1 : Int -> Int × Int × List UInt8 -> List Int -> Option (As [.str])) (o : Int × Int × List UInt8) : Option (As [.str]) :=
  if eqi o.1 1 = true then j1 0 o [] else if eqi o.1 2 = true then Option.bind (q71_ (cvt .i64 o.2.1, ())) fun (y : List UInt8 × Unit) => need (small (7 + List.length y.1)) (some (99 :: 97 :: 110 :: 99 :: 101 :: 108 :: 32 :: y.1, ())) else if eqi o.1 3 = true then Option.bind (q71_ (cvt .i64 o.2.1, ())) fun (y : List UInt8 × Unit) => need (small (7 + List.length y.1)) (some (115 :: 116 :: 97 :: 116 :: 117 :: 115 :: 32 :: y.1, ())) else if eqi o.1 4 = true then some ([104, 105, 115, 116, 111, 114, 121], ()) else some ([115, 108, 97, 118, 101, 115], ())
def qed_ (u1 : Int -> Int × Int × List UInt8 -> List Int -> Option (As [.str])) (i : Int) (o : Int × Int × List UInt8) (out : List Int) : Option (As [.str]) := qla_ u1 i o out
def qbt_ (out : List Int) : Option (As [.str]) := ql5_ out
def qbu_ (i : Int) (o : Int × Int × List UInt8) (out : List Int) : Option (As [.str]) :=
  loopF (fun (self : (Int) × (Int × Int × List UInt8) × (List Int) -> Option (As [.str])) (s : (Int) × (Int × Int × List UInt8) × (List Int)) => qbo_ (qed_ (fun i o out => self (i, o, out))) (qbt_) (fun i o out => self (i, o, out)) s.1 s.2.1 s.2.2) 18446744073709551616 (i, o, out)
def qdo_ (x : As [.pr (.int .u8) (.pr (.int .u32) .str)]) : Option (As [.str]) := qhl_ qbu_ x.1
theorem qpp_  (J w1 i o out) : pfn Tryz.prog q7u_ 6 18446744073709551616 (Ev.get q7s_) 11 q59_ J 6825 [w1] (qhu_ i o out) = qla_ (fun i o out => w1 (q8e_ i o out)) i o out := by kernel_rfl
theorem qp4_  (J out) : pfn Tryz.prog q7u_ 6 18446744073709551616 (Ev.get q7s_) 11 q59_ J 213 [] (qhj_ out) = ql5_ out := by kernel_rfl
theorem qpd_  (J w1 i o out) : pfn Tryz.prog q7u_ 6 18446744073709551616 (Ev.get q7s_) 11 q59_ J 1706 [w1] (q8e_ i o out) = qbo_ (fun i o out => J 6825 [w1] (qhu_ i o out)) (fun out => J 213 [] (qhj_ out)) (fun i o out => w1 (q8e_ i o out)) i o out := by kernel_rfl
theorem qp5_ (J : Orc (As [.str])) (x : As [.pr (.int .u8) (.pr (.int .u32) .str)]) : rfn Tryz.prog q7u_ 6 18446744073709551616 (Ev.get q7s_) 11 q59_ J x = qhl_ (fun i o out => J 1706 [] (q8e_ i o out)) x.1 := by kernel_rfl
theorem qpv_  (w1 i o out) : jfn Tryz.prog q7u_ 6 18446744073709551616 (Ev.get q7s_) 11 q59_ 6825 [w1] (qhu_ i o out) = qed_ (fun i o out => w1 (q8e_ i o out)) i o out := by
  rw [qi_ (by decide)]
  rw [qpp_]
  rfl
theorem qq4_  (out) : jfn Tryz.prog q7u_ 6 18446744073709551616 (Ev.get q7s_) 11 q59_ 213 [] (qhj_ out) = qbt_ out := by
  rw [qi_ (by decide)]
  rw [qp4_]
  rfl
theorem qq1_  (i o out) : jfn Tryz.prog q7u_ 6 18446744073709551616 (Ev.get q7s_) 11 q59_ 1706 [] (q8e_ i o out) = qbu_ i o out := by
  rw [qi_ (by decide)]
  rw [q2a_ (by kernel_rfl)]
  refine q1c_ (σ := (Int) × (Int × Int × List UInt8) × (List Int)) (mk := fun s => q8e_ s.1 s.2.1 s.2.2) (fun w1 s => ?_) 18446744073709551616 (i, o, out)
  have e2 : (fun i o out => (jfn Tryz.prog q7u_ 6 18446744073709551616 (Ev.get q7s_) 11 q59_) 6825 [w1] (qhu_ i o out)) = qed_ (fun i o out => w1 (q8e_ i o out)) := by funext i o out; exact qpv_ w1 i o out
  have e3 : (fun out => (jfn Tryz.prog q7u_ 6 18446744073709551616 (Ev.get q7s_) 11 q59_) 213 [] (qhj_ out)) = qbt_ := funext fun out => qq4_ out
  refine (qpd_ _ w1 s.1 s.2.1 s.2.2).trans ?_
  rw [e2, e3]
theorem qqo_ (x : As [.pr (.int .u8) (.pr (.int .u32) .str)]) : evT Tryz.prog q7u_ 6 18446744073709551616 (Ev.get q7s_) 11 q59_ x = qdo_ x := by
  have e1 : (fun i o out => (jfn Tryz.prog q7u_ 6 18446744073709551616 (Ev.get q7s_) 11 q59_) 1706 [] (q8e_ i o out)) = qbu_ := by funext i o out; exact qq1_ i o out
  rw [q3s_, qp5_, e1]
  rfl
theorem qma_ : CtOk Tryz.prog I0 11 ⟨q59_, qdo_⟩ := ct_of_ev (env_cons qkv_ env_nil) qqo_
@[reducible] def q56_ : Sh := ⟨[.d (.str)], [], [.str], [.d (.int .u32)], [], 0, [.int .u32]⟩
def q72_ : Env := (cts [])
def q6v_ : List (Nat × Hint) := [(7, ⟨[], [3]⟩), (58, ⟨[], [0, 3, 4, 16, 17, 18, 19, 22, 23]⟩), (1864, ⟨[.agd 16 .str, .agd 17 (.int .i64), .agd 18 (.int .u8), .agd 19 .bool, .agd 22 (.int .u64), .agd 23 .bool], [0, 3, 4, 24]⟩)]
def q81_ (s : List UInt8) (n i : Int) : St := { fr := [(0, .d .str s), (3, .d (.int .u64) n), (4, .d (.int .i64) i)], nt := 37, up := [], own := [], nx := 0, log := [], ln := 0 }
def qg5_ (s : List UInt8) (n i : Int) (t24 : Bool) : St := { fr := [(0, .d .str s), (3, .d (.int .u64) n), (4, .d (.int .i64) i), (24, .d .bool t24)], nt := 37, up := [], own := [], nx := 0, log := [], ln := 0 }
def qga_ (n : Int) : St := { fr := [(3, .d (.int .u64) n)], nt := 37, up := [], own := [], nx := 0, log := [], ln := 0 }
def qat_ (j2 : List UInt8 -> Int -> Int -> Bool -> Option (As [.int .u32])) (j3 : Int -> Option (As [.int .u32])) (self1 : List UInt8 -> Int -> Int -> Option (As [.int .u32])) (s : List UInt8) (n i : Int) : Option (As [.int .u32]) :=
  if lt i (Int.ofNat (List.length s)) = true then Option.bind (at? s i) fun (c : UInt8) => if lt (Int.ofNat (UInt8.toNat c)) 48 = true then j2 s n i true else Option.bind (at? s i) fun (c : UInt8) => if gt (Int.ofNat (UInt8.toNat c)) 57 = true then j2 s n i true else j2 s n i (gt n 4294967295) else j3 n
def qkh_ (self1 : List UInt8 -> Int -> Int -> Option (As [.int .u32])) (s : List UInt8) (n i : Int) (t24 : Bool) : Option (As [.int .u32]) :=
  if t24 = true then some (0, ()) else Option.bind (at? s i) fun (c : UInt8) => self1 s (add .u64 (mul .u64 n 10) (cvt .u64 (Sx.sub .u8 (Int.ofNat (UInt8.toNat c)) 48))) (add .i64 i 1)
def qkz_ (n : Int) : Option (As [.int .u32]) :=
  if gt n 4294967295 = true then some (0, ()) else some (cvt .u32 n, ())
def qgd_ (j1 : List UInt8 -> Int -> Int -> Option (As [.int .u32])) (s : List UInt8) : Option (As [.int .u32]) :=
  j1 s 0 0
def qcz_ (u1 : List UInt8 -> Int -> Int -> Option (As [.int .u32])) (s : List UInt8) (n i : Int) (t24 : Bool) : Option (As [.int .u32]) := qkh_ u1 s n i t24
def qg9_ (n : Int) : Option (As [.int .u32]) := qkz_ n
def qcu_ (s : List UInt8) (n i : Int) : Option (As [.int .u32]) :=
  loopF (fun (self : (List UInt8) × (Int) × (Int) -> Option (As [.int .u32])) (s : (List UInt8) × (Int) × (Int)) => qat_ (qcz_ (fun s n i => self (s, n, i))) (qg9_) (fun s n i => self (s, n, i)) s.1 s.2.1 s.2.2) 18446744073709551616 (s, n, i)
def qbv_ (x : As [.str]) : Option (As [.int .u32]) := qgd_ qcu_ x.1
theorem qou_  (J w1 s n i t24) : pfn Tryz.prog q72_ 6 18446744073709551616 (Ev.get q6v_) 21 q56_ J 1864 [w1] (qg5_ s n i t24) = qkh_ (fun s n i => w1 (q81_ s n i)) s n i t24 := by kernel_rfl
theorem qon_  (J n) : pfn Tryz.prog q72_ 6 18446744073709551616 (Ev.get q6v_) 21 q56_ J 7 [] (qga_ n) = qkz_ n := by kernel_rfl
theorem qow_  (J w1 s n i) : pfn Tryz.prog q72_ 6 18446744073709551616 (Ev.get q6v_) 21 q56_ J 58 [w1] (q81_ s n i) = qat_ (fun s n i t24 => J 1864 [w1] (qg5_ s n i t24)) (fun n => J 7 [] (qga_ n)) (fun s n i => w1 (q81_ s n i)) s n i := by kernel_rfl
theorem qo9_ (J : Orc (As [.int .u32])) (x : As [.str]) : rfn Tryz.prog q72_ 6 18446744073709551616 (Ev.get q6v_) 21 q56_ J x = qgd_ (fun s n i => J 58 [] (q81_ s n i)) x.1 := by kernel_rfl
theorem qov_  (w1 s n i t24) : jfn Tryz.prog q72_ 6 18446744073709551616 (Ev.get q6v_) 21 q56_ 1864 [w1] (qg5_ s n i t24) = qcz_ (fun s n i => w1 (q81_ s n i)) s n i t24 := by
  rw [qi_ (by decide)]
  rw [qou_]
  rfl
theorem qoz_  (n) : jfn Tryz.prog q72_ 6 18446744073709551616 (Ev.get q6v_) 21 q56_ 7 [] (qga_ n) = qg9_ n := by
  rw [qi_ (by decide)]
  rw [qon_]
  rfl
theorem qof_  (s n i) : jfn Tryz.prog q72_ 6 18446744073709551616 (Ev.get q6v_) 21 q56_ 58 [] (q81_ s n i) = qcu_ s n i := by
  rw [qi_ (by decide)]
  rw [q2a_ (by kernel_rfl)]
  refine q1c_ (σ := (List UInt8) × (Int) × (Int)) (mk := fun s => q81_ s.1 s.2.1 s.2.2) (fun w1 s => ?_) 18446744073709551616 (s, n, i)
  have e2 : (fun s n i t24 => (jfn Tryz.prog q72_ 6 18446744073709551616 (Ev.get q6v_) 21 q56_) 1864 [w1] (qg5_ s n i t24)) = qcz_ (fun s n i => w1 (q81_ s n i)) := by funext s n i t24; exact qov_ w1 s n i t24
  have e3 : (fun n => (jfn Tryz.prog q72_ 6 18446744073709551616 (Ev.get q6v_) 21 q56_) 7 [] (qga_ n)) = qg9_ := funext fun n => qoz_ n
  refine (qow_ _ w1 s.1 s.2.1 s.2.2).trans ?_
  rw [e2, e3]
theorem qqa_ (x : As [.str]) : evT Tryz.prog q72_ 6 18446744073709551616 (Ev.get q6v_) 21 q56_ x = qbv_ x := by
  have e1 : (fun s n i => (jfn Tryz.prog q72_ 6 18446744073709551616 (Ev.get q6v_) 21 q56_) 58 [] (q81_ s n i)) = qcu_ := by funext s n i; exact qof_ s n i
  rw [q3s_, qo9_, e1]
  rfl
theorem qol_ : CtOk Tryz.prog I0 21 ⟨q56_, qbv_⟩ := ct_of_ev env_nil qqa_
@[reducible] def q25_ : Sh := ⟨[.d (.str)], [], [.str], [.d TZT3, .d (.int .i64)], [], 0, [.pr (.int .u8) (.pr (.int .u32) .str), .int .i64]⟩
def q2i_ : Env := (cts [(10, (⟨q2l_, qdl_⟩ : Ct)), (11, (⟨q59_, qdo_⟩ : Ct)), (21, (⟨q56_, qbv_⟩ : Ct))])
def q2h_ : List (Nat × Hint) := [(7, ⟨[], [0, 2, 4, 72, 73, 74, 75]⟩), (30, ⟨[], [2, 4, 76]⟩), (15341, ⟨[], [0, 2, 4, 7, 72, 73, 74, 75]⟩), (122730, ⟨[.row 7 5], [0, 2, 4, 6, 7, 8]⟩), (3927369, ⟨[], [0, 2, 4, 6, 7, 8, 9, 38, 39, 40, 41, 42, 72, 73, 74, 75]⟩), (7854738, ⟨[.agd 38 (.int .i64), .agd 39 (.int .i64), .agd 40 .str, .agd 41 (.int .i64), .agd 42 .bool], [0, 2, 4, 6, 7, 8, 9, 43]⟩)]
def qbs_ (line : List UInt8) (t2 o : Int × Int × List UInt8) : St := { fr := [(0, .d .str line), (2, .pb 0 0), (4, .pb 1 0)], nt := 79, up := [], own := [(0, .box 24 [.d (.int .u8) t2.1, .d (.int .u32) t2.2.1, .d .str t2.2.2]), (1, .box 24 [.d (.int .u8) o.1, .d (.int .u32) o.2.1, .d .str o.2.2])], nx := 2, log := [], ln := 0 }
def q5y_ (line rest : List UInt8) (i : Int) (t2 o : Int × Int × List UInt8) (out : List Int) : St := { fr := [(0, .d .str line), (2, .pb 0 0), (4, .pb 1 0), (6, .d .str rest), (7, .row 2), (8, .d (.int .i64) i)], nt := 79, up := [], own := [(0, .box 24 [.d (.int .u8) t2.1, .d (.int .u32) t2.2.1, .d .str t2.2.2]), (1, .box 24 [.d (.int .u8) o.1, .d (.int .u32) o.2.1, .d .str o.2.2]), (2, .row (.int .u8) 5 out)], nx := 3, log := [], ln := 0 }
def qhr_ (t76 : Bool) (t2 o : Int × Int × List UInt8) : St := { fr := [(2, .pb 0 0), (4, .pb 1 0), (76, .d .bool t76)], nt := 79, up := [], own := [(0, .box 24 [.d (.int .u8) t2.1, .d (.int .u32) t2.2.1, .d .str t2.2.2]), (1, .box 24 [.d (.int .u8) o.1, .d (.int .u32) o.2.1, .d .str o.2.2])], nx := 2, log := [], ln := 0 }
def qhe_ (line rest : List UInt8) (i c : Int) (t43 : Bool) (t2 o : Int × Int × List UInt8) (out : List Int) : St := { fr := [(0, .d .str line), (2, .pb 0 0), (4, .pb 1 0), (6, .d .str rest), (7, .row 2), (8, .d (.int .i64) i), (9, .d (.int .u8) c), (43, .d .bool t43)], nt := 79, up := [], own := [(0, .box 24 [.d (.int .u8) t2.1, .d (.int .u32) t2.2.1, .d .str t2.2.2]), (1, .box 24 [.d (.int .u8) o.1, .d (.int .u32) o.2.1, .d .str o.2.2]), (2, .row (.int .u8) 5 out)], nx := 3, log := [], ln := 0 }
def qhd_ (line : List UInt8) (t2 o : Int × Int × List UInt8) (out : List Int) : St := { fr := [(0, .d .str line), (2, .pb 0 0), (4, .pb 1 0), (7, .row 2)], nt := 79, up := [], own := [(0, .box 24 [.d (.int .u8) t2.1, .d (.int .u32) t2.2.1, .d .str t2.2.2]), (1, .box 24 [.d (.int .u8) o.1, .d (.int .u32) o.2.1, .d .str o.2.2]), (2, .row (.int .u8) 5 out)], nx := 3, log := [], ln := 0 }
def qh9_ (line rest : List UInt8) (i c : Int) (t2 o : Int × Int × List UInt8) (out : List Int) : St := { fr := [(0, .d .str line), (2, .pb 0 0), (4, .pb 1 0), (6, .d .str rest), (7, .row 2), (8, .d (.int .i64) i), (9, .d (.int .u8) c)], nt := 79, up := [], own := [(0, .box 24 [.d (.int .u8) t2.1, .d (.int .u32) t2.2.1, .d .str t2.2.2]), (1, .box 24 [.d (.int .u8) o.1, .d (.int .u32) o.2.1, .d .str o.2.2]), (2, .row (.int .u8) 5 out)], nx := 3, log := [], ln := 0 }
def ql4_ (j3 : Bool -> Int × Int × List UInt8 -> Int × Int × List UInt8 -> Option (As [.pr (.int .u8) (.pr (.int .u32) .str), .int .i64])) (line : List UInt8) (t2 o : Int × Int × List UInt8) : Option (As [.pr (.int .u8) (.pr (.int .u32) .str), .int .i64]) :=
  Option.bind (qdl_ (o, ())) fun (y : Bool × Unit) => if (!y.1) = true then j3 true t2 o else Option.bind (qdo_ (o, ())) fun (y : List UInt8 × Unit) => j3 (nes y.1 line) t2 o
def qhx_ (j4 : List UInt8 -> List UInt8 -> Int -> Int -> Bool -> Int × Int × List UInt8 -> Int × Int × List UInt8 -> List Int -> Option (As [.pr (.int .u8) (.pr (.int .u32) .str), .int .i64])) (j5 : List UInt8 -> Int × Int × List UInt8 -> Int × Int × List UInt8 -> List Int -> Option (As [.pr (.int .u8) (.pr (.int .u32) .str), .int .i64])) (self2 : List UInt8 -> List UInt8 -> Int -> Int × Int × List UInt8 -> Int × Int × List UInt8 -> List Int -> Option (As [.pr (.int .u8) (.pr (.int .u32) .str), .int .i64])) (line rest : List UInt8) (i : Int) (t2 o : Int × Int × List UInt8) (out : List Int) : Option (As [.pr (.int .u8) (.pr (.int .u32) .str), .int .i64]) :=
  if lt i (Int.ofNat (List.length rest)) = true then Option.bind (at? rest i) fun (c : UInt8) => if eqi (Int.ofNat (UInt8.toNat c)) 92 = true then j4 line rest i (Int.ofNat (UInt8.toNat c)) (lt (add .i64 i 1) (Int.ofNat (List.length rest))) t2 o out else j4 line rest i (Int.ofNat (UInt8.toNat c)) false t2 o out else j5 line t2 o out
def ql3_ (t76 : Bool) (t2 o : Int × Int × List UInt8) : Option (As [.pr (.int .u8) (.pr (.int .u32) .str), .int .i64]) :=
  if t76 = true then some ((0, 0, []), 280, ()) else some (o, 0, ())
def qhf_ (j6 : List UInt8 -> List UInt8 -> Int -> Int -> Int × Int × List UInt8 -> Int × Int × List UInt8 -> List Int -> Option (As [.pr (.int .u8) (.pr (.int .u32) .str), .int .i64])) (self2 : List UInt8 -> List UInt8 -> Int -> Int × Int × List UInt8 -> Int × Int × List UInt8 -> List Int -> Option (As [.pr (.int .u8) (.pr (.int .u32) .str), .int .i64])) (line rest : List UInt8) (i c : Int) (t43 : Bool) (t2 o : Int × Int × List UInt8) (out : List Int) : Option (As [.pr (.int .u8) (.pr (.int .u32) .str), .int .i64]) :=
  if t43 = true then Option.bind (at? rest (add .i64 i 1)) fun (c : UInt8) => if eqi (Int.ofNat (UInt8.toNat c)) 110 = true then j6 line rest (add .i64 i 1) 10 t2 o out else j6 line rest (add .i64 i 1) (Int.ofNat (UInt8.toNat c)) t2 o out else j6 line rest i c t2 o out
def qmc_ (j1 : List UInt8 -> Int × Int × List UInt8 -> Int × Int × List UInt8 -> Option (As [.pr (.int .u8) (.pr (.int .u32) .str), .int .i64])) (line : List UInt8) (t2 o : Int × Int × List UInt8) (out : List Int) : Option (As [.pr (.int .u8) (.pr (.int .u32) .str), .int .i64]) :=
  j1 line t2 (1, 0, Sx.toS out)
def ql9_ (self2 : List UInt8 -> List UInt8 -> Int -> Int × Int × List UInt8 -> Int × Int × List UInt8 -> List Int -> Option (As [.pr (.int .u8) (.pr (.int .u32) .str), .int .i64])) (line rest : List UInt8) (i c : Int) (t2 o : Int × Int × List UInt8) (out : List Int) : Option (As [.pr (.int .u8) (.pr (.int .u32) .str), .int .i64]) :=
  need (small (List.length out + Nat.succ 0)) (self2 line rest (add .i64 i 1) t2 o (out ++ [c]))
def qi0_ (j1 : List UInt8 -> Int × Int × List UInt8 -> Int × Int × List UInt8 -> Option (As [.pr (.int .u8) (.pr (.int .u32) .str), .int .i64])) (j2 : List UInt8 -> List UInt8 -> Int -> Int × Int × List UInt8 -> Int × Int × List UInt8 -> List Int -> Option (As [.pr (.int .u8) (.pr (.int .u32) .str), .int .i64])) (line : List UInt8) : Option (As [.pr (.int .u8) (.pr (.int .u32) .str), .int .i64]) :=
  if eqs line [104, 105, 115, 116, 111, 114, 121] = true then j1 line (0, 0, []) (4, 0, []) else if eqs line [115, 108, 97, 118, 101, 115] = true then j1 line (0, 0, []) (5, 0, []) else if ge (Int.ofNat (List.length line)) 7 = true then Option.bind (cut line 0 7) fun (y : List UInt8) => Option.bind (cut line 7 (Int.ofNat (List.length line))) fun (y_1 : List UInt8) => if eqs y [115, 117, 98, 109, 105, 116, 32] = true then j2 line y_1 0 (0, 0, []) (0, 0, []) [] else if eqs y [99, 97, 110, 99, 101, 108, 32] = true then Option.bind (qbv_ (y_1, ())) fun (y : Int × Unit) => j1 line (0, 0, []) (2, y.1, []) else if eqs y [115, 116, 97, 116, 117, 115, 32] = true then Option.bind (qbv_ (y_1, ())) fun (y : Int × Unit) => j1 line (0, 0, []) (3, y.1, []) else j1 line (0, 0, []) (0, 0, []) else j1 line (0, 0, []) (0, 0, [])
def qhp_ (t76 : Bool) (t2 o : Int × Int × List UInt8) : Option (As [.pr (.int .u8) (.pr (.int .u32) .str), .int .i64]) := ql3_ t76 t2 o
def q37_ (line : List UInt8) (t2 o : Int × Int × List UInt8) : Option (As [.pr (.int .u8) (.pr (.int .u32) .str), .int .i64]) := ql4_ (qhp_) line t2 o
def qe8_ (u2 : List UInt8 -> List UInt8 -> Int -> Int × Int × List UInt8 -> Int × Int × List UInt8 -> List Int -> Option (As [.pr (.int .u8) (.pr (.int .u32) .str), .int .i64])) (line rest : List UInt8) (i c : Int) (t2 o : Int × Int × List UInt8) (out : List Int) : Option (As [.pr (.int .u8) (.pr (.int .u32) .str), .int .i64]) := ql9_ u2 line rest i c t2 o out
def qbn_ (u2 : List UInt8 -> List UInt8 -> Int -> Int × Int × List UInt8 -> Int × Int × List UInt8 -> List Int -> Option (As [.pr (.int .u8) (.pr (.int .u32) .str), .int .i64])) (line rest : List UInt8) (i c : Int) (t43 : Bool) (t2 o : Int × Int × List UInt8) (out : List Int) : Option (As [.pr (.int .u8) (.pr (.int .u32) .str), .int .i64]) := qhf_ (qe8_ u2) u2 line rest i c t43 t2 o out
def qhb_ (line : List UInt8) (t2 o : Int × Int × List UInt8) (out : List Int) : Option (As [.pr (.int .u8) (.pr (.int .u32) .str), .int .i64]) := qmc_ (q37_) line t2 o out
def qbl_ (line rest : List UInt8) (i : Int) (t2 o : Int × Int × List UInt8) (out : List Int) : Option (As [.pr (.int .u8) (.pr (.int .u32) .str), .int .i64]) :=
  loopF (fun (self : (List UInt8) × (List UInt8) × (Int) × (Int × Int × List UInt8) × (Int × Int × List UInt8) × (List Int) -> Option (As [.pr (.int .u8) (.pr (.int .u32) .str), .int .i64])) (s : (List UInt8) × (List UInt8) × (Int) × (Int × Int × List UInt8) × (Int × Int × List UInt8) × (List Int)) => qhx_ (qbn_ (fun line rest i t2 o out => self (line, rest, i, t2, o, out))) (qhb_) (fun line rest i t2 o out => self (line, rest, i, t2, o, out)) s.1 s.2.1 s.2.2.1 s.2.2.2.1 s.2.2.2.2.1 s.2.2.2.2.2) 18446744073709551616 (line, rest, i, t2, o, out)
def qfh_ (x : As [.str]) : Option (As [.pr (.int .u8) (.pr (.int .u32) .str), .int .i64]) := qi0_ q37_ qbl_ x.1
theorem qqc_  (J t76 t2 o) : pfn Tryz.prog q2i_ 6 18446744073709551616 (Ev.get q2h_) 6 q25_ J 30 [] (qhr_ t76 t2 o) = ql3_ t76 t2 o := by kernel_rfl
theorem qpf_  (J line t2 o) : pfn Tryz.prog q2i_ 6 18446744073709551616 (Ev.get q2h_) 6 q25_ J 7 [] (qbs_ line t2 o) = ql4_ (fun t76 t2 o => J 30 [] (qhr_ t76 t2 o)) line t2 o := by kernel_rfl
theorem qpa_  (J w2 line rest i c t2 o out) : pfn Tryz.prog q2i_ 6 18446744073709551616 (Ev.get q2h_) 6 q25_ J 3927369 [w2] (qh9_ line rest i c t2 o out) = ql9_ (fun line rest i t2 o out => w2 (q5y_ line rest i t2 o out)) line rest i c t2 o out := by kernel_rfl
theorem qpt_  (J w2 line rest i c t43 t2 o out) : pfn Tryz.prog q2i_ 6 18446744073709551616 (Ev.get q2h_) 6 q25_ J 7854738 [w2] (qhe_ line rest i c t43 t2 o out) = qhf_ (fun line rest i c t2 o out => J 3927369 [w2] (qh9_ line rest i c t2 o out)) (fun line rest i t2 o out => w2 (q5y_ line rest i t2 o out)) line rest i c t43 t2 o out := by kernel_rfl
theorem qq9_  (J line t2 o out) : pfn Tryz.prog q2i_ 6 18446744073709551616 (Ev.get q2h_) 6 q25_ J 15341 [] (qhd_ line t2 o out) = qmc_ (fun line t2 o => J 7 [] (qbs_ line t2 o)) line t2 o out := by kernel_rfl
theorem qpu_  (J w2 line rest i t2 o out) : pfn Tryz.prog q2i_ 6 18446744073709551616 (Ev.get q2h_) 6 q25_ J 122730 [w2] (q5y_ line rest i t2 o out) = qhx_ (fun line rest i c t43 t2 o out => J 7854738 [w2] (qhe_ line rest i c t43 t2 o out)) (fun line t2 o out => J 15341 [] (qhd_ line t2 o out)) (fun line rest i t2 o out => w2 (q5y_ line rest i t2 o out)) line rest i t2 o out := by kernel_rfl
theorem qq8_ (J : Orc (As [.pr (.int .u8) (.pr (.int .u32) .str), .int .i64])) (x : As [.str]) : rfn Tryz.prog q2i_ 6 18446744073709551616 (Ev.get q2h_) 6 q25_ J x = qi0_ (fun line t2 o => J 7 [] (qbs_ line t2 o)) (fun line rest i t2 o out => J 122730 [] (q5y_ line rest i t2 o out)) x.1 := by kernel_rfl
theorem qp3_  (t76 t2 o) : jfn Tryz.prog q2i_ 6 18446744073709551616 (Ev.get q2h_) 6 q25_ 30 [] (qhr_ t76 t2 o) = qhp_ t76 t2 o := by
  rw [qi_ (by decide)]
  rw [qqc_]
  rfl
theorem qmf_  (line t2 o) : jfn Tryz.prog q2i_ 6 18446744073709551616 (Ev.get q2h_) 6 q25_ 7 [] (qbs_ line t2 o) = q37_ line t2 o := by
  rw [qi_ (by decide)]
  have e3 : (fun t76 t2 o => (jfn Tryz.prog q2i_ 6 18446744073709551616 (Ev.get q2h_) 6 q25_) 30 [] (qhr_ t76 t2 o)) = qhp_ := by funext t76 t2 o; exact qp3_ t76 t2 o
  rw [qpf_, e3]
  rfl
theorem qqd_  (w2 line rest i c t2 o out) : jfn Tryz.prog q2i_ 6 18446744073709551616 (Ev.get q2h_) 6 q25_ 3927369 [w2] (qh9_ line rest i c t2 o out) = qe8_ (fun line rest i t2 o out => w2 (q5y_ line rest i t2 o out)) line rest i c t2 o out := by
  rw [qi_ (by decide)]
  rw [qpa_]
  rfl
theorem qpl_  (w2 line rest i c t43 t2 o out) : jfn Tryz.prog q2i_ 6 18446744073709551616 (Ev.get q2h_) 6 q25_ 7854738 [w2] (qhe_ line rest i c t43 t2 o out) = qbn_ (fun line rest i t2 o out => w2 (q5y_ line rest i t2 o out)) line rest i c t43 t2 o out := by
  rw [qi_ (by decide)]
  have e6 : (fun line rest i c t2 o out => (jfn Tryz.prog q2i_ 6 18446744073709551616 (Ev.get q2h_) 6 q25_) 3927369 [w2] (qh9_ line rest i c t2 o out)) = qe8_ (fun line rest i t2 o out => w2 (q5y_ line rest i t2 o out)) := by funext line rest i c t2 o out; exact qqd_ w2 line rest i c t2 o out
  rw [qpt_, e6]
  rfl
theorem qpg_  (line t2 o out) : jfn Tryz.prog q2i_ 6 18446744073709551616 (Ev.get q2h_) 6 q25_ 15341 [] (qhd_ line t2 o out) = qhb_ line t2 o out := by
  rw [qi_ (by decide)]
  have e1 : (fun line t2 o => (jfn Tryz.prog q2i_ 6 18446744073709551616 (Ev.get q2h_) 6 q25_) 7 [] (qbs_ line t2 o)) = q37_ := by funext line t2 o; exact qmf_ line t2 o
  rw [qq9_, e1]
  rfl
theorem qph_  (line rest i t2 o out) : jfn Tryz.prog q2i_ 6 18446744073709551616 (Ev.get q2h_) 6 q25_ 122730 [] (q5y_ line rest i t2 o out) = qbl_ line rest i t2 o out := by
  rw [qi_ (by decide)]
  rw [q2a_ (by kernel_rfl)]
  refine q1c_ (σ := (List UInt8) × (List UInt8) × (Int) × (Int × Int × List UInt8) × (Int × Int × List UInt8) × (List Int)) (mk := fun s => q5y_ s.1 s.2.1 s.2.2.1 s.2.2.2.1 s.2.2.2.2.1 s.2.2.2.2.2) (fun w2 s => ?_) 18446744073709551616 (line, rest, i, t2, o, out)
  have e4 : (fun line rest i c t43 t2 o out => (jfn Tryz.prog q2i_ 6 18446744073709551616 (Ev.get q2h_) 6 q25_) 7854738 [w2] (qhe_ line rest i c t43 t2 o out)) = qbn_ (fun line rest i t2 o out => w2 (q5y_ line rest i t2 o out)) := by funext line rest i c t43 t2 o out; exact qpl_ w2 line rest i c t43 t2 o out
  have e5 : (fun line t2 o out => (jfn Tryz.prog q2i_ 6 18446744073709551616 (Ev.get q2h_) 6 q25_) 15341 [] (qhd_ line t2 o out)) = qhb_ := by funext line t2 o out; exact qpg_ line t2 o out
  refine (qpu_ _ w2 s.1 s.2.1 s.2.2.1 s.2.2.2.1 s.2.2.2.2.1 s.2.2.2.2.2).trans ?_
  rw [e4, e5]
theorem qqp_ (x : As [.str]) : evT Tryz.prog q2i_ 6 18446744073709551616 (Ev.get q2h_) 6 q25_ x = qfh_ x := by
  have e1 : (fun line t2 o => (jfn Tryz.prog q2i_ 6 18446744073709551616 (Ev.get q2h_) 6 q25_) 7 [] (qbs_ line t2 o)) = q37_ := by funext line t2 o; exact qmf_ line t2 o
  have e2 : (fun line rest i t2 o out => (jfn Tryz.prog q2i_ 6 18446744073709551616 (Ev.get q2h_) 6 q25_) 122730 [] (q5y_ line rest i t2 o out)) = qbl_ := by funext line rest i t2 o out; exact qph_ line rest i t2 o out
  rw [q3s_, qq8_, e1, e2]
  rfl
theorem qp8_ : CtOk Tryz.prog I0 6 ⟨q25_, qfh_⟩ := ct_of_ev (env_cons qmd_ (env_cons qma_ (env_cons qol_ env_nil))) qqp_
@[reducible] def qm5_ : Sh := ⟨[.d (.pr (.int .i64) (.int .i64))], [], [.pr (.int .i64) (.int .i64)], [.d (.str)], [], 0, [.str]⟩
def qjy_ (f : Int × Int) : Option (As [.str]) :=
  Option.bind (q71_ (f.1, ())) fun (y : List UInt8 × Unit) => need (small (8 + List.length y.1)) (if gt f.2 0 = true then need (small (Nat.succ (Nat.succ (Nat.succ (Nat.succ (Nat.succ (Nat.succ (Nat.succ (Nat.succ (List.length y.1)))))))) + 6)) (Option.bind (q71_ (f.2, ())) fun (y_1 : List UInt8 × Unit) => need (small (Nat.succ (Nat.succ (Nat.succ (Nat.succ (Nat.succ (Nat.succ (Nat.succ (Nat.succ (List.length ((y.1 ++ [32, 108, 105, 110, 101, 32])))))))))) + List.length y_1.1)) (some (114 :: 101 :: 102 :: 117 :: 115 :: 101 :: 100 :: 32 :: (((y.1 ++ [32, 108, 105, 110, 101, 32])) ++ y_1.1), ()))) else some (114 :: 101 :: 102 :: 117 :: 115 :: 101 :: 100 :: 32 :: y.1, ()))
def qjo_ (x : As [.pr (.int .i64) (.int .i64)]) : Option (As [.str]) := qjy_ x.1
theorem qo0_ : CtOk Tryz.prog I0 8 ⟨qm5_, qjo_⟩ := ctn (env_cons qkv_ env_nil) 6 fun J x => by kernel_rfl
@[reducible] def q8u_ : Sh := ⟨[.d (.str)], [], [.str], [.d (.str)], [], 0, [.str]⟩
def qc6_ : Env := (cts [])
def qc5_ : List (Nat × Hint) := [(58, ⟨[.rwb 3 1 5, .slf 3 0], [0, 3, 6, 7]⟩)]
def q9q_ (text : List UInt8) (t6 t7 : Int) (b : Bool) (o : List Int) : St := { fr := [(0, .d .str text), (3, .pb 0 0), (6, .d (.int .i64) t6), (7, .d (.int .i64) t7)], nt := 25, up := [], own := [(0, .box 71 [.opb b 0 0, .row 1]), (1, .row (.int .u8) 5 o)], nx := 2, log := [], ln := 0 }
def q9o_ (self1 : List UInt8 -> Int -> Int -> Bool -> List Int -> Option (As [.str])) (text : List UInt8) (t6 t7 : Int) (b : Bool) (o : List Int) : Option (As [.str]) :=
  if lt t7 t6 = true then Option.bind (at? text t7) fun (c : UInt8) => if eqi (Int.ofNat (UInt8.toNat c)) 10 = true then if b = true then if b = true then need (small (List.length o + 2)) (self1 text t6 (add .i64 t7 1) b (o ++ [92, 110])) else Option.none else need (small (List.length o + 2)) (self1 text t6 (add .i64 t7 1) true (o ++ [92, 110])) else if eqi (Int.ofNat (UInt8.toNat c)) 92 = true then if b = true then if b = true then need (small (List.length o + 2)) (self1 text t6 (add .i64 t7 1) b (o ++ [92, 92])) else Option.none else need (small (List.length o + 2)) (self1 text t6 (add .i64 t7 1) true (o ++ [92, 92])) else Option.bind (at? text t7) fun (c : UInt8) => if b = true then if b = true then need (small (List.length o + Nat.succ 0)) (self1 text t6 (add .i64 t7 1) b (o ++ [Int.ofNat (UInt8.toNat c)])) else Option.none else need (small (List.length o + Nat.succ 0)) (self1 text t6 (add .i64 t7 1) true (o ++ [Int.ofNat (UInt8.toNat c)])) else need (eqi (Int.ofNat (List.length o)) (Int.ofNat (List.length o))) (need (small (List.length o)) (need (Ev.u8s o) (some (Sx.toS o, ()))))
def qds_ (j1 : List UInt8 -> Int -> Int -> Bool -> List Int -> Option (As [.str])) (text : List UInt8) : Option (As [.str]) :=
  j1 text (Int.ofNat (List.length text)) 0 false []
def qb3_ (text : List UInt8) (t6 t7 : Int) (b : Bool) (o : List Int) : Option (As [.str]) :=
  loopF (fun (self : (List UInt8) × (Int) × (Int) × (Bool) × (List Int) -> Option (As [.str])) (s : (List UInt8) × (Int) × (Int) × (Bool) × (List Int)) => q9o_ (fun text t6 t7 b o => self (text, t6, t7, b, o)) s.1 s.2.1 s.2.2.1 s.2.2.2.1 s.2.2.2.2) 18446744073709551616 (text, t6, t7, b, o)
def q7y_ (x : As [.str]) : Option (As [.str]) := qds_ qb3_ x.1
theorem qno_  (J w1 text t6 t7 b o) : pfn Tryz.prog qc6_ 6 18446744073709551616 (Ev.get qc5_) 24 q8u_ J 58 [w1] (q9q_ text t6 t7 b o) = q9o_ (fun text t6 t7 b o => w1 (q9q_ text t6 t7 b o)) text t6 t7 b o := by kernel_rfl
theorem qnm_ (J : Orc (As [.str])) (x : As [.str]) : rfn Tryz.prog qc6_ 6 18446744073709551616 (Ev.get qc5_) 24 q8u_ J x = qds_ (fun text t6 t7 b o => J 58 [] (q9q_ text t6 t7 b o)) x.1 := by kernel_rfl
theorem qnp_  (text t6 t7 b o) : jfn Tryz.prog qc6_ 6 18446744073709551616 (Ev.get qc5_) 24 q8u_ 58 [] (q9q_ text t6 t7 b o) = qb3_ text t6 t7 b o := by
  rw [qi_ (by decide)]
  rw [q2a_ (by kernel_rfl)]
  refine q1c_ (σ := (List UInt8) × (Int) × (Int) × (Bool) × (List Int)) (mk := fun s => q9q_ s.1 s.2.1 s.2.2.1 s.2.2.2.1 s.2.2.2.2) (fun w1 s => ?_) 18446744073709551616 (text, t6, t7, b, o)
  refine (qno_ _ w1 s.1 s.2.1 s.2.2.1 s.2.2.2.1 s.2.2.2.2).trans ?_
  rfl
theorem qo3_ (x : As [.str]) : evT Tryz.prog qc6_ 6 18446744073709551616 (Ev.get qc5_) 24 q8u_ x = q7y_ x := by
  have e1 : (fun text t6 t7 b o => (jfn Tryz.prog qc6_ 6 18446744073709551616 (Ev.get qc5_) 24 q8u_) 58 [] (q9q_ text t6 t7 b o)) = qb3_ := by funext text t6 t7 b o; exact qnp_ text t6 t7 b o
  rw [q3s_, qnm_, e1]
  rfl
theorem qnj_ : CtOk Tryz.prog I0 24 ⟨q8u_, q7y_⟩ := ct_of_ev env_nil qo3_
end Go.Proofs.Lx
end
