/- Proved in the last of these 12 parts (this is part 8): the law RecipeTells of chapter 14 returns true at every text and every two recipes. Conditions: those of the given statement, and no others. -/
import Derived.Test.YtnamnibaedolaaaGreatDoorParte
import Derived.Test.YtnamnibaedolaaaGreatDoorPartg
import Derived.Test.YtnamnibaedolaaaGreatDoorProg
set_option linter.unusedVariables false
set_option linter.unusedSimpArgs false
set_option linter.unusedSectionVars false
section
open Go Go.Proofs Ev Sx
set_option maxRecDepth 100000
namespace Go.Proofs.Lx
@[reducible] def qy_ : Sh := ⟨[.d (.pr .str (.sl QAT2))], [], [.pr .str (.sl QAT2)], [.d (.bool)], [], 0, [.bool]⟩
def q18_ : Env := (cts [(46, (⟨q2u_, q61_⟩ : Ct)), (54, (⟨qj2_, qgs_⟩ : Ct)), (55, (⟨qj7_, qhg_⟩ : Ct))])
def q17_ : List (Nat × Hint) := [(58, ⟨[], [1, 3, 34, 35, 36, 37, 56, 57, 58, 59, 62, 63, 64, 65, 66, 67, 68, 69, 70]⟩), (233, ⟨[], [1, 3, 34, 35, 36, 37, 56, 57, 58, 59, 62, 63, 64, 65, 66, 67, 68, 69, 70]⟩), (14926, ⟨[], [1, 3, 4, 5, 34, 35, 36, 37, 56, 57, 58, 59, 62, 63, 64, 65, 66, 67, 68, 69, 70]⟩), (477641, ⟨[.agd 57 (.pr (.int .i64) (.int .u8)), .agd 58 .bool, .agd 59 .bool, .agd 63 .str, .agd 64 .bool, .agd 65 .bool, .agd 67 .str, .agd 68 .bool, .agd 69 .bool, .agd 70 .bool], [1, 3, 4, 5, 71]⟩), (3730, ⟨[.agd 35 (.sl QAT5), .agd 36 (.int .i64), .agd 37 .bool], [1, 3, 4, 38]⟩), (6, ⟨[], [1, 16, 34, 35, 36, 37, 56, 57, 58, 59, 62, 63, 64, 65, 66, 67, 68, 69, 70]⟩)]
def qde_ (t16 : Bool) (r : List UInt8 × List QAT0) : St := { fr := [(1, .pb 0 0), (16, .d .bool t16)], nt := 72, up := [], own := [(0, .box 26 [.d .str r.1, .d (.sl QAT2) r.2])], nx := 1, log := [], ln := 0 }
def q1c_ (i : Int) (r : List UInt8 × List QAT0) : St := { fr := [(1, .pb 0 0), (3, .d (.int .i64) i)], nt := 72, up := [], own := [(0, .box 26 [.d .str r.1, .d (.sl QAT2) r.2])], nx := 1, log := [], ln := 0 }
def qcn_ (i : Int) (t38 : Bool) (r : List UInt8 × List QAT0) (p : List UInt8 × Int × List QAT3) : St := { fr := [(1, .pb 0 0), (3, .d (.int .i64) i), (4, .pb 1 0), (38, .d .bool t38)], nt := 72, up := [], own := [(0, .box 26 [.d .str r.1, .d (.sl QAT2) r.2]), (1, .box 43 [.d .str p.1, .d (.int .i64) p.2.1, .d (.sl QAT5) p.2.2])], nx := 2, log := [], ln := 0 }
def q4g_ (i k : Int) (r : List UInt8 × List QAT0) (p : List UInt8 × Int × List QAT3) : St := { fr := [(1, .pb 0 0), (3, .d (.int .i64) i), (4, .pb 1 0), (5, .d (.int .i64) k)], nt := 72, up := [], own := [(0, .box 26 [.d .str r.1, .d (.sl QAT2) r.2]), (1, .box 43 [.d .str p.1, .d (.int .i64) p.2.1, .d (.sl QAT5) p.2.2])], nx := 2, log := [], ln := 0 }
def qcb_ (i k : Int) (t71 : Bool) (r : List UInt8 × List QAT0) (p : List UInt8 × Int × List QAT3) : St := { fr := [(1, .pb 0 0), (3, .d (.int .i64) i), (4, .pb 1 0), (5, .d (.int .i64) k), (71, .d .bool t71)], nt := 72, up := [], own := [(0, .box 26 [.d .str r.1, .d (.sl QAT2) r.2]), (1, .box 43 [.d .str p.1, .d (.int .i64) p.2.1, .d (.sl QAT5) p.2.2])], nx := 2, log := [], ln := 0 }
def qc9_ (i : Int) (r : List UInt8 × List QAT0) : St := { fr := [(1, .pb 0 0), (3, .d (.int .i64) i)], nt := 72, up := [], own := [(0, .box 26 [.d .str r.1, .d (.sl QAT2) r.2])], nx := 1, log := [], ln := 0 }
def qif_ (j2 : Int -> List UInt8 × List QAT0 -> Option (As [.bool])) (t16 : Bool) (r : List UInt8 × List QAT0) : Option (As [.bool]) :=
  if t16 = true then some (false, ()) else j2 0 r
def q7o_ (j3 : Int -> Bool -> List UInt8 × List QAT0 -> List UInt8 × Int × List QAT3 -> Option (As [.bool])) (self2 : Int -> List UInt8 × List QAT0 -> Option (As [.bool])) (i : Int) (r : List UInt8 × List QAT0) : Option (As [.bool]) :=
  if lt i (Int.ofNat (List.length r.2)) = true then Option.bind (at? r.2 i) fun (y : List UInt8 × Int × List QAT3) => Option.bind (q61_ (y.1, ())) fun (y_1 : Bool × Unit) => if (!y_1.1) = true then j3 i true r y else j3 i (gt (Int.ofNat (List.length y.2.2)) 64) r y else some (true, ())
def qcp_ (j4 : Int -> Int -> List UInt8 × List QAT0 -> List UInt8 × Int × List QAT3 -> Option (As [.bool])) (self2 : Int -> List UInt8 × List QAT0 -> Option (As [.bool])) (i : Int) (t38 : Bool) (r : List UInt8 × List QAT0) (p : List UInt8 × Int × List QAT3) : Option (As [.bool]) :=
  if t38 = true then some (false, ()) else j4 i 0 r p
def q7p_ (j5 : Int -> Int -> Bool -> List UInt8 × List QAT0 -> List UInt8 × Int × List QAT3 -> Option (As [.bool])) (j6 self2 : Int -> List UInt8 × List QAT0 -> Option (As [.bool])) (self4 : Int -> Int -> List UInt8 × List QAT0 -> List UInt8 × Int × List QAT3 -> Option (As [.bool])) (i k : Int) (r : List UInt8 × List QAT0) (p : List UInt8 × Int × List QAT3) : Option (As [.bool]) :=
  if lt k (Int.ofNat (List.length p.2.2)) = true then Option.bind (at? p.2.2 k) fun (y : List UInt8 × (Int × Int) × List UInt8 × Int) => Option.bind (q61_ (y.1, ())) fun (y_1 : Bool × Unit) => if (!y_1.1) = true then j5 i k true r p else Option.bind (qgs_ (y.2.1, ())) fun (y_2 : Bool × Unit) => if (!y_2.1) = true then j5 i k true r p else if nes y.2.2.1 [] = true then Option.bind (qhg_ (y.2.2.1, ())) fun (y : Bool × Unit) => j5 i k (!y.1) r p else j5 i k false r p else j6 i r
def qck_ (self2 : Int -> List UInt8 × List QAT0 -> Option (As [.bool])) (self4 : Int -> Int -> List UInt8 × List QAT0 -> List UInt8 × Int × List QAT3 -> Option (As [.bool])) (i k : Int) (t71 : Bool) (r : List UInt8 × List QAT0) (p : List UInt8 × Int × List QAT3) : Option (As [.bool]) :=
  if t71 = true then some (false, ()) else self4 i (add .i64 k 1) r p
def qbv_ (self2 : Int -> List UInt8 × List QAT0 -> Option (As [.bool])) (i : Int) (r : List UInt8 × List QAT0) : Option (As [.bool]) :=
  self2 (add .i64 i 1) r
def qd3_ (j1 : Bool -> List UInt8 × List QAT0 -> Option (As [.bool])) (r : List UInt8 × List QAT0) : Option (As [.bool]) :=
  Option.bind (q61_ (r.1, ())) fun (y : Bool × Unit) => if (!y.1) = true then j1 true r else j1 (gt (Int.ofNat (List.length r.2)) 8) r
def q9z_ (u2 : Int -> List UInt8 × List QAT0 -> Option (As [.bool])) (u4 : Int -> Int -> List UInt8 × List QAT0 -> List UInt8 × Int × List QAT3 -> Option (As [.bool])) (i k : Int) (t71 : Bool) (r : List UInt8 × List QAT0) (p : List UInt8 × Int × List QAT3) : Option (As [.bool]) := qck_ u2 u4 i k t71 r p
def qcl_ (u2 : Int -> List UInt8 × List QAT0 -> Option (As [.bool])) (i : Int) (r : List UInt8 × List QAT0) : Option (As [.bool]) := qbv_ u2 i r
def q7a_ (u2 : Int -> List UInt8 × List QAT0 -> Option (As [.bool])) (i k : Int) (r : List UInt8 × List QAT0) (p : List UInt8 × Int × List QAT3) : Option (As [.bool]) :=
  loopF (fun (self : (Int) × (Int) × (List UInt8 × List QAT0) × QAT0 -> Option (As [.bool])) (s : (Int) × (Int) × (List UInt8 × List QAT0) × QAT0) => q7p_ (q9z_ u2 (fun i k r p => self (i, k, r, p))) (qcl_ u2) u2 (fun i k r p => self (i, k, r, p)) s.1 s.2.1 s.2.2.1 s.2.2.2) 18446744073709551616 (i, k, r, p)
def q9x_ (u2 : Int -> List UInt8 × List QAT0 -> Option (As [.bool])) (i : Int) (t38 : Bool) (r : List UInt8 × List QAT0) (p : List UInt8 × Int × List QAT3) : Option (As [.bool]) := qcp_ (q7a_ u2) u2 i t38 r p
def q7l_ (i : Int) (r : List UInt8 × List QAT0) : Option (As [.bool]) :=
  loopF (fun (self : (Int) × (List UInt8 × List QAT0) -> Option (As [.bool])) (s : (Int) × (List UInt8 × List QAT0)) => q7o_ (q9x_ (fun i r => self (i, r))) (fun i r => self (i, r)) s.1 s.2) 18446744073709551616 (i, r)
def q9u_ (t16 : Bool) (r : List UInt8 × List QAT0) : Option (As [.bool]) := qif_ (q7l_) t16 r
def q71_ (x : As [.pr .str (.sl QAT2)]) : Option (As [.bool]) := qd3_ q9u_ x.1
theorem qlp_  (J w2 w4 i k t71 r p) : pfn Tryz.prog q18_ 6 18446744073709551616 (Ev.get q17_) 22 qy_ J 477641 [w2, w4] (qcb_ i k t71 r p) = qck_ (fun i r => w2 (q1c_ i r)) (fun i k r p => w4 (q4g_ i k r p)) i k t71 r p := by kernel_rfl
theorem qog_  (J w2 i r) : pfn Tryz.prog q18_ 6 18446744073709551616 (Ev.get q17_) 22 qy_ J 233 [w2] (qc9_ i r) = qbv_ (fun i r => w2 (q1c_ i r)) i r := by kernel_rfl
theorem qo5_  (J w2 w4 i k r p) : pfn Tryz.prog q18_ 6 18446744073709551616 (Ev.get q17_) 22 qy_ J 14926 [w2, w4] (q4g_ i k r p) = q7p_ (fun i k t71 r p => J 477641 [w2, w4] (qcb_ i k t71 r p)) (fun i r => J 233 [w2] (qc9_ i r)) (fun i r => w2 (q1c_ i r)) (fun i k r p => w4 (q4g_ i k r p)) i k r p := by kernel_rfl
theorem qm5_  (J w2 i t38 r p) : pfn Tryz.prog q18_ 6 18446744073709551616 (Ev.get q17_) 22 qy_ J 3730 [w2] (qcn_ i t38 r p) = qcp_ (fun i k r p => J 14926 [w2] (q4g_ i k r p)) (fun i r => w2 (q1c_ i r)) i t38 r p := by kernel_rfl
theorem qmn_  (J w2 i r) : pfn Tryz.prog q18_ 6 18446744073709551616 (Ev.get q17_) 22 qy_ J 58 [w2] (q1c_ i r) = q7o_ (fun i t38 r p => J 3730 [w2] (qcn_ i t38 r p)) (fun i r => w2 (q1c_ i r)) i r := by kernel_rfl
theorem qo9_  (J t16 r) : pfn Tryz.prog q18_ 6 18446744073709551616 (Ev.get q17_) 22 qy_ J 6 [] (qde_ t16 r) = qif_ (fun i r => J 58 [] (q1c_ i r)) t16 r := by kernel_rfl
theorem qok_ (J : Orc (As [.bool])) (x : As [.pr .str (.sl QAT2)]) : rfn Tryz.prog q18_ 6 18446744073709551616 (Ev.get q17_) 22 qy_ J x = qd3_ (fun t16 r => J 6 [] (qde_ t16 r)) x.1 := by kernel_rfl
theorem qmd_  (w2 w4 i k t71 r p) : jfn Tryz.prog q18_ 6 18446744073709551616 (Ev.get q17_) 22 qy_ 477641 [w2, w4] (qcb_ i k t71 r p) = q9z_ (fun i r => w2 (q1c_ i r)) (fun i k r p => w4 (q4g_ i k r p)) i k t71 r p := by
  rw [q2_ (by decide)]
  rw [qlp_]
  rfl
theorem qmo_  (w2 i r) : jfn Tryz.prog q18_ 6 18446744073709551616 (Ev.get q17_) 22 qy_ 233 [w2] (qc9_ i r) = qcl_ (fun i r => w2 (q1c_ i r)) i r := by
  rw [q2_ (by decide)]
  rw [qog_]
  rfl
theorem qmj_  (w2 i k r p) : jfn Tryz.prog q18_ 6 18446744073709551616 (Ev.get q17_) 22 qy_ 14926 [w2] (q4g_ i k r p) = q7a_ (fun i r => w2 (q1c_ i r)) i k r p := by
  rw [q2_ (by decide)]
  rw [qm_ (by kernel_rfl)]
  refine qj_ (σ := (Int) × (Int) × (List UInt8 × List QAT0) × QAT0) (mk := fun s => q4g_ s.1 s.2.1 s.2.2.1 s.2.2.2) (fun w4 s => ?_) 18446744073709551616 (i, k, r, p)
  have e5 : (fun i k t71 r p => (jfn Tryz.prog q18_ 6 18446744073709551616 (Ev.get q17_) 22 qy_) 477641 [w2, w4] (qcb_ i k t71 r p)) = q9z_ (fun i r => w2 (q1c_ i r)) (fun i k r p => w4 (q4g_ i k r p)) := by funext i k t71 r p; exact qmd_ w2 w4 i k t71 r p
  have e6 : (fun i r => (jfn Tryz.prog q18_ 6 18446744073709551616 (Ev.get q17_) 22 qy_) 233 [w2] (qc9_ i r)) = qcl_ (fun i r => w2 (q1c_ i r)) := by funext i r; exact qmo_ w2 i r
  refine (qo5_ _ w2 w4 s.1 s.2.1 s.2.2.1 s.2.2.2).trans ?_
  rw [e5, e6]
theorem qo3_  (w2 i t38 r p) : jfn Tryz.prog q18_ 6 18446744073709551616 (Ev.get q17_) 22 qy_ 3730 [w2] (qcn_ i t38 r p) = q9x_ (fun i r => w2 (q1c_ i r)) i t38 r p := by
  rw [q2_ (by decide)]
  have e4 : (fun i k r p => (jfn Tryz.prog q18_ 6 18446744073709551616 (Ev.get q17_) 22 qy_) 14926 [w2] (q4g_ i k r p)) = q7a_ (fun i r => w2 (q1c_ i r)) := by funext i k r p; exact qmj_ w2 i k r p
  rw [qm5_, e4]
  rfl
theorem qlw_  (i r) : jfn Tryz.prog q18_ 6 18446744073709551616 (Ev.get q17_) 22 qy_ 58 [] (q1c_ i r) = q7l_ i r := by
  rw [q2_ (by decide)]
  rw [qm_ (by kernel_rfl)]
  refine qj_ (σ := (Int) × (List UInt8 × List QAT0)) (mk := fun s => q1c_ s.1 s.2) (fun w2 s => ?_) 18446744073709551616 (i, r)
  have e3 : (fun i t38 r p => (jfn Tryz.prog q18_ 6 18446744073709551616 (Ev.get q17_) 22 qy_) 3730 [w2] (qcn_ i t38 r p)) = q9x_ (fun i r => w2 (q1c_ i r)) := by funext i t38 r p; exact qo3_ w2 i t38 r p
  refine (qmn_ _ w2 s.1 s.2).trans ?_
  rw [e3]
theorem qnz_  (t16 r) : jfn Tryz.prog q18_ 6 18446744073709551616 (Ev.get q17_) 22 qy_ 6 [] (qde_ t16 r) = q9u_ t16 r := by
  rw [q2_ (by decide)]
  have e2 : (fun i r => (jfn Tryz.prog q18_ 6 18446744073709551616 (Ev.get q17_) 22 qy_) 58 [] (q1c_ i r)) = q7l_ := by funext i r; exact qlw_ i r
  rw [qo9_, e2]
  rfl
theorem qpp_ (x : As [.pr .str (.sl QAT2)]) : evT Tryz.prog q18_ 6 18446744073709551616 (Ev.get q17_) 22 qy_ x = q71_ x := by
  have e1 : (fun t16 r => (jfn Tryz.prog q18_ 6 18446744073709551616 (Ev.get q17_) 22 qy_) 6 [] (qde_ t16 r)) = q9u_ := by funext t16 r; exact qnz_ t16 r
  rw [q1v_, qok_, e1]
  rfl
theorem qm9_ : CtOk Tryz.prog I0 22 ⟨qy_, q71_⟩ := qu_ (q1_ qh0_ (q1_ qn7_ (q1_ qp7_ qa_))) qpp_
@[reducible] def q1y_ : Sh := ⟨[.d (.sl QAT5), .d (.sl QAT5), .fn (.func 47) [] []], [], [.sl QAT5, .sl QAT5], [.d .bool], [], 0, [.bool]⟩
def q3h_ : Env := (cts [])
def q3i_ : List (Nat × Hint) := [(58, ⟨[], [1, 2, 15, 16, 17]⟩)]
def q2i_ (s2 t15 : List QAT3) (t16 t17 : Int) : St := { fr := [(1, .d (.sl QAT5) s2), (2, .fn (.func 47) [] []), (15, .d (.sl QAT5) t15), (16, .d (.int .i64) t16), (17, .d (.int .i64) t17)], nt := 32, up := [], own := [], nx := 0, log := [], ln := 0 }
def q2j_ (self1 : List QAT3 -> List QAT3 -> Int -> Int -> Option (As [.bool])) (s2 t15 : List QAT3) (t16 t17 : Int) : Option (As [.bool]) :=
  if lt t17 t16 = true then Option.bind (at? t15 t17) fun (y : List UInt8 × (Int × Int) × List UInt8 × Int) => Option.bind (at? s2 t17) fun (y_1 : List UInt8 × (Int × Int) × List UInt8 × Int) => if eqs y.1 y_1.1 = true then if (eqi y.2.1.1 y_1.2.1.1 && (eqi y.2.1.2 y_1.2.1.2 && true)) = true then if (!eqs y.2.2.1 y_1.2.2.1) = true then some (false, ()) else self1 s2 t15 t16 (add .i64 t17 1) else some (false, ()) else some (false, ()) else some (true, ())
def q4k_ (j1 : List QAT3 -> List QAT3 -> Int -> Int -> Option (As [.bool])) (s1 s2 : List QAT3) : Option (As [.bool]) :=
  if nei (Int.ofNat (List.length s1)) (Int.ofNat (List.length s2)) = true then some (false, ()) else j1 s2 s1 (Int.ofNat (List.length s1)) 0
def q3b_ (s2 t15 : List QAT3) (t16 t17 : Int) : Option (As [.bool]) :=
  loopF (fun (self : (List QAT3) × (List QAT3) × (Int) × (Int) -> Option (As [.bool])) (s : (List QAT3) × (List QAT3) × (Int) × (Int)) => q2j_ (fun s2 t15 t16 t17 => self (s2, t15, t16, t17)) s.1 s.2.1 s.2.2.1 s.2.2.2) 18446744073709551616 (s2, t15, t16, t17)
def q44_ (x : As [.sl QAT5, .sl QAT5]) : Option (As [.bool]) := q4k_ q3b_ x.1 x.2.1
theorem qgb_  (J w1 s2 t15 t16 t17) : pfn Tryz.prog q3h_ 6 18446744073709551616 (Ev.get q3i_) 49 q1y_ J 58 [w1] (q2i_ s2 t15 t16 t17) = q2j_ (fun s2 t15 t16 t17 => w1 (q2i_ s2 t15 t16 t17)) s2 t15 t16 t17 := by kernel_rfl
theorem qfu_ (J : Orc (As [.bool])) (x : As [.sl QAT5, .sl QAT5]) : rfn Tryz.prog q3h_ 6 18446744073709551616 (Ev.get q3i_) 49 q1y_ J x = q4k_ (fun s2 t15 t16 t17 => J 58 [] (q2i_ s2 t15 t16 t17)) x.1 x.2.1 := by kernel_rfl
theorem qg0_  (s2 t15 t16 t17) : jfn Tryz.prog q3h_ 6 18446744073709551616 (Ev.get q3i_) 49 q1y_ 58 [] (q2i_ s2 t15 t16 t17) = q3b_ s2 t15 t16 t17 := by
  rw [q2_ (by decide)]
  rw [qm_ (by kernel_rfl)]
  refine qj_ (σ := (List QAT3) × (List QAT3) × (Int) × (Int)) (mk := fun s => q2i_ s.1 s.2.1 s.2.2.1 s.2.2.2) (fun w1 s => ?_) 18446744073709551616 (s2, t15, t16, t17)
  refine (qgb_ _ w1 s.1 s.2.1 s.2.2.1 s.2.2.2).trans ?_
  rfl
theorem qgv_ (x : As [.sl QAT5, .sl QAT5]) : evT Tryz.prog q3h_ 6 18446744073709551616 (Ev.get q3i_) 49 q1y_ x = q44_ x := by
  have e1 : (fun s2 t15 t16 t17 => (jfn Tryz.prog q3h_ 6 18446744073709551616 (Ev.get q3i_) 49 q1y_) 58 [] (q2i_ s2 t15 t16 t17)) = q3b_ := by funext s2 t15 t16 t17; exact qg0_ s2 t15 t16 t17
  rw [q1v_, qfu_, e1]
  rfl
theorem qa1_ : CtOk Tryz.prog I0 49 ⟨q1y_, q44_⟩ := qu_ qa_ qgv_
@[reducible] def q2h_ : Sh := ⟨[.d (.sl QAT2), .d (.sl QAT2), .fn (.func 48) [] [.pb 0 0]], [.box 111 [.fn (.func 47) [] []]], [.sl QAT2, .sl QAT2], [.d .bool], [(0, .box 111 [.fn (.func 47) [] []])], 0, [.bool]⟩
def q3d_ : Env := (cts [(49, (⟨q1y_, q44_⟩ : Ct))])
def q3a_ : List (Nat × Hint) := [(58, ⟨[], [1, 2, 15, 16, 17]⟩)]
def q29_ (s2 t15 : List QAT0) (t16 t17 : Int) : St := { fr := [(1, .d (.sl QAT2) s2), (2, .fn (.func 48) [] [.pb 0 0]), (15, .d (.sl QAT2) t15), (16, .d (.int .i64) t16), (17, .d (.int .i64) t17)], nt := 32, up := [], own := [(0, .box 111 [.fn (.func 47) [] []])], nx := 1, log := [], ln := 1 }
def q28_ (self1 : List QAT0 -> List QAT0 -> Int -> Int -> Option (As [.bool])) (s2 t15 : List QAT0) (t16 t17 : Int) : Option (As [.bool]) :=
  if lt t17 t16 = true then Option.bind (at? t15 t17) fun (y : List UInt8 × Int × List QAT3) => Option.bind (at? s2 t17) fun (y_1 : List UInt8 × Int × List QAT3) => if eqs y.1 y_1.1 = true then Option.bind (q44_ (y.2.2, y_1.2.2, ())) fun (y : Bool × Unit) => if (!y.1) = true then some (false, ()) else self1 s2 t15 t16 (add .i64 t17 1) else some (false, ()) else some (true, ())
def q46_ (j1 : List QAT0 -> List QAT0 -> Int -> Int -> Option (As [.bool])) (s1 s2 : List QAT0) : Option (As [.bool]) :=
  if nei (Int.ofNat (List.length s1)) (Int.ofNat (List.length s2)) = true then some (false, ()) else j1 s2 s1 (Int.ofNat (List.length s1)) 0
def q35_ (s2 t15 : List QAT0) (t16 t17 : Int) : Option (As [.bool]) :=
  loopF (fun (self : (List QAT0) × (List QAT0) × (Int) × (Int) -> Option (As [.bool])) (s : (List QAT0) × (List QAT0) × (Int) × (Int)) => q28_ (fun s2 t15 t16 t17 => self (s2, t15, t16, t17)) s.1 s.2.1 s.2.2.1 s.2.2.2) 18446744073709551616 (s2, t15, t16, t17)
def q4y_ (x : As [.sl QAT2, .sl QAT2]) : Option (As [.bool]) := q46_ q35_ x.1 x.2.1
theorem qfq_  (J w1 s2 t15 t16 t17) : pfn Tryz.prog q3d_ 6 18446744073709551616 (Ev.get q3a_) 50 q2h_ J 58 [w1] (q29_ s2 t15 t16 t17) = q28_ (fun s2 t15 t16 t17 => w1 (q29_ s2 t15 t16 t17)) s2 t15 t16 t17 := by kernel_rfl
theorem qfr_ (J : Orc (As [.bool])) (x : As [.sl QAT2, .sl QAT2]) : rfn Tryz.prog q3d_ 6 18446744073709551616 (Ev.get q3a_) 50 q2h_ J x = q46_ (fun s2 t15 t16 t17 => J 58 [] (q29_ s2 t15 t16 t17)) x.1 x.2.1 := by kernel_rfl
theorem qfp_  (s2 t15 t16 t17) : jfn Tryz.prog q3d_ 6 18446744073709551616 (Ev.get q3a_) 50 q2h_ 58 [] (q29_ s2 t15 t16 t17) = q35_ s2 t15 t16 t17 := by
  rw [q2_ (by decide)]
  rw [qm_ (by kernel_rfl)]
  refine qj_ (σ := (List QAT0) × (List QAT0) × (Int) × (Int)) (mk := fun s => q29_ s.1 s.2.1 s.2.2.1 s.2.2.2) (fun w1 s => ?_) 18446744073709551616 (s2, t15, t16, t17)
  refine (qfq_ _ w1 s.1 s.2.1 s.2.2.1 s.2.2.2).trans ?_
  rfl
theorem qgc_ (x : As [.sl QAT2, .sl QAT2]) : evT Tryz.prog q3d_ 6 18446744073709551616 (Ev.get q3a_) 50 q2h_ x = q4y_ x := by
  have e1 : (fun s2 t15 t16 t17 => (jfn Tryz.prog q3d_ 6 18446744073709551616 (Ev.get q3a_) 50 q2h_) 58 [] (q29_ s2 t15 t16 t17)) = q35_ := by funext s2 t15 t16 t17; exact qfp_ s2 t15 t16 t17
  rw [q1v_, qfr_, e1]
  rfl
theorem qfs_ : CtOk Tryz.prog I0 50 ⟨q2h_, q4y_⟩ := qu_ (q1_ qa1_ qa_) qgc_
@[reducible] def qit_ : Sh := ⟨[.d (.pr .str (.sl QAT2)), .d (.pr .str (.sl QAT2))], [], [.pr .str (.sl QAT2), .pr .str (.sl QAT2)], [.d (.bool)], [], 0, [.bool]⟩
def qg9_ (a b : List UInt8 × List QAT0) : Option (As [.bool]) :=
  if eqs a.1 b.1 = true then Option.bind (q4y_ (a.2, b.2, ())) fun (y : Bool × Unit) => some (y.1, ()) else some (false, ())
def qgp_ (x : As [.pr .str (.sl QAT2), .pr .str (.sl QAT2)]) : Option (As [.bool]) := qg9_ x.1 x.2.1
theorem qm8_ : CtOk Tryz.prog I0 19 ⟨qit_, qgp_⟩ := ctn (q1_ qa1_ (q1_ qfs_ qa_)) 6 fun J x => by kernel_rfl
@[reducible] def bits_Mul32_s : Sh := ⟨[.d (.int .u32), .d (.int .u32)], [], [.int .u32, .int .u32], [.d (.int .u32), .d (.int .u32)], [], 0, [.int .u32, .int .u32]⟩
def bits_Mul32_m0 (x y : Int) : Option (As [.int .u32, .int .u32]) :=
  some (cvt .u32 (Sx.shr .u64 (mul .u64 (cvt .u64 x) (cvt .u64 y)) 32), cvt .u32 (mul .u64 (cvt .u64 x) (cvt .u64 y)), ())
def bits_Mul32 (x : As [.int .u32, .int .u32]) : Option (As [.int .u32, .int .u32]) := bits_Mul32_m0 x.1 x.2.1
theorem bits_Mul32_ok : CtOk Tryz.prog I0 85 ⟨bits_Mul32_s, bits_Mul32⟩ := ctn qa_ 6 fun J x => by kernel_rfl
@[reducible] def bits_Mul64_s : Sh := ⟨[.d (.int .u64), .d (.int .u64)], [], [.int .u64, .int .u64], [.d (.int .u64), .d (.int .u64)], [], 0, [.int .u64, .int .u64]⟩
def bits_Mul64_m0 (x y : Int) : Option (As [.int .u64, .int .u64]) :=
  some (add .u64 (add .u64 (mul .u64 (Sx.shr .u64 x 32) (Sx.shr .u64 y 32)) (Sx.shr .u64 (add .u64 (mul .u64 (Sx.shr .u64 x 32) (Sx.band .u64 y 4294967295)) (Sx.shr .u64 (mul .u64 (Sx.band .u64 x 4294967295) (Sx.band .u64 y 4294967295)) 32)) 32)) (Sx.shr .u64 (add .u64 (Sx.band .u64 (add .u64 (mul .u64 (Sx.shr .u64 x 32) (Sx.band .u64 y 4294967295)) (Sx.shr .u64 (mul .u64 (Sx.band .u64 x 4294967295) (Sx.band .u64 y 4294967295)) 32)) 4294967295) (mul .u64 (Sx.band .u64 x 4294967295) (Sx.shr .u64 y 32))) 32), mul .u64 x y, ())
def bits_Mul64 (x : As [.int .u64, .int .u64]) : Option (As [.int .u64, .int .u64]) := bits_Mul64_m0 x.1 x.2.1
theorem bits_Mul64_ok : CtOk Tryz.prog I0 86 ⟨bits_Mul64_s, bits_Mul64⟩ := ctn qa_ 6 fun J x => by kernel_rfl
@[reducible] def bits_Mul_s : Sh := ⟨[.d (.int .u64), .d (.int .u64)], [], [.int .u64, .int .u64], [.d (.int .u64), .d (.int .u64)], [], 0, [.int .u64, .int .u64]⟩
def bits_Mul_m0 (x y : Int) : Option (As [.int .u64, .int .u64]) :=
  Option.bind (bits_Mul64 (x, y, ())) fun (y : Int × Int × Unit) => some (y.1, y.2.1, ())
def bits_Mul (x : As [.int .u64, .int .u64]) : Option (As [.int .u64, .int .u64]) := bits_Mul_m0 x.1 x.2.1
theorem bits_Mul_ok : CtOk Tryz.prog I0 59 ⟨bits_Mul_s, bits_Mul⟩ := ctn (q1_ bits_Mul32_ok (q1_ bits_Mul64_ok qa_)) 6 fun J x => by kernel_rfl
@[reducible] def strings_HasPrefix_s : Sh := ⟨[.d (.str), .d (.str)], [], [.str, .str], [.d (.bool)], [], 0, [.bool]⟩
def strings_HasPrefix_m0 (s prefixV : List UInt8) : Option (As [.bool]) :=
  Option.bind (q4t_ (s, prefixV, ())) fun (y : Bool × Unit) => some (y.1, ())
def q4p_ (x : As [.str, .str]) : Option (As [.bool]) := strings_HasPrefix_m0 x.1 x.2.1
theorem strings_HasPrefix_ok : CtOk Tryz.prog I0 60 ⟨strings_HasPrefix_s, q4p_⟩ := ctn (q1_ qbf_ qa_) 6 fun J x => by kernel_rfl
@[reducible] def strings_Repeat_s : Sh := ⟨[.d (.str), .d (.int .i64)], [], [.str, .int .i64], [.d (.str)], [], 0, [.str]⟩
def q7_ : Env := (cts [(59, (⟨bits_Mul_s, bits_Mul⟩ : Ct)), (60, (⟨strings_HasPrefix_s, q4p_⟩ : Ct))])
def q8_ : List (Nat × Hint) := [(7, ⟨[], [0, 1, 32, 33, 53, 54, 62, 63, 71, 72, 80, 81, 89, 90]⟩), (31, ⟨[], [0, 6, 53, 54, 62, 63, 71, 72, 80, 81, 89, 90]⟩), (255, ⟨[], [0, 7]⟩), (1023, ⟨[], [0, 7, 8]⟩), (65532, ⟨[], [7, 8, 9]⟩), (2042, ⟨[], [0, 7, 43, 53, 54, 62, 63, 71, 72, 80, 81, 89, 90]⟩), (16340, ⟨[], [0, 7, 49, 62, 63, 71, 72, 80, 81, 89, 90]⟩), (65363, ⟨[], [0, 7, 58, 71, 72, 80, 81, 89, 90]⟩), (261455, ⟨[], [0, 7, 67, 80, 81, 89, 90]⟩), (1045823, ⟨[], [0, 7, 76, 89, 90]⟩), (4183295, ⟨[], [0, 7, 85]⟩), (62, ⟨[], [0, 6, 34, 53, 54, 62, 63, 71, 72, 80, 81, 89, 90]⟩)]
def q93_ (s : List UInt8) (count : Int) : St := { fr := [(0, .d .str s), (1, .d (.int .i64) count)], nt := 125, up := [], own := [], nx := 0, log := [], ln := 0 }
def q94_ (s : List UInt8) (lo : Int) (t34 : Bool) : St := { fr := [(0, .d .str s), (6, .d (.int .u64) lo), (34, .d .bool t34)], nt := 125, up := [], own := [], nx := 0, log := [], ln := 0 }
def q95_ (s : List UInt8) (lo : Int) : St := { fr := [(0, .d .str s), (6, .d (.int .u64) lo)], nt := 125, up := [], own := [], nx := 0, log := [], ln := 0 }
def q96_ (s : List UInt8) (n : Int) (t43 : Bool) : St := { fr := [(0, .d .str s), (7, .d (.int .i64) n), (43, .d .bool t43)], nt := 125, up := [], own := [], nx := 0, log := [], ln := 0 }
def q97_ (s : List UInt8) (n : Int) (t49 : Bool) : St := { fr := [(0, .d .str s), (7, .d (.int .i64) n), (49, .d .bool t49)], nt := 125, up := [], own := [], nx := 0, log := [], ln := 0 }
def q5j_ (s : List UInt8) (n : Int) : St := { fr := [(0, .d .str s), (7, .d (.int .i64) n)], nt := 125, up := [], own := [], nx := 0, log := [], ln := 0 }
def q98_ (s : List UInt8) (n : Int) (t58 : Bool) : St := { fr := [(0, .d .str s), (7, .d (.int .i64) n), (58, .d .bool t58)], nt := 125, up := [], own := [], nx := 0, log := [], ln := 0 }
def q99_ (s : List UInt8) (n chunkMax : Int) : St := { fr := [(0, .d .str s), (7, .d (.int .i64) n), (8, .d (.int .i64) chunkMax)], nt := 125, up := [], own := [], nx := 0, log := [], ln := 0 }
def q9a_ (s : List UInt8) (n : Int) (t67 : Bool) : St := { fr := [(0, .d .str s), (7, .d (.int .i64) n), (67, .d .bool t67)], nt := 125, up := [], own := [], nx := 0, log := [], ln := 0 }
def q8v_ (s : List UInt8) (n : Int) (t76 : Bool) : St := { fr := [(0, .d .str s), (7, .d (.int .i64) n), (76, .d .bool t76)], nt := 125, up := [], own := [], nx := 0, log := [], ln := 0 }
def q8w_ (s : List UInt8) (n : Int) (t85 : Bool) : St := { fr := [(0, .d .str s), (7, .d (.int .i64) n), (85, .d .bool t85)], nt := 125, up := [], own := [], nx := 0, log := [], ln := 0 }
def strings_Repeat_m1 (j2 : List UInt8 -> Int -> Bool -> Option (As [.str])) (s : List UInt8) (count : Int) : Option (As [.str]) :=
  Option.bind (bits_Mul (cvt .u64 (Int.ofNat (List.length s)), cvt .u64 count, ())) fun (y : Int × Int × Unit) => if gt y.1 0 = true then j2 s y.2.1 true else j2 s y.2.1 (gt y.2.1 9223372036854775807)
def strings_Repeat_m2 (j3 : List UInt8 -> Int -> Option (As [.str])) (s : List UInt8) (lo : Int) (t34 : Bool) : Option (As [.str]) :=
  if t34 = true then Option.none else j3 s lo
def strings_Repeat_m3 (j4 : List UInt8 -> Int -> Bool -> Option (As [.str])) (s : List UInt8) (lo : Int) : Option (As [.str]) :=
  if eqi (Int.ofNat (List.length s)) 0 = true then some ([], ()) else Option.bind (at? s 0) fun (c : UInt8) => if eqi (Int.ofNat (UInt8.toNat c)) 32 = true then j4 s (cvt .i64 lo) true else if eqi (Int.ofNat (UInt8.toNat c)) 45 = true then j4 s (cvt .i64 lo) true else if eqi (Int.ofNat (UInt8.toNat c)) 48 = true then j4 s (cvt .i64 lo) true else if eqi (Int.ofNat (UInt8.toNat c)) 61 = true then j4 s (cvt .i64 lo) true else j4 s (cvt .i64 lo) (eqi (Int.ofNat (UInt8.toNat c)) 9)
def strings_Repeat_m4 (j5 : List UInt8 -> Int -> Bool -> Option (As [.str])) (j6 : List UInt8 -> Int -> Option (As [.str])) (s : List UInt8) (n : Int) (t43 : Bool) : Option (As [.str]) :=
  if t43 = true then if le n 128 = true then Option.bind (q4p_ ([32, 32, 32, 32, 32, 32, 32, 32, 32, 32, 32, 32, 32, 32, 32, 32, 32, 32, 32, 32, 32, 32, 32, 32, 32, 32, 32, 32, 32, 32, 32, 32, 32, 32, 32, 32, 32, 32, 32, 32, 32, 32, 32, 32, 32, 32, 32, 32, 32, 32, 32, 32, 32, 32, 32, 32, 32, 32, 32, 32, 32, 32, 32, 32, 32, 32, 32, 32, 32, 32, 32, 32, 32, 32, 32, 32, 32, 32, 32, 32, 32, 32, 32, 32, 32, 32, 32, 32, 32, 32, 32, 32, 32, 32, 32, 32, 32, 32, 32, 32, 32, 32, 32, 32, 32, 32, 32, 32, 32, 32, 32, 32, 32, 32, 32, 32, 32, 32, 32, 32, 32, 32, 32, 32, 32, 32, 32, 32], s, ())) fun (y : Bool × Unit) => j5 s n y.1 else j5 s n false else j6 s n
def strings_Repeat_m5 (j7 : List UInt8 -> Int -> Bool -> Option (As [.str])) (s : List UInt8) (n : Int) (t49 : Bool) : Option (As [.str]) :=
  if t49 = true then Option.bind (cut [32, 32, 32, 32, 32, 32, 32, 32, 32, 32, 32, 32, 32, 32, 32, 32, 32, 32, 32, 32, 32, 32, 32, 32, 32, 32, 32, 32, 32, 32, 32, 32, 32, 32, 32, 32, 32, 32, 32, 32, 32, 32, 32, 32, 32, 32, 32, 32, 32, 32, 32, 32, 32, 32, 32, 32, 32, 32, 32, 32, 32, 32, 32, 32, 32, 32, 32, 32, 32, 32, 32, 32, 32, 32, 32, 32, 32, 32, 32, 32, 32, 32, 32, 32, 32, 32, 32, 32, 32, 32, 32, 32, 32, 32, 32, 32, 32, 32, 32, 32, 32, 32, 32, 32, 32, 32, 32, 32, 32, 32, 32, 32, 32, 32, 32, 32, 32, 32, 32, 32, 32, 32, 32, 32, 32, 32, 32, 32] 0 n) fun (y : List UInt8) => some (y, ()) else if le n 128 = true then Option.bind (q4p_ ([45, 45, 45, 45, 45, 45, 45, 45, 45, 45, 45, 45, 45, 45, 45, 45, 45, 45, 45, 45, 45, 45, 45, 45, 45, 45, 45, 45, 45, 45, 45, 45, 45, 45, 45, 45, 45, 45, 45, 45, 45, 45, 45, 45, 45, 45, 45, 45, 45, 45, 45, 45, 45, 45, 45, 45, 45, 45, 45, 45, 45, 45, 45, 45, 45, 45, 45, 45, 45, 45, 45, 45, 45, 45, 45, 45, 45, 45, 45, 45, 45, 45, 45, 45, 45, 45, 45, 45, 45, 45, 45, 45, 45, 45, 45, 45, 45, 45, 45, 45, 45, 45, 45, 45, 45, 45, 45, 45, 45, 45, 45, 45, 45, 45, 45, 45, 45, 45, 45, 45, 45, 45, 45, 45, 45, 45, 45, 45], s, ())) fun (y : Bool × Unit) => j7 s n y.1 else j7 s n false
def strings_Repeat_m6 (j8 : List UInt8 -> Int -> Int -> Option (As [.str])) (s : List UInt8) (n : Int) : Option (As [.str]) :=
  if gt n 8192 = true then need (nei (Int.ofNat (List.length s)) 0) (if eqi (mul .i64 (quo .i64 8192 (Int.ofNat (List.length s))) (Int.ofNat (List.length s))) 0 = true then j8 s n (Int.ofNat (List.length s)) else j8 s n (mul .i64 (quo .i64 8192 (Int.ofNat (List.length s))) (Int.ofNat (List.length s)))) else j8 s n n
def strings_Repeat_m7 (j9 : List UInt8 -> Int -> Bool -> Option (As [.str])) (s : List UInt8) (n : Int) (t58 : Bool) : Option (As [.str]) :=
  if t58 = true then Option.bind (cut [45, 45, 45, 45, 45, 45, 45, 45, 45, 45, 45, 45, 45, 45, 45, 45, 45, 45, 45, 45, 45, 45, 45, 45, 45, 45, 45, 45, 45, 45, 45, 45, 45, 45, 45, 45, 45, 45, 45, 45, 45, 45, 45, 45, 45, 45, 45, 45, 45, 45, 45, 45, 45, 45, 45, 45, 45, 45, 45, 45, 45, 45, 45, 45, 45, 45, 45, 45, 45, 45, 45, 45, 45, 45, 45, 45, 45, 45, 45, 45, 45, 45, 45, 45, 45, 45, 45, 45, 45, 45, 45, 45, 45, 45, 45, 45, 45, 45, 45, 45, 45, 45, 45, 45, 45, 45, 45, 45, 45, 45, 45, 45, 45, 45, 45, 45, 45, 45, 45, 45, 45, 45, 45, 45, 45, 45, 45, 45] 0 n) fun (y : List UInt8) => some (y, ()) else if le n 64 = true then Option.bind (q4p_ ([48, 48, 48, 48, 48, 48, 48, 48, 48, 48, 48, 48, 48, 48, 48, 48, 48, 48, 48, 48, 48, 48, 48, 48, 48, 48, 48, 48, 48, 48, 48, 48, 48, 48, 48, 48, 48, 48, 48, 48, 48, 48, 48, 48, 48, 48, 48, 48, 48, 48, 48, 48, 48, 48, 48, 48, 48, 48, 48, 48, 48, 48, 48, 48], s, ())) fun (y : Bool × Unit) => j9 s n y.1 else j9 s n false
def strings_Repeat_m8 (s : List UInt8) (n chunkMax : Int) : Option (As [.str]) :=
  if lt n 0 = true then Option.none else Option.none
def strings_Repeat_m9 (j10 : List UInt8 -> Int -> Bool -> Option (As [.str])) (s : List UInt8) (n : Int) (t67 : Bool) : Option (As [.str]) :=
  if t67 = true then Option.bind (cut [48, 48, 48, 48, 48, 48, 48, 48, 48, 48, 48, 48, 48, 48, 48, 48, 48, 48, 48, 48, 48, 48, 48, 48, 48, 48, 48, 48, 48, 48, 48, 48, 48, 48, 48, 48, 48, 48, 48, 48, 48, 48, 48, 48, 48, 48, 48, 48, 48, 48, 48, 48, 48, 48, 48, 48, 48, 48, 48, 48, 48, 48, 48, 48] 0 n) fun (y : List UInt8) => some (y, ()) else if le n 128 = true then Option.bind (q4p_ ([61, 61, 61, 61, 61, 61, 61, 61, 61, 61, 61, 61, 61, 61, 61, 61, 61, 61, 61, 61, 61, 61, 61, 61, 61, 61, 61, 61, 61, 61, 61, 61, 61, 61, 61, 61, 61, 61, 61, 61, 61, 61, 61, 61, 61, 61, 61, 61, 61, 61, 61, 61, 61, 61, 61, 61, 61, 61, 61, 61, 61, 61, 61, 61, 61, 61, 61, 61, 61, 61, 61, 61, 61, 61, 61, 61, 61, 61, 61, 61, 61, 61, 61, 61, 61, 61, 61, 61, 61, 61, 61, 61, 61, 61, 61, 61, 61, 61, 61, 61, 61, 61, 61, 61, 61, 61, 61, 61, 61, 61, 61, 61, 61, 61, 61, 61, 61, 61, 61, 61, 61, 61, 61, 61, 61, 61, 61, 61], s, ())) fun (y : Bool × Unit) => j10 s n y.1 else j10 s n false
def strings_Repeat_m10 (j11 : List UInt8 -> Int -> Bool -> Option (As [.str])) (s : List UInt8) (n : Int) (t76 : Bool) : Option (As [.str]) :=
  if t76 = true then Option.bind (cut [61, 61, 61, 61, 61, 61, 61, 61, 61, 61, 61, 61, 61, 61, 61, 61, 61, 61, 61, 61, 61, 61, 61, 61, 61, 61, 61, 61, 61, 61, 61, 61, 61, 61, 61, 61, 61, 61, 61, 61, 61, 61, 61, 61, 61, 61, 61, 61, 61, 61, 61, 61, 61, 61, 61, 61, 61, 61, 61, 61, 61, 61, 61, 61, 61, 61, 61, 61, 61, 61, 61, 61, 61, 61, 61, 61, 61, 61, 61, 61, 61, 61, 61, 61, 61, 61, 61, 61, 61, 61, 61, 61, 61, 61, 61, 61, 61, 61, 61, 61, 61, 61, 61, 61, 61, 61, 61, 61, 61, 61, 61, 61, 61, 61, 61, 61, 61, 61, 61, 61, 61, 61, 61, 61, 61, 61, 61, 61] 0 n) fun (y : List UInt8) => some (y, ()) else if le n 64 = true then Option.bind (q4p_ ([9, 9, 9, 9, 9, 9, 9, 9, 9, 9, 9, 9, 9, 9, 9, 9, 9, 9, 9, 9, 9, 9, 9, 9, 9, 9, 9, 9, 9, 9, 9, 9, 9, 9, 9, 9, 9, 9, 9, 9, 9, 9, 9, 9, 9, 9, 9, 9, 9, 9, 9, 9, 9, 9, 9, 9, 9, 9, 9, 9, 9, 9, 9, 9], s, ())) fun (y : Bool × Unit) => j11 s n y.1 else j11 s n false
def strings_Repeat_m11 (j6 : List UInt8 -> Int -> Option (As [.str])) (s : List UInt8) (n : Int) (t85 : Bool) : Option (As [.str]) :=
  if t85 = true then Option.bind (cut [9, 9, 9, 9, 9, 9, 9, 9, 9, 9, 9, 9, 9, 9, 9, 9, 9, 9, 9, 9, 9, 9, 9, 9, 9, 9, 9, 9, 9, 9, 9, 9, 9, 9, 9, 9, 9, 9, 9, 9, 9, 9, 9, 9, 9, 9, 9, 9, 9, 9, 9, 9, 9, 9, 9, 9, 9, 9, 9, 9, 9, 9, 9, 9] 0 n) fun (y : List UInt8) => some (y, ()) else j6 s n
def strings_Repeat_m0 (j1 : List UInt8 -> Int -> Option (As [.str])) (s : List UInt8) (count : Int) : Option (As [.str]) :=
  if eqi count 0 = true then some ([], ()) else if eqi count 1 = true then some (s, ()) else if lt count 0 = true then Option.none else j1 s count
def strings_Repeat_K8 (s : List UInt8) (n chunkMax : Int) : Option (As [.str]) := strings_Repeat_m8 s n chunkMax
def q6u_ (s : List UInt8) (n : Int) : Option (As [.str]) := strings_Repeat_m6 (strings_Repeat_K8) s n
def strings_Repeat_K11 (s : List UInt8) (n : Int) (t85 : Bool) : Option (As [.str]) := strings_Repeat_m11 (q6u_) s n t85
def strings_Repeat_K10 (s : List UInt8) (n : Int) (t76 : Bool) : Option (As [.str]) := strings_Repeat_m10 (strings_Repeat_K11) s n t76
def strings_Repeat_K9 (s : List UInt8) (n : Int) (t67 : Bool) : Option (As [.str]) := strings_Repeat_m9 (strings_Repeat_K10) s n t67
def strings_Repeat_K7 (s : List UInt8) (n : Int) (t58 : Bool) : Option (As [.str]) := strings_Repeat_m7 (strings_Repeat_K9) s n t58
def strings_Repeat_K5 (s : List UInt8) (n : Int) (t49 : Bool) : Option (As [.str]) := strings_Repeat_m5 (strings_Repeat_K7) s n t49
def strings_Repeat_K4 (s : List UInt8) (n : Int) (t43 : Bool) : Option (As [.str]) := strings_Repeat_m4 (strings_Repeat_K5) (q6u_) s n t43
def strings_Repeat_K3 (s : List UInt8) (lo : Int) : Option (As [.str]) := strings_Repeat_m3 (strings_Repeat_K4) s lo
def strings_Repeat_K2 (s : List UInt8) (lo : Int) (t34 : Bool) : Option (As [.str]) := strings_Repeat_m2 (strings_Repeat_K3) s lo t34
def strings_Repeat_K1 (s : List UInt8) (count : Int) : Option (As [.str]) := strings_Repeat_m1 (strings_Repeat_K2) s count
def strings_Repeat (x : As [.str, .int .i64]) : Option (As [.str]) := strings_Repeat_m0 strings_Repeat_K1 x.1 x.2.1
theorem strings_Repeat_c8  (J s n chunkMax) : pfn Tryz.prog q7_ 6 18446744073709551616 (Ev.get q8_) 27 strings_Repeat_s J 1023 [] (q99_ s n chunkMax) = strings_Repeat_m8 s n chunkMax := by kernel_rfl
theorem strings_Repeat_c6  (J s n) : pfn Tryz.prog q7_ 6 18446744073709551616 (Ev.get q8_) 27 strings_Repeat_s J 255 [] (q5j_ s n) = strings_Repeat_m6 (fun s n chunkMax => J 1023 [] (q99_ s n chunkMax)) s n := by kernel_rfl
theorem strings_Repeat_c11  (J s n t85) : pfn Tryz.prog q7_ 6 18446744073709551616 (Ev.get q8_) 27 strings_Repeat_s J 4183295 [] (q8w_ s n t85) = strings_Repeat_m11 (fun s n => J 255 [] (q5j_ s n)) s n t85 := by kernel_rfl
theorem strings_Repeat_c10  (J s n t76) : pfn Tryz.prog q7_ 6 18446744073709551616 (Ev.get q8_) 27 strings_Repeat_s J 1045823 [] (q8v_ s n t76) = strings_Repeat_m10 (fun s n t85 => J 4183295 [] (q8w_ s n t85)) s n t76 := by kernel_rfl
theorem strings_Repeat_c9  (J s n t67) : pfn Tryz.prog q7_ 6 18446744073709551616 (Ev.get q8_) 27 strings_Repeat_s J 261455 [] (q9a_ s n t67) = strings_Repeat_m9 (fun s n t76 => J 1045823 [] (q8v_ s n t76)) s n t67 := by kernel_rfl
theorem strings_Repeat_c7  (J s n t58) : pfn Tryz.prog q7_ 6 18446744073709551616 (Ev.get q8_) 27 strings_Repeat_s J 65363 [] (q98_ s n t58) = strings_Repeat_m7 (fun s n t67 => J 261455 [] (q9a_ s n t67)) s n t58 := by kernel_rfl
theorem strings_Repeat_c5  (J s n t49) : pfn Tryz.prog q7_ 6 18446744073709551616 (Ev.get q8_) 27 strings_Repeat_s J 16340 [] (q97_ s n t49) = strings_Repeat_m5 (fun s n t58 => J 65363 [] (q98_ s n t58)) s n t49 := by kernel_rfl
theorem strings_Repeat_c4  (J s n t43) : pfn Tryz.prog q7_ 6 18446744073709551616 (Ev.get q8_) 27 strings_Repeat_s J 2042 [] (q96_ s n t43) = strings_Repeat_m4 (fun s n t49 => J 16340 [] (q97_ s n t49)) (fun s n => J 255 [] (q5j_ s n)) s n t43 := by kernel_rfl
theorem strings_Repeat_c3  (J s lo) : pfn Tryz.prog q7_ 6 18446744073709551616 (Ev.get q8_) 27 strings_Repeat_s J 31 [] (q95_ s lo) = strings_Repeat_m3 (fun s n t43 => J 2042 [] (q96_ s n t43)) s lo := by kernel_rfl
theorem strings_Repeat_c2  (J s lo t34) : pfn Tryz.prog q7_ 6 18446744073709551616 (Ev.get q8_) 27 strings_Repeat_s J 62 [] (q94_ s lo t34) = strings_Repeat_m2 (fun s lo => J 31 [] (q95_ s lo)) s lo t34 := by kernel_rfl
theorem strings_Repeat_c1  (J s count) : pfn Tryz.prog q7_ 6 18446744073709551616 (Ev.get q8_) 27 strings_Repeat_s J 7 [] (q93_ s count) = strings_Repeat_m1 (fun s lo t34 => J 62 [] (q94_ s lo t34)) s count := by kernel_rfl
theorem strings_Repeat_c0 (J : Orc (As [.str])) (x : As [.str, .int .i64]) : rfn Tryz.prog q7_ 6 18446744073709551616 (Ev.get q8_) 27 strings_Repeat_s J x = strings_Repeat_m0 (fun s count => J 7 [] (q93_ s count)) x.1 x.2.1 := by kernel_rfl
theorem strings_Repeat_g8  (s n chunkMax) : jfn Tryz.prog q7_ 6 18446744073709551616 (Ev.get q8_) 27 strings_Repeat_s 1023 [] (q99_ s n chunkMax) = strings_Repeat_K8 s n chunkMax := by
  rw [q2_ (by decide)]
  rw [strings_Repeat_c8]
  rfl
theorem strings_Repeat_g6  (s n) : jfn Tryz.prog q7_ 6 18446744073709551616 (Ev.get q8_) 27 strings_Repeat_s 255 [] (q5j_ s n) = q6u_ s n := by
  rw [q2_ (by decide)]
  have e8 : (fun s n chunkMax => (jfn Tryz.prog q7_ 6 18446744073709551616 (Ev.get q8_) 27 strings_Repeat_s) 1023 [] (q99_ s n chunkMax)) = strings_Repeat_K8 := by funext s n chunkMax; exact strings_Repeat_g8 s n chunkMax
  rw [strings_Repeat_c6, e8]
  rfl
theorem strings_Repeat_g11  (s n t85) : jfn Tryz.prog q7_ 6 18446744073709551616 (Ev.get q8_) 27 strings_Repeat_s 4183295 [] (q8w_ s n t85) = strings_Repeat_K11 s n t85 := by
  rw [q2_ (by decide)]
  have e6 : (fun s n => (jfn Tryz.prog q7_ 6 18446744073709551616 (Ev.get q8_) 27 strings_Repeat_s) 255 [] (q5j_ s n)) = q6u_ := by funext s n; exact strings_Repeat_g6 s n
  rw [strings_Repeat_c11, e6]
  rfl
theorem strings_Repeat_g10  (s n t76) : jfn Tryz.prog q7_ 6 18446744073709551616 (Ev.get q8_) 27 strings_Repeat_s 1045823 [] (q8v_ s n t76) = strings_Repeat_K10 s n t76 := by
  rw [q2_ (by decide)]
  have e11 : (fun s n t85 => (jfn Tryz.prog q7_ 6 18446744073709551616 (Ev.get q8_) 27 strings_Repeat_s) 4183295 [] (q8w_ s n t85)) = strings_Repeat_K11 := by funext s n t85; exact strings_Repeat_g11 s n t85
  rw [strings_Repeat_c10, e11]
  rfl
theorem strings_Repeat_g9  (s n t67) : jfn Tryz.prog q7_ 6 18446744073709551616 (Ev.get q8_) 27 strings_Repeat_s 261455 [] (q9a_ s n t67) = strings_Repeat_K9 s n t67 := by
  rw [q2_ (by decide)]
  have e10 : (fun s n t76 => (jfn Tryz.prog q7_ 6 18446744073709551616 (Ev.get q8_) 27 strings_Repeat_s) 1045823 [] (q8v_ s n t76)) = strings_Repeat_K10 := by funext s n t76; exact strings_Repeat_g10 s n t76
  rw [strings_Repeat_c9, e10]
  rfl
theorem strings_Repeat_g7  (s n t58) : jfn Tryz.prog q7_ 6 18446744073709551616 (Ev.get q8_) 27 strings_Repeat_s 65363 [] (q98_ s n t58) = strings_Repeat_K7 s n t58 := by
  rw [q2_ (by decide)]
  have e9 : (fun s n t67 => (jfn Tryz.prog q7_ 6 18446744073709551616 (Ev.get q8_) 27 strings_Repeat_s) 261455 [] (q9a_ s n t67)) = strings_Repeat_K9 := by funext s n t67; exact strings_Repeat_g9 s n t67
  rw [strings_Repeat_c7, e9]
  rfl
theorem strings_Repeat_g5  (s n t49) : jfn Tryz.prog q7_ 6 18446744073709551616 (Ev.get q8_) 27 strings_Repeat_s 16340 [] (q97_ s n t49) = strings_Repeat_K5 s n t49 := by
  rw [q2_ (by decide)]
  have e7 : (fun s n t58 => (jfn Tryz.prog q7_ 6 18446744073709551616 (Ev.get q8_) 27 strings_Repeat_s) 65363 [] (q98_ s n t58)) = strings_Repeat_K7 := by funext s n t58; exact strings_Repeat_g7 s n t58
  rw [strings_Repeat_c5, e7]
  rfl
theorem strings_Repeat_g4  (s n t43) : jfn Tryz.prog q7_ 6 18446744073709551616 (Ev.get q8_) 27 strings_Repeat_s 2042 [] (q96_ s n t43) = strings_Repeat_K4 s n t43 := by
  rw [q2_ (by decide)]
  have e5 : (fun s n t49 => (jfn Tryz.prog q7_ 6 18446744073709551616 (Ev.get q8_) 27 strings_Repeat_s) 16340 [] (q97_ s n t49)) = strings_Repeat_K5 := by funext s n t49; exact strings_Repeat_g5 s n t49
  have e6 : (fun s n => (jfn Tryz.prog q7_ 6 18446744073709551616 (Ev.get q8_) 27 strings_Repeat_s) 255 [] (q5j_ s n)) = q6u_ := by funext s n; exact strings_Repeat_g6 s n
  rw [strings_Repeat_c4, e5, e6]
  rfl
theorem strings_Repeat_g3  (s lo) : jfn Tryz.prog q7_ 6 18446744073709551616 (Ev.get q8_) 27 strings_Repeat_s 31 [] (q95_ s lo) = strings_Repeat_K3 s lo := by
  rw [q2_ (by decide)]
  have e4 : (fun s n t43 => (jfn Tryz.prog q7_ 6 18446744073709551616 (Ev.get q8_) 27 strings_Repeat_s) 2042 [] (q96_ s n t43)) = strings_Repeat_K4 := by funext s n t43; exact strings_Repeat_g4 s n t43
  rw [strings_Repeat_c3, e4]
  rfl
theorem strings_Repeat_g2  (s lo t34) : jfn Tryz.prog q7_ 6 18446744073709551616 (Ev.get q8_) 27 strings_Repeat_s 62 [] (q94_ s lo t34) = strings_Repeat_K2 s lo t34 := by
  rw [q2_ (by decide)]
  have e3 : (fun s lo => (jfn Tryz.prog q7_ 6 18446744073709551616 (Ev.get q8_) 27 strings_Repeat_s) 31 [] (q95_ s lo)) = strings_Repeat_K3 := by funext s lo; exact strings_Repeat_g3 s lo
  rw [strings_Repeat_c2, e3]
  rfl
theorem strings_Repeat_g1  (s count) : jfn Tryz.prog q7_ 6 18446744073709551616 (Ev.get q8_) 27 strings_Repeat_s 7 [] (q93_ s count) = strings_Repeat_K1 s count := by
  rw [q2_ (by decide)]
  have e2 : (fun s lo t34 => (jfn Tryz.prog q7_ 6 18446744073709551616 (Ev.get q8_) 27 strings_Repeat_s) 62 [] (q94_ s lo t34)) = strings_Repeat_K2 := by funext s lo t34; exact strings_Repeat_g2 s lo t34
  rw [strings_Repeat_c1, e2]
  rfl
theorem strings_Repeat_t (x : As [.str, .int .i64]) : evT Tryz.prog q7_ 6 18446744073709551616 (Ev.get q8_) 27 strings_Repeat_s x = strings_Repeat x := by
  have e1 : (fun s count => (jfn Tryz.prog q7_ 6 18446744073709551616 (Ev.get q8_) 27 strings_Repeat_s) 7 [] (q93_ s count)) = strings_Repeat_K1 := by funext s count; exact strings_Repeat_g1 s count
  rw [q1v_, strings_Repeat_c0, e1]
  rfl
theorem strings_Repeat_ok : CtOk Tryz.prog I0 27 ⟨strings_Repeat_s, strings_Repeat⟩ := qu_ (q1_ bits_Mul_ok (q1_ strings_HasPrefix_ok qa_)) strings_Repeat_t
@[reducible] def q6p_ : Sh := ⟨[.d (.int .i64)], [], [.int .i64], [.d (.int .i64)], [], 0, [.int .i64]⟩
def qaq_ : Env := (cts [])
def qav_ : List (Nat × Hint) := [(58, ⟨[], [3, 4, 5]⟩)]
def q76_ (p t4 t5 : Int) : St := { fr := [(3, .d (.int .i64) p), (4, .d (.int .i64) t4), (5, .d (.int .i64) t5)], nt := 11, up := [], own := [], nx := 0, log := [], ln := 0 }
def qia_ (self1 : Int -> Int -> Int -> Option (As [.int .i64])) (p t4 t5 : Int) : Option (As [.int .i64]) :=
  if lt t5 t4 = true then self1 (mul .i64 p 10) t4 (add .i64 t5 1) else some (p, ())
def qib_ (j1 : Int -> Int -> Int -> Option (As [.int .i64])) (n : Int) : Option (As [.int .i64]) :=
  j1 1 n 0
def qfz_ (p t4 t5 : Int) : Option (As [.int .i64]) :=
  loopF (fun (self : (Int) × (Int) × (Int) -> Option (As [.int .i64])) (s : (Int) × (Int) × (Int)) => qia_ (fun p t4 t5 => self (p, t4, t5)) s.1 s.2.1 s.2.2) 18446744073709551616 (p, t4, t5)
def qdk_ (x : As [.int .i64]) : Option (As [.int .i64]) := qib_ qfz_ x.1
theorem qly_  (J w1 p t4 t5) : pfn Tryz.prog qaq_ 6 18446744073709551616 (Ev.get qav_) 68 q6p_ J 58 [w1] (q76_ p t4 t5) = qia_ (fun p t4 t5 => w1 (q76_ p t4 t5)) p t4 t5 := by kernel_rfl
theorem qnr_ (J : Orc (As [.int .i64])) (x : As [.int .i64]) : rfn Tryz.prog qaq_ 6 18446744073709551616 (Ev.get qav_) 68 q6p_ J x = qib_ (fun p t4 t5 => J 58 [] (q76_ p t4 t5)) x.1 := by kernel_rfl
theorem qma_  (p t4 t5) : jfn Tryz.prog qaq_ 6 18446744073709551616 (Ev.get qav_) 68 q6p_ 58 [] (q76_ p t4 t5) = qfz_ p t4 t5 := by
  rw [q2_ (by decide)]
  rw [qm_ (by kernel_rfl)]
  refine qj_ (σ := (Int) × (Int) × (Int)) (mk := fun s => q76_ s.1 s.2.1 s.2.2) (fun w1 s => ?_) 18446744073709551616 (p, t4, t5)
  refine (qly_ _ w1 s.1 s.2.1 s.2.2).trans ?_
  rfl
theorem qq3_ (x : As [.int .i64]) : evT Tryz.prog qaq_ 6 18446744073709551616 (Ev.get qav_) 68 q6p_ x = qdk_ x := by
  have e1 : (fun p t4 t5 => (jfn Tryz.prog qaq_ 6 18446744073709551616 (Ev.get qav_) 68 q6p_) 58 [] (q76_ p t4 t5)) = qfz_ := by funext p t4 t5; exact qma_ p t4 t5
  rw [q1v_, qnr_, e1]
  rfl
theorem qmz_ : CtOk Tryz.prog I0 68 ⟨q6p_, qdk_⟩ := qu_ qa_ qq3_
@[reducible] def strconv_FormatInt_s : Sh := ⟨[.d (.int .i64), .d (.int .i64)], [], [.int .i64, .int .i64], [.d (.str)], [], 0, [.str]⟩
def strconv_FormatInt_m0 (i base : Int) : Option (As [.str]) :=
  Option.bind (q8u_ (i, base, ())) fun (y : List UInt8 × Unit) => some (y.1, ())
def q6v_ (x : As [.int .i64, .int .i64]) : Option (As [.str]) := strconv_FormatInt_m0 x.1 x.2.1
theorem strconv_FormatInt_ok : CtOk Tryz.prog I0 69 ⟨strconv_FormatInt_s, q6v_⟩ := ctn (q1_ istrconv_FormatInt_ok qa_) 6 fun J x => by kernel_rfl
@[reducible] def q7u_ : Sh := ⟨[.d (.pr (.int .i64) (.int .u8))], [], [.pr (.int .i64) (.int .u8)], [.d (.str)], [], 0, [.str]⟩
def qbm_ : Env := (cts [(27, (⟨strings_Repeat_s, strings_Repeat⟩ : Ct)), (52, (⟨qgx_, q8y_⟩ : Ct)), (68, (⟨q6p_, qdk_⟩ : Ct)), (69, (⟨strconv_FormatInt_s, q6v_⟩ : Ct))])
def qbg_ : List (Nat × Hint) := [(15, ⟨[], [1, 3, 4]⟩)]
def qeh_ (n : Int) (sign : List UInt8) (d : Int × Int) : St := { fr := [(1, .pb 0 0), (3, .d (.int .i64) n), (4, .d .str sign)], nt := 47, up := [], own := [(0, .box 45 [.d (.int .i64) d.1, .d (.int .u8) d.2])], nx := 1, log := [], ln := 0 }
def qh3_ (n : Int) (sign : List UInt8) (d : Int × Int) : Option (As [.str]) :=
  Option.bind (qdk_ (cvt .i64 d.2, ())) fun (y : Int × Unit) => need (nei y.1 0) (Option.bind (q6v_ (quo .i64 n y.1, 10, ())) fun (y_1 : List UInt8 × Unit) => need (small (List.length sign + List.length y_1.1)) (if eqi d.2 0 = true then some (sign ++ y_1.1, ()) else need (nei y.1 0) (Option.bind (q6v_ (rem n y.1, 10, ())) fun (y : List UInt8 × Unit) => need (small (List.length (sign ++ y_1.1) + 1)) (Option.bind (strings_Repeat ([48], Sx.sub .i64 (cvt .i64 d.2) (Int.ofNat (List.length y.1)), ())) fun (y_2 : List UInt8 × Unit) => need (small (List.length (sign ++ y_1.1 ++ [46]) + List.length y_2.1)) (need (small (List.length (sign ++ y_1.1 ++ [46] ++ y_2.1) + List.length y.1)) (some (sign ++ y_1.1 ++ [46] ++ y_2.1 ++ y.1, ())))))))
def qe0_ (j1 : Int -> List UInt8 -> Int × Int -> Option (As [.str])) (d : Int × Int) : Option (As [.str]) :=
  Option.bind (q8y_ (d, ())) fun (y : Bool × Unit) => if (!y.1) = true then some ([], ()) else if lt d.1 0 = true then j1 (Sx.neg .i64 d.1) [45] d else j1 d.1 [] d
def q8e_ (n : Int) (sign : List UInt8) (d : Int × Int) : Option (As [.str]) := qh3_ n sign d
def qab_ (x : As [.pr (.int .i64) (.int .u8)]) : Option (As [.str]) := qe0_ q8e_ x.1
theorem qoy_  (J n sign d) : pfn Tryz.prog qbm_ 6 18446744073709551616 (Ev.get qbg_) 37 q7u_ J 15 [] (qeh_ n sign d) = qh3_ n sign d := by kernel_rfl
theorem qon_ (J : Orc (As [.str])) (x : As [.pr (.int .i64) (.int .u8)]) : rfn Tryz.prog qbm_ 6 18446744073709551616 (Ev.get qbg_) 37 q7u_ J x = qe0_ (fun n sign d => J 15 [] (qeh_ n sign d)) x.1 := by kernel_rfl
theorem qov_  (n sign d) : jfn Tryz.prog qbm_ 6 18446744073709551616 (Ev.get qbg_) 37 q7u_ 15 [] (qeh_ n sign d) = q8e_ n sign d := by
  rw [q2_ (by decide)]
  rw [qoy_]
  rfl
theorem qr9_ (x : As [.pr (.int .i64) (.int .u8)]) : evT Tryz.prog qbm_ 6 18446744073709551616 (Ev.get qbg_) 37 q7u_ x = qab_ x := by
  have e1 : (fun n sign d => (jfn Tryz.prog qbm_ 6 18446744073709551616 (Ev.get qbg_) 37 q7u_) 15 [] (qeh_ n sign d)) = q8e_ := by funext n sign d; exact qov_ n sign d
  rw [q1v_, qon_, e1]
  rfl
theorem qqj_ : CtOk Tryz.prog I0 37 ⟨q7u_, qab_⟩ := qu_ (q1_ strings_Repeat_ok (q1_ qi9_ (q1_ qmz_ (q1_ strconv_FormatInt_ok qa_)))) qr9_
@[reducible] def q15_ : Sh := ⟨[.d (.pr .str (.sl QAT2))], [], [.pr .str (.sl QAT2)], [.d (.str), .d (.bool)], [], 0, [.str, .bool]⟩
def q1h_ : Env := (cts [(21, (⟨q10_, q7q_⟩ : Ct)), (25, (⟨strings_Join_s, strings_Join⟩ : Ct)), (37, (⟨q7u_, qab_⟩ : Ct))])
def q1i_ : List (Nat × Hint) := [(63, ⟨[], [4]⟩), (506, ⟨[], [4, 5, 21, 22, 23]⟩), (64819, ⟨[], [4, 5, 21, 22, 23]⟩), (518554, ⟨[], [4, 5, 21, 22, 23, 33, 34, 35]⟩), (66374963, ⟨[], [4, 5, 10, 21, 22, 23, 33, 34, 35]⟩)]
def q1l_ (t21 : List QAT0) (t22 t23 : Int) (o : List Int) : St := { fr := [(4, .pb 0 0), (5, .fn (.func 34) [] [.pb 0 0]), (21, .d (.sl QAT2) t21), (22, .d (.int .i64) t22), (23, .d (.int .i64) t23)], nt := 63, up := [], own := [(0, .box 87 [.pb 0 0, .row 1]), (1, .row (.int .u8) 5 o)], nx := 2, log := [], ln := 0 }
def q3z_ (t21 : List QAT0) (t22 t23 : Int) (t33 : List QAT3) (t34 t35 : Int) (o : List Int) : St := { fr := [(4, .pb 0 0), (5, .fn (.func 34) [] [.pb 0 0]), (21, .d (.sl QAT2) t21), (22, .d (.int .i64) t22), (23, .d (.int .i64) t23), (33, .d (.sl QAT5) t33), (34, .d (.int .i64) t34), (35, .d (.int .i64) t35)], nt := 63, up := [], own := [(0, .box 87 [.pb 0 0, .row 1]), (1, .row (.int .u8) 5 o)], nx := 2, log := [], ln := 0 }
def qb3_ (o : List Int) : St := { fr := [(4, .pb 0 0)], nt := 63, up := [], own := [(0, .box 87 [.pb 0 0, .row 1]), (1, .row (.int .u8) 5 o)], nx := 2, log := [], ln := 0 }
def qb5_ (t21 : List QAT0) (t22 t23 : Int) (t33 : List QAT3) (t34 t35 : Int) (o : List Int) (words : List (List UInt8)) : St := { fr := [(4, .pb 0 0), (5, .fn (.func 34) [] [.pb 0 0]), (10, .row 2), (21, .d (.sl QAT2) t21), (22, .d (.int .i64) t22), (23, .d (.int .i64) t23), (33, .d (.sl QAT5) t33), (34, .d (.int .i64) t34), (35, .d (.int .i64) t35)], nt := 63, up := [], own := [(0, .box 87 [.pb 0 0, .row 1]), (1, .row (.int .u8) 5 o), (2, .row .str 9 words)], nx := 3, log := [], ln := 0 }
def qb4_ (t21 : List QAT0) (t22 t23 : Int) (o : List Int) : St := { fr := [(4, .pb 0 0), (5, .fn (.func 34) [] [.pb 0 0]), (21, .d (.sl QAT2) t21), (22, .d (.int .i64) t22), (23, .d (.int .i64) t23)], nt := 63, up := [], own := [(0, .box 87 [.pb 0 0, .row 1]), (1, .row (.int .u8) 5 o)], nx := 2, log := [], ln := 0 }
def q6g_ (j2 : List QAT0 -> Int -> Int -> List QAT3 -> Int -> Int -> List Int -> Option (As [.str, .bool])) (j3 : List Int -> Option (As [.str, .bool])) (self1 : List QAT0 -> Int -> Int -> List Int -> Option (As [.str, .bool])) (t21 : List QAT0) (t22 t23 : Int) (o : List Int) : Option (As [.str, .bool]) :=
  if lt t23 t22 = true then Option.bind (at? t21 t23) fun (y : List UInt8 × Int × List QAT3) => Option.bind (strings_Join ([[115, 108, 97, 118, 101], y.1], [32], ())) fun (y_1 : List UInt8 × Unit) => need (small (List.length o + List.length y_1.1)) (need (small (List.length (o ++ List.map (fun (b : UInt8) => Int.ofNat (UInt8.toNat b)) y_1.1) + 1)) (j2 t21 t22 t23 y.2.2 (Int.ofNat (List.length y.2.2)) 0 (o ++ List.map (fun (b : UInt8) => Int.ofNat (UInt8.toNat b)) y_1.1 ++ [10]))) else j3 o
def q6d_ (j4 : List QAT0 -> Int -> Int -> List QAT3 -> Int -> Int -> List Int -> List (List UInt8) -> Option (As [.str, .bool])) (j5 self1 : List QAT0 -> Int -> Int -> List Int -> Option (As [.str, .bool])) (self2 : List QAT0 -> Int -> Int -> List QAT3 -> Int -> Int -> List Int -> Option (As [.str, .bool])) (t21 : List QAT0) (t22 t23 : Int) (t33 : List QAT3) (t34 t35 : Int) (o : List Int) : Option (As [.str, .bool]) :=
  if lt t35 t34 = true then Option.bind (at? t33 t35) fun (y : List UInt8 × (Int × Int) × List UInt8 × Int) => need (small (2 + List.length y.1)) (Option.bind (qab_ (y.2.1, ())) fun (y_1 : List UInt8 × Unit) => if nes y.2.2.1 [] = true then need (small (Nat.succ (Nat.succ (Nat.succ 0)) + Nat.succ 0)) (j4 t21 t22 t23 t33 t34 t35 o [32 :: 32 :: y.1, [61], y_1.1, y.2.2.1]) else j4 t21 t22 t23 t33 t34 t35 o [32 :: 32 :: y.1, [61], y_1.1]) else j5 t21 t22 t23 o
def qez_ (o : List Int) : Option (As [.str, .bool]) :=
  need (eqi (Int.ofNat (List.length o)) (Int.ofNat (List.length o))) (need (small (List.length o)) (need (Ev.u8s o) (some (Sx.toS o, true, ()))))
def qff_ (self1 : List QAT0 -> Int -> Int -> List Int -> Option (As [.str, .bool])) (self2 : List QAT0 -> Int -> Int -> List QAT3 -> Int -> Int -> List Int -> Option (As [.str, .bool])) (t21 : List QAT0) (t22 t23 : Int) (t33 : List QAT3) (t34 t35 : Int) (o : List Int) (words : List (List UInt8)) : Option (As [.str, .bool]) :=
  Option.bind (strings_Join (words, [32], ())) fun (y : List UInt8 × Unit) => need (small (List.length o + List.length y.1)) (need (small (List.length (o ++ List.map (fun (b : UInt8) => Int.ofNat (UInt8.toNat b)) y.1) + 1)) (self2 t21 t22 t23 t33 t34 (add .i64 t35 1) (o ++ List.map (fun (b : UInt8) => Int.ofNat (UInt8.toNat b)) y.1 ++ [10])))
def qex_ (self1 : List QAT0 -> Int -> Int -> List Int -> Option (As [.str, .bool])) (t21 : List QAT0) (t22 t23 : Int) (o : List Int) : Option (As [.str, .bool]) :=
  Option.bind (strings_Join ([[101, 110, 100]], [32], ())) fun (y : List UInt8 × Unit) => need (small (List.length o + List.length y.1)) (need (small (List.length (o ++ List.map (fun (b : UInt8) => Int.ofNat (UInt8.toNat b)) y.1) + 1)) (self1 t21 t22 (add .i64 t23 1) (o ++ List.map (fun (b : UInt8) => Int.ofNat (UInt8.toNat b)) y.1 ++ [10])))
def q6h_ (j1 : List QAT0 -> Int -> Int -> List Int -> Option (As [.str, .bool])) (r : List UInt8 × List QAT0) : Option (As [.str, .bool]) :=
  Option.bind (q7q_ (r, ())) fun (y : Bool × Unit) => if (!y.1) = true then some ([], false, ()) else Option.bind (strings_Join ([[114, 101, 99, 105, 112, 101], r.1], [32], ())) fun (y : List UInt8 × Unit) => need (small (0 + List.length y.1)) (need (small (List.length (List.map (fun (b : UInt8) => Int.ofNat (UInt8.toNat b)) y.1) + 1)) (j1 r.2 (Int.ofNat (List.length r.2)) 0 (List.map (fun (b : UInt8) => Int.ofNat (UInt8.toNat b)) y.1 ++ [10])))
def q6b_ (u1 : List QAT0 -> Int -> Int -> List Int -> Option (As [.str, .bool])) (u2 : List QAT0 -> Int -> Int -> List QAT3 -> Int -> Int -> List Int -> Option (As [.str, .bool])) (t21 : List QAT0) (t22 t23 : Int) (t33 : List QAT3) (t34 t35 : Int) (o : List Int) (words : List (List UInt8)) : Option (As [.str, .bool]) := qff_ u1 u2 t21 t22 t23 t33 t34 t35 o words
def q8t_ (u1 : List QAT0 -> Int -> Int -> List Int -> Option (As [.str, .bool])) (t21 : List QAT0) (t22 t23 : Int) (o : List Int) : Option (As [.str, .bool]) := qex_ u1 t21 t22 t23 o
def q5b_ (u1 : List QAT0 -> Int -> Int -> List Int -> Option (As [.str, .bool])) (t21 : List QAT0) (t22 t23 : Int) (t33 : List QAT3) (t34 t35 : Int) (o : List Int) : Option (As [.str, .bool]) :=
  loopF (fun (self : (List QAT0) × (Int) × (Int) × (List QAT3) × (Int) × (Int) × (List Int) -> Option (As [.str, .bool])) (s : (List QAT0) × (Int) × (Int) × (List QAT3) × (Int) × (Int) × (List Int)) => q6d_ (q6b_ u1 (fun t21 t22 t23 t33 t34 t35 o => self (t21, t22, t23, t33, t34, t35, o))) (q8t_ u1) u1 (fun t21 t22 t23 t33 t34 t35 o => self (t21, t22, t23, t33, t34, t35, o)) s.1 s.2.1 s.2.2.1 s.2.2.2.1 s.2.2.2.2.1 s.2.2.2.2.2.1 s.2.2.2.2.2.2) 18446744073709551616 (t21, t22, t23, t33, t34, t35, o)
def q8q_ (o : List Int) : Option (As [.str, .bool]) := qez_ o
def q5f_ (t21 : List QAT0) (t22 t23 : Int) (o : List Int) : Option (As [.str, .bool]) :=
  loopF (fun (self : (List QAT0) × (Int) × (Int) × (List Int) -> Option (As [.str, .bool])) (s : (List QAT0) × (Int) × (Int) × (List Int)) => q6g_ (q5b_ (fun t21 t22 t23 o => self (t21, t22, t23, o))) (q8q_) (fun t21 t22 t23 o => self (t21, t22, t23, o)) s.1 s.2.1 s.2.2.1 s.2.2.2) 18446744073709551616 (t21, t22, t23, o)
def q7t_ (x : As [.pr .str (.sl QAT2)]) : Option (As [.str, .bool]) := q6h_ q5f_ x.1
theorem qky_  (J w1 w2 t21 t22 t23 t33 t34 t35 o words) : pfn Tryz.prog q1h_ 6 18446744073709551616 (Ev.get q1i_) 12 q15_ J 66374963 [w1, w2] (qb5_ t21 t22 t23 t33 t34 t35 o words) = qff_ (fun t21 t22 t23 o => w1 (q1l_ t21 t22 t23 o)) (fun t21 t22 t23 t33 t34 t35 o => w2 (q3z_ t21 t22 t23 t33 t34 t35 o)) t21 t22 t23 t33 t34 t35 o words := by kernel_rfl
theorem qkx_  (J w1 t21 t22 t23 o) : pfn Tryz.prog q1h_ 6 18446744073709551616 (Ev.get q1i_) 12 q15_ J 64819 [w1] (qb4_ t21 t22 t23 o) = qex_ (fun t21 t22 t23 o => w1 (q1l_ t21 t22 t23 o)) t21 t22 t23 o := by kernel_rfl
theorem ql3_  (J w1 w2 t21 t22 t23 t33 t34 t35 o) : pfn Tryz.prog q1h_ 6 18446744073709551616 (Ev.get q1i_) 12 q15_ J 518554 [w1, w2] (q3z_ t21 t22 t23 t33 t34 t35 o) = q6d_ (fun t21 t22 t23 t33 t34 t35 o words => J 66374963 [w1, w2] (qb5_ t21 t22 t23 t33 t34 t35 o words)) (fun t21 t22 t23 o => J 64819 [w1] (qb4_ t21 t22 t23 o)) (fun t21 t22 t23 o => w1 (q1l_ t21 t22 t23 o)) (fun t21 t22 t23 t33 t34 t35 o => w2 (q3z_ t21 t22 t23 t33 t34 t35 o)) t21 t22 t23 t33 t34 t35 o := by kernel_rfl
theorem qkv_  (J o) : pfn Tryz.prog q1h_ 6 18446744073709551616 (Ev.get q1i_) 12 q15_ J 63 [] (qb3_ o) = qez_ o := by kernel_rfl
theorem ql1_  (J w1 t21 t22 t23 o) : pfn Tryz.prog q1h_ 6 18446744073709551616 (Ev.get q1i_) 12 q15_ J 506 [w1] (q1l_ t21 t22 t23 o) = q6g_ (fun t21 t22 t23 t33 t34 t35 o => J 518554 [w1] (q3z_ t21 t22 t23 t33 t34 t35 o)) (fun o => J 63 [] (qb3_ o)) (fun t21 t22 t23 o => w1 (q1l_ t21 t22 t23 o)) t21 t22 t23 o := by kernel_rfl
theorem qlf_ (J : Orc (As [.str, .bool])) (x : As [.pr .str (.sl QAT2)]) : rfn Tryz.prog q1h_ 6 18446744073709551616 (Ev.get q1i_) 12 q15_ J x = q6h_ (fun t21 t22 t23 o => J 506 [] (q1l_ t21 t22 t23 o)) x.1 := by kernel_rfl
theorem qkt_  (w1 w2 t21 t22 t23 t33 t34 t35 o words) : jfn Tryz.prog q1h_ 6 18446744073709551616 (Ev.get q1i_) 12 q15_ 66374963 [w1, w2] (qb5_ t21 t22 t23 t33 t34 t35 o words) = q6b_ (fun t21 t22 t23 o => w1 (q1l_ t21 t22 t23 o)) (fun t21 t22 t23 t33 t34 t35 o => w2 (q3z_ t21 t22 t23 t33 t34 t35 o)) t21 t22 t23 t33 t34 t35 o words := by
  rw [q2_ (by decide)]
  rw [qky_]
  rfl
theorem ql7_  (w1 t21 t22 t23 o) : jfn Tryz.prog q1h_ 6 18446744073709551616 (Ev.get q1i_) 12 q15_ 64819 [w1] (qb4_ t21 t22 t23 o) = q8t_ (fun t21 t22 t23 o => w1 (q1l_ t21 t22 t23 o)) t21 t22 t23 o := by
  rw [q2_ (by decide)]
  rw [qkx_]
  rfl
theorem ql8_  (w1 t21 t22 t23 t33 t34 t35 o) : jfn Tryz.prog q1h_ 6 18446744073709551616 (Ev.get q1i_) 12 q15_ 518554 [w1] (q3z_ t21 t22 t23 t33 t34 t35 o) = q5b_ (fun t21 t22 t23 o => w1 (q1l_ t21 t22 t23 o)) t21 t22 t23 t33 t34 t35 o := by
  rw [q2_ (by decide)]
  rw [qm_ (by kernel_rfl)]
  refine qj_ (σ := (List QAT0) × (Int) × (Int) × (List QAT3) × (Int) × (Int) × (List Int)) (mk := fun s => q3z_ s.1 s.2.1 s.2.2.1 s.2.2.2.1 s.2.2.2.2.1 s.2.2.2.2.2.1 s.2.2.2.2.2.2) (fun w2 s => ?_) 18446744073709551616 (t21, t22, t23, t33, t34, t35, o)
  have e4 : (fun t21 t22 t23 t33 t34 t35 o words => (jfn Tryz.prog q1h_ 6 18446744073709551616 (Ev.get q1i_) 12 q15_) 66374963 [w1, w2] (qb5_ t21 t22 t23 t33 t34 t35 o words)) = q6b_ (fun t21 t22 t23 o => w1 (q1l_ t21 t22 t23 o)) (fun t21 t22 t23 t33 t34 t35 o => w2 (q3z_ t21 t22 t23 t33 t34 t35 o)) := by funext t21 t22 t23 t33 t34 t35 o words; exact qkt_ w1 w2 t21 t22 t23 t33 t34 t35 o words
  have e5 : (fun t21 t22 t23 o => (jfn Tryz.prog q1h_ 6 18446744073709551616 (Ev.get q1i_) 12 q15_) 64819 [w1] (qb4_ t21 t22 t23 o)) = q8t_ (fun t21 t22 t23 o => w1 (q1l_ t21 t22 t23 o)) := by funext t21 t22 t23 o; exact ql7_ w1 t21 t22 t23 o
  refine (ql3_ _ w1 w2 s.1 s.2.1 s.2.2.1 s.2.2.2.1 s.2.2.2.2.1 s.2.2.2.2.2.1 s.2.2.2.2.2.2).trans ?_
  rw [e4, e5]
theorem qlb_  (o) : jfn Tryz.prog q1h_ 6 18446744073709551616 (Ev.get q1i_) 12 q15_ 63 [] (qb3_ o) = q8q_ o := by
  rw [q2_ (by decide)]
  rw [qkv_]
  rfl
theorem qks_  (t21 t22 t23 o) : jfn Tryz.prog q1h_ 6 18446744073709551616 (Ev.get q1i_) 12 q15_ 506 [] (q1l_ t21 t22 t23 o) = q5f_ t21 t22 t23 o := by
  rw [q2_ (by decide)]
  rw [qm_ (by kernel_rfl)]
  refine qj_ (σ := (List QAT0) × (Int) × (Int) × (List Int)) (mk := fun s => q1l_ s.1 s.2.1 s.2.2.1 s.2.2.2) (fun w1 s => ?_) 18446744073709551616 (t21, t22, t23, o)
  have e2 : (fun t21 t22 t23 t33 t34 t35 o => (jfn Tryz.prog q1h_ 6 18446744073709551616 (Ev.get q1i_) 12 q15_) 518554 [w1] (q3z_ t21 t22 t23 t33 t34 t35 o)) = q5b_ (fun t21 t22 t23 o => w1 (q1l_ t21 t22 t23 o)) := by funext t21 t22 t23 t33 t34 t35 o; exact ql8_ w1 t21 t22 t23 t33 t34 t35 o
  have e3 : (fun o => (jfn Tryz.prog q1h_ 6 18446744073709551616 (Ev.get q1i_) 12 q15_) 63 [] (qb3_ o)) = q8q_ := funext fun o => qlb_ o
  refine (ql1_ _ w1 s.1 s.2.1 s.2.2.1 s.2.2.2).trans ?_
  rw [e2, e3]
theorem qny_ (x : As [.pr .str (.sl QAT2)]) : evT Tryz.prog q1h_ 6 18446744073709551616 (Ev.get q1i_) 12 q15_ x = q7t_ x := by
  have e1 : (fun t21 t22 t23 o => (jfn Tryz.prog q1h_ 6 18446744073709551616 (Ev.get q1i_) 12 q15_) 506 [] (q1l_ t21 t22 t23 o)) = q5f_ := by funext t21 t22 t23 o; exact qks_ t21 t22 t23 o
  rw [q1v_, qlf_, e1]
  rfl
theorem qi2_ : CtOk Tryz.prog I0 12 ⟨q15_, q7t_⟩ := qu_ (q1_ qhx_ (q1_ strings_Join_ok (q1_ qqj_ qa_))) qny_
@[reducible] def q3e_ : Sh := ⟨[.d (.pr (.int .i64) (.int .u8))], [], [.pr (.int .i64) (.int .u8)], [.d (.str)], [], 0, [.str]⟩
def q48_ : Env := (cts [(80, (⟨q5w_, q9k_⟩ : Ct))])
def q4a_ : List (Nat × Hint) := [(7, ⟨[], [1, 3, 4]⟩), (63, ⟨[], [1, 4, 5]⟩), (252, ⟨[], [1, 4, 5]⟩)]
def qe9_ (n : Int) (sign : List UInt8) (d : Int × Int) : St := { fr := [(1, .pb 0 0), (3, .d (.int .i64) n), (4, .d .str sign)], nt := 48, up := [], own := [(0, .box 45 [.d (.int .i64) d.1, .d (.int .u8) d.2])], nx := 1, log := [], ln := 0 }
def q8d_ (sign s : List UInt8) (d : Int × Int) : St := { fr := [(1, .pb 0 0), (4, .d .str sign), (5, .d .str s)], nt := 48, up := [], own := [(0, .box 45 [.d (.int .i64) d.1, .d (.int .u8) d.2])], nx := 1, log := [], ln := 0 }
def qdq_ (sign s : List UInt8) (d : Int × Int) : St := { fr := [(1, .pb 0 0), (4, .d .str sign), (5, .d .str s)], nt := 48, up := [], own := [(0, .box 45 [.d (.int .i64) d.1, .d (.int .u8) d.2])], nx := 1, log := [], ln := 0 }
def qgy_ (j2 : List UInt8 -> List UInt8 -> Int × Int -> Option (As [.str])) (n : Int) (sign : List UInt8) (d : Int × Int) : Option (As [.str]) :=
  Option.bind (q9k_ (n, ())) fun (y : List UInt8 × Unit) => if eqi d.2 0 = true then need (small (List.length sign + List.length y.1)) (some (sign ++ y.1, ())) else j2 sign y.1 d
def q89_ (j3 self2 : List UInt8 -> List UInt8 -> Int × Int -> Option (As [.str])) (sign s : List UInt8) (d : Int × Int) : Option (As [.str]) :=
  if le (Int.ofNat (List.length s)) (cvt .i64 d.2) = true then need (small (1 + List.length s)) (self2 sign (48 :: s) d) else j3 sign s d
def qgz_ (sign s : List UInt8) (d : Int × Int) : Option (As [.str]) :=
  Option.bind (cut s 0 (Sx.sub .i64 (Int.ofNat (List.length s)) (cvt .i64 d.2))) fun (y : List UInt8) => need (small (List.length sign + List.length y)) (need (small (List.length (sign ++ y) + 1)) (Option.bind (cut s (Sx.sub .i64 (Int.ofNat (List.length s)) (cvt .i64 d.2)) (Int.ofNat (List.length s))) fun (y_1 : List UInt8) => need (small (List.length (sign ++ y ++ [46]) + List.length y_1)) (some (sign ++ y ++ [46] ++ y_1, ()))))
def qam_ (j1 : Int -> List UInt8 -> Int × Int -> Option (As [.str])) (d : Int × Int) : Option (As [.str]) :=
  if lt d.1 0 = true then j1 (Sx.neg .i64 d.1) [45] d else j1 d.1 [] d
def q5k_ (sign s : List UInt8) (d : Int × Int) : Option (As [.str]) := qgz_ sign s d
def qdu_ (sign s : List UInt8) (d : Int × Int) : Option (As [.str]) :=
  loopF (fun (self : (List UInt8) × (List UInt8) × (Int × Int) -> Option (As [.str])) (s : (List UInt8) × (List UInt8) × (Int × Int)) => q89_ (q5k_) (fun sign s d => self (sign, s, d)) s.1 s.2.1 s.2.2) 18446744073709551616 (sign, s, d)
def q6l_ (n : Int) (sign : List UInt8) (d : Int × Int) : Option (As [.str]) := qgy_ (qdu_) n sign d
def qbq_ (x : As [.pr (.int .i64) (.int .u8)]) : Option (As [.str]) := qam_ q6l_ x.1
theorem qpj_  (J sign s d) : pfn Tryz.prog q48_ 6 18446744073709551616 (Ev.get q4a_) 56 q3e_ J 63 [] (qdq_ sign s d) = qgz_ sign s d := by kernel_rfl
theorem qp2_  (J w2 sign s d) : pfn Tryz.prog q48_ 6 18446744073709551616 (Ev.get q4a_) 56 q3e_ J 252 [w2] (q8d_ sign s d) = q89_ (fun sign s d => J 63 [] (qdq_ sign s d)) (fun sign s d => w2 (q8d_ sign s d)) sign s d := by kernel_rfl
theorem qq4_  (J n sign d) : pfn Tryz.prog q48_ 6 18446744073709551616 (Ev.get q4a_) 56 q3e_ J 7 [] (qe9_ n sign d) = qgy_ (fun sign s d => J 252 [] (q8d_ sign s d)) n sign d := by kernel_rfl
theorem qot_ (J : Orc (As [.str])) (x : As [.pr (.int .i64) (.int .u8)]) : rfn Tryz.prog q48_ 6 18446744073709551616 (Ev.get q4a_) 56 q3e_ J x = qam_ (fun n sign d => J 7 [] (qe9_ n sign d)) x.1 := by kernel_rfl
theorem qpx_  (sign s d) : jfn Tryz.prog q48_ 6 18446744073709551616 (Ev.get q4a_) 56 q3e_ 63 [] (qdq_ sign s d) = q5k_ sign s d := by
  rw [q2_ (by decide)]
  rw [qpj_]
  rfl
theorem qpg_  (sign s d) : jfn Tryz.prog q48_ 6 18446744073709551616 (Ev.get q4a_) 56 q3e_ 252 [] (q8d_ sign s d) = qdu_ sign s d := by
  rw [q2_ (by decide)]
  rw [qm_ (by kernel_rfl)]
  refine qj_ (σ := (List UInt8) × (List UInt8) × (Int × Int)) (mk := fun s => q8d_ s.1 s.2.1 s.2.2) (fun w2 s => ?_) 18446744073709551616 (sign, s, d)
  have e3 : (fun sign s d => (jfn Tryz.prog q48_ 6 18446744073709551616 (Ev.get q4a_) 56 q3e_) 63 [] (qdq_ sign s d)) = q5k_ := by funext sign s d; exact qpx_ sign s d
  refine (qp2_ _ w2 s.1 s.2.1 s.2.2).trans ?_
  rw [e3]
theorem qpt_  (n sign d) : jfn Tryz.prog q48_ 6 18446744073709551616 (Ev.get q4a_) 56 q3e_ 7 [] (qe9_ n sign d) = q6l_ n sign d := by
  rw [q2_ (by decide)]
  have e2 : (fun sign s d => (jfn Tryz.prog q48_ 6 18446744073709551616 (Ev.get q4a_) 56 q3e_) 252 [] (q8d_ sign s d)) = qdu_ := by funext sign s d; exact qpg_ sign s d
  rw [qq4_, e2]
  rfl
theorem qrk_ (x : As [.pr (.int .i64) (.int .u8)]) : evT Tryz.prog q48_ 6 18446744073709551616 (Ev.get q4a_) 56 q3e_ x = qbq_ x := by
  have e1 : (fun n sign d => (jfn Tryz.prog q48_ 6 18446744073709551616 (Ev.get q4a_) 56 q3e_) 7 [] (qe9_ n sign d)) = q6l_ := by funext n sign d; exact qpt_ n sign d
  rw [q1v_, qot_, e1]
  rfl
theorem qqh_ : CtOk Tryz.prog I0 56 ⟨q3e_, qbq_⟩ := qu_ (q1_ qkl_ qa_) qrk_
@[reducible] def q1d_ : Sh := ⟨[.d (.pr .str (.sl QAT2))], [], [.pr .str (.sl QAT2)], [.d (.str)], [], 0, [.str]⟩
def q1r_ : Env := (cts [(56, (⟨q3e_, qbq_⟩ : Ct))])
def q1q_ : List (Nat × Hint) := [(58, ⟨[], [1, 3, 4]⟩), (233, ⟨[], [1, 3, 4]⟩), (3731, ⟨[], [1, 3, 4]⟩), (29850, ⟨[], [1, 3, 4, 5, 6]⟩), (1910419, ⟨[], [1, 3, 4, 5, 6]⟩)]
def q1b_ (s : List UInt8) (i : Int) (r : List UInt8 × List QAT0) : St := { fr := [(1, .pb 0 0), (3, .d .str s), (4, .d (.int .i64) i)], nt := 65, up := [], own := [(0, .box 26 [.d .str r.1, .d (.sl QAT2) r.2])], nx := 1, log := [], ln := 0 }
def q4j_ (s : List UInt8) (i k : Int) (r : List UInt8 × List QAT0) (p : List UInt8 × Int × List QAT3) : St := { fr := [(1, .pb 0 0), (3, .d .str s), (4, .d (.int .i64) i), (5, .pb 1 0), (6, .d (.int .i64) k)], nt := 65, up := [], own := [(0, .box 26 [.d .str r.1, .d (.sl QAT2) r.2]), (1, .box 43 [.d .str p.1, .d (.int .i64) p.2.1, .d (.sl QAT5) p.2.2])], nx := 2, log := [], ln := 0 }
def qcc_ (s : List UInt8) (i k : Int) (r : List UInt8 × List QAT0) (p : List UInt8 × Int × List QAT3) : St := { fr := [(1, .pb 0 0), (3, .d .str s), (4, .d (.int .i64) i), (5, .pb 1 0), (6, .d (.int .i64) k)], nt := 65, up := [], own := [(0, .box 26 [.d .str r.1, .d (.sl QAT2) r.2]), (1, .box 43 [.d .str p.1, .d (.int .i64) p.2.1, .d (.sl QAT5) p.2.2])], nx := 2, log := [], ln := 0 }
def qcr_ (s : List UInt8) (i : Int) (r : List UInt8 × List QAT0) : St := { fr := [(1, .pb 0 0), (3, .d .str s), (4, .d (.int .i64) i)], nt := 65, up := [], own := [(0, .box 26 [.d .str r.1, .d (.sl QAT2) r.2])], nx := 1, log := [], ln := 0 }
def qd7_ (s : List UInt8) (i : Int) (r : List UInt8 × List QAT0) : St := { fr := [(1, .pb 0 0), (3, .d .str s), (4, .d (.int .i64) i)], nt := 65, up := [], own := [(0, .box 26 [.d .str r.1, .d (.sl QAT2) r.2])], nx := 1, log := [], ln := 0 }
def q7c_ (j2 : List UInt8 -> Int -> Int -> List UInt8 × List QAT0 -> List UInt8 × Int × List QAT3 -> Option (As [.str])) (self1 : List UInt8 -> Int -> List UInt8 × List QAT0 -> Option (As [.str])) (s : List UInt8) (i : Int) (r : List UInt8 × List QAT0) : Option (As [.str]) :=
  if lt i (Int.ofNat (List.length r.2)) = true then Option.bind (at? r.2 i) fun (y : List UInt8 × Int × List QAT3) => need (small (List.length s + 6)) (need (small (List.length (s ++ [115, 108, 97, 118, 101, 32]) + List.length y.1)) (need (small (List.length (s ++ [115, 108, 97, 118, 101, 32] ++ y.1) + 1)) (j2 (s ++ [115, 108, 97, 118, 101, 32] ++ y.1 ++ [10]) i 0 r y))) else some (s, ())
def q75_ (j3 : List UInt8 -> Int -> Int -> List UInt8 × List QAT0 -> List UInt8 × Int × List QAT3 -> Option (As [.str])) (j4 self1 : List UInt8 -> Int -> List UInt8 × List QAT0 -> Option (As [.str])) (self2 : List UInt8 -> Int -> Int -> List UInt8 × List QAT0 -> List UInt8 × Int × List QAT3 -> Option (As [.str])) (s : List UInt8) (i k : Int) (r : List UInt8 × List QAT0) (p : List UInt8 × Int × List QAT3) : Option (As [.str]) :=
  if lt k (Int.ofNat (List.length p.2.2)) = true then Option.bind (at? p.2.2 k) fun (y : List UInt8 × (Int × Int) × List UInt8 × Int) => need (small (List.length s + 2)) (need (small (List.length (s ++ [32, 32]) + List.length y.1)) (need (small (List.length (s ++ [32, 32] ++ y.1) + 3)) (Option.bind (qbq_ (y.2.1, ())) fun (y_1 : List UInt8 × Unit) => need (small (List.length (s ++ [32, 32] ++ y.1 ++ [32, 61, 32]) + List.length y_1.1)) (if nes y.2.2.1 [] = true then need (small (List.length (s ++ [32, 32] ++ y.1 ++ [32, 61, 32] ++ y_1.1) + 1)) (need (small (List.length (s ++ [32, 32] ++ y.1 ++ [32, 61, 32] ++ y_1.1 ++ [32]) + List.length y.2.2.1)) (j3 (s ++ [32, 32] ++ y.1 ++ [32, 61, 32] ++ y_1.1 ++ [32] ++ y.2.2.1) i k r p)) else j3 (s ++ [32, 32] ++ y.1 ++ [32, 61, 32] ++ y_1.1) i k r p)))) else j4 s i r
def qg1_ (self1 : List UInt8 -> Int -> List UInt8 × List QAT0 -> Option (As [.str])) (self2 : List UInt8 -> Int -> Int -> List UInt8 × List QAT0 -> List UInt8 × Int × List QAT3 -> Option (As [.str])) (s : List UInt8) (i k : Int) (r : List UInt8 × List QAT0) (p : List UInt8 × Int × List QAT3) : Option (As [.str]) :=
  need (small (List.length s + 1)) (self2 (s ++ [10]) i (add .i64 k 1) r p)
def qc6_ (j5 self1 : List UInt8 -> Int -> List UInt8 × List QAT0 -> Option (As [.str])) (s : List UInt8) (i : Int) (r : List UInt8 × List QAT0) : Option (As [.str]) :=
  need (small (List.length s + 4)) (j5 (s ++ [101, 110, 100, 10]) i r)
def qcz_ (self1 : List UInt8 -> Int -> List UInt8 × List QAT0 -> Option (As [.str])) (s : List UInt8) (i : Int) (r : List UInt8 × List QAT0) : Option (As [.str]) :=
  self1 s (add .i64 i 1) r
def qd8_ (j1 : List UInt8 -> Int -> List UInt8 × List QAT0 -> Option (As [.str])) (r : List UInt8 × List QAT0) : Option (As [.str]) :=
  need (small (7 + List.length r.1)) (need (small (Nat.succ (Nat.succ (Nat.succ (Nat.succ (Nat.succ (Nat.succ (Nat.succ (List.length r.1))))))) + 1)) (j1 (114 :: 101 :: 99 :: 105 :: 112 :: 101 :: 32 :: (r.1 ++ [10])) 0 r))
def q7i_ (u1 : List UInt8 -> Int -> List UInt8 × List QAT0 -> Option (As [.str])) (u2 : List UInt8 -> Int -> Int -> List UInt8 × List QAT0 -> List UInt8 × Int × List QAT3 -> Option (As [.str])) (s : List UInt8) (i k : Int) (r : List UInt8 × List QAT0) (p : List UInt8 × Int × List QAT3) : Option (As [.str]) := qg1_ u1 u2 s i k r p
def qd6_ (u1 : List UInt8 -> Int -> List UInt8 × List QAT0 -> Option (As [.str])) (s : List UInt8) (i : Int) (r : List UInt8 × List QAT0) : Option (As [.str]) := qcz_ u1 s i r
def qdb_ (u1 : List UInt8 -> Int -> List UInt8 × List QAT0 -> Option (As [.str])) (s : List UInt8) (i : Int) (r : List UInt8 × List QAT0) : Option (As [.str]) := qc6_ (qd6_ u1) u1 s i r
def q7d_ (u1 : List UInt8 -> Int -> List UInt8 × List QAT0 -> Option (As [.str])) (s : List UInt8) (i k : Int) (r : List UInt8 × List QAT0) (p : List UInt8 × Int × List QAT3) : Option (As [.str]) :=
  loopF (fun (self : (List UInt8) × (Int) × (Int) × (List UInt8 × List QAT0) × QAT0 -> Option (As [.str])) (s : (List UInt8) × (Int) × (Int) × (List UInt8 × List QAT0) × QAT0) => q75_ (q7i_ u1 (fun s i k r p => self (s, i, k, r, p))) (qdb_ u1) u1 (fun s i k r p => self (s, i, k, r, p)) s.1 s.2.1 s.2.2.1 s.2.2.2.1 s.2.2.2.2) 18446744073709551616 (s, i, k, r, p)
def q9w_ (s : List UInt8) (i : Int) (r : List UInt8 × List QAT0) : Option (As [.str]) :=
  loopF (fun (self : (List UInt8) × (Int) × (List UInt8 × List QAT0) -> Option (As [.str])) (s : (List UInt8) × (Int) × (List UInt8 × List QAT0)) => q7c_ (q7d_ (fun s i r => self (s, i, r))) (fun s i r => self (s, i, r)) s.1 s.2.1 s.2.2) 18446744073709551616 (s, i, r)
def qdh_ (x : As [.pr .str (.sl QAT2)]) : Option (As [.str]) := qd8_ q9w_ x.1
theorem qm4_  (J w1 w2 s i k r p) : pfn Tryz.prog q1r_ 6 18446744073709551616 (Ev.get q1q_) 23 q1d_ J 1910419 [w1, w2] (qcc_ s i k r p) = qg1_ (fun s i r => w1 (q1b_ s i r)) (fun s i k r p => w2 (q4j_ s i k r p)) s i k r p := by kernel_rfl
theorem qnu_  (J w1 s i r) : pfn Tryz.prog q1r_ 6 18446744073709551616 (Ev.get q1q_) 23 q1d_ J 233 [w1] (qd7_ s i r) = qcz_ (fun s i r => w1 (q1b_ s i r)) s i r := by kernel_rfl
theorem qml_  (J w1 s i r) : pfn Tryz.prog q1r_ 6 18446744073709551616 (Ev.get q1q_) 23 q1d_ J 3731 [w1] (qcr_ s i r) = qc6_ (fun s i r => J 233 [w1] (qd7_ s i r)) (fun s i r => w1 (q1b_ s i r)) s i r := by kernel_rfl
theorem qms_  (J w1 w2 s i k r p) : pfn Tryz.prog q1r_ 6 18446744073709551616 (Ev.get q1q_) 23 q1d_ J 29850 [w1, w2] (q4j_ s i k r p) = q75_ (fun s i k r p => J 1910419 [w1, w2] (qcc_ s i k r p)) (fun s i r => J 3731 [w1] (qcr_ s i r)) (fun s i r => w1 (q1b_ s i r)) (fun s i k r p => w2 (q4j_ s i k r p)) s i k r p := by kernel_rfl
theorem qnm_  (J w1 s i r) : pfn Tryz.prog q1r_ 6 18446744073709551616 (Ev.get q1q_) 23 q1d_ J 58 [w1] (q1b_ s i r) = q7c_ (fun s i k r p => J 29850 [w1] (q4j_ s i k r p)) (fun s i r => w1 (q1b_ s i r)) s i r := by kernel_rfl
theorem qlv_ (J : Orc (As [.str])) (x : As [.pr .str (.sl QAT2)]) : rfn Tryz.prog q1r_ 6 18446744073709551616 (Ev.get q1q_) 23 q1d_ J x = qd8_ (fun s i r => J 58 [] (q1b_ s i r)) x.1 := by kernel_rfl
theorem qmp_  (w1 w2 s i k r p) : jfn Tryz.prog q1r_ 6 18446744073709551616 (Ev.get q1q_) 23 q1d_ 1910419 [w1, w2] (qcc_ s i k r p) = q7i_ (fun s i r => w1 (q1b_ s i r)) (fun s i k r p => w2 (q4j_ s i k r p)) s i k r p := by
  rw [q2_ (by decide)]
  rw [qm4_]
  rfl
theorem qlq_  (w1 s i r) : jfn Tryz.prog q1r_ 6 18446744073709551616 (Ev.get q1q_) 23 q1d_ 233 [w1] (qd7_ s i r) = qd6_ (fun s i r => w1 (q1b_ s i r)) s i r := by
  rw [q2_ (by decide)]
  rw [qnu_]
  rfl
theorem qo6_  (w1 s i r) : jfn Tryz.prog q1r_ 6 18446744073709551616 (Ev.get q1q_) 23 q1d_ 3731 [w1] (qcr_ s i r) = qdb_ (fun s i r => w1 (q1b_ s i r)) s i r := by
  rw [q2_ (by decide)]
  have e5 : (fun s i r => (jfn Tryz.prog q1r_ 6 18446744073709551616 (Ev.get q1q_) 23 q1d_) 233 [w1] (qd7_ s i r)) = qd6_ (fun s i r => w1 (q1b_ s i r)) := by funext s i r; exact qlq_ w1 s i r
  rw [qml_, e5]
  rfl
theorem qmb_  (w1 s i k r p) : jfn Tryz.prog q1r_ 6 18446744073709551616 (Ev.get q1q_) 23 q1d_ 29850 [w1] (q4j_ s i k r p) = q7d_ (fun s i r => w1 (q1b_ s i r)) s i k r p := by
  rw [q2_ (by decide)]
  rw [qm_ (by kernel_rfl)]
  refine qj_ (σ := (List UInt8) × (Int) × (Int) × (List UInt8 × List QAT0) × QAT0) (mk := fun s => q4j_ s.1 s.2.1 s.2.2.1 s.2.2.2.1 s.2.2.2.2) (fun w2 s => ?_) 18446744073709551616 (s, i, k, r, p)
  have e3 : (fun s i k r p => (jfn Tryz.prog q1r_ 6 18446744073709551616 (Ev.get q1q_) 23 q1d_) 1910419 [w1, w2] (qcc_ s i k r p)) = q7i_ (fun s i r => w1 (q1b_ s i r)) (fun s i k r p => w2 (q4j_ s i k r p)) := by funext s i k r p; exact qmp_ w1 w2 s i k r p
  have e4 : (fun s i r => (jfn Tryz.prog q1r_ 6 18446744073709551616 (Ev.get q1q_) 23 q1d_) 3731 [w1] (qcr_ s i r)) = qdb_ (fun s i r => w1 (q1b_ s i r)) := by funext s i r; exact qo6_ w1 s i r
  refine (qms_ _ w1 w2 s.1 s.2.1 s.2.2.1 s.2.2.2.1 s.2.2.2.2).trans ?_
  rw [e3, e4]
theorem qn2_  (s i r) : jfn Tryz.prog q1r_ 6 18446744073709551616 (Ev.get q1q_) 23 q1d_ 58 [] (q1b_ s i r) = q9w_ s i r := by
  rw [q2_ (by decide)]
  rw [qm_ (by kernel_rfl)]
  refine qj_ (σ := (List UInt8) × (Int) × (List UInt8 × List QAT0)) (mk := fun s => q1b_ s.1 s.2.1 s.2.2) (fun w1 s => ?_) 18446744073709551616 (s, i, r)
  have e2 : (fun s i k r p => (jfn Tryz.prog q1r_ 6 18446744073709551616 (Ev.get q1q_) 23 q1d_) 29850 [w1] (q4j_ s i k r p)) = q7d_ (fun s i r => w1 (q1b_ s i r)) := by funext s i k r p; exact qmb_ w1 s i k r p
  refine (qnm_ _ w1 s.1 s.2.1 s.2.2).trans ?_
  rw [e2]
theorem qpv_ (x : As [.pr .str (.sl QAT2)]) : evT Tryz.prog q1r_ 6 18446744073709551616 (Ev.get q1q_) 23 q1d_ x = qdh_ x := by
  have e1 : (fun s i r => (jfn Tryz.prog q1r_ 6 18446744073709551616 (Ev.get q1q_) 23 q1d_) 58 [] (q1b_ s i r)) = q9w_ := by funext s i r; exact qn2_ s i r
  rw [q1v_, qlv_, e1]
  rfl
theorem qod_ : CtOk Tryz.prog I0 23 ⟨q1d_, qdh_⟩ := qu_ (q1_ qqh_ qa_) qpv_
@[reducible] def qk_ : Sh := ⟨[.d (.pr .str (.sl QAT2)), .d (.pr .str (.sl QAT2))], [], [.pr .str (.sl QAT2), .pr .str (.sl QAT2)], [.d (.bool)], [], 0, [.bool]⟩
def qr_ : Env := (cts [])
def qs_ : List (Nat × Hint) := [(58, ⟨[], [2, 3, 5, 48, 49, 50, 51, 52, 53, 54, 79, 80, 81, 82, 83, 86, 87, 88, 89, 90]⟩), (233, ⟨[], [2, 3, 5, 48, 49, 50, 51, 52, 53, 54, 79, 80, 81, 82, 83, 86, 87, 88, 89, 90]⟩), (932, ⟨[], [2, 3, 5, 6, 7, 48, 49, 50, 51, 52, 53, 54, 79, 80, 81, 82, 83, 86, 87, 88, 89, 90]⟩), (14926, ⟨[], [2, 3, 5, 6, 7, 8, 48, 49, 50, 51, 52, 53, 54, 79, 80, 81, 82, 83, 86, 87, 88, 89, 90]⟩), (238820, ⟨[], [2, 3, 5, 6, 7, 8, 9, 10, 48, 49, 50, 51, 52, 53, 54, 79, 80, 81, 82, 83, 86, 87, 88, 89, 90]⟩), (477641, ⟨[.agd 80 (.pr (.int .i64) (.int .u8)), .agd 82 (.pr (.int .i64) (.int .u8)), .agd 83 .bool, .agd 87 .str, .agd 89 .str, .agd 90 .bool], [2, 3, 5, 6, 7, 8, 91]⟩), (3730, ⟨[.agd 49 (.sl QAT5), .agd 50 (.int .i64), .agd 52 (.sl QAT5), .agd 53 (.int .i64), .agd 54 .bool], [2, 3, 5, 6, 7, 55]⟩), (6, ⟨[], [2, 3, 24, 48, 49, 50, 51, 52, 53, 54, 79, 80, 81, 82, 83, 86, 87, 88, 89, 90]⟩)]
def qdz_ (t24 : Bool) (a b : List UInt8 × List QAT0) : St := { fr := [(2, .pb 0 0), (3, .pb 1 0), (24, .d .bool t24)], nt := 92, up := [], own := [(0, .box 26 [.d .str a.1, .d (.sl QAT2) a.2]), (1, .box 26 [.d .str b.1, .d (.sl QAT2) b.2])], nx := 2, log := [], ln := 0 }
def qq_ (i : Int) (a b : List UInt8 × List QAT0) : St := { fr := [(2, .pb 0 0), (3, .pb 1 0), (5, .d (.int .i64) i)], nt := 92, up := [], own := [(0, .box 26 [.d .str a.1, .d (.sl QAT2) a.2]), (1, .box 26 [.d .str b.1, .d (.sl QAT2) b.2])], nx := 2, log := [], ln := 0 }
def qds_ (i : Int) (a b : List UInt8 × List QAT0) (p q : List UInt8 × Int × List QAT3) : St := { fr := [(2, .pb 0 0), (3, .pb 1 0), (5, .d (.int .i64) i), (6, .pb 2 0), (7, .pb 3 0)], nt := 92, up := [], own := [(0, .box 26 [.d .str a.1, .d (.sl QAT2) a.2]), (1, .box 26 [.d .str b.1, .d (.sl QAT2) b.2]), (2, .box 43 [.d .str p.1, .d (.int .i64) p.2.1, .d (.sl QAT5) p.2.2]), (3, .box 43 [.d .str q.1, .d (.int .i64) q.2.1, .d (.sl QAT5) q.2.2])], nx := 4, log := [], ln := 0 }
def qee_ (i : Int) (t55 : Bool) (a b : List UInt8 × List QAT0) (p q : List UInt8 × Int × List QAT3) : St := { fr := [(2, .pb 0 0), (3, .pb 1 0), (5, .d (.int .i64) i), (6, .pb 2 0), (7, .pb 3 0), (55, .d .bool t55)], nt := 92, up := [], own := [(0, .box 26 [.d .str a.1, .d (.sl QAT2) a.2]), (1, .box 26 [.d .str b.1, .d (.sl QAT2) b.2]), (2, .box 43 [.d .str p.1, .d (.int .i64) p.2.1, .d (.sl QAT5) p.2.2]), (3, .box 43 [.d .str q.1, .d (.int .i64) q.2.1, .d (.sl QAT5) q.2.2])], nx := 4, log := [], ln := 0 }
def q39_ (i k : Int) (a b : List UInt8 × List QAT0) (p q : List UInt8 × Int × List QAT3) : St := { fr := [(2, .pb 0 0), (3, .pb 1 0), (5, .d (.int .i64) i), (6, .pb 2 0), (7, .pb 3 0), (8, .d (.int .i64) k)], nt := 92, up := [], own := [(0, .box 26 [.d .str a.1, .d (.sl QAT2) a.2]), (1, .box 26 [.d .str b.1, .d (.sl QAT2) b.2]), (2, .box 43 [.d .str p.1, .d (.int .i64) p.2.1, .d (.sl QAT5) p.2.2]), (3, .box 43 [.d .str q.1, .d (.int .i64) q.2.1, .d (.sl QAT5) q.2.2])], nx := 4, log := [], ln := 0 }
def qeg_ (i k : Int) (a b : List UInt8 × List QAT0) (p q : List UInt8 × Int × List QAT3) (x y : List UInt8 × (Int × Int) × List UInt8 × Int) : St := { fr := [(2, .pb 0 0), (3, .pb 1 0), (5, .d (.int .i64) i), (6, .pb 2 0), (7, .pb 3 0), (8, .d (.int .i64) k), (9, .pb 4 0), (10, .pb 5 0)], nt := 92, up := [], own := [(0, .box 26 [.d .str a.1, .d (.sl QAT2) a.2]), (1, .box 26 [.d .str b.1, .d (.sl QAT2) b.2]), (2, .box 43 [.d .str p.1, .d (.int .i64) p.2.1, .d (.sl QAT5) p.2.2]), (3, .box 43 [.d .str q.1, .d (.int .i64) q.2.1, .d (.sl QAT5) q.2.2]), (4, .box 47 [.d .str x.1, .d (.int .i64) x.2.1.1, .d (.int .u8) x.2.1.2, .d .str x.2.2.1, .d (.int .i64) x.2.2.2]), (5, .box 47 [.d .str y.1, .d (.int .i64) y.2.1.1, .d (.int .u8) y.2.1.2, .d .str y.2.2.1, .d (.int .i64) y.2.2.2])], nx := 6, log := [], ln := 0 }
def qdo_ (i : Int) (a b : List UInt8 × List QAT0) : St := { fr := [(2, .pb 0 0), (3, .pb 1 0), (5, .d (.int .i64) i)], nt := 92, up := [], own := [(0, .box 26 [.d .str a.1, .d (.sl QAT2) a.2]), (1, .box 26 [.d .str b.1, .d (.sl QAT2) b.2])], nx := 2, log := [], ln := 0 }
def qdw_ (i k : Int) (t91 : Bool) (a b : List UInt8 × List QAT0) (p q : List UInt8 × Int × List QAT3) : St := { fr := [(2, .pb 0 0), (3, .pb 1 0), (5, .d (.int .i64) i), (6, .pb 2 0), (7, .pb 3 0), (8, .d (.int .i64) k), (91, .d .bool t91)], nt := 92, up := [], own := [(0, .box 26 [.d .str a.1, .d (.sl QAT2) a.2]), (1, .box 26 [.d .str b.1, .d (.sl QAT2) b.2]), (2, .box 43 [.d .str p.1, .d (.int .i64) p.2.1, .d (.sl QAT5) p.2.2]), (3, .box 43 [.d .str q.1, .d (.int .i64) q.2.1, .d (.sl QAT5) q.2.2])], nx := 4, log := [], ln := 0 }
def qiu_ (j2 : Int -> List UInt8 × List QAT0 -> List UInt8 × List QAT0 -> Option (As [.bool])) (t24 : Bool) (a b : List UInt8 × List QAT0) : Option (As [.bool]) :=
  if t24 = true then some (false, ()) else j2 0 a b
def q8f_ (j3 : Int -> List UInt8 × List QAT0 -> List UInt8 × List QAT0 -> List UInt8 × Int × List QAT3 -> List UInt8 × Int × List QAT3 -> Option (As [.bool])) (self2 : Int -> List UInt8 × List QAT0 -> List UInt8 × List QAT0 -> Option (As [.bool])) (i : Int) (a b : List UInt8 × List QAT0) : Option (As [.bool]) :=
  if lt i (Int.ofNat (List.length a.2)) = true then Option.bind (at? a.2 i) fun (y : List UInt8 × Int × List QAT3) => Option.bind (at? b.2 i) fun (y_1 : List UInt8 × Int × List QAT3) => amb (eqAs qk_.rs) [j3 i a b y y_1, j3 i a b y y_1] else some (true, ())
def qe2_ (j4 : Int -> Bool -> List UInt8 × List QAT0 -> List UInt8 × List QAT0 -> List UInt8 × Int × List QAT3 -> List UInt8 × Int × List QAT3 -> Option (As [.bool])) (self2 : Int -> List UInt8 × List QAT0 -> List UInt8 × List QAT0 -> Option (As [.bool])) (i : Int) (a b : List UInt8 × List QAT0) (p q : List UInt8 × Int × List QAT3) : Option (As [.bool]) :=
  if nes p.1 q.1 = true then j4 i true a b p q else j4 i (nei (Int.ofNat (List.length p.2.2)) (Int.ofNat (List.length q.2.2))) a b p q
def qj1_ (j5 : Int -> Int -> List UInt8 × List QAT0 -> List UInt8 × List QAT0 -> List UInt8 × Int × List QAT3 -> List UInt8 × Int × List QAT3 -> Option (As [.bool])) (self2 : Int -> List UInt8 × List QAT0 -> List UInt8 × List QAT0 -> Option (As [.bool])) (i : Int) (t55 : Bool) (a b : List UInt8 × List QAT0) (p q : List UInt8 × Int × List QAT3) : Option (As [.bool]) :=
  if t55 = true then some (false, ()) else j5 i 0 a b p q
def q8c_ (j6 : Int -> Int -> List UInt8 × List QAT0 -> List UInt8 × List QAT0 -> List UInt8 × Int × List QAT3 -> List UInt8 × Int × List QAT3 -> List UInt8 × (Int × Int) × List UInt8 × Int -> List UInt8 × (Int × Int) × List UInt8 × Int -> Option (As [.bool])) (j7 self2 : Int -> List UInt8 × List QAT0 -> List UInt8 × List QAT0 -> Option (As [.bool])) (self5 : Int -> Int -> List UInt8 × List QAT0 -> List UInt8 × List QAT0 -> List UInt8 × Int × List QAT3 -> List UInt8 × Int × List QAT3 -> Option (As [.bool])) (i k : Int) (a b : List UInt8 × List QAT0) (p q : List UInt8 × Int × List QAT3) : Option (As [.bool]) :=
  if lt k (Int.ofNat (List.length p.2.2)) = true then Option.bind (at? p.2.2 k) fun (y : List UInt8 × (Int × Int) × List UInt8 × Int) => Option.bind (at? q.2.2 k) fun (y_1 : List UInt8 × (Int × Int) × List UInt8 × Int) => amb (eqAs qk_.rs) [j6 i k a b p q y y_1, j6 i k a b p q y y_1] else j7 i a b
def qe6_ (j8 : Int -> Int -> Bool -> List UInt8 × List QAT0 -> List UInt8 × List QAT0 -> List UInt8 × Int × List QAT3 -> List UInt8 × Int × List QAT3 -> Option (As [.bool])) (self2 : Int -> List UInt8 × List QAT0 -> List UInt8 × List QAT0 -> Option (As [.bool])) (self5 : Int -> Int -> List UInt8 × List QAT0 -> List UInt8 × List QAT0 -> List UInt8 × Int × List QAT3 -> List UInt8 × Int × List QAT3 -> Option (As [.bool])) (i k : Int) (a b : List UInt8 × List QAT0) (p q : List UInt8 × Int × List QAT3) (x y : List UInt8 × (Int × Int) × List UInt8 × Int) : Option (As [.bool]) :=
  if nes x.1 y.1 = true then j8 i k true a b p q else if (!(eqi x.2.1.1 y.2.1.1 && (eqi x.2.1.2 y.2.1.2 && true))) = true then j8 i k true a b p q else j8 i k (nes x.2.2.1 y.2.2.1) a b p q
def qdp_ (self2 : Int -> List UInt8 × List QAT0 -> List UInt8 × List QAT0 -> Option (As [.bool])) (i : Int) (a b : List UInt8 × List QAT0) : Option (As [.bool]) :=
  self2 (add .i64 i 1) a b
def qdr_ (self2 : Int -> List UInt8 × List QAT0 -> List UInt8 × List QAT0 -> Option (As [.bool])) (self5 : Int -> Int -> List UInt8 × List QAT0 -> List UInt8 × List QAT0 -> List UInt8 × Int × List QAT3 -> List UInt8 × Int × List QAT3 -> Option (As [.bool])) (i k : Int) (t91 : Bool) (a b : List UInt8 × List QAT0) (p q : List UInt8 × Int × List QAT3) : Option (As [.bool]) :=
  if t91 = true then some (false, ()) else self5 i (add .i64 k 1) a b p q
def qei_ (j1 : Bool -> List UInt8 × List QAT0 -> List UInt8 × List QAT0 -> Option (As [.bool])) (a b : List UInt8 × List QAT0) : Option (As [.bool]) :=
  if nes a.1 b.1 = true then j1 true a b else j1 (nei (Int.ofNat (List.length a.2)) (Int.ofNat (List.length b.2))) a b
def qaj_ (u2 : Int -> List UInt8 × List QAT0 -> List UInt8 × List QAT0 -> Option (As [.bool])) (u5 : Int -> Int -> List UInt8 × List QAT0 -> List UInt8 × List QAT0 -> List UInt8 × Int × List QAT3 -> List UInt8 × Int × List QAT3 -> Option (As [.bool])) (i k : Int) (t91 : Bool) (a b : List UInt8 × List QAT0) (p q : List UInt8 × Int × List QAT3) : Option (As [.bool]) := qdr_ u2 u5 i k t91 a b p q
def qec_ (u2 : Int -> List UInt8 × List QAT0 -> List UInt8 × List QAT0 -> Option (As [.bool])) (u5 : Int -> Int -> List UInt8 × List QAT0 -> List UInt8 × List QAT0 -> List UInt8 × Int × List QAT3 -> List UInt8 × Int × List QAT3 -> Option (As [.bool])) (i k : Int) (a b : List UInt8 × List QAT0) (p q : List UInt8 × Int × List QAT3) (x y : List UInt8 × (Int × Int) × List UInt8 × Int) : Option (As [.bool]) := qe6_ (qaj_ u2 u5) u2 u5 i k a b p q x y
def qdl_ (u2 : Int -> List UInt8 × List QAT0 -> List UInt8 × List QAT0 -> Option (As [.bool])) (i : Int) (a b : List UInt8 × List QAT0) : Option (As [.bool]) := qdp_ u2 i a b
def q87_ (u2 : Int -> List UInt8 × List QAT0 -> List UInt8 × List QAT0 -> Option (As [.bool])) (i k : Int) (a b : List UInt8 × List QAT0) (p q : List UInt8 × Int × List QAT3) : Option (As [.bool]) :=
  loopF (fun (self : (Int) × (Int) × (List UInt8 × List QAT0) × (List UInt8 × List QAT0) × QAT0 × QAT0 -> Option (As [.bool])) (s : (Int) × (Int) × (List UInt8 × List QAT0) × (List UInt8 × List QAT0) × QAT0 × QAT0) => q8c_ (qec_ u2 (fun i k a b p q => self (i, k, a, b, p, q))) (qdl_ u2) u2 (fun i k a b p q => self (i, k, a, b, p, q)) s.1 s.2.1 s.2.2.1 s.2.2.2.1 s.2.2.2.2.1 s.2.2.2.2.2) 18446744073709551616 (i, k, a, b, p, q)
def qas_ (u2 : Int -> List UInt8 × List QAT0 -> List UInt8 × List QAT0 -> Option (As [.bool])) (i : Int) (t55 : Bool) (a b : List UInt8 × List QAT0) (p q : List UInt8 × Int × List QAT3) : Option (As [.bool]) := qj1_ (q87_ u2) u2 i t55 a b p q
def qe4_ (u2 : Int -> List UInt8 × List QAT0 -> List UInt8 × List QAT0 -> Option (As [.bool])) (i : Int) (a b : List UInt8 × List QAT0) (p q : List UInt8 × Int × List QAT3) : Option (As [.bool]) := qe2_ (qas_ u2) u2 i a b p q
def q8b_ (i : Int) (a b : List UInt8 × List QAT0) : Option (As [.bool]) :=
  loopF (fun (self : (Int) × (List UInt8 × List QAT0) × (List UInt8 × List QAT0) -> Option (As [.bool])) (s : (Int) × (List UInt8 × List QAT0) × (List UInt8 × List QAT0)) => q8f_ (qe4_ (fun i a b => self (i, a, b))) (fun i a b => self (i, a, b)) s.1 s.2.1 s.2.2) 18446744073709551616 (i, a, b)
def qal_ (t24 : Bool) (a b : List UInt8 × List QAT0) : Option (As [.bool]) := qiu_ (q8b_) t24 a b
def qa8_ (x : As [.pr .str (.sl QAT2), .pr .str (.sl QAT2)]) : Option (As [.bool]) := qei_ qal_ x.1 x.2.1
theorem qq0_  (J w2 w5 i k t91 a b p q) : pfn Tryz.prog qr_ 6 18446744073709551616 (Ev.get qs_) 20 qk_ J 477641 [w2, w5] (qdw_ i k t91 a b p q) = qdr_ (fun i a b => w2 (qq_ i a b)) (fun i k a b p q => w5 (q39_ i k a b p q)) i k t91 a b p q := by kernel_rfl
theorem qoo_  (J w2 w5 i k a b p q x y) : pfn Tryz.prog qr_ 6 18446744073709551616 (Ev.get qs_) 20 qk_ J 238820 [w2, w5] (qeg_ i k a b p q x y) = qe6_ (fun i k t91 a b p q => J 477641 [w2, w5] (qdw_ i k t91 a b p q)) (fun i a b => w2 (qq_ i a b)) (fun i k a b p q => w5 (q39_ i k a b p q)) i k a b p q x y := by kernel_rfl
theorem qq2_  (J w2 i a b) : pfn Tryz.prog qr_ 6 18446744073709551616 (Ev.get qs_) 20 qk_ J 233 [w2] (qdo_ i a b) = qdp_ (fun i a b => w2 (qq_ i a b)) i a b := by kernel_rfl
theorem qq1_  (J w2 w5 i k a b p q) : pfn Tryz.prog qr_ 6 18446744073709551616 (Ev.get qs_) 20 qk_ J 14926 [w2, w5] (q39_ i k a b p q) = q8c_ (fun i k a b p q x y => J 238820 [w2, w5] (qeg_ i k a b p q x y)) (fun i a b => J 233 [w2] (qdo_ i a b)) (fun i a b => w2 (qq_ i a b)) (fun i k a b p q => w5 (q39_ i k a b p q)) i k a b p q := by kernel_rfl
theorem qqd_  (J w2 i t55 a b p q) : pfn Tryz.prog qr_ 6 18446744073709551616 (Ev.get qs_) 20 qk_ J 3730 [w2] (qee_ i t55 a b p q) = qj1_ (fun i k a b p q => J 14926 [w2] (q39_ i k a b p q)) (fun i a b => w2 (qq_ i a b)) i t55 a b p q := by kernel_rfl
theorem qpz_  (J w2 i a b p q) : pfn Tryz.prog qr_ 6 18446744073709551616 (Ev.get qs_) 20 qk_ J 932 [w2] (qds_ i a b p q) = qe2_ (fun i t55 a b p q => J 3730 [w2] (qee_ i t55 a b p q)) (fun i a b => w2 (qq_ i a b)) i a b p q := by kernel_rfl
theorem qq9_  (J w2 i a b) : pfn Tryz.prog qr_ 6 18446744073709551616 (Ev.get qs_) 20 qk_ J 58 [w2] (qq_ i a b) = q8f_ (fun i a b p q => J 932 [w2] (qds_ i a b p q)) (fun i a b => w2 (qq_ i a b)) i a b := by kernel_rfl
theorem qqk_  (J t24 a b) : pfn Tryz.prog qr_ 6 18446744073709551616 (Ev.get qs_) 20 qk_ J 6 [] (qdz_ t24 a b) = qiu_ (fun i a b => J 58 [] (qq_ i a b)) t24 a b := by kernel_rfl
theorem qpc_ (J : Orc (As [.bool])) (x : As [.pr .str (.sl QAT2), .pr .str (.sl QAT2)]) : rfn Tryz.prog qr_ 6 18446744073709551616 (Ev.get qs_) 20 qk_ J x = qei_ (fun t24 a b => J 6 [] (qdz_ t24 a b)) x.1 x.2.1 := by kernel_rfl
theorem qpq_  (w2 w5 i k t91 a b p q) : jfn Tryz.prog qr_ 6 18446744073709551616 (Ev.get qs_) 20 qk_ 477641 [w2, w5] (qdw_ i k t91 a b p q) = qaj_ (fun i a b => w2 (qq_ i a b)) (fun i k a b p q => w5 (q39_ i k a b p q)) i k t91 a b p q := by
  rw [q2_ (by decide)]
  rw [qq0_]
  rfl
theorem qpr_  (w2 w5 i k a b p q x y) : jfn Tryz.prog qr_ 6 18446744073709551616 (Ev.get qs_) 20 qk_ 238820 [w2, w5] (qeg_ i k a b p q x y) = qec_ (fun i a b => w2 (qq_ i a b)) (fun i k a b p q => w5 (q39_ i k a b p q)) i k a b p q x y := by
  rw [q2_ (by decide)]
  have e8 : (fun i k t91 a b p q => (jfn Tryz.prog qr_ 6 18446744073709551616 (Ev.get qs_) 20 qk_) 477641 [w2, w5] (qdw_ i k t91 a b p q)) = qaj_ (fun i a b => w2 (qq_ i a b)) (fun i k a b p q => w5 (q39_ i k a b p q)) := by funext i k t91 a b p q; exact qpq_ w2 w5 i k t91 a b p q
  rw [qoo_, e8]
  rfl
theorem qpu_  (w2 i a b) : jfn Tryz.prog qr_ 6 18446744073709551616 (Ev.get qs_) 20 qk_ 233 [w2] (qdo_ i a b) = qdl_ (fun i a b => w2 (qq_ i a b)) i a b := by
  rw [q2_ (by decide)]
  rw [qq2_]
  rfl
theorem qpy_  (w2 i k a b p q) : jfn Tryz.prog qr_ 6 18446744073709551616 (Ev.get qs_) 20 qk_ 14926 [w2] (q39_ i k a b p q) = q87_ (fun i a b => w2 (qq_ i a b)) i k a b p q := by
  rw [q2_ (by decide)]
  rw [qm_ (by kernel_rfl)]
  refine qj_ (σ := (Int) × (Int) × (List UInt8 × List QAT0) × (List UInt8 × List QAT0) × QAT0 × QAT0) (mk := fun s => q39_ s.1 s.2.1 s.2.2.1 s.2.2.2.1 s.2.2.2.2.1 s.2.2.2.2.2) (fun w5 s => ?_) 18446744073709551616 (i, k, a, b, p, q)
  have e6 : (fun i k a b p q x y => (jfn Tryz.prog qr_ 6 18446744073709551616 (Ev.get qs_) 20 qk_) 238820 [w2, w5] (qeg_ i k a b p q x y)) = qec_ (fun i a b => w2 (qq_ i a b)) (fun i k a b p q => w5 (q39_ i k a b p q)) := by funext i k a b p q x y; exact qpr_ w2 w5 i k a b p q x y
  have e7 : (fun i a b => (jfn Tryz.prog qr_ 6 18446744073709551616 (Ev.get qs_) 20 qk_) 233 [w2] (qdo_ i a b)) = qdl_ (fun i a b => w2 (qq_ i a b)) := by funext i a b; exact qpu_ w2 i a b
  refine (qq1_ _ w2 w5 s.1 s.2.1 s.2.2.1 s.2.2.2.1 s.2.2.2.2.1 s.2.2.2.2.2).trans ?_
  rw [e6, e7]
theorem qqa_  (w2 i t55 a b p q) : jfn Tryz.prog qr_ 6 18446744073709551616 (Ev.get qs_) 20 qk_ 3730 [w2] (qee_ i t55 a b p q) = qas_ (fun i a b => w2 (qq_ i a b)) i t55 a b p q := by
  rw [q2_ (by decide)]
  have e5 : (fun i k a b p q => (jfn Tryz.prog qr_ 6 18446744073709551616 (Ev.get qs_) 20 qk_) 14926 [w2] (q39_ i k a b p q)) = q87_ (fun i a b => w2 (qq_ i a b)) := by funext i k a b p q; exact qpy_ w2 i k a b p q
  rw [qqd_, e5]
  rfl
theorem qp9_  (w2 i a b p q) : jfn Tryz.prog qr_ 6 18446744073709551616 (Ev.get qs_) 20 qk_ 932 [w2] (qds_ i a b p q) = qe4_ (fun i a b => w2 (qq_ i a b)) i a b p q := by
  rw [q2_ (by decide)]
  have e4 : (fun i t55 a b p q => (jfn Tryz.prog qr_ 6 18446744073709551616 (Ev.get qs_) 20 qk_) 3730 [w2] (qee_ i t55 a b p q)) = qas_ (fun i a b => w2 (qq_ i a b)) := by funext i t55 a b p q; exact qqa_ w2 i t55 a b p q
  rw [qpz_, e4]
  rfl
theorem qq7_  (i a b) : jfn Tryz.prog qr_ 6 18446744073709551616 (Ev.get qs_) 20 qk_ 58 [] (qq_ i a b) = q8b_ i a b := by
  rw [q2_ (by decide)]
  rw [qm_ (by kernel_rfl)]
  refine qj_ (σ := (Int) × (List UInt8 × List QAT0) × (List UInt8 × List QAT0)) (mk := fun s => qq_ s.1 s.2.1 s.2.2) (fun w2 s => ?_) 18446744073709551616 (i, a, b)
  have e3 : (fun i a b p q => (jfn Tryz.prog qr_ 6 18446744073709551616 (Ev.get qs_) 20 qk_) 932 [w2] (qds_ i a b p q)) = qe4_ (fun i a b => w2 (qq_ i a b)) := by funext i a b p q; exact qp9_ w2 i a b p q
  refine (qq9_ _ w2 s.1 s.2.1 s.2.2).trans ?_
  rw [e3]
theorem qoq_  (t24 a b) : jfn Tryz.prog qr_ 6 18446744073709551616 (Ev.get qs_) 20 qk_ 6 [] (qdz_ t24 a b) = qal_ t24 a b := by
  rw [q2_ (by decide)]
  have e2 : (fun i a b => (jfn Tryz.prog qr_ 6 18446744073709551616 (Ev.get qs_) 20 qk_) 58 [] (qq_ i a b)) = q8b_ := by funext i a b; exact qq7_ i a b
  rw [qqk_, e2]
  rfl
theorem qqv_ (x : As [.pr .str (.sl QAT2), .pr .str (.sl QAT2)]) : evT Tryz.prog qr_ 6 18446744073709551616 (Ev.get qs_) 20 qk_ x = qa8_ x := by
  have e1 : (fun t24 a b => (jfn Tryz.prog qr_ 6 18446744073709551616 (Ev.get qs_) 20 qk_) 6 [] (qdz_ t24 a b)) = qal_ := by funext t24 a b; exact qoq_ t24 a b
  rw [q1v_, qpc_, e1]
  rfl
theorem qiz_ : CtOk Tryz.prog I0 20 ⟨qk_, qa8_⟩ := qu_ qa_ qqv_
@[reducible] def qjb_ : Sh := ⟨[.d (.sl QAT1), .d (.str)], [], [.sl QAT1, .str], [.d (.bool)], [], 0, [.bool]⟩
def qh1_ (l : List QAT4) (word : List UInt8) : Option (As [.bool]) :=
  if eqi (Int.ofNat (List.length l)) 2 = true then Option.bind (at? l 0) fun (y : Int × List UInt8 × (Int × Int) × Int) => if eqi y.1 1 = true then Option.bind (at? l 0) fun (y : Int × List UInt8 × (Int × Int) × Int) => if eqs y.2.1 word = true then Option.bind (at? l 1) fun (y : Int × List UInt8 × (Int × Int) × Int) => if eqi y.1 1 = true then Option.bind (at? l 1) fun (y : Int × List UInt8 × (Int × Int) × Int) => Option.bind (q61_ (y.2.1, ())) fun (y : Bool × Unit) => some (y.1, ()) else some (false, ()) else some (false, ()) else some (false, ()) else some (false, ())
def qf9_ (x : As [.sl QAT1, .str]) : Option (As [.bool]) := qh1_ x.1 x.2.1
theorem qoz_ : CtOk Tryz.prog I0 45 ⟨qjb_, qf9_⟩ := ctn (q1_ qh0_ qa_) 6 fun J x => by kernel_rfl
@[reducible] def q4q_ : Sh := ⟨[.d (.sl QAT1)], [], [.sl QAT1], [.d (.sl (.sl QAT1))], [], 0, [.sl (.sl QAT1)]⟩
def q66_ : Env := (cts [])
def q68_ : List (Nat × Hint) := [(122, ⟨[.row 3 96], [0, 3, 4, 5]⟩), (489, ⟨[.row 3 96], [0, 3, 4, 5]⟩)]
def q4v_ (l : List QAT4) (from' i : Int) (out : List (List QAT4)) : St := { fr := [(0, .d (.sl QAT1) l), (3, .row 0), (4, .d (.int .i64) from'), (5, .d (.int .i64) i)], nt := 28, up := [], own := [(0, .row (.sl QAT1) 96 out)], nx := 1, log := [], ln := 0 }
def qdm_ (l : List QAT4) (from' i : Int) (out : List (List QAT4)) : St := { fr := [(0, .d (.sl QAT1) l), (3, .row 0), (4, .d (.int .i64) from'), (5, .d (.int .i64) i)], nt := 28, up := [], own := [(0, .row (.sl QAT1) 96 out)], nx := 1, log := [], ln := 0 }
def q6k_ (j2 self1 : List QAT4 -> Int -> Int -> List (List QAT4) -> Option (As [.sl (.sl QAT1)])) (l : List QAT4) (from' i : Int) (out : List (List QAT4)) : Option (As [.sl (.sl QAT1)]) :=
  if lt i (Int.ofNat (List.length l)) = true then Option.bind (at? l i) fun (y : Int × List UInt8 × (Int × Int) × Int) => if eqi y.1 4 = true then Option.bind (cut l from' i) fun (y : List QAT4) => need (small (List.length out + Nat.succ 0)) (j2 l (add .i64 i 1) i (out ++ [y])) else j2 l from' i out else some (out, ())
def qef_ (self1 : List QAT4 -> Int -> Int -> List (List QAT4) -> Option (As [.sl (.sl QAT1)])) (l : List QAT4) (from' i : Int) (out : List (List QAT4)) : Option (As [.sl (.sl QAT1)]) :=
  self1 l from' (add .i64 i 1) out
def qeb_ (j1 : List QAT4 -> Int -> Int -> List (List QAT4) -> Option (As [.sl (.sl QAT1)])) (l : List QAT4) : Option (As [.sl (.sl QAT1)]) :=
  j1 l 0 0 []
def q6q_ (u1 : List QAT4 -> Int -> Int -> List (List QAT4) -> Option (As [.sl (.sl QAT1)])) (l : List QAT4) (from' i : Int) (out : List (List QAT4)) : Option (As [.sl (.sl QAT1)]) := qef_ u1 l from' i out
def qaw_ (l : List QAT4) (from' i : Int) (out : List (List QAT4)) : Option (As [.sl (.sl QAT1)]) :=
  loopF (fun (self : (List QAT4) × (Int) × (Int) × (List (List QAT4)) -> Option (As [.sl (.sl QAT1)])) (s : (List QAT4) × (Int) × (Int) × (List (List QAT4))) => q6k_ (q6q_ (fun l from' i out => self (l, from', i, out))) (fun l from' i out => self (l, from', i, out)) s.1 s.2.1 s.2.2.1 s.2.2.2) 18446744073709551616 (l, from', i, out)
def qfe_ (x : As [.sl QAT1]) : Option (As [.sl (.sl QAT1)]) := qeb_ qaw_ x.1
theorem qox_  (J w1 l from' i out) : pfn Tryz.prog q66_ 6 18446744073709551616 (Ev.get q68_) 44 q4q_ J 489 [w1] (qdm_ l from' i out) = qef_ (fun l from' i out => w1 (q4v_ l from' i out)) l from' i out := by kernel_rfl
theorem qop_  (J w1 l from' i out) : pfn Tryz.prog q66_ 6 18446744073709551616 (Ev.get q68_) 44 q4q_ J 122 [w1] (q4v_ l from' i out) = q6k_ (fun l from' i out => J 489 [w1] (qdm_ l from' i out)) (fun l from' i out => w1 (q4v_ l from' i out)) l from' i out := by kernel_rfl
theorem qqe_ (J : Orc (As [.sl (.sl QAT1)])) (x : As [.sl QAT1]) : rfn Tryz.prog q66_ 6 18446744073709551616 (Ev.get q68_) 44 q4q_ J x = qeb_ (fun l from' i out => J 122 [] (q4v_ l from' i out)) x.1 := by kernel_rfl
theorem qpf_  (w1 l from' i out) : jfn Tryz.prog q66_ 6 18446744073709551616 (Ev.get q68_) 44 q4q_ 489 [w1] (qdm_ l from' i out) = q6q_ (fun l from' i out => w1 (q4v_ l from' i out)) l from' i out := by
  rw [q2_ (by decide)]
  rw [qox_]
  rfl
theorem qq5_  (l from' i out) : jfn Tryz.prog q66_ 6 18446744073709551616 (Ev.get q68_) 44 q4q_ 122 [] (q4v_ l from' i out) = qaw_ l from' i out := by
  rw [q2_ (by decide)]
  rw [qm_ (by kernel_rfl)]
  refine qj_ (σ := (List QAT4) × (Int) × (Int) × (List (List QAT4))) (mk := fun s => q4v_ s.1 s.2.1 s.2.2.1 s.2.2.2) (fun w1 s => ?_) 18446744073709551616 (l, from', i, out)
  have e2 : (fun l from' i out => (jfn Tryz.prog q66_ 6 18446744073709551616 (Ev.get q68_) 44 q4q_) 489 [w1] (qdm_ l from' i out)) = q6q_ (fun l from' i out => w1 (q4v_ l from' i out)) := by funext l from' i out; exact qpf_ w1 l from' i out
  refine (qop_ _ w1 s.1 s.2.1 s.2.2.1 s.2.2.2).trans ?_
  rw [e2]
theorem qr8_ (x : As [.sl QAT1]) : evT Tryz.prog q66_ 6 18446744073709551616 (Ev.get q68_) 44 q4q_ x = qfe_ x := by
  have e1 : (fun l from' i out => (jfn Tryz.prog q66_ 6 18446744073709551616 (Ev.get q68_) 44 q4q_) 122 [] (q4v_ l from' i out)) = qaw_ := by funext l from' i out; exact qq5_ l from' i out
  rw [q1v_, qqe_, e1]
  rfl
theorem qq6_ : CtOk Tryz.prog I0 44 ⟨q4q_, qfe_⟩ := qu_ qa_ qr8_
@[reducible] def q1x_ : Sh := ⟨[.d (.pr .str (.sl QAT2))], [], [.pr .str (.sl QAT2)], [.d (.bool)], [], 0, [.bool]⟩
def q2a_ : Env := (cts [])
def q2b_ : List (Nat × Hint) := [(58, ⟨[], [18, 19, 20, 29, 30, 31, 32, 46, 47, 48, 49]⟩), (29902, ⟨[], [18, 19, 20, 29, 30, 31, 32, 35, 36, 37, 46, 47, 48, 49]⟩), (1913753, ⟨[.agd 47 .str, .agd 48 (.int .i64), .agd 49 .bool], [18, 19, 20, 35, 36, 37, 50]⟩), (7474, ⟨[.agd 30 .str, .agd 31 (.int .i64), .agd 32 .bool], [4, 18, 19, 20, 33]⟩), (6, ⟨[], [1, 16, 29, 30, 31, 32, 46, 47, 48, 49]⟩)]
def qf2_ (t16 : Bool) (r : List UInt8 × List QAT0) : St := { fr := [(1, .pb 0 0), (16, .d .bool t16)], nt := 53, up := [], own := [(0, .box 26 [.d .str r.1, .d (.sl QAT2) r.2])], nx := 1, log := [], ln := 0 }
def q2n_ (t18 : List QAT0) (t19 t20 : Int) : St := { fr := [(18, .d (.sl QAT2) t18), (19, .d (.int .i64) t19), (20, .d (.int .i64) t20)], nt := 53, up := [], own := [], nx := 0, log := [], ln := 0 }
def qew_ (t18 : List QAT0) (t19 t20 : Int) (t33 : Bool) (p : List UInt8 × Int × List QAT3) : St := { fr := [(4, .pb 0 0), (18, .d (.sl QAT2) t18), (19, .d (.int .i64) t19), (20, .d (.int .i64) t20), (33, .d .bool t33)], nt := 53, up := [], own := [(0, .box 43 [.d .str p.1, .d (.int .i64) p.2.1, .d (.sl QAT5) p.2.2])], nx := 1, log := [], ln := 0 }
def q5d_ (t18 : List QAT0) (t19 t20 : Int) (t35 : List QAT3) (t36 t37 : Int) : St := { fr := [(18, .d (.sl QAT2) t18), (19, .d (.int .i64) t19), (20, .d (.int .i64) t20), (35, .d (.sl QAT5) t35), (36, .d (.int .i64) t36), (37, .d (.int .i64) t37)], nt := 53, up := [], own := [], nx := 0, log := [], ln := 0 }
def qfm_ (t18 : List QAT0) (t19 t20 : Int) (t35 : List QAT3) (t36 t37 : Int) (t50 : Bool) : St := { fr := [(18, .d (.sl QAT2) t18), (19, .d (.int .i64) t19), (20, .d (.int .i64) t20), (35, .d (.sl QAT5) t35), (36, .d (.int .i64) t36), (37, .d (.int .i64) t37), (50, .d .bool t50)], nt := 53, up := [], own := [], nx := 0, log := [], ln := 0 }
def qji_ (j2 : List QAT0 -> Int -> Int -> Option (As [.bool])) (t16 : Bool) (r : List UInt8 × List QAT0) : Option (As [.bool]) :=
  if t16 = true then some (false, ()) else j2 r.2 (Int.ofNat (List.length r.2)) 0
def q9g_ (j3 : List QAT0 -> Int -> Int -> Bool -> List UInt8 × Int × List QAT3 -> Option (As [.bool])) (self2 : List QAT0 -> Int -> Int -> Option (As [.bool])) (t18 : List QAT0) (t19 t20 : Int) : Option (As [.bool]) :=
  if lt t20 t19 = true then Option.bind (at? t18 t20) fun (y : List UInt8 × Int × List QAT3) => if gt (Int.ofNat (List.length y.2.2)) 70 = true then j3 t18 t19 t20 true y else j3 t18 t19 t20 (gt (Int.ofNat (List.length y.1)) 40) y else some (true, ())
def qj5_ (j4 : List QAT0 -> Int -> Int -> List QAT3 -> Int -> Int -> Option (As [.bool])) (self2 : List QAT0 -> Int -> Int -> Option (As [.bool])) (t18 : List QAT0) (t19 t20 : Int) (t33 : Bool) (p : List UInt8 × Int × List QAT3) : Option (As [.bool]) :=
  if t33 = true then some (false, ()) else j4 t18 t19 t20 p.2.2 (Int.ofNat (List.length p.2.2)) 0
def qa0_ (j5 : List QAT0 -> Int -> Int -> List QAT3 -> Int -> Int -> Bool -> Option (As [.bool])) (self2 : List QAT0 -> Int -> Int -> Option (As [.bool])) (self4 : List QAT0 -> Int -> Int -> List QAT3 -> Int -> Int -> Option (As [.bool])) (t18 : List QAT0) (t19 t20 : Int) (t35 : List QAT3) (t36 t37 : Int) : Option (As [.bool]) :=
  if lt t37 t36 = true then Option.bind (at? t35 t37) fun (y : List UInt8 × (Int × Int) × List UInt8 × Int) => if gt (Int.ofNat (List.length y.1)) 40 = true then j5 t18 t19 t20 t35 t36 t37 true else j5 t18 t19 t20 t35 t36 t37 (gt (Int.ofNat (List.length y.2.2.1)) 40) else self2 t18 t19 (add .i64 t20 1)
def qfo_ (self2 : List QAT0 -> Int -> Int -> Option (As [.bool])) (self4 : List QAT0 -> Int -> Int -> List QAT3 -> Int -> Int -> Option (As [.bool])) (t18 : List QAT0) (t19 t20 : Int) (t35 : List QAT3) (t36 t37 : Int) (t50 : Bool) : Option (As [.bool]) :=
  if t50 = true then some (false, ()) else self4 t18 t19 t20 t35 t36 (add .i64 t37 1)
def qfg_ (j1 : Bool -> List UInt8 × List QAT0 -> Option (As [.bool])) (r : List UInt8 × List QAT0) : Option (As [.bool]) :=
  if gt (Int.ofNat (List.length r.2)) 12 = true then j1 true r else j1 (gt (Int.ofNat (List.length r.1)) 40) r
def qbi_ (u2 : List QAT0 -> Int -> Int -> Option (As [.bool])) (u4 : List QAT0 -> Int -> Int -> List QAT3 -> Int -> Int -> Option (As [.bool])) (t18 : List QAT0) (t19 t20 : Int) (t35 : List QAT3) (t36 t37 : Int) (t50 : Bool) : Option (As [.bool]) := qfo_ u2 u4 t18 t19 t20 t35 t36 t37 t50
def q9v_ (u2 : List QAT0 -> Int -> Int -> Option (As [.bool])) (t18 : List QAT0) (t19 t20 : Int) (t35 : List QAT3) (t36 t37 : Int) : Option (As [.bool]) :=
  loopF (fun (self : (List QAT0) × (Int) × (Int) × (List QAT3) × (Int) × (Int) -> Option (As [.bool])) (s : (List QAT0) × (Int) × (Int) × (List QAT3) × (Int) × (Int)) => qa0_ (qbi_ u2 (fun t18 t19 t20 t35 t36 t37 => self (t18, t19, t20, t35, t36, t37))) u2 (fun t18 t19 t20 t35 t36 t37 => self (t18, t19, t20, t35, t36, t37)) s.1 s.2.1 s.2.2.1 s.2.2.2.1 s.2.2.2.2.1 s.2.2.2.2.2) 18446744073709551616 (t18, t19, t20, t35, t36, t37)
def qbj_ (u2 : List QAT0 -> Int -> Int -> Option (As [.bool])) (t18 : List QAT0) (t19 t20 : Int) (t33 : Bool) (p : List UInt8 × Int × List QAT3) : Option (As [.bool]) := qj5_ (q9v_ u2) u2 t18 t19 t20 t33 p
def q9o_ (t18 : List QAT0) (t19 t20 : Int) : Option (As [.bool]) :=
  loopF (fun (self : (List QAT0) × (Int) × (Int) -> Option (As [.bool])) (s : (List QAT0) × (Int) × (Int)) => q9g_ (qbj_ (fun t18 t19 t20 => self (t18, t19, t20))) (fun t18 t19 t20 => self (t18, t19, t20)) s.1 s.2.1 s.2.2) 18446744073709551616 (t18, t19, t20)
def qbp_ (t16 : Bool) (r : List UInt8 × List QAT0) : Option (As [.bool]) := qji_ (q9o_) t16 r
def qev_ (x : As [.pr .str (.sl QAT2)]) : Option (As [.bool]) := qfg_ qbp_ x.1
theorem qr7_  (J w2 w4 t18 t19 t20 t35 t36 t37 t50) : pfn Tryz.prog q2a_ 6 18446744073709551616 (Ev.get q2b_) 9 q1x_ J 1913753 [w2, w4] (qfm_ t18 t19 t20 t35 t36 t37 t50) = qfo_ (fun t18 t19 t20 => w2 (q2n_ t18 t19 t20)) (fun t18 t19 t20 t35 t36 t37 => w4 (q5d_ t18 t19 t20 t35 t36 t37)) t18 t19 t20 t35 t36 t37 t50 := by kernel_rfl
theorem qqr_  (J w2 w4 t18 t19 t20 t35 t36 t37) : pfn Tryz.prog q2a_ 6 18446744073709551616 (Ev.get q2b_) 9 q1x_ J 29902 [w2, w4] (q5d_ t18 t19 t20 t35 t36 t37) = qa0_ (fun t18 t19 t20 t35 t36 t37 t50 => J 1913753 [w2, w4] (qfm_ t18 t19 t20 t35 t36 t37 t50)) (fun t18 t19 t20 => w2 (q2n_ t18 t19 t20)) (fun t18 t19 t20 t35 t36 t37 => w4 (q5d_ t18 t19 t20 t35 t36 t37)) t18 t19 t20 t35 t36 t37 := by kernel_rfl
theorem qqx_  (J w2 t18 t19 t20 t33 p) : pfn Tryz.prog q2a_ 6 18446744073709551616 (Ev.get q2b_) 9 q1x_ J 7474 [w2] (qew_ t18 t19 t20 t33 p) = qj5_ (fun t18 t19 t20 t35 t36 t37 => J 29902 [w2] (q5d_ t18 t19 t20 t35 t36 t37)) (fun t18 t19 t20 => w2 (q2n_ t18 t19 t20)) t18 t19 t20 t33 p := by kernel_rfl
theorem qqt_  (J w2 t18 t19 t20) : pfn Tryz.prog q2a_ 6 18446744073709551616 (Ev.get q2b_) 9 q1x_ J 58 [w2] (q2n_ t18 t19 t20) = q9g_ (fun t18 t19 t20 t33 p => J 7474 [w2] (qew_ t18 t19 t20 t33 p)) (fun t18 t19 t20 => w2 (q2n_ t18 t19 t20)) t18 t19 t20 := by kernel_rfl
theorem qr6_  (J t16 r) : pfn Tryz.prog q2a_ 6 18446744073709551616 (Ev.get q2b_) 9 q1x_ J 6 [] (qf2_ t16 r) = qji_ (fun t18 t19 t20 => J 58 [] (q2n_ t18 t19 t20)) t16 r := by kernel_rfl
theorem qrc_ (J : Orc (As [.bool])) (x : As [.pr .str (.sl QAT2)]) : rfn Tryz.prog q2a_ 6 18446744073709551616 (Ev.get q2b_) 9 q1x_ J x = qfg_ (fun t16 r => J 6 [] (qf2_ t16 r)) x.1 := by kernel_rfl
theorem qrj_  (w2 w4 t18 t19 t20 t35 t36 t37 t50) : jfn Tryz.prog q2a_ 6 18446744073709551616 (Ev.get q2b_) 9 q1x_ 1913753 [w2, w4] (qfm_ t18 t19 t20 t35 t36 t37 t50) = qbi_ (fun t18 t19 t20 => w2 (q2n_ t18 t19 t20)) (fun t18 t19 t20 t35 t36 t37 => w4 (q5d_ t18 t19 t20 t35 t36 t37)) t18 t19 t20 t35 t36 t37 t50 := by
  rw [q2_ (by decide)]
  rw [qr7_]
  rfl
theorem qqs_  (w2 t18 t19 t20 t35 t36 t37) : jfn Tryz.prog q2a_ 6 18446744073709551616 (Ev.get q2b_) 9 q1x_ 29902 [w2] (q5d_ t18 t19 t20 t35 t36 t37) = q9v_ (fun t18 t19 t20 => w2 (q2n_ t18 t19 t20)) t18 t19 t20 t35 t36 t37 := by
  rw [q2_ (by decide)]
  rw [qm_ (by kernel_rfl)]
  refine qj_ (σ := (List QAT0) × (Int) × (Int) × (List QAT3) × (Int) × (Int)) (mk := fun s => q5d_ s.1 s.2.1 s.2.2.1 s.2.2.2.1 s.2.2.2.2.1 s.2.2.2.2.2) (fun w4 s => ?_) 18446744073709551616 (t18, t19, t20, t35, t36, t37)
  have e5 : (fun t18 t19 t20 t35 t36 t37 t50 => (jfn Tryz.prog q2a_ 6 18446744073709551616 (Ev.get q2b_) 9 q1x_) 1913753 [w2, w4] (qfm_ t18 t19 t20 t35 t36 t37 t50)) = qbi_ (fun t18 t19 t20 => w2 (q2n_ t18 t19 t20)) (fun t18 t19 t20 t35 t36 t37 => w4 (q5d_ t18 t19 t20 t35 t36 t37)) := by funext t18 t19 t20 t35 t36 t37 t50; exact qrj_ w2 w4 t18 t19 t20 t35 t36 t37 t50
  refine (qqr_ _ w2 w4 s.1 s.2.1 s.2.2.1 s.2.2.2.1 s.2.2.2.2.1 s.2.2.2.2.2).trans ?_
  rw [e5]
theorem qrh_  (w2 t18 t19 t20 t33 p) : jfn Tryz.prog q2a_ 6 18446744073709551616 (Ev.get q2b_) 9 q1x_ 7474 [w2] (qew_ t18 t19 t20 t33 p) = qbj_ (fun t18 t19 t20 => w2 (q2n_ t18 t19 t20)) t18 t19 t20 t33 p := by
  rw [q2_ (by decide)]
  have e4 : (fun t18 t19 t20 t35 t36 t37 => (jfn Tryz.prog q2a_ 6 18446744073709551616 (Ev.get q2b_) 9 q1x_) 29902 [w2] (q5d_ t18 t19 t20 t35 t36 t37)) = q9v_ (fun t18 t19 t20 => w2 (q2n_ t18 t19 t20)) := by funext t18 t19 t20 t35 t36 t37; exact qqs_ w2 t18 t19 t20 t35 t36 t37
  rw [qqx_, e4]
  rfl
theorem qre_  (t18 t19 t20) : jfn Tryz.prog q2a_ 6 18446744073709551616 (Ev.get q2b_) 9 q1x_ 58 [] (q2n_ t18 t19 t20) = q9o_ t18 t19 t20 := by
  rw [q2_ (by decide)]
  rw [qm_ (by kernel_rfl)]
  refine qj_ (σ := (List QAT0) × (Int) × (Int)) (mk := fun s => q2n_ s.1 s.2.1 s.2.2) (fun w2 s => ?_) 18446744073709551616 (t18, t19, t20)
  have e3 : (fun t18 t19 t20 t33 p => (jfn Tryz.prog q2a_ 6 18446744073709551616 (Ev.get q2b_) 9 q1x_) 7474 [w2] (qew_ t18 t19 t20 t33 p)) = qbj_ (fun t18 t19 t20 => w2 (q2n_ t18 t19 t20)) := by funext t18 t19 t20 t33 p; exact qrh_ w2 t18 t19 t20 t33 p
  refine (qqt_ _ w2 s.1 s.2.1 s.2.2).trans ?_
  rw [e3]
theorem qrg_  (t16 r) : jfn Tryz.prog q2a_ 6 18446744073709551616 (Ev.get q2b_) 9 q1x_ 6 [] (qf2_ t16 r) = qbp_ t16 r := by
  rw [q2_ (by decide)]
  have e2 : (fun t18 t19 t20 => (jfn Tryz.prog q2a_ 6 18446744073709551616 (Ev.get q2b_) 9 q1x_) 58 [] (q2n_ t18 t19 t20)) = q9o_ := by funext t18 t19 t20; exact qre_ t18 t19 t20
  rw [qr6_, e2]
  rfl
theorem qs0_ (x : As [.pr .str (.sl QAT2)]) : evT Tryz.prog q2a_ 6 18446744073709551616 (Ev.get q2b_) 9 q1x_ x = qev_ x := by
  have e1 : (fun t16 r => (jfn Tryz.prog q2a_ 6 18446744073709551616 (Ev.get q2b_) 9 q1x_) 6 [] (qf2_ t16 r)) = qbp_ := by funext t16 r; exact qrg_ t16 r
  rw [q1v_, qrc_, e1]
  rfl
theorem qqw_ : CtOk Tryz.prog I0 9 ⟨q1x_, qev_⟩ := qu_ qa_ qs0_
end Go.Proofs.Lx
end
section
open Go Go.Proofs Ev Sx
set_option maxRecDepth 100000
namespace Go.Proofs.Lx
@[reducible] def q4c_ : Sh := ⟨[.d (.pr .str (.sl QAT2)), .d (.pr .str (.sl QAT2))], [], [.pr .str (.sl QAT2), .pr .str (.sl QAT2)], [.d (.bool)], [], 0, [.bool]⟩
def q5m_ : Env := (cts [(20, (⟨qk_, qa8_⟩ : Ct))])
def q5l_ : List (Nat × Hint) := [(58, ⟨[], [2, 3, 13, 14]⟩), (29902, ⟨[], [2, 3, 5, 13, 14, 36, 37]⟩)]
def q4l_ (t13 t14 : Int) (a b : List UInt8 × List QAT0) : St := { fr := [(2, .pb 0 0), (3, .pb 1 0), (13, .d (.int .i64) t13), (14, .d (.int .i64) t14)], nt := 63, up := [], own := [(0, .box 26 [.d .str a.1, .d (.sl QAT2) a.2]), (1, .box 26 [.d .str b.1, .d (.sl QAT2) b.2])], nx := 2, log := [], ln := 0 }
def q7f_ (i t13 t14 t36 t37 : Int) (a b : List UInt8 × List QAT0) : St := { fr := [(2, .pb 0 0), (3, .pb 1 0), (5, .d (.int .i64) i), (13, .d (.int .i64) t13), (14, .d (.int .i64) t14), (36, .d (.int .i64) t36), (37, .d (.int .i64) t37)], nt := 63, up := [], own := [(0, .box 26 [.d .str a.1, .d (.sl QAT2) a.2]), (1, .box 26 [.d .str b.1, .d (.sl QAT2) b.2])], nx := 2, log := [], ln := 0 }
def q7m_ (j2 : Int -> Int -> Int -> Int -> Int -> List UInt8 × List QAT0 -> List UInt8 × List QAT0 -> Option (As [.bool])) (self1 : Int -> Int -> List UInt8 × List QAT0 -> List UInt8 × List QAT0 -> Option (As [.bool])) (t13 t14 : Int) (a b : List UInt8 × List QAT0) : Option (As [.bool]) :=
  if lt t14 t13 = true then Option.bind (at? a.2 t14) fun (y : List UInt8 × Int × List QAT3) => Option.bind (at? b.2 t14) fun (y_1 : List UInt8 × Int × List QAT3) => if nei y.2.1 y_1.2.1 = true then some (false, ()) else Option.bind (at? a.2 t14) fun (y : List UInt8 × Int × List QAT3) => j2 t14 t13 t14 (Int.ofNat (List.length y.2.2)) 0 a b else some (true, ())
def q7e_ (self1 : Int -> Int -> List UInt8 × List QAT0 -> List UInt8 × List QAT0 -> Option (As [.bool])) (self2 : Int -> Int -> Int -> Int -> Int -> List UInt8 × List QAT0 -> List UInt8 × List QAT0 -> Option (As [.bool])) (i t13 t14 t36 t37 : Int) (a b : List UInt8 × List QAT0) : Option (As [.bool]) :=
  if lt t37 t36 = true then Option.bind (at? a.2 i) fun (y : List UInt8 × Int × List QAT3) => Option.bind (at? y.2.2 t37) fun (y : List UInt8 × (Int × Int) × List UInt8 × Int) => Option.bind (at? b.2 i) fun (y_1 : List UInt8 × Int × List QAT3) => Option.bind (at? y_1.2.2 t37) fun (y_2 : List UInt8 × (Int × Int) × List UInt8 × Int) => if nei y.2.2.2 y_2.2.2.2 = true then some (false, ()) else self2 i t13 t14 t36 (add .i64 t37 1) a b else self1 t13 (add .i64 t14 1) a b
def qcq_ (j1 : Int -> Int -> List UInt8 × List QAT0 -> List UInt8 × List QAT0 -> Option (As [.bool])) (a b : List UInt8 × List QAT0) : Option (As [.bool]) :=
  Option.bind (qa8_ (a, b, ())) fun (y : Bool × Unit) => if (!y.1) = true then some (false, ()) else j1 (Int.ofNat (List.length a.2)) 0 a b
def q9r_ (u1 : Int -> Int -> List UInt8 × List QAT0 -> List UInt8 × List QAT0 -> Option (As [.bool])) (i t13 t14 t36 t37 : Int) (a b : List UInt8 × List QAT0) : Option (As [.bool]) :=
  loopF (fun (self : (Int) × (Int) × (Int) × (Int) × (Int) × (List UInt8 × List QAT0) × (List UInt8 × List QAT0) -> Option (As [.bool])) (s : (Int) × (Int) × (Int) × (Int) × (Int) × (List UInt8 × List QAT0) × (List UInt8 × List QAT0)) => q7e_ u1 (fun i t13 t14 t36 t37 a b => self (i, t13, t14, t36, t37, a, b)) s.1 s.2.1 s.2.2.1 s.2.2.2.1 s.2.2.2.2.1 s.2.2.2.2.2.1 s.2.2.2.2.2.2) 18446744073709551616 (i, t13, t14, t36, t37, a, b)
def q7b_ (t13 t14 : Int) (a b : List UInt8 × List QAT0) : Option (As [.bool]) :=
  loopF (fun (self : (Int) × (Int) × (List UInt8 × List QAT0) × (List UInt8 × List QAT0) -> Option (As [.bool])) (s : (Int) × (Int) × (List UInt8 × List QAT0) × (List UInt8 × List QAT0)) => q7m_ (q9r_ (fun t13 t14 a b => self (t13, t14, a, b))) (fun t13 t14 a b => self (t13, t14, a, b)) s.1 s.2.1 s.2.2.1 s.2.2.2) 18446744073709551616 (t13, t14, a, b)
def qay_ (x : As [.pr .str (.sl QAT2), .pr .str (.sl QAT2)]) : Option (As [.bool]) := qcq_ q7b_ x.1 x.2.1
theorem qlz_  (J w1 w2 i t13 t14 t36 t37 a b) : pfn Tryz.prog q5m_ 6 18446744073709551616 (Ev.get q5l_) 18 q4c_ J 29902 [w1, w2] (q7f_ i t13 t14 t36 t37 a b) = q7e_ (fun t13 t14 a b => w1 (q4l_ t13 t14 a b)) (fun i t13 t14 t36 t37 a b => w2 (q7f_ i t13 t14 t36 t37 a b)) i t13 t14 t36 t37 a b := by kernel_rfl
theorem qnl_  (J w1 t13 t14 a b) : pfn Tryz.prog q5m_ 6 18446744073709551616 (Ev.get q5l_) 18 q4c_ J 58 [w1] (q4l_ t13 t14 a b) = q7m_ (fun i t13 t14 t36 t37 a b => J 29902 [w1] (q7f_ i t13 t14 t36 t37 a b)) (fun t13 t14 a b => w1 (q4l_ t13 t14 a b)) t13 t14 a b := by kernel_rfl
theorem qnd_ (J : Orc (As [.bool])) (x : As [.pr .str (.sl QAT2), .pr .str (.sl QAT2)]) : rfn Tryz.prog q5m_ 6 18446744073709551616 (Ev.get q5l_) 18 q4c_ J x = qcq_ (fun t13 t14 a b => J 58 [] (q4l_ t13 t14 a b)) x.1 x.2.1 := by kernel_rfl
theorem qns_  (w1 i t13 t14 t36 t37 a b) : jfn Tryz.prog q5m_ 6 18446744073709551616 (Ev.get q5l_) 18 q4c_ 29902 [w1] (q7f_ i t13 t14 t36 t37 a b) = q9r_ (fun t13 t14 a b => w1 (q4l_ t13 t14 a b)) i t13 t14 t36 t37 a b := by
  rw [q2_ (by decide)]
  rw [qm_ (by kernel_rfl)]
  refine qj_ (σ := (Int) × (Int) × (Int) × (Int) × (Int) × (List UInt8 × List QAT0) × (List UInt8 × List QAT0)) (mk := fun s => q7f_ s.1 s.2.1 s.2.2.1 s.2.2.2.1 s.2.2.2.2.1 s.2.2.2.2.2.1 s.2.2.2.2.2.2) (fun w2 s => ?_) 18446744073709551616 (i, t13, t14, t36, t37, a, b)
  refine (qlz_ _ w1 w2 s.1 s.2.1 s.2.2.1 s.2.2.2.1 s.2.2.2.2.1 s.2.2.2.2.2.1 s.2.2.2.2.2.2).trans ?_
  rfl
theorem qlu_  (t13 t14 a b) : jfn Tryz.prog q5m_ 6 18446744073709551616 (Ev.get q5l_) 18 q4c_ 58 [] (q4l_ t13 t14 a b) = q7b_ t13 t14 a b := by
  rw [q2_ (by decide)]
  rw [qm_ (by kernel_rfl)]
  refine qj_ (σ := (Int) × (Int) × (List UInt8 × List QAT0) × (List UInt8 × List QAT0)) (mk := fun s => q4l_ s.1 s.2.1 s.2.2.1 s.2.2.2) (fun w1 s => ?_) 18446744073709551616 (t13, t14, a, b)
  have e2 : (fun i t13 t14 t36 t37 a b => (jfn Tryz.prog q5m_ 6 18446744073709551616 (Ev.get q5l_) 18 q4c_) 29902 [w1] (q7f_ i t13 t14 t36 t37 a b)) = q9r_ (fun t13 t14 a b => w1 (q4l_ t13 t14 a b)) := by funext i t13 t14 t36 t37 a b; exact qns_ w1 i t13 t14 t36 t37 a b
  refine (qnl_ _ w1 s.1 s.2.1 s.2.2.1 s.2.2.2).trans ?_
  rw [e2]
theorem qqb_ (x : As [.pr .str (.sl QAT2), .pr .str (.sl QAT2)]) : evT Tryz.prog q5m_ 6 18446744073709551616 (Ev.get q5l_) 18 q4c_ x = qay_ x := by
  have e1 : (fun t13 t14 a b => (jfn Tryz.prog q5m_ 6 18446744073709551616 (Ev.get q5l_) 18 q4c_) 58 [] (q4l_ t13 t14 a b)) = q7b_ := by funext t13 t14 a b; exact qlu_ t13 t14 a b
  rw [q1v_, qnd_, e1]
  rfl
theorem qic_ : CtOk Tryz.prog I0 18 ⟨q4c_, qay_⟩ := qu_ (q1_ qiz_ qa_) qqb_
@[reducible] def qii_ : Sh := ⟨[.d (.sl QAT1), .d (.str)], [], [.sl QAT1, .str], [.d (.bool)], [], 0, [.bool]⟩
def qf8_ (l : List QAT4) (first : List UInt8) : Option (As [.bool]) :=
  if eqi (Int.ofNat (List.length l)) 2 = true then Option.bind (at? l 0) fun (y : Int × List UInt8 × (Int × Int) × Int) => if eqi y.1 1 = true then Option.bind (at? l 0) fun (y : Int × List UInt8 × (Int × Int) × Int) => if eqs y.2.1 first = true then Option.bind (at? l 1) fun (y : Int × List UInt8 × (Int × Int) × Int) => if eqi y.1 1 = true then Option.bind (at? l 1) fun (y : Int × List UInt8 × (Int × Int) × Int) => Option.bind (q2c_ (y.2.1, ())) fun (y : Bool × Unit) => some (y.1, ()) else some (false, ()) else some (false, ()) else some (false, ()) else some (false, ())
def qbo_ (x : As [.sl QAT1, .str]) : Option (As [.bool]) := qf8_ x.1 x.2.1
theorem ql5_ : CtOk Tryz.prog I0 73 ⟨qii_, qbo_⟩ := ctn (q1_ qg4_ qa_) 6 fun J x => by kernel_rfl
end Go.Proofs.Lx
end
