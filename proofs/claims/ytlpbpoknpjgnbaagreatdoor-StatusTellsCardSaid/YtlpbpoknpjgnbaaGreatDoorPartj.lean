/- Proved in the last of these 11 parts (this is part 10): StatusTells: whatever the line, the order, the ledger, the numbers that wait, the number and the fault, the law returns true.. Conditions: those of the given statement, and no others. -/
import Derived.Test.YtlpbpoknpjgnbaaGreatDoorParte
import Derived.Test.YtlpbpoknpjgnbaaGreatDoorParti
import Derived.Test.YtlpbpoknpjgnbaaGreatDoorProg
import Derived.Test.YtlpbpoknpjgnbaaGreatDoorParth
import Derived.Test.YtlpbpoknpjgnbaaGreatDoorPartg
import Derived.Stop.LaidErr
import Derived.Lib.LaidTab
set_option linter.unusedVariables false
set_option linter.unusedSimpArgs false
set_option linter.unusedSectionVars false
section
open Go Go.Proofs Ev Sx
set_option maxRecDepth 100000
namespace Go.Proofs.Lx
@[reducible] def qa3_ : Sh := ⟨[.d TZT3], [], [.pr (.int .u8) (.pr (.int .u32) .str)], [.d (.str), .d (.bool)], [], 0, [.str, .bool]⟩
def qdz_ : Env := (cts [(20, (⟨q73_, q70_⟩ : Ct)), (24, (⟨q8u_, q7y_⟩ : Ct)), (25, (⟨qgb_, q2o_⟩ : Ct)), (39, (⟨qiz_, q9b_⟩ : Ct)), (40, (⟨q6h_, q5w_⟩ : Ct)), (41, (⟨qep_, q66_⟩ : Ct))])
def qe9_ : List (Nat × Hint) := [(58, ⟨[], [1, 9, 10]⟩)]
def qas_ (t9 : Int) (t9_2 : List UInt8) (t9_3 : Int) (t9_4 : List UInt8) (t9_5 : Int) (t9_6 : List UInt8) (t9_7 : Int) (t9_8 : List UInt8) (t9_9 : Int) (t9_10 : List UInt8) (t10 : Int) (o : Int × Int × List UInt8) : St := { fr := [(1, .pb 0 0), (9, .agg [.d (.int .u8) t9, .d .str t9_2, .fn (.func 39) [] [], .d (.int .u8) t9_3, .d .str t9_4, .fn (.func 40) [] [], .d (.int .u8) t9_5, .d .str t9_6, .fn (.func 40) [] [], .d (.int .u8) t9_7, .d .str t9_8, .fn (.func 41) [] [], .d (.int .u8) t9_9, .d .str t9_10, .fn (.func 41) [] []]), (10, .d (.int .i64) t10)], nt := 42, up := [], own := [(0, .box 24 [.d (.int .u8) o.1, .d (.int .u32) o.2.1, .d .str o.2.2])], nx := 1, log := [], ln := 0 }
def qkj_ (self1 : Int -> List UInt8 -> Int -> List UInt8 -> Int -> List UInt8 -> Int -> List UInt8 -> Int -> List UInt8 -> Int -> Int × Int × List UInt8 -> Option (As [.str, .bool])) (t9 : Int) (t9_2 : List UInt8) (t9_3 : Int) (t9_4 : List UInt8) (t9_5 : Int) (t9_6 : List UInt8) (t9_7 : Int) (t9_8 : List UInt8) (t9_9 : Int) (t9_10 : List UInt8) (t10 : Int) (o : Int × Int × List UInt8) : Option (As [.str, .bool]) :=
  if lt t10 5 = true then if eqi t10 4 = true then if nei t9_9 o.1 = true then self1 t9 t9_2 t9_3 t9_4 t9_5 t9_6 t9_7 t9_8 t9_9 t9_10 (add .i64 t10 1) o else if eqi o.1 1 = true then need (small (List.length t9_10 + 1)) (Option.bind (q7y_ (o.2.2, ())) fun (y : List UInt8 × Unit) => need (small (List.length (t9_10 ++ [32]) + List.length y.1)) (some (t9_10 ++ [32] ++ y.1, true, ()))) else if eqi o.1 2 = true then need (small (List.length t9_10 + 1)) (Option.bind (q2o_ (o.2.1, ())) fun (y : List UInt8 × Unit) => need (small (List.length (t9_10 ++ [32]) + List.length y.1)) (some (t9_10 ++ [32] ++ y.1, true, ()))) else if eqi o.1 3 = true then need (small (List.length t9_10 + 1)) (Option.bind (q2o_ (o.2.1, ())) fun (y : List UInt8 × Unit) => need (small (List.length (t9_10 ++ [32]) + List.length y.1)) (some (t9_10 ++ [32] ++ y.1, true, ()))) else some (t9_10, true, ()) else if eqi t10 3 = true then if nei t9_7 o.1 = true then self1 t9 t9_2 t9_3 t9_4 t9_5 t9_6 t9_7 t9_8 t9_9 t9_10 (add .i64 t10 1) o else if eqi o.1 1 = true then need (small (List.length t9_8 + 1)) (Option.bind (q7y_ (o.2.2, ())) fun (y : List UInt8 × Unit) => need (small (List.length (t9_8 ++ [32]) + List.length y.1)) (some (t9_8 ++ [32] ++ y.1, true, ()))) else if eqi o.1 2 = true then need (small (List.length t9_8 + 1)) (Option.bind (q2o_ (o.2.1, ())) fun (y : List UInt8 × Unit) => need (small (List.length (t9_8 ++ [32]) + List.length y.1)) (some (t9_8 ++ [32] ++ y.1, true, ()))) else if eqi o.1 3 = true then need (small (List.length t9_8 + 1)) (Option.bind (q2o_ (o.2.1, ())) fun (y : List UInt8 × Unit) => need (small (List.length (t9_8 ++ [32]) + List.length y.1)) (some (t9_8 ++ [32] ++ y.1, true, ()))) else some (t9_8, true, ()) else if eqi t10 2 = true then if nei t9_5 o.1 = true then self1 t9 t9_2 t9_3 t9_4 t9_5 t9_6 t9_7 t9_8 t9_9 t9_10 (add .i64 t10 1) o else if eqi o.1 1 = true then need (small (List.length t9_6 + 1)) (Option.bind (q7y_ (o.2.2, ())) fun (y : List UInt8 × Unit) => need (small (List.length (t9_6 ++ [32]) + List.length y.1)) (some (t9_6 ++ [32] ++ y.1, true, ()))) else if eqi o.1 2 = true then need (small (List.length t9_6 + 1)) (Option.bind (q2o_ (o.2.1, ())) fun (y : List UInt8 × Unit) => need (small (List.length (t9_6 ++ [32]) + List.length y.1)) (some (t9_6 ++ [32] ++ y.1, true, ()))) else if eqi o.1 3 = true then need (small (List.length t9_6 + 1)) (Option.bind (q2o_ (o.2.1, ())) fun (y : List UInt8 × Unit) => need (small (List.length (t9_6 ++ [32]) + List.length y.1)) (some (t9_6 ++ [32] ++ y.1, true, ()))) else some (t9_6, true, ()) else if eqi t10 1 = true then if nei t9_3 o.1 = true then self1 t9 t9_2 t9_3 t9_4 t9_5 t9_6 t9_7 t9_8 t9_9 t9_10 (add .i64 t10 1) o else if eqi o.1 1 = true then need (small (List.length t9_4 + 1)) (Option.bind (q7y_ (o.2.2, ())) fun (y : List UInt8 × Unit) => need (small (List.length (t9_4 ++ [32]) + List.length y.1)) (some (t9_4 ++ [32] ++ y.1, true, ()))) else if eqi o.1 2 = true then need (small (List.length t9_4 + 1)) (Option.bind (q2o_ (o.2.1, ())) fun (y : List UInt8 × Unit) => need (small (List.length (t9_4 ++ [32]) + List.length y.1)) (some (t9_4 ++ [32] ++ y.1, true, ()))) else if eqi o.1 3 = true then need (small (List.length t9_4 + 1)) (Option.bind (q2o_ (o.2.1, ())) fun (y : List UInt8 × Unit) => need (small (List.length (t9_4 ++ [32]) + List.length y.1)) (some (t9_4 ++ [32] ++ y.1, true, ()))) else some (t9_4, true, ()) else if eqi t10 0 = true then if nei t9 o.1 = true then self1 t9 t9_2 t9_3 t9_4 t9_5 t9_6 t9_7 t9_8 t9_9 t9_10 (add .i64 t10 1) o else if eqi o.1 1 = true then need (small (List.length t9_2 + 1)) (Option.bind (q7y_ (o.2.2, ())) fun (y : List UInt8 × Unit) => need (small (List.length (t9_2 ++ [32]) + List.length y.1)) (some (t9_2 ++ [32] ++ y.1, true, ()))) else if eqi o.1 2 = true then need (small (List.length t9_2 + 1)) (Option.bind (q2o_ (o.2.1, ())) fun (y : List UInt8 × Unit) => need (small (List.length (t9_2 ++ [32]) + List.length y.1)) (some (t9_2 ++ [32] ++ y.1, true, ()))) else if eqi o.1 3 = true then need (small (List.length t9_2 + 1)) (Option.bind (q2o_ (o.2.1, ())) fun (y : List UInt8 × Unit) => need (small (List.length (t9_2 ++ [32]) + List.length y.1)) (some (t9_2 ++ [32] ++ y.1, true, ()))) else some (t9_2, true, ()) else Option.none else some ([], false, ())
def qm2_ (j1 : Int -> List UInt8 -> Int -> List UInt8 -> Int -> List UInt8 -> Int -> List UInt8 -> Int -> List UInt8 -> Int -> Int × Int × List UInt8 -> Option (As [.str, .bool])) (o : Int × Int × List UInt8) : Option (As [.str, .bool]) :=
  Option.bind (q70_ (o, ())) fun (y : Bool × Unit) => if (!y.1) = true then some ([], false, ()) else j1 1 [115, 117, 98, 109, 105, 116] 2 [99, 97, 110, 99, 101, 108] 3 [115, 116, 97, 116, 117, 115] 4 [104, 105, 115, 116, 111, 114, 121] 5 [115, 108, 97, 118, 101, 115] 0 o
def qki_ (t9 : Int) (t9_2 : List UInt8) (t9_3 : Int) (t9_4 : List UInt8) (t9_5 : Int) (t9_6 : List UInt8) (t9_7 : Int) (t9_8 : List UInt8) (t9_9 : Int) (t9_10 : List UInt8) (t10 : Int) (o : Int × Int × List UInt8) : Option (As [.str, .bool]) :=
  loopF (fun (self : (Int) × (List UInt8) × (Int) × (List UInt8) × (Int) × (List UInt8) × (Int) × (List UInt8) × (Int) × (List UInt8) × (Int) × (Int × Int × List UInt8) -> Option (As [.str, .bool])) (s : (Int) × (List UInt8) × (Int) × (List UInt8) × (Int) × (List UInt8) × (Int) × (List UInt8) × (Int) × (List UInt8) × (Int) × (Int × Int × List UInt8)) => qkj_ (fun t9 t9_2 t9_3 t9_4 t9_5 t9_6 t9_7 t9_8 t9_9 t9_10 t10 o => self (t9, t9_2, t9_3, t9_4, t9_5, t9_6, t9_7, t9_8, t9_9, t9_10, t10, o)) s.1 s.2.1 s.2.2.1 s.2.2.2.1 s.2.2.2.2.1 s.2.2.2.2.2.1 s.2.2.2.2.2.2.1 s.2.2.2.2.2.2.2.1 s.2.2.2.2.2.2.2.2.1 s.2.2.2.2.2.2.2.2.2.1 s.2.2.2.2.2.2.2.2.2.2.1 s.2.2.2.2.2.2.2.2.2.2.2) 18446744073709551616 (t9, t9_2, t9_3, t9_4, t9_5, t9_6, t9_7, t9_8, t9_9, t9_10, t10, o)
def qe7_ (x : As [.pr (.int .u8) (.pr (.int .u32) .str)]) : Option (As [.str, .bool]) := qm2_ qki_ x.1
theorem qoc_  (J w1 t9 t9_2 t9_3 t9_4 t9_5 t9_6 t9_7 t9_8 t9_9 t9_10 t10 o) : pfn Tryz.prog qdz_ 6 18446744073709551616 (Ev.get qe9_) 9 qa3_ J 58 [w1] (qas_ t9 t9_2 t9_3 t9_4 t9_5 t9_6 t9_7 t9_8 t9_9 t9_10 t10 o) = qkj_ (fun t9 t9_2 t9_3 t9_4 t9_5 t9_6 t9_7 t9_8 t9_9 t9_10 t10 o => w1 (qas_ t9 t9_2 t9_3 t9_4 t9_5 t9_6 t9_7 t9_8 t9_9 t9_10 t10 o)) t9 t9_2 t9_3 t9_4 t9_5 t9_6 t9_7 t9_8 t9_9 t9_10 t10 o := by kernel_rfl
theorem qot_ (J : Orc (As [.str, .bool])) (x : As [.pr (.int .u8) (.pr (.int .u32) .str)]) : rfn Tryz.prog qdz_ 6 18446744073709551616 (Ev.get qe9_) 9 qa3_ J x = qm2_ (fun t9 t9_2 t9_3 t9_4 t9_5 t9_6 t9_7 t9_8 t9_9 t9_10 t10 o => J 58 [] (qas_ t9 t9_2 t9_3 t9_4 t9_5 t9_6 t9_7 t9_8 t9_9 t9_10 t10 o)) x.1 := by kernel_rfl
theorem qog_  (t9 t9_2 t9_3 t9_4 t9_5 t9_6 t9_7 t9_8 t9_9 t9_10 t10 o) : jfn Tryz.prog qdz_ 6 18446744073709551616 (Ev.get qe9_) 9 qa3_ 58 [] (qas_ t9 t9_2 t9_3 t9_4 t9_5 t9_6 t9_7 t9_8 t9_9 t9_10 t10 o) = qki_ t9 t9_2 t9_3 t9_4 t9_5 t9_6 t9_7 t9_8 t9_9 t9_10 t10 o := by
  rw [qi_ (by decide)]
  rw [q2a_ (by kernel_rfl)]
  refine q1c_ (σ := (Int) × (List UInt8) × (Int) × (List UInt8) × (Int) × (List UInt8) × (Int) × (List UInt8) × (Int) × (List UInt8) × (Int) × (Int × Int × List UInt8)) (mk := fun s => qas_ s.1 s.2.1 s.2.2.1 s.2.2.2.1 s.2.2.2.2.1 s.2.2.2.2.2.1 s.2.2.2.2.2.2.1 s.2.2.2.2.2.2.2.1 s.2.2.2.2.2.2.2.2.1 s.2.2.2.2.2.2.2.2.2.1 s.2.2.2.2.2.2.2.2.2.2.1 s.2.2.2.2.2.2.2.2.2.2.2) (fun w1 s => ?_) 18446744073709551616 (t9, t9_2, t9_3, t9_4, t9_5, t9_6, t9_7, t9_8, t9_9, t9_10, t10, o)
  refine (qoc_ _ w1 s.1 s.2.1 s.2.2.1 s.2.2.2.1 s.2.2.2.2.1 s.2.2.2.2.2.1 s.2.2.2.2.2.2.1 s.2.2.2.2.2.2.2.1 s.2.2.2.2.2.2.2.2.1 s.2.2.2.2.2.2.2.2.2.1 s.2.2.2.2.2.2.2.2.2.2.1 s.2.2.2.2.2.2.2.2.2.2.2).trans ?_
  rfl
theorem qq2_ (x : As [.pr (.int .u8) (.pr (.int .u32) .str)]) : evT Tryz.prog qdz_ 6 18446744073709551616 (Ev.get qe9_) 9 qa3_ x = qe7_ x := by
  have e1 : (fun t9 t9_2 t9_3 t9_4 t9_5 t9_6 t9_7 t9_8 t9_9 t9_10 t10 o => (jfn Tryz.prog qdz_ 6 18446744073709551616 (Ev.get qe9_) 9 qa3_) 58 [] (qas_ t9 t9_2 t9_3 t9_4 t9_5 t9_6 t9_7 t9_8 t9_9 t9_10 t10 o)) = qki_ := by funext t9 t9_2 t9_3 t9_4 t9_5 t9_6 t9_7 t9_8 t9_9 t9_10 t10 o; exact qog_ t9 t9_2 t9_3 t9_4 t9_5 t9_6 t9_7 t9_8 t9_9 t9_10 t10 o
  rw [q3s_, qot_, e1]
  rfl
theorem qor_ : CtOk Tryz.prog I0 9 ⟨qa3_, qe7_⟩ := ct_of_ev (env_cons qlz_ (env_cons qnj_ (env_cons qk3_ (env_cons qlb_ (env_cons qku_ (env_cons qkb_ env_nil)))))) qq2_
@[reducible] def q8b_ : Sh := ⟨[.d (.sl TZT0)], [], [.sl TZT0], [.d (.bool)], [], 0, [.bool]⟩
def q9r_ : Env := (cts [])
def q9s_ : List (Nat × Hint) := [(58, ⟨[], [0, 3, 4, 21, 22, 23, 26, 27, 28, 29, 32, 33, 34, 37, 38, 39]⟩), (3730, ⟨[.agd 22 (.int .u8), .agd 23 .bool, .agd 27 (.sl (.int .u8)), .agd 28 (.int .i64), .agd 29 .bool, .agd 33 (.int .u8), .agd 34 .bool, .agd 38 (.int .u8), .agd 39 .bool], [0, 4, 5, 40]⟩)]
def q8h_ (l : List TZT1) (last i : Int) : St := { fr := [(0, .d (.sl TZT0) l), (3, .d (.int .u32) last), (4, .d (.int .i64) i)], nt := 43, up := [], own := [], nx := 0, log := [], ln := 0 }
def qhm_ (l : List TZT1) (i : Int) (t40 : Bool) (j : Int × Int × List Int × Int) : St := { fr := [(0, .d (.sl TZT0) l), (4, .d (.int .i64) i), (5, .pb 0 0), (40, .d .bool t40)], nt := 43, up := [], own := [(0, .box 44 [.d (.int .u32) j.1, .d (.int .u8) j.2.1, .d (.sl (.int .u8)) j.2.2.1, .d (.int .u8) j.2.2.2])], nx := 1, log := [], ln := 0 }
def qbm_ (j2 : List TZT1 -> Int -> Bool -> Int × Int × List Int × Int -> Option (As [.bool])) (self1 : List TZT1 -> Int -> Int -> Option (As [.bool])) (l : List TZT1) (last i : Int) : Option (As [.bool]) :=
  if lt i (Int.ofNat (List.length l)) = true then Option.bind (at? l i) fun (y : Int × Int × List Int × Int) => if le y.1 last = true then j2 l i true y else if eqi y.2.1 0 = true then j2 l i true y else if gt (Int.ofNat (List.length y.2.2.1)) 8192 = true then j2 l i true y else if lt y.2.2.2 1 = true then j2 l i true y else j2 l i (gt y.2.2.2 5) y else some (true, ())
def ql2_ (self1 : List TZT1 -> Int -> Int -> Option (As [.bool])) (l : List TZT1) (i : Int) (t40 : Bool) (j : Int × Int × List Int × Int) : Option (As [.bool]) :=
  if t40 = true then some (false, ()) else self1 l j.1 (add .i64 i 1)
def qmi_ (j1 : List TZT1 -> Int -> Int -> Option (As [.bool])) (l : List TZT1) : Option (As [.bool]) :=
  j1 l 0 0
def qe6_ (u1 : List TZT1 -> Int -> Int -> Option (As [.bool])) (l : List TZT1) (i : Int) (t40 : Bool) (j : Int × Int × List Int × Int) : Option (As [.bool]) := ql2_ u1 l i t40 j
def qee_ (l : List TZT1) (last i : Int) : Option (As [.bool]) :=
  loopF (fun (self : (List TZT1) × (Int) × (Int) -> Option (As [.bool])) (s : (List TZT1) × (Int) × (Int)) => qbm_ (qe6_ (fun l last i => self (l, last, i))) (fun l last i => self (l, last, i)) s.1 s.2.1 s.2.2) 18446744073709551616 (l, last, i)
def qj1_ (x : As [.sl TZT0]) : Option (As [.bool]) := qmi_ qee_ x.1
theorem qpx_  (J w1 l i t40 j) : pfn Tryz.prog q9r_ 6 18446744073709551616 (Ev.get q9s_) 12 q8b_ J 3730 [w1] (qhm_ l i t40 j) = ql2_ (fun l last i => w1 (q8h_ l last i)) l i t40 j := by kernel_rfl
theorem qpi_  (J w1 l last i) : pfn Tryz.prog q9r_ 6 18446744073709551616 (Ev.get q9s_) 12 q8b_ J 58 [w1] (q8h_ l last i) = qbm_ (fun l i t40 j => J 3730 [w1] (qhm_ l i t40 j)) (fun l last i => w1 (q8h_ l last i)) l last i := by kernel_rfl
theorem qq0_ (J : Orc (As [.bool])) (x : As [.sl TZT0]) : rfn Tryz.prog q9r_ 6 18446744073709551616 (Ev.get q9s_) 12 q8b_ J x = qmi_ (fun l last i => J 58 [] (q8h_ l last i)) x.1 := by kernel_rfl
theorem qpc_  (w1 l i t40 j) : jfn Tryz.prog q9r_ 6 18446744073709551616 (Ev.get q9s_) 12 q8b_ 3730 [w1] (qhm_ l i t40 j) = qe6_ (fun l last i => w1 (q8h_ l last i)) l i t40 j := by
  rw [qi_ (by decide)]
  rw [qpx_]
  rfl
theorem qpo_  (l last i) : jfn Tryz.prog q9r_ 6 18446744073709551616 (Ev.get q9s_) 12 q8b_ 58 [] (q8h_ l last i) = qee_ l last i := by
  rw [qi_ (by decide)]
  rw [q2a_ (by kernel_rfl)]
  refine q1c_ (σ := (List TZT1) × (Int) × (Int)) (mk := fun s => q8h_ s.1 s.2.1 s.2.2) (fun w1 s => ?_) 18446744073709551616 (l, last, i)
  have e2 : (fun l i t40 j => (jfn Tryz.prog q9r_ 6 18446744073709551616 (Ev.get q9s_) 12 q8b_) 3730 [w1] (qhm_ l i t40 j)) = qe6_ (fun l last i => w1 (q8h_ l last i)) := by funext l i t40 j; exact qpc_ w1 l i t40 j
  refine (qpi_ _ w1 s.1 s.2.1 s.2.2).trans ?_
  rw [e2]
theorem qqh_ (x : As [.sl TZT0]) : evT Tryz.prog q9r_ 6 18446744073709551616 (Ev.get q9s_) 12 q8b_ x = qj1_ x := by
  have e1 : (fun l last i => (jfn Tryz.prog q9r_ 6 18446744073709551616 (Ev.get q9s_) 12 q8b_) 58 [] (q8h_ l last i)) = qee_ := by funext l last i; exact qpo_ l last i
  rw [q3s_, qq0_, e1]
  rfl
theorem qpz_ : CtOk Tryz.prog I0 12 ⟨q8b_, qj1_⟩ := ct_of_ev env_nil qqh_
@[reducible] def qec_ : Sh := ⟨[.d (.sl TZT0), .d (.int .u32)], [], [.sl TZT0, .int .u32], [.d (.int .i64)], [], 0, [.int .i64]⟩
def qgr_ : Env := (cts [])
def qgq_ : List (Nat × Hint) := [(26, ⟨[], [0, 1, 5]⟩)]
def qco_ (l : List TZT1) (tx i : Int) : St := { fr := [(0, .d (.sl TZT0) l), (1, .d (.int .u32) tx), (5, .d (.int .i64) i)], nt := 20, up := [], own := [], nx := 0, log := [], ln := 0 }
def qcn_ (self1 : List TZT1 -> Int -> Int -> Option (As [.int .i64])) (l : List TZT1) (tx i : Int) : Option (As [.int .i64]) :=
  if lt i (Int.ofNat (List.length l)) = true then Option.bind (at? l i) fun (y : Int × Int × List Int × Int) => if eqi y.1 tx = true then some (i, ()) else self1 l tx (add .i64 i 1) else some (-1, ())
def qmw_ (j1 : List TZT1 -> Int -> Int -> Option (As [.int .i64])) (l : List TZT1) (tx : Int) : Option (As [.int .i64]) :=
  j1 l tx 0
def qey_ (l : List TZT1) (tx i : Int) : Option (As [.int .i64]) :=
  loopF (fun (self : (List TZT1) × (Int) × (Int) -> Option (As [.int .i64])) (s : (List TZT1) × (Int) × (Int)) => qcn_ (fun l tx i => self (l, tx, i)) s.1 s.2.1 s.2.2) 18446744073709551616 (l, tx, i)
def qli_ (x : As [.sl TZT0, .int .u32]) : Option (As [.int .i64]) := qmw_ qey_ x.1 x.2.1
theorem qqm_  (J w1 l tx i) : pfn Tryz.prog qgr_ 6 18446744073709551616 (Ev.get qgq_) 30 qec_ J 26 [w1] (qco_ l tx i) = qcn_ (fun l tx i => w1 (qco_ l tx i)) l tx i := by kernel_rfl
theorem qqi_ (J : Orc (As [.int .i64])) (x : As [.sl TZT0, .int .u32]) : rfn Tryz.prog qgr_ 6 18446744073709551616 (Ev.get qgq_) 30 qec_ J x = qmw_ (fun l tx i => J 26 [] (qco_ l tx i)) x.1 x.2.1 := by kernel_rfl
theorem qqn_  (l tx i) : jfn Tryz.prog qgr_ 6 18446744073709551616 (Ev.get qgq_) 30 qec_ 26 [] (qco_ l tx i) = qey_ l tx i := by
  rw [qi_ (by decide)]
  rw [q2a_ (by kernel_rfl)]
  refine q1c_ (σ := (List TZT1) × (Int) × (Int)) (mk := fun s => qco_ s.1 s.2.1 s.2.2) (fun w1 s => ?_) 18446744073709551616 (l, tx, i)
  refine (qqm_ _ w1 s.1 s.2.1 s.2.2).trans ?_
  rfl
theorem qqt_ (x : As [.sl TZT0, .int .u32]) : evT Tryz.prog qgr_ 6 18446744073709551616 (Ev.get qgq_) 30 qec_ x = qli_ x := by
  have e1 : (fun l tx i => (jfn Tryz.prog qgr_ 6 18446744073709551616 (Ev.get qgq_) 30 qec_) 26 [] (qco_ l tx i)) = qey_ := by funext l tx i; exact qqn_ l tx i
  rw [q3s_, qqi_, e1]
  rfl
theorem qqe_ : CtOk Tryz.prog I0 30 ⟨qec_, qli_⟩ := ct_of_ev env_nil qqt_
@[reducible] def qaq_ : Sh := ⟨[.d (.sl (.int .u32)), .d (.int .u32)], [], [.sl (.int .u32), .int .u32], [.d (.bool)], [], 0, [.bool]⟩
def qd3_ : Env := (cts [])
def qd5_ : List (Nat × Hint) := [(26, ⟨[], [0, 1, 5]⟩)]
def qa5_ (l : List Int) (tx i : Int) : St := { fr := [(0, .d (.sl (.int .u32)) l), (1, .d (.int .u32) tx), (5, .d (.int .i64) i)], nt := 18, up := [], own := [], nx := 0, log := [], ln := 0 }
def qa7_ (self1 : List Int -> Int -> Int -> Option (As [.bool])) (l : List Int) (tx i : Int) : Option (As [.bool]) :=
  if lt i (Int.ofNat (List.length l)) = true then Option.bind (at? l i) fun (y : Int) => if eqi y tx = true then some (true, ()) else self1 l tx (add .i64 i 1) else some (false, ())
def qlq_ (j1 : List Int -> Int -> Int -> Option (As [.bool])) (l : List Int) (tx : Int) : Option (As [.bool]) :=
  j1 l tx 0
def qby_ (l : List Int) (tx i : Int) : Option (As [.bool]) :=
  loopF (fun (self : (List Int) × (Int) × (Int) -> Option (As [.bool])) (s : (List Int) × (Int) × (Int)) => qa7_ (fun l tx i => self (l, tx, i)) s.1 s.2.1 s.2.2) 18446744073709551616 (l, tx, i)
def qjp_ (x : As [.sl (.int .u32), .int .u32]) : Option (As [.bool]) := qlq_ qby_ x.1 x.2.1
theorem qnz_  (J w1 l tx i) : pfn Tryz.prog qd3_ 6 18446744073709551616 (Ev.get qd5_) 48 qaq_ J 26 [w1] (qa5_ l tx i) = qa7_ (fun l tx i => w1 (qa5_ l tx i)) l tx i := by kernel_rfl
theorem qnu_ (J : Orc (As [.bool])) (x : As [.sl (.int .u32), .int .u32]) : rfn Tryz.prog qd3_ 6 18446744073709551616 (Ev.get qd5_) 48 qaq_ J x = qlq_ (fun l tx i => J 26 [] (qa5_ l tx i)) x.1 x.2.1 := by kernel_rfl
theorem qo1_  (l tx i) : jfn Tryz.prog qd3_ 6 18446744073709551616 (Ev.get qd5_) 48 qaq_ 26 [] (qa5_ l tx i) = qby_ l tx i := by
  rw [qi_ (by decide)]
  rw [q2a_ (by kernel_rfl)]
  refine q1c_ (σ := (List Int) × (Int) × (Int)) (mk := fun s => qa5_ s.1 s.2.1 s.2.2) (fun w1 s => ?_) 18446744073709551616 (l, tx, i)
  refine (qnz_ _ w1 s.1 s.2.1 s.2.2).trans ?_
  rfl
theorem qok_ (x : As [.sl (.int .u32), .int .u32]) : evT Tryz.prog qd3_ 6 18446744073709551616 (Ev.get qd5_) 48 qaq_ x = qjp_ x := by
  have e1 : (fun l tx i => (jfn Tryz.prog qd3_ 6 18446744073709551616 (Ev.get qd5_) 48 qaq_) 26 [] (qa5_ l tx i)) = qby_ := by funext l tx i; exact qo1_ l tx i
  rw [q3s_, qnu_, e1]
  rfl
theorem qo4_ : CtOk Tryz.prog I0 48 ⟨qaq_, qjp_⟩ := ct_of_ev env_nil qok_
@[reducible] def qni_ : Sh := ⟨[.d TZT0, .d (.sl (.int .u32))], [], [.pr (.int .u32) TZT2, .sl (.int .u32)], [.d (.str)], [], 0, [.str]⟩
def qlf_ (j : Int × Int × List Int × Int) (waits : List Int) : Option (As [.str]) :=
  if eqi j.2.2.2 1 = true then Option.bind (qjp_ (waits, j.1, ())) fun (y : Bool × Unit) => if y.1 = true then some ([119, 97, 105, 116, 105, 110, 103], ()) else some ([114, 117, 110, 110, 105, 110, 103], ()) else if eqi j.2.2.2 2 = true then some ([99, 111, 109, 109, 105, 116, 116, 101, 100], ()) else if eqi j.2.2.2 3 = true then some ([97, 98, 111, 114, 116, 101, 100], ()) else if eqi j.2.2.2 4 = true then some ([99, 111, 109, 109, 105, 116, 116, 101, 100, 32, 100, 111, 110, 101], ()) else some ([97, 98, 111, 114, 116, 101, 100, 32, 100, 111, 110, 101], ())
def qkn_ (x : As [.pr (.int .u32) TZT2, .sl (.int .u32)]) : Option (As [.str]) := qlf_ x.1 x.2.1
theorem qmy_ : CtOk Tryz.prog I0 31 ⟨qni_, qkn_⟩ := ctn (env_cons qo4_ env_nil) 6 fun J x => by kernel_rfl
@[reducible] def qng_ : Sh := ⟨[.d (.sl TZT0), .d (.sl (.int .u32)), .d (.int .u32)], [], [.sl TZT0, .sl (.int .u32), .int .u32], [.d (.str)], [], 0, [.str]⟩
def qfa_ (l : List TZT1) (waits : List Int) (tx : Int) : Option (As [.str]) :=
  Option.bind (qli_ (l, tx, ())) fun (y : Int × Unit) => if lt y.1 0 = true then some ([117, 110, 107, 110, 111, 119, 110], ()) else Option.bind (at? l y.1) fun (y : Int × Int × List Int × Int) => Option.bind (qkn_ (y, waits, ())) fun (y : List UInt8 × Unit) => some (y.1, ())
def qlj_ (x : As [.sl TZT0, .sl (.int .u32), .int .u32]) : Option (As [.str]) := qfa_ x.1 x.2.1 x.2.2.1
theorem qql_ : CtOk Tryz.prog I0 14 ⟨qng_, qlj_⟩ := ctn (env_cons qqe_ (env_cons qmy_ env_nil)) 6 fun J x => by kernel_rfl
@[reducible] def qi5_ : Sh := ⟨[.fn (.func 51) [] [.pb 0 0]], [.box 26 [.d (.sl (.int .u32))]], [.sl (.int .u32)], [.d (.sl (.int .u32))], [], 0, [.sl (.int .u32)]⟩
def qbw_ (seq : List Int) : Option (As [.sl (.int .u32)]) :=
  Option.bind (qdm_ (seq, ())) fun (y : List Int × Unit) => Option.bind (qce_ (y.1, ())) fun (y : List Int × Unit) => some (y.1, ())
def qar_ (x : As [.sl (.int .u32)]) : Option (As [.sl (.int .u32)]) := qbw_ x.1
theorem qlo_ : CtOk Tryz.prog I0 32 ⟨qi5_, qar_⟩ := ctn (env_cons (ct_weak qll_) (env_cons (ct_weak qm9_) env_nil)) 6 fun J x => by kernel_rfl
@[reducible] def q8v_ : Sh := ⟨[.d (.sl TZT0), .d (.sl (.int .u32))], [], [.sl TZT0, .sl (.int .u32)], [.d (.str)], [], 0, [.str]⟩
def qc9_ : Env := (cts [(25, (⟨qgb_, q2o_⟩ : Ct)), (27, (⟨q8j_, qcx_⟩ : Ct)), (27, (⟨q8l_, q9g_⟩ : Ct)), (32, (⟨qi5_, qar_⟩ : Ct)), (34, (⟨qca_, q9p_⟩ : Ct))])
def qc2_ : List (Nat × Hint) := [(250, ⟨[.rwb 7 1 5, .slf 7 0], [6, 7, 14, 15, 16]⟩)]
def q9m_ (t14 : List TZT1) (t15 t16 : Int) (o : List Int) (b : Bool) (o_2 : List Int) : St := { fr := [(6, .fn (.func 34) [] [.pb 0 0]), (7, .pb 1 0), (14, .d (.sl TZT0) t14), (15, .d (.int .i64) t15), (16, .d (.int .i64) t16)], nt := 32, up := [], own := [(0, .box 26 [.d (.sl (.int .u32)) o]), (1, .box 71 [.opb b 1 0, .row 2]), (2, .row (.int .u8) 5 o_2)], nx := 3, log := [], ln := 0 }
def q9n_ (self1 : List TZT1 -> Int -> Int -> List Int -> Bool -> List Int -> Option (As [.str])) (t14 : List TZT1) (t15 t16 : Int) (o : List Int) (b : Bool) (o_2 : List Int) : Option (As [.str]) :=
  if lt t16 t15 = true then Option.bind (at? t14 t16) fun (y : Int × Int × List Int × Int) => Option.bind (q2o_ (y.1, ())) fun (y_1 : List UInt8 × Unit) => if b = true then if b = true then need (small (List.length o_2 + List.length y_1.1)) (if b = true then if b = true then need (small (List.length (o_2 ++ List.map (fun (b : UInt8) => Int.ofNat (UInt8.toNat b)) y_1.1) + 1)) (Option.bind (q9g_ (y, o, ())) fun (y : List UInt8 × List Int × Unit) => if b = true then if b = true then need (small (List.length (o_2 ++ List.map (fun (b : UInt8) => Int.ofNat (UInt8.toNat b)) y_1.1 ++ [32]) + List.length y.1)) (if b = true then if b = true then need (small (List.length (o_2 ++ List.map (fun (b : UInt8) => Int.ofNat (UInt8.toNat b)) y_1.1 ++ [32] ++ List.map (fun (b : UInt8) => Int.ofNat (UInt8.toNat b)) y.1) + 1)) (self1 t14 t15 (add .i64 t16 1) y.2.1 b (o_2 ++ List.map (fun (b : UInt8) => Int.ofNat (UInt8.toNat b)) y_1.1 ++ [32] ++ List.map (fun (b : UInt8) => Int.ofNat (UInt8.toNat b)) y.1 ++ [10])) else Option.none else need (small (List.length (o_2 ++ List.map (fun (b : UInt8) => Int.ofNat (UInt8.toNat b)) y_1.1 ++ [32] ++ List.map (fun (b : UInt8) => Int.ofNat (UInt8.toNat b)) y.1) + 1)) (self1 t14 t15 (add .i64 t16 1) y.2.1 true (o_2 ++ List.map (fun (b : UInt8) => Int.ofNat (UInt8.toNat b)) y_1.1 ++ [32] ++ List.map (fun (b : UInt8) => Int.ofNat (UInt8.toNat b)) y.1 ++ [10]))) else Option.none else need (small (List.length (o_2 ++ List.map (fun (b : UInt8) => Int.ofNat (UInt8.toNat b)) y_1.1 ++ [32]) + List.length y.1)) (need (small (List.length (o_2 ++ List.map (fun (b : UInt8) => Int.ofNat (UInt8.toNat b)) y_1.1 ++ [32] ++ List.map (fun (b : UInt8) => Int.ofNat (UInt8.toNat b)) y.1) + 1)) (self1 t14 t15 (add .i64 t16 1) y.2.1 true (o_2 ++ List.map (fun (b : UInt8) => Int.ofNat (UInt8.toNat b)) y_1.1 ++ [32] ++ List.map (fun (b : UInt8) => Int.ofNat (UInt8.toNat b)) y.1 ++ [10])))) else Option.none else need (small (List.length (o_2 ++ List.map (fun (b : UInt8) => Int.ofNat (UInt8.toNat b)) y_1.1) + 1)) (Option.bind (q9g_ (y, o, ())) fun (y : List UInt8 × List Int × Unit) => need (small (List.length (o_2 ++ List.map (fun (b : UInt8) => Int.ofNat (UInt8.toNat b)) y_1.1 ++ [32]) + List.length y.1)) (need (small (List.length (o_2 ++ List.map (fun (b : UInt8) => Int.ofNat (UInt8.toNat b)) y_1.1 ++ [32] ++ List.map (fun (b : UInt8) => Int.ofNat (UInt8.toNat b)) y.1) + 1)) (self1 t14 t15 (add .i64 t16 1) y.2.1 true (o_2 ++ List.map (fun (b : UInt8) => Int.ofNat (UInt8.toNat b)) y_1.1 ++ [32] ++ List.map (fun (b : UInt8) => Int.ofNat (UInt8.toNat b)) y.1 ++ [10]))))) else Option.none else need (small (List.length o_2 + List.length y_1.1)) (need (small (List.length (o_2 ++ List.map (fun (b : UInt8) => Int.ofNat (UInt8.toNat b)) y_1.1) + 1)) (Option.bind (q9g_ (y, o, ())) fun (y : List UInt8 × List Int × Unit) => need (small (List.length (o_2 ++ List.map (fun (b : UInt8) => Int.ofNat (UInt8.toNat b)) y_1.1 ++ [32]) + List.length y.1)) (need (small (List.length (o_2 ++ List.map (fun (b : UInt8) => Int.ofNat (UInt8.toNat b)) y_1.1 ++ [32] ++ List.map (fun (b : UInt8) => Int.ofNat (UInt8.toNat b)) y.1) + 1)) (self1 t14 t15 (add .i64 t16 1) y.2.1 true (o_2 ++ List.map (fun (b : UInt8) => Int.ofNat (UInt8.toNat b)) y_1.1 ++ [32] ++ List.map (fun (b : UInt8) => Int.ofNat (UInt8.toNat b)) y.1 ++ [10]))))) else need (eqi (Int.ofNat (List.length o_2)) (Int.ofNat (List.length o_2))) (need (small (List.length o_2)) (need (Ev.u8s o_2) (some (Sx.toS o_2, ()))))
def qdt_ (j1 : List TZT1 -> Int -> Int -> List Int -> Bool -> List Int -> Option (As [.str])) (l : List TZT1) (waits : List Int) : Option (As [.str]) :=
  Option.bind (qar_ (waits, ())) fun (y : List Int × Unit) => j1 l (Int.ofNat (List.length l)) 0 y.1 false []
def qb4_ (t14 : List TZT1) (t15 t16 : Int) (o : List Int) (b : Bool) (o_2 : List Int) : Option (As [.str]) :=
  loopF (fun (self : (List TZT1) × (Int) × (Int) × (List Int) × (Bool) × (List Int) -> Option (As [.str])) (s : (List TZT1) × (Int) × (Int) × (List Int) × (Bool) × (List Int)) => q9n_ (fun t14 t15 t16 o b o_2 => self (t14, t15, t16, o, b, o_2)) s.1 s.2.1 s.2.2.1 s.2.2.2.1 s.2.2.2.2.1 s.2.2.2.2.2) 18446744073709551616 (t14, t15, t16, o, b, o_2)
def qea_ (x : As [.sl TZT0, .sl (.int .u32)]) : Option (As [.str]) := qdt_ qb4_ x.1 x.2.1
theorem qnn_  (J w1 t14 t15 t16 o b o_2) : pfn Tryz.prog qc9_ 6 18446744073709551616 (Ev.get qc2_) 15 q8v_ J 250 [w1] (q9m_ t14 t15 t16 o b o_2) = q9n_ (fun t14 t15 t16 o b o_2 => w1 (q9m_ t14 t15 t16 o b o_2)) t14 t15 t16 o b o_2 := by kernel_rfl
theorem qnq_ (J : Orc (As [.str])) (x : As [.sl TZT0, .sl (.int .u32)]) : rfn Tryz.prog qc9_ 6 18446744073709551616 (Ev.get qc2_) 15 q8v_ J x = qdt_ (fun t14 t15 t16 o b o_2 => J 250 [] (q9m_ t14 t15 t16 o b o_2)) x.1 x.2.1 := by kernel_rfl
theorem qnl_  (t14 t15 t16 o b o_2) : jfn Tryz.prog qc9_ 6 18446744073709551616 (Ev.get qc2_) 15 q8v_ 250 [] (q9m_ t14 t15 t16 o b o_2) = qb4_ t14 t15 t16 o b o_2 := by
  rw [qi_ (by decide)]
  rw [q2a_ (by kernel_rfl)]
  refine q1c_ (σ := (List TZT1) × (Int) × (Int) × (List Int) × (Bool) × (List Int)) (mk := fun s => q9m_ s.1 s.2.1 s.2.2.1 s.2.2.2.1 s.2.2.2.2.1 s.2.2.2.2.2) (fun w1 s => ?_) 18446744073709551616 (t14, t15, t16, o, b, o_2)
  refine (qnn_ _ w1 s.1 s.2.1 s.2.2.1 s.2.2.2.1 s.2.2.2.2.1 s.2.2.2.2.2).trans ?_
  rfl
theorem qny_ (x : As [.sl TZT0, .sl (.int .u32)]) : evT Tryz.prog qc9_ 6 18446744073709551616 (Ev.get qc2_) 15 q8v_ x = qea_ x := by
  have e1 : (fun t14 t15 t16 o b o_2 => (jfn Tryz.prog qc9_ 6 18446744073709551616 (Ev.get qc2_) 15 q8v_) 250 [] (q9m_ t14 t15 t16 o b o_2)) = qb4_ := by funext t14 t15 t16 o b o_2; exact qnl_ t14 t15 t16 o b o_2
  rw [q3s_, qnq_, e1]
  rfl
theorem qnk_ : CtOk Tryz.prog I0 15 ⟨q8v_, qea_⟩ := ct_of_ev (env_cons qk3_ (env_cons qle_ (env_cons qlc_ (env_cons qlo_ (env_cons qeq_ env_nil))))) qny_
@[reducible] def q9j_ : Sh := ⟨[.d (.sl TZT0), .d (.sl (.int .u32))], [], [.sl TZT0, .sl (.int .u32)], [.d (.str)], [], 0, [.str]⟩
def qde_ : Env := (cts [(23, (⟨qa8_, q71_⟩ : Ct)), (31, (⟨qni_, qkn_⟩ : Ct))])
def qd2_ : List (Nat × Hint) := [(58, ⟨[], [0, 1, 5, 6]⟩)]
def qa4_ (l : List TZT1) (waits : List Int) (s : List UInt8) (i : Int) : St := { fr := [(0, .d (.sl TZT0) l), (1, .d (.sl (.int .u32)) waits), (5, .d .str s), (6, .d (.int .i64) i)], nt := 32, up := [], own := [], nx := 0, log := [], ln := 0 }
def qaa_ (self1 : List TZT1 -> List Int -> List UInt8 -> Int -> Option (As [.str])) (l : List TZT1) (waits : List Int) (s : List UInt8) (i : Int) : Option (As [.str]) :=
  if lt i (Int.ofNat (List.length l)) = true then Option.bind (at? l i) fun (y : Int × Int × List Int × Int) => Option.bind (at? l i) fun (y_1 : Int × Int × List Int × Int) => Option.bind (q71_ (cvt .i64 y.1, ())) fun (y : List UInt8 × Unit) => need (small (List.length s + List.length y.1)) (need (small (List.length (s ++ y.1) + 1)) (Option.bind (qkn_ (y_1, waits, ())) fun (y_2 : List UInt8 × Unit) => need (small (List.length (s ++ y.1 ++ [32]) + List.length y_2.1)) (need (small (List.length (s ++ y.1 ++ [32] ++ y_2.1) + 1)) (self1 l waits (s ++ y.1 ++ [32] ++ y_2.1 ++ [10]) (add .i64 i 1))))) else some (s, ())
def qln_ (j1 : List TZT1 -> List Int -> List UInt8 -> Int -> Option (As [.str])) (l : List TZT1) (waits : List Int) : Option (As [.str]) :=
  j1 l waits [] 0
def qbx_ (l : List TZT1) (waits : List Int) (s : List UInt8) (i : Int) : Option (As [.str]) :=
  loopF (fun (self : (List TZT1) × (List Int) × (List UInt8) × (Int) -> Option (As [.str])) (s : (List TZT1) × (List Int) × (List UInt8) × (Int)) => qaa_ (fun l waits s i => self (l, waits, s, i)) s.1 s.2.1 s.2.2.1 s.2.2.2) 18446744073709551616 (l, waits, s, i)
def qf7_ (x : As [.sl TZT0, .sl (.int .u32)]) : Option (As [.str]) := qln_ qbx_ x.1 x.2.1
theorem qo2_  (J w1 l waits s i) : pfn Tryz.prog qde_ 6 18446744073709551616 (Ev.get qd2_) 16 q9j_ J 58 [w1] (qa4_ l waits s i) = qaa_ (fun l waits s i => w1 (qa4_ l waits s i)) l waits s i := by kernel_rfl
theorem qnx_ (J : Orc (As [.str])) (x : As [.sl TZT0, .sl (.int .u32)]) : rfn Tryz.prog qde_ 6 18446744073709551616 (Ev.get qd2_) 16 q9j_ J x = qln_ (fun l waits s i => J 58 [] (qa4_ l waits s i)) x.1 x.2.1 := by kernel_rfl
theorem qnv_  (l waits s i) : jfn Tryz.prog qde_ 6 18446744073709551616 (Ev.get qd2_) 16 q9j_ 58 [] (qa4_ l waits s i) = qbx_ l waits s i := by
  rw [qi_ (by decide)]
  rw [q2a_ (by kernel_rfl)]
  refine q1c_ (σ := (List TZT1) × (List Int) × (List UInt8) × (Int)) (mk := fun s => qa4_ s.1 s.2.1 s.2.2.1 s.2.2.2) (fun w1 s => ?_) 18446744073709551616 (l, waits, s, i)
  refine (qo2_ _ w1 s.1 s.2.1 s.2.2.1 s.2.2.2).trans ?_
  rfl
theorem qop_ (x : As [.sl TZT0, .sl (.int .u32)]) : evT Tryz.prog qde_ 6 18446744073709551616 (Ev.get qd2_) 16 q9j_ x = qf7_ x := by
  have e1 : (fun l waits s i => (jfn Tryz.prog qde_ 6 18446744073709551616 (Ev.get qd2_) 16 q9j_) 58 [] (qa4_ l waits s i)) = qbx_ := by funext l waits s i; exact qnv_ l waits s i
  rw [q3s_, qnx_, e1]
  rfl
theorem qnw_ : CtOk Tryz.prog I0 16 ⟨q9j_, qf7_⟩ := ct_of_ev (env_cons qkv_ (env_cons qmy_ env_nil)) qop_
@[reducible] def q39_ : Sh := ⟨[.d (.str), .d TZT3, .d (.sl TZT0), .d (.sl (.int .u32)), .d (.int .u32), .d (.pr (.int .i64) (.int .i64))], [], [.str, .pr (.int .u8) (.pr (.int .u32) .str), .sl TZT0, .sl (.int .u32), .int .u32, .pr (.int .i64) (.int .i64)], [.d (.bool)], [], 0, [.bool]⟩
def q41_ : Env := (cts [(4, (⟨qmx_, qdn_⟩ : Ct)), (5, (⟨q57_, q9f_⟩ : Ct)), (6, (⟨q25_, qfh_⟩ : Ct)), (7, (⟨qlr_, qe1_⟩ : Ct)), (8, (⟨qm5_, qjo_⟩ : Ct)), (9, (⟨qa3_, qe7_⟩ : Ct)), (10, (⟨q2l_, qdl_⟩ : Ct)), (11, (⟨q59_, qdo_⟩ : Ct)), (12, (⟨q8b_, qj1_⟩ : Ct)), (13, (⟨qmv_, qah_⟩ : Ct)), (14, (⟨qng_, qlj_⟩ : Ct)), (15, (⟨q8v_, qea_⟩ : Ct)), (16, (⟨q9j_, qf7_⟩ : Ct))])
def q40_ : List (Nat × Hint) := [(509, ⟨[], [2, 3, 4, 91, 106, 107, 108, 109, 110, 111, 112, 115]⟩), (62, ⟨[], [2, 3, 4, 7, 64, 76, 77, 78, 79, 80, 81, 82, 85, 86, 87, 88, 89, 90, 106, 107, 108, 109, 110, 111, 112, 115]⟩), (6, ⟨[], [0, 2, 3, 4, 7, 11, 38, 54, 55, 56, 59, 60, 61, 62, 63, 76, 77, 78, 79, 80, 81, 82, 85, 86, 87, 88, 89, 90, 106, 107, 108, 109, 110, 111, 112, 115]⟩)]
def qb8_ (line : List UInt8) (l : List TZT1) (waits : List Int) (tx : Int) (t38 : Bool) (o : Int × Int × List UInt8) (f : Int × Int) : St := { fr := [(0, .d .str line), (2, .d (.sl TZT0) l), (3, .d (.sl (.int .u32)) waits), (4, .d (.int .u32) tx), (7, .pb 0 0), (11, .pb 1 0), (38, .d .bool t38)], nt := 117, up := [], own := [(0, .box 24 [.d (.int .u8) o.1, .d (.int .u32) o.2.1, .d .str o.2.2]), (1, .box 29 [.d (.int .i64) f.1, .d (.int .i64) f.2])], nx := 2, log := [], ln := 0 }
def qbc_ (l : List TZT1) (waits : List Int) (tx : Int) (t64 : Bool) (o : Int × Int × List UInt8) : St := { fr := [(2, .d (.sl TZT0) l), (3, .d (.sl (.int .u32)) waits), (4, .d (.int .u32) tx), (7, .pb 0 0), (64, .d .bool t64)], nt := 117, up := [], own := [(0, .box 24 [.d (.int .u8) o.1, .d (.int .u32) o.2.1, .d .str o.2.2])], nx := 1, log := [], ln := 0 }
def qb7_ (l : List TZT1) (waits : List Int) (tx : Int) (t91 : Bool) : St := { fr := [(2, .d (.sl TZT0) l), (3, .d (.sl (.int .u32)) waits), (4, .d (.int .u32) tx), (91, .d .bool t91)], nt := 117, up := [], own := [], nx := 0, log := [], ln := 0 }
def qbd_ (j2 : List TZT1 -> List Int -> Int -> Bool -> Int × Int × List UInt8 -> Option (As [.bool])) (line : List UInt8) (l : List TZT1) (waits : List Int) (tx : Int) (t38 : Bool) (o : Int × Int × List UInt8) (f : Int × Int) : Option (As [.bool]) :=
  if t38 = true then Option.bind (qdn_ ()) fun (y : Bool × Unit) => some (y.1, ()) else Option.bind (q9f_ (line, ())) fun (y : (Int × Int × List UInt8) × Int × Unit) => Option.bind (qfh_ (line, ())) fun (y_1 : (Int × Int × List UInt8) × Int × Unit) => if (!(eqi y.1.1 y_1.1.1 && (eqi y.1.2.1 y_1.1.2.1 && (eqs y.1.2.2 y_1.1.2.2 && true)))) = true then j2 l waits tx true o else if nei y.2.1 y_1.2.1 = true then j2 l waits tx true o else Option.bind (qe1_ (f, ())) fun (y : List UInt8 × Unit) => Option.bind (qjo_ (f, ())) fun (y_2 : List UInt8 × Unit) => j2 l waits tx (nes y.1 y_2.1) o
def qes_ (j3 : List TZT1 -> List Int -> Int -> Bool -> Option (As [.bool])) (l : List TZT1) (waits : List Int) (tx : Int) (t64 : Bool) (o : Int × Int × List UInt8) : Option (As [.bool]) :=
  if t64 = true then some (false, ()) else Option.bind (qe7_ (o, ())) fun (y : List UInt8 × Bool × Unit) => Option.bind (qdl_ (o, ())) fun (y_1 : Bool × Unit) => if Sx.neb y.2.1 y_1.1 = true then j3 l waits tx true else if y_1.1 = true then Option.bind (qdo_ (o, ())) fun (y_2 : List UInt8 × Unit) => if nes y.1 y_2.1 = true then j3 l waits tx true else if (!y_1.1) = true then j3 l waits tx (nes y.1 []) else j3 l waits tx false else if (!y_1.1) = true then j3 l waits tx (nes y.1 []) else j3 l waits tx false
def qem_ (l : List TZT1) (waits : List Int) (tx : Int) (t91 : Bool) : Option (As [.bool]) :=
  if t91 = true then some (false, ()) else Option.bind (qj1_ (l, ())) fun (y : Bool × Unit) => if (!y.1) = true then Option.bind (qdn_ ()) fun (y : Bool × Unit) => some (y.1, ()) else Option.bind (qah_ (l, waits, tx, ())) fun (y : List UInt8 × Unit) => Option.bind (qlj_ (l, waits, tx, ())) fun (y_1 : List UInt8 × Unit) => if eqs y.1 y_1.1 = true then Option.bind (qea_ (l, waits, ())) fun (y : List UInt8 × Unit) => Option.bind (qf7_ (l, waits, ())) fun (y_2 : List UInt8 × Unit) => if eqs y.1 y_2.1 = true then Option.bind (qdn_ ()) fun (y : Bool × Unit) => some (y.1, ()) else some (false, ()) else some (false, ())
def qbb_ (j1 : List UInt8 -> List TZT1 -> List Int -> Int -> Bool -> Int × Int × List UInt8 -> Int × Int -> Option (As [.bool])) (line : List UInt8) (o : Int × Int × List UInt8) (l : List TZT1) (waits : List Int) (tx : Int) (f : Int × Int) : Option (As [.bool]) :=
  if gt (Int.ofNat (List.length line)) 9000 = true then j1 line l waits tx true o f else if gt (Int.ofNat (List.length o.2.2)) 9000 = true then j1 line l waits tx true o f else if gt (Int.ofNat (List.length l)) 60 = true then j1 line l waits tx true o f else j1 line l waits tx (gt (Int.ofNat (List.length waits)) 60) o f
def q9e_ (l : List TZT1) (waits : List Int) (tx : Int) (t91 : Bool) : Option (As [.bool]) := qem_ l waits tx t91
def q9d_ (l : List TZT1) (waits : List Int) (tx : Int) (t64 : Bool) (o : Int × Int × List UInt8) : Option (As [.bool]) := qes_ (q9e_) l waits tx t64 o
def q7k_ (line : List UInt8) (l : List TZT1) (waits : List Int) (tx : Int) (t38 : Bool) (o : Int × Int × List UInt8) (f : Int × Int) : Option (As [.bool]) := qbd_ (q9d_) line l waits tx t38 o f
def qdu_ (x : As [.str, .pr (.int .u8) (.pr (.int .u32) .str), .sl TZT0, .sl (.int .u32), .int .u32, .pr (.int .i64) (.int .i64)]) : Option (As [.bool]) := qbb_ q7k_ x.1 x.2.1 x.2.2.1 x.2.2.2.1 x.2.2.2.2.1 x.2.2.2.2.2.1
theorem qmq_  (J l waits tx t91) : pfn Tryz.prog q41_ 6 18446744073709551616 (Ev.get q40_) 3 q39_ J 509 [] (qb7_ l waits tx t91) = qem_ l waits tx t91 := by kernel_rfl
theorem qmt_  (J l waits tx t64 o) : pfn Tryz.prog q41_ 6 18446744073709551616 (Ev.get q40_) 3 q39_ J 62 [] (qbc_ l waits tx t64 o) = qes_ (fun l waits tx t91 => J 509 [] (qb7_ l waits tx t91)) l waits tx t64 o := by kernel_rfl
theorem qmp_  (J line l waits tx t38 o f) : pfn Tryz.prog q41_ 6 18446744073709551616 (Ev.get q40_) 3 q39_ J 6 [] (qb8_ line l waits tx t38 o f) = qbd_ (fun l waits tx t64 o => J 62 [] (qbc_ l waits tx t64 o)) line l waits tx t38 o f := by kernel_rfl
theorem qmr_ (J : Orc (As [.bool])) (x : As [.str, .pr (.int .u8) (.pr (.int .u32) .str), .sl TZT0, .sl (.int .u32), .int .u32, .pr (.int .i64) (.int .i64)]) : rfn Tryz.prog q41_ 6 18446744073709551616 (Ev.get q40_) 3 q39_ J x = qbb_ (fun line l waits tx t38 o f => J 6 [] (qb8_ line l waits tx t38 o f)) x.1 x.2.1 x.2.2.1 x.2.2.2.1 x.2.2.2.2.1 x.2.2.2.2.2.1 := by kernel_rfl
theorem qmm_  (l waits tx t91) : jfn Tryz.prog q41_ 6 18446744073709551616 (Ev.get q40_) 3 q39_ 509 [] (qb7_ l waits tx t91) = q9e_ l waits tx t91 := by
  rw [qi_ (by decide)]
  rw [qmq_]
  rfl
theorem qmn_  (l waits tx t64 o) : jfn Tryz.prog q41_ 6 18446744073709551616 (Ev.get q40_) 3 q39_ 62 [] (qbc_ l waits tx t64 o) = q9d_ l waits tx t64 o := by
  rw [qi_ (by decide)]
  have e3 : (fun l waits tx t91 => (jfn Tryz.prog q41_ 6 18446744073709551616 (Ev.get q40_) 3 q39_) 509 [] (qb7_ l waits tx t91)) = q9e_ := by funext l waits tx t91; exact qmm_ l waits tx t91
  rw [qmt_, e3]
  rfl
theorem qmu_  (line l waits tx t38 o f) : jfn Tryz.prog q41_ 6 18446744073709551616 (Ev.get q40_) 3 q39_ 6 [] (qb8_ line l waits tx t38 o f) = q7k_ line l waits tx t38 o f := by
  rw [qi_ (by decide)]
  have e2 : (fun l waits tx t64 o => (jfn Tryz.prog q41_ 6 18446744073709551616 (Ev.get q40_) 3 q39_) 62 [] (qbc_ l waits tx t64 o)) = q9d_ := by funext l waits tx t64 o; exact qmn_ l waits tx t64 o
  rw [qmp_, e2]
  rfl
theorem qn1_ (x : As [.str, .pr (.int .u8) (.pr (.int .u32) .str), .sl TZT0, .sl (.int .u32), .int .u32, .pr (.int .i64) (.int .i64)]) : evT Tryz.prog q41_ 6 18446744073709551616 (Ev.get q40_) 3 q39_ x = qdu_ x := by
  have e1 : (fun line l waits tx t38 o f => (jfn Tryz.prog q41_ 6 18446744073709551616 (Ev.get q40_) 3 q39_) 6 [] (qb8_ line l waits tx t38 o f)) = q7k_ := by funext line l waits tx t38 o f; exact qmu_ line l waits tx t38 o f
  rw [q3s_, qmr_, e1]
  rfl
theorem qmk_ : CtOk Tryz.prog I0 3 ⟨q39_, qdu_⟩ := ct_of_ev (env_cons qq6_ (env_cons qky_ (env_cons qp8_ (env_cons qlh_ (env_cons qo0_ (env_cons qor_ (env_cons qmd_ (env_cons qma_ (env_cons qpz_ (env_cons qmb_ (env_cons qql_ (env_cons qnk_ (env_cons qnw_ env_nil))))))))))))) qn1_
end Go.Proofs.Lx
end
section
namespace Go.Proofs.Lx
open Go Ev Sx Pl
set_option maxRecDepth 100000
theorem c_eq {c : UInt8} {k : Nat} (hk : k < 256) : eqi (Int.ofNat c.toNat) (k : Int) = true ↔ c = UInt8.ofNat k := by
  rw [qq_, qf_]
  constructor
  · intro h
    have : c.toNat = k := by omega
    rw [<- this, UInt8.ofNat_toNat]
  · intro h
    rw [h, UInt8.toNat_ofNat', Nat.mod_eq_of_lt hk]
theorem plain_eq (t : List UInt8) : qgv_ (t, ()) = some (plainT t, ()) := by
  show qgc_ qdj_ t = _
  unfold qgc_ plainT
  by_cases hl : t.length ≤ 8192
  · rw [if_neg (by rw [q4q_, qf_]; omega), decide_eq_true hl, Bool.true_and]
    have key : ∀ (r : List UInt8), goL (R := Bool × Unit) (fun (_ : Unit) (c : UInt8) k => if okC c = true then k () else some (false, ())) (fun _ => some (true, ())) r () = some (r.all okC, ()) := by
      intro r
      induction r with
      | nil => rfl
      | cons x r ih =>
        show (if okC x = true then goL _ _ r () else some (false, ())) = _
        rw [ih, List.all_cons]
        cases okC x <;> rfl
    rw [<- key]
    unfold qdj_
    refine loop_go (xs := t) (mk := fun i _ => (t, Int.ofNat t.length, (i : Int))) ?_ ?_ t.length 0 () _ (by omega) (by omega)
    · intro self i acc c hc
      have hi := (List.getElem?_eq_some_iff.1 hc).1
      show qau_ _ _ t (Int.ofNat t.length) (i : Int) = _
      unfold qau_
      rw [if_pos (by rw [q15_, qf_]; omega), at_get hc, Option.bind_some]
      have K : ∀ (b : Bool), qd6_ (fun a b c => self (a, b, c)) t (Int.ofNat t.length) (i : Int) b = if b = true then some (false, ()) else self (t, Int.ofNat t.length, ((i + 1 : Nat) : Int)) := fun b => by
        unfold qd6_ qks_
        rw [q31_ (by omega)]
      have hb := c.toNat_lt
      unfold okC
      by_cases h10 : c.toNat = 10
      · rw [if_neg (by rw [nei_iff, qf_]; omega), decide_eq_true h10, Bool.true_or]
        exact K false
      · rw [if_pos (by rw [nei_iff, qf_]; omega), decide_eq_false h10, Bool.false_or]
        by_cases h32 : 32 ≤ c.toNat
        · rw [if_neg (by rw [q15_, qf_]; omega), decide_eq_true h32, Bool.true_and]
          refine (K _).trans ?_
          by_cases h126 : c.toNat ≤ 126
          · rw [if_neg (by rw [q4q_, qf_]; omega), decide_eq_true h126, if_pos rfl]
          · rw [if_pos (by rw [q4q_, qf_]; omega), decide_eq_false h126, if_neg (by decide)]
        · rw [if_pos (by rw [q15_, qf_]; omega), decide_eq_false h32]
          exact K true
    · intro self acc
      show qau_ _ _ t (Int.ofNat t.length) (t.length : Int) = _
      unfold qau_
      rw [if_neg (by rw [q15_, qf_]; omega)]
  · rw [if_pos (by rw [q4q_, qf_]; omega), decide_eq_false hl]
    rfl
theorem eqs_nil (t : List UInt8) : eqs t [] = decide (t = []) := by
  rw [Bool.eq_iff_iff, eqs_iff, decide_eq_true_iff]
theorem sright_eq (o : TOrd) : q70_ (o, ()) = some (rightO o, ()) := by
  obtain ⟨k, n, t⟩ := o
  show qg2_ qav_ (k, n, t) = _
  have K2 : ∀ b, qcv_ b (k, n, t) = some (b && (decide (n = 0) && decide (t = [])), ()) := fun b => by
    unfold qcv_ qkw_
    dsimp only
    cases b with
    | false => rfl
    | true =>
      rw [if_pos rfl, Bool.true_and]
      by_cases h : n = 0
      · rw [if_pos (qq_.2 h), decide_eq_true h, Bool.true_and, eqs_nil]
      · rw [if_neg (fun e => h (qq_.1 e)), decide_eq_false h, Bool.false_and]
  have K1 : ∀ b, qav_ k b (k, n, t) = if b = true then some (decide (0 < n) && decide (t = []), ()) else some ((decide (k = 4 ∨ k = 5)) && (decide (n = 0) && decide (t = [])), ()) := fun b => by
    unfold qav_ qkp_
    dsimp only
    cases b with
    | true =>
      rw [if_pos rfl, if_pos rfl]
      by_cases h : 0 < n
      · rw [if_pos (q4q_.2 h), decide_eq_true h, Bool.true_and, eqs_nil]
      · rw [if_neg (fun e => h (q4q_.1 e)), decide_eq_false h, Bool.false_and]
    | false =>
      rw [K2, K2]
      show (if eqi k 4 = true then some (true && (decide (n = 0) && decide (t = [])), ()) else some (eqi k 5 && (decide (n = 0) && decide (t = [])), ())) = some (decide (k = 4 ∨ k = 5) && (decide (n = 0) && decide (t = [])), ())
      by_cases h4 : k = 4
      · rw [if_pos (qq_.2 h4), decide_eq_true (show k = 4 ∨ k = 5 from .inl h4)]
      · rw [if_neg (fun e => h4 (qq_.1 e))]
        have : eqi k 5 = decide (k = 4 ∨ k = 5) := by
          rw [Bool.eq_iff_iff, qq_, decide_eq_true_iff]
          omega
        rw [this]
  unfold qg2_ rightO
  dsimp only
  by_cases h1 : k = 1
  · rw [if_pos (qq_.2 h1), if_pos h1]
    by_cases h : n = 0
    · rw [if_pos (qq_.2 h), plain_eq, decide_eq_true h]
      rfl
    · rw [if_neg (fun e => h (qq_.1 e)), decide_eq_false h]
      rfl
  · rw [if_neg (fun e => h1 (qq_.1 e)), if_neg h1, K1, K1]
    by_cases h2 : k = 2
    · rw [if_pos (qq_.2 h2), if_pos rfl, if_pos (.inl h2)]
    · rw [if_neg (fun e => h2 (qq_.1 e))]
      by_cases h3 : k = 3
      · rw [if_pos (qq_.2 h3), if_pos (.inr h3)]
      · rw [if_neg (fun e => h3 (qq_.1 e)), if_neg (by omega)]
        by_cases h4 : k = 4 ∨ k = 5
        · rw [if_pos h4, decide_eq_true h4, Bool.true_and]
        · rw [if_neg h4, decide_eq_false h4, Bool.false_and]
def encI (c : UInt8) : List Int := if c = 10 then [92, 110] else if c = 92 then [92, 92] else [Int.ofNat c.toNat]
theorem toS_app (a b : List Int) : toS (a ++ b) = toS a ++ toS b := List.map_append
theorem toS_enc (c : UInt8) : toS (encI c) = if c = 10 then [92, 110] else if c = 92 then [92, 92] else [c] := by
  unfold encI
  split
  · rfl
  · split
    · rfl
    · show [UInt8.ofNat (Int.ofNat c.toNat).toNat] = [c]
      rw [qf_, Int.toNat_natCast, UInt8.ofNat_toNat]
theorem toS_flat : ∀ t : List UInt8, toS (t.flatMap encI) = wrt t
  | [] => rfl
  | c :: t => by rw [List.flatMap_cons, toS_app, toS_flat t, toS_enc, wrt_cons]
theorem u8s_app : ∀ {a b : List Int}, u8s a = true -> u8s b = true -> u8s (a ++ b) = true
  | [], _, _, h => h
  | x :: a, b, h1, h2 => by
    unfold u8s at h1
    show u8s (x :: (a ++ b)) = true
    unfold u8s
    rw [Bool.and_eq_true] at h1 ⊢
    exact ⟨h1.1, u8s_app h1.2 h2⟩
theorem u8s_one (c : UInt8) : u8s [Int.ofNat c.toNat] = true := by
  have := c.toNat_lt
  unfold u8s
  rw [decide_eq_true ⟨by rw [qf_]; omega, by rw [qf_]; omega⟩]
  rfl
theorem u8s_enc (c : UInt8) : u8s (encI c) = true := by
  unfold encI
  split
  · decide
  · split
    · decide
    · exact u8s_one c
theorem u8s_flat : ∀ t : List UInt8, u8s (t.flatMap encI) = true
  | [] => rfl
  | c :: t => by rw [List.flatMap_cons]; exact u8s_app (u8s_enc c) (u8s_flat t)
theorem enc_len (c : UInt8) : (encI c).length ≤ 2 := by
  unfold encI
  split
  · exact (by decide : 2 ≤ 2)
  · split
    · exact (by decide : 2 ≤ 2)
    · exact (by decide : 1 ≤ 2)
theorem flat_len : ∀ t : List UInt8, (t.flatMap encI).length ≤ 2 * t.length
  | [] => by decide
  | c :: t => by
    have h1 := enc_len c
    have h2 := flat_len t
    rw [List.flatMap_cons, List.length_append, List.length_cons]
    omega
theorem bneed {β : Type} {b : Bool} {n : Nat} {k : Bool -> Option β} (h : n ≤ 1073741824) : (if b = true then if b = true then need (small n) (k b) else none else need (small n) (k true)) = k true := by
  cases b with
  | true => rw [if_pos rfl, if_pos rfl, q1k_ h]
  | false => rw [if_neg (by decide), q1k_ h]
theorem written_eq {t : List UInt8} (hl : t.length ≤ 100000) : q7y_ (t, ()) = some (wrt t, ()) := by
  show qds_ qb3_ t = _
  unfold qds_ qb3_
  have e : ((t.foldl (fun (o : Bool × List Int) c => (true, o.2 ++ encI c)) (false, [])).2) = t.flatMap encI := by
    have : ∀ (t : List UInt8) (b : Bool) (o : List Int), (t.foldl (fun (o : Bool × List Int) c => (true, o.2 ++ encI c)) (b, o)).2 = o ++ t.flatMap encI := by
      intro t
      induction t with
      | nil => intro b o; simp
      | cons c t ih => intro b o; rw [List.foldl_cons, ih, List.flatMap_cons, List.append_assoc]
    rw [this, List.nil_append]
  have fin : some (wrt t, ()) = (fun (o : Bool × List Int) => (need (eqi (Int.ofNat o.2.length) (Int.ofNat o.2.length)) (need (small o.2.length) (need (u8s o.2) (some (toS o.2, ()))) : Option (As [.str])))) ((t.drop 0).foldl (fun (o : Bool × List Int) c => (true, o.2 ++ encI c)) (false, [])) := by
    rw [List.drop_zero]
    dsimp only
    rw [e, need_t (qq_.2 rfl), q1k_ (by have := flat_len t; omega), need_t (u8s_flat t), toS_flat]
  rw [fin]
  refine loop_idx (xs := t) (stp := fun (o : Bool × List Int) c => (true, o.2 ++ encI c)) (mk := fun i (o : Bool × List Int) => (t, Int.ofNat t.length, (i : Int), o.1, o.2)) (fin := fun (o : Bool × List Int) => (need (eqi (Int.ofNat o.2.length) (Int.ofNat o.2.length)) (need (small o.2.length) (need (u8s o.2) (some (toS o.2, ()))) : Option (As [.str])))) (fun i o => o.2.length ≤ 2 * i) ?_ ?_ ?_ t.length 0 (false, []) 18446744073709551616 (by omega) (by omega) (by decide)
  · intro self i o c hc hI
    obtain ⟨b, o⟩ := o
    have hI : o.length ≤ 2 * i := hI
    have hi := (List.getElem?_eq_some_iff.1 hc).1
    show q9o_ _ t (Int.ofNat t.length) (i : Int) b o = _
    unfold q9o_
    have a10 : eqi (Int.ofNat c.toNat) 10 = true ↔ c = 10 := c_eq (k := 10) (by omega)
    have a92 : eqi (Int.ofNat c.toNat) 92 = true ↔ c = 92 := c_eq (k := 92) (by omega)
    rw [if_pos (by rw [q15_, qf_]; omega), at_get hc, Option.bind_some, Option.bind_some, q31_ (by omega)]
    dsimp only
    unfold encI
    by_cases h10 : c = 10
    · rw [if_pos (a10.2 h10), if_pos h10]
      exact bneed (k := fun b => self (t, Int.ofNat t.length, ((i + 1 : Nat) : Int), b, o ++ [92, 110])) (by omega)
    · rw [if_neg (fun e => h10 (a10.1 e)), if_neg h10]
      by_cases h92 : c = 92
      · rw [if_pos (a92.2 h92), if_pos h92]
        exact bneed (k := fun b => self (t, Int.ofNat t.length, ((i + 1 : Nat) : Int), b, o ++ [92, 92])) (by omega)
      · rw [if_neg (fun e => h92 (a92.1 e)), if_neg h92]
        exact bneed (k := fun b => self (t, Int.ofNat t.length, ((i + 1 : Nat) : Int), b, o ++ [Int.ofNat c.toNat])) (by show o.length + 1 ≤ 1073741824; omega)
  · intro i o c _ hI
    have := enc_len c
    show (o.2 ++ encI c).length ≤ 2 * (i + 1)
    rw [List.length_append]
    omega
  · intro self o hI
    obtain ⟨b, o⟩ := o
    show q9o_ _ t (Int.ofNat t.length) (t.length : Int) b o = _
    unfold q9o_
    rw [if_neg (by rw [q15_, qf_]; omega)]
end Go.Proofs.Lx
end
section
namespace Go.Proofs.Lx
open Go Ev Sx Pl
set_option maxRecDepth 100000
def outU (o : List Int) : Option (List UInt8) -> Option (As [.str, .bool])
  | some t => some (toS o ++ t, true, ())
  | none => some ([], false, ())
theorem unw_ten (r : List UInt8) : unw (10 :: r) = none := by
  cases r with
  | nil => rfl
  | cons d q => rw [unw, if_pos rfl]
theorem unw_bs (d : UInt8) (q : List UInt8) : unw (92 :: d :: q) = if d = 110 then (unw q).map (10 :: ·) else if d = 92 then (unw q).map (92 :: ·) else none := by rw [unw, if_neg (by decide), if_pos rfl]
theorem outU_map (o : List Int) (x : Int) (c : UInt8) (h : toS [x] = [c]) (r : Option (List UInt8)) : outU (o ++ [x]) r = outU o (r.map (c :: ·)) := by
  cases r with
  | none => rfl
  | some t =>
    show some (toS (o ++ [x]) ++ t, true, ()) = some (toS o ++ c :: t, true, ())
    rw [toS_app, h, List.append_assoc]
    rfl
theorem toS_c (c : UInt8) : toS [Int.ofNat c.toNat] = [c] := by
  show [UInt8.ofNat (Int.ofNat c.toNat).toNat] = [c]
  rw [qf_, Int.toNat_natCast, UInt8.ofNat_toNat]
theorem unwritten_eq {s : List UInt8} (hl : s.length ≤ 100000) : qa9_ (s, ()) = outU [] (unw s) := by
  show qcf_ q9y_ s = _
  unfold qcf_ q9y_
  refine (loopF_eq (σ := List UInt8 × Int × Bool × List Int) (Inv := fun st => st.1 = s ∧ ∃ n : Nat, st.2.1 = (n : Int) ∧ n ≤ s.length ∧ st.2.2.2.length ≤ n ∧ u8s st.2.2.2 = true) (μ := fun st => s.length - st.2.1.toNat) (G := fun st => outU st.2.2.2 (unw (s.drop st.2.1.toNat))) ?_ 18446744073709551616 (s, 0, false, []) ⟨rfl, 0, rfl, Nat.zero_le _, Nat.le_refl _, rfl⟩ (by show s.length - 0 < _; omega)).trans rfl
  rintro self ⟨s', i, b, o⟩ ⟨rfl, n, hi, hn, ho, hu⟩ ih
  have hi : i = (n : Int) := hi
  subst hi
  have ho : o.length ≤ n := ho
  have hu : u8s o = true := hu
  show qcd_ _ _ _ s' (n : Int) b o = outU o (unw (s'.drop (n : Int).toNat))
  rw [Int.toNat_natCast]
  have go : ∀ (m : Nat) (o' : List Int) (c : UInt8) (x : Int), n < m -> m ≤ s'.length -> o' = o ++ [x] -> toS [x] = [c] -> u8s [x] = true -> self (s', (m : Int), true, o') = outU o ((unw (s'.drop m)).map (c :: ·)) := by
    intro m o' c x h1 h2 h3 h4 h5
    rw [ih (s', (m : Int), true, o') ⟨rfl, m, rfl, h2, by rw [h3]; simp; omega, by rw [h3]; exact u8s_app hu h5⟩ (by show s'.length - (m : Int).toNat < s'.length - (n : Int).toNat; omega)]
    show outU o' (unw (s'.drop (m : Int).toNat)) = _
    rw [h3, Int.toNat_natCast, outU_map o x c h4]
  unfold qcd_
  by_cases hlt : n < s'.length
  · obtain ⟨c, hc⟩ : ∃ c, s'[n]? = some c := ⟨_, List.getElem?_eq_getElem hlt⟩
    have hd : s'.drop n = c :: s'.drop (n + 1) := by
      rw [List.drop_eq_getElem_cons hlt]
      rw [List.getElem?_eq_getElem hlt] at hc
      rw [Option.some.inj hc]
    have a10 : eqi (Int.ofNat c.toNat) 10 = true ↔ c = 10 := c_eq (k := 10) (by omega)
    have a92 : eqi (Int.ofNat c.toNat) 92 = true ↔ c = 92 := c_eq (k := 92) (by omega)
    rw [if_pos (by rw [q15_, qf_]; omega), at_get hc, Option.bind_some, hd, q31_ (by omega)]
    by_cases h10 : c = 10
    · rw [if_pos (a10.2 h10), h10, unw_ten]
      rfl
    · rw [if_neg (fun e => h10 (a10.1 e))]
      by_cases h92 : c = 92
      · rw [if_pos (a92.2 h92)]
        by_cases he : n + 1 = s'.length
        · rw [if_pos (by rw [qq_, qf_]; omega), h92, List.drop_of_length_le (by omega)]
          rfl
        · rw [if_neg (by rw [qq_, qf_]; omega)]
          have hlt2 : n + 1 < s'.length := by omega
          obtain ⟨d, hdd⟩ : ∃ d, s'[n + 1]? = some d := ⟨_, List.getElem?_eq_getElem hlt2⟩
          have hd2 : s'.drop (n + 1) = d :: s'.drop (n + 2) := by
            rw [List.drop_eq_getElem_cons hlt2]
            rw [List.getElem?_eq_getElem hlt2] at hdd
            rw [Option.some.inj hdd]
          have b110 : eqi (Int.ofNat d.toNat) 110 = true ↔ d = 110 := c_eq (k := 110) (by omega)
          have b92 : eqi (Int.ofNat d.toNat) 92 = true ↔ d = 92 := c_eq (k := 92) (by omega)
          have K2 : ∀ (bb : Bool) (oo : List Int), q4s_ (fun a b c d => self (a, b, c, d)) s' ((n + 1 : Nat) : Int) bb oo = self (s', ((n + 2 : Nat) : Int), bb, oo) := fun bb oo => by
            unfold q4s_ qch_
            rw [q31_ (by omega)]
          rw [at_get hdd, Option.bind_some, hd2, h92, unw_bs]
          by_cases h110 : d = 110
          · rw [if_pos (b110.2 h110), if_pos h110]
            refine (bneed (k := fun bb => q4s_ (fun a b c d => self (a, b, c, d)) s' ((n + 1 : Nat) : Int) bb (o ++ [10])) (by omega)).trans ?_
            refine (K2 _ _).trans ?_
            exact go (n + 2) _ 10 10 (by omega) (by omega) rfl rfl rfl
          · rw [if_neg (fun e => h110 (b110.1 e)), if_neg h110]
            by_cases hd92 : d = 92
            · rw [if_pos (b92.2 hd92), if_pos hd92]
              refine (bneed (k := fun bb => q4s_ (fun a b c d => self (a, b, c, d)) s' ((n + 1 : Nat) : Int) bb (o ++ [Int.ofNat (92 : UInt8).toNat])) (by show o.length + 1 ≤ 1073741824; omega)).trans ?_
              refine (K2 _ _).trans ?_
              exact go (n + 2) _ 92 _ (by omega) (by omega) rfl (toS_c 92) (u8s_one 92)
            · rw [if_neg (fun e => hd92 (b92.1 e)), if_neg hd92]
              rfl
      · rw [if_neg (fun e => h92 (a92.1 e)), unw_plain h10 h92]
        have K2 : ∀ (bb : Bool) (oo : List Int), q4s_ (fun a b c d => self (a, b, c, d)) s' (n : Int) bb oo = self (s', ((n + 1 : Nat) : Int), bb, oo) := fun bb oo => by
          unfold q4s_ qch_
          rw [q31_ (by omega)]
        refine (bneed (k := fun bb => q4s_ (fun a b c d => self (a, b, c, d)) s' (n : Int) bb (o ++ [Int.ofNat c.toNat])) (by show o.length + 1 ≤ 1073741824; omega)).trans ?_
        refine (K2 _ _).trans ?_
        exact go (n + 1) _ c _ (by omega) (by omega) rfl (toS_c c) (u8s_one c)
  · have hn' : n ≤ s'.length := hn
    have he : n = s'.length := by omega
    subst he
    rw [if_neg (by rw [q15_, qf_]; omega), List.drop_length]
    unfold qcb_ qfy_
    rw [need_t (qq_.2 rfl), q1k_ (by omega), need_t hu]
    show _ = some (toS o ++ [], true, ())
    rw [List.append_nil]
theorem hasp_eq (s p : List UInt8) : qdq_ (s, p, ()) = some (decide (p <+: s), ()) := by
  show qbg_ s p = _
  unfold qbg_
  by_cases h : p.length ≤ s.length
  · rw [if_pos (by rw [q5n_, qf_, qf_]; omega), qf_, cut_to h, Option.bind_some]
    have : eqs (s.take p.length) p = decide (p <+: s) := by
      rw [Bool.eq_iff_iff, eqs_iff, decide_eq_true_iff, List.prefix_iff_eq_take]
      exact ⟨fun e => e.symm, fun e => e.symm⟩
    rw [this]
  · rw [if_neg (by rw [q5n_, qf_, qf_]; omega), decide_eq_false (fun hp => h hp.length_le)]
def outC (s : List UInt8) : Option (List UInt8) -> Option (As [.str, .bool])
  | some r => some (r, true, ())
  | none => some (s, false, ())
theorem cutp_eq (s p : List UInt8) : q3l_ (s, p, ()) = outC s (strip p s) := by
  show qet_ s p = _
  unfold qet_
  have e : qdr_ (s, p, ()) = outC s (strip p s) := by
    show qbh_ s p = _
    unfold qbh_
    rw [hasp_eq, Option.bind_some]
    by_cases h : p <+: s
    · obtain ⟨r, rfl⟩ := h
      rw [decide_eq_true (show p <+: p ++ r from ⟨r, rfl⟩), strip_app, if_neg (by decide), qf_, cut_from (by simp), Option.bind_some, List.drop_left]
      rfl
    · rw [decide_eq_false h, strip_none h, if_pos (by decide)]
      rfl
  rw [e]
  cases strip p s <;> rfl
def Rd (f : Option (As [.pr (.int .u8) (.pr (.int .u32) .str), .bool])) (r : Option TOrd) : Prop := ∃ o', f = some (o', r.isSome, ()) ∧ ∀ o, r = some o -> o' = o
theorem readText_eq {k : Int} {r : List UInt8} (hl : r.length ≤ 100000) : Rd (q9b_ (k, r, ())) (rdT k r) := by
  have h : q9b_ (k, r, ()) = Option.bind (q3l_ (r, [32], ())) fun y => if (!y.2.1) = true then some ((0, 0, []), false, ()) else Option.bind (qa9_ (y.1, ())) fun y => some ((k, 0, y.1), y.2.1, ()) := rfl
  rw [h, cutp_eq]
  rcases r with _ | ⟨c, a⟩
  · exact ⟨_, rfl, fun o ho => by cases ho⟩
  · by_cases hc : c = 32
    · subst hc
      show Rd (Option.bind (some (a, true, ())) _) ((unw a).map fun t => (k, 0, t))
      have ha : a.length ≤ 100000 := by simp at hl; omega
      rw [Option.bind_some, if_neg (by show ¬ (!true) = true; decide)]
      show Rd (Option.bind (qa9_ (a, ())) _) _
      rw [unwritten_eq ha]
      cases unw a with
      | none => exact ⟨_, rfl, fun o ho => by cases ho⟩
      | some t => exact ⟨_, rfl, fun o ho => by cases ho; rfl⟩
    · have e1 : strip [32] (c :: a) = none := by
        show (if 32 = c then _ else none) = none
        rw [if_neg (fun e => hc e.symm)]
      have e2 : rdT k (c :: a) = none := by
        unfold rdT
        split
        · rename_i a' e
          exact absurd (List.cons.inj e).1 hc
        · rfl
      rw [e1, e2]
      exact ⟨_, rfl, fun o ho => by cases ho⟩
theorem fold_ge (l : List UInt8) : ∀ acc : Nat, acc ≤ l.foldl (fun a c => 10 * a + (c.toNat - 48)) acc := by
  induction l with
  | nil => intro acc; exact Nat.le_refl _
  | cons c l ih =>
    intro acc
    have := ih (10 * acc + (c.toNat - 48))
    rw [List.foldl_cons]
    omega
theorem parseM_ok : ∀ (l : List UInt8) (acc : Nat), (∀ c ∈ l, 48 ≤ c.toNat ∧ c.toNat ≤ 57) -> l.foldl (fun a c => 10 * a + (c.toNat - 48)) acc < 4294967296 -> Lib.parseUintM 4294967295 acc l = .ok (l.foldl (fun a c => 10 * a + (c.toNat - 48)) acc)
  | [], acc, _, _ => rfl
  | c :: l, acc, h, hv => by
    have hc := h c List.mem_cons_self
    have hg := fold_ge l (10 * acc + (c.toNat - 48))
    rw [List.foldl_cons] at hv ⊢
    have e : acc * 10 + (c.toNat - 48) = 10 * acc + (c.toNat - 48) := by omega
    rw [Lib.parseUintM, if_pos hc, if_neg (by omega), e, if_neg (by omega), parseM_ok l _ (fun x hx => h x (List.mem_cons_of_mem _ hx)) hv]
theorem parseM_inv : ∀ (l : List UInt8) (acc u : Nat), acc ≤ 4294967295 -> Lib.parseUintM 4294967295 acc l = .ok u -> (∀ c ∈ l, 48 ≤ c.toNat ∧ c.toNat ≤ 57) ∧ u = l.foldl (fun a c => 10 * a + (c.toNat - 48)) acc ∧ u ≤ 4294967295
  | [], acc, u, ha, h => by
    cases h
    exact ⟨fun c hc => (by cases hc), rfl, ha⟩
  | c :: l, acc, u, ha, h => by
    rw [Lib.parseUintM] at h
    by_cases hc : 48 ≤ c.toNat ∧ c.toNat ≤ 57
    · rw [if_pos hc] at h
      by_cases h1 : 1844674407370955162 ≤ acc
      · rw [if_pos h1] at h; cases h
      · rw [if_neg h1] at h
        by_cases h2 : 4294967295 < acc * 10 + (c.toNat - 48)
        · rw [if_pos h2] at h; cases h
        · rw [if_neg h2] at h
          obtain ⟨q1, q2, q3⟩ := parseM_inv l _ u (by omega) h
          refine ⟨fun x hx => ?_, ?_, q3⟩
          · rcases List.mem_cons.1 hx with rfl | hx
            · exact hc
            · exact q1 x hx
          · rw [List.foldl_cons, q2, show acc * 10 + (c.toNat - 48) = 10 * acc + (c.toNat - 48) by omega]
    · rw [if_neg hc] at h; cases h
theorem pU_some {a : List UInt8} {n : Nat} (h : pU a = some n) : Lib.parseUintB 32 a = .ok n ∧ n < 4294967296 := by
  unfold pU at h
  by_cases hq : a ≠ [] ∧ (∀ c ∈ a, 48 ≤ c.toNat ∧ c.toNat ≤ 57) ∧ vl a < 4294967296
  · rw [if_pos hq] at h
    cases h
    refine ⟨?_, hq.2.2⟩
    rw [Lib.parseUintB, if_neg hq.1]
    exact parseM_ok a 0 hq.2.1 hq.2.2
  · rw [if_neg hq] at h; cases h
theorem pU_none {a : List UInt8} (h : pU a = none) (n : Nat) : Lib.parseUintB 32 a ≠ .ok n := by
  intro e
  unfold pU at h
  by_cases ha : a = []
  · subst ha
    rw [Lib.parseUintB, if_pos rfl] at e
    cases e
  · rw [Lib.parseUintB, if_neg ha] at e
    obtain ⟨q1, q2, q3⟩ := parseM_inv a 0 n (by omega) e
    rw [if_pos ⟨ha, q1, by show a.foldl _ 0 < _; rw [<- q2]; omega⟩] at h
    cases h
theorem sdigits_eq {n : Nat} (h : n < 4294967296) : q2o_ ((n : Int), ()) = some (dg n, ()) := by
  show qk8_ (n : Int) = _
  unfold qk8_
  have e : strconv_FormatUint ((n : Int), 10, ()) = some (dg n, ()) := by
    show qef_ (n : Int) 10 = _
    unfold qef_
    have : istrconv_FormatUint ((n : Int), 10, ()) = some (dg n, ()) := by
      show (if (0 ≤ (n : Int) ∧ (n : Int) < 18446744073709551616) ∧ (10 : Int) = 10 then some (dF 19 (n : Int).toNat, ()) else none) = _
      rw [if_pos ⟨⟨by omega, by omega⟩, rfl⟩, Int.toNat_natCast, dF_dg (by omega)]
    rw [this]
    rfl
  have ec : cvt .u64 (n : Int) = (n : Int) := wu64 (by omega) (by omega)
  rw [ec, e]
  rfl
theorem readNumber_eq {k : Int} {r : List UInt8} (hl : r.length ≤ 100000) : Rd (q5w_ (k, r, ())) (rdN k r) := by
  have h : q5w_ (k, r, ()) = qb9_ q9h_ k r := rfl
  rw [h]
  unfold qb9_
  rw [cutp_eq]
  rcases r with _ | ⟨c, a⟩
  · exact ⟨_, rfl, fun o ho => by cases ho⟩
  · by_cases hc : c = 32
    · subst hc
      have ha : a.length ≤ 281474976710656 := by simp at hl; omega
      show Rd (Option.bind (some (a, true, ())) _) ((pU a).bind fun n => if n ≠ 0 ∧ dg n = a then some (k, (n : Int), []) else none)
      rw [Option.bind_some, if_neg (by show ¬ (!true) = true; decide)]
      dsimp only
      have K : ∀ (n : Int) (b : Bool), q9h_ k n b (0, 0, []) = if b = true then some ((0, 0, []), false, ()) else some ((k, cvt .u32 n, []), true, ()) := fun n b => rfl
      cases hp : pU a with
      | none =>
        have e1 : q9k_ (a, 10, 32, ()) = none := by
          show (if a.length ≤ 281474976710656 ∧ (10 : Int) = 10 ∧ (32 : Int) = 32 then (match Lib.parseUintB 32 a with
            | .ok u => some ((u : Int), ())
            | _ => none) else none) = none
          rw [if_pos ⟨ha, rfl, rfl⟩]
          cases hq : Lib.parseUintB 32 a with
          | ok u => exact absurd hq (pU_none hp u)
          | _ => rfl
        have e2 : ∃ v, q9l_ (a, 10, 32, ()) = some (v, (), ()) := by
          show ∃ v, (if a.length ≤ 281474976710656 ∧ (10 : Int) = 10 ∧ (32 : Int) = 32 then (endV (Lib.parseUintB 32 a)).map fun u => (u, (), ()) else none) = some (v, (), ())
          rw [if_pos ⟨ha, rfl, rfl⟩]
          cases hq : Lib.parseUintB 32 a with
          | ok u => exact absurd hq (pU_none hp u)
          | _ => exact ⟨_, rfl⟩
        obtain ⟨v, e2⟩ := e2
        rw [e1, e2]
        exact ⟨_, rfl, fun o ho => by cases ho⟩
      | some n =>
        obtain ⟨hq, hn⟩ := pU_some hp
        have e1 : q9k_ (a, 10, 32, ()) = some ((n : Int), ()) := by
          show (if a.length ≤ 281474976710656 ∧ (10 : Int) = 10 ∧ (32 : Int) = 32 then (match Lib.parseUintB 32 a with
            | .ok u => some ((u : Int), ())
            | _ => none) else none) = _
          rw [if_pos ⟨ha, rfl, rfl⟩, hq]
        have e2 : q9l_ (a, 10, 32, ()) = none := by
          show (if a.length ≤ 281474976710656 ∧ (10 : Int) = 10 ∧ (32 : Int) = 32 then (endV (Lib.parseUintB 32 a)).map fun u => (u, (), ()) else none) = none
          rw [if_pos ⟨ha, rfl, rfl⟩, hq]
          rfl
        have ec : cvt .u32 (n : Int) = (n : Int) := wu32 (by omega) (by omega)
        rw [e1, e2]
        show Rd (orE (Option.bind (some ((n : Int), ())) _) none) ((some n).bind _)
        rw [Option.bind_some, Option.bind_some]
        dsimp only
        rw [ec, sdigits_eq hn, Option.bind_some, K, K]
        dsimp only
        show Rd (if eqi (n : Int) 0 = true then _ else _) _
        by_cases h0 : n = 0
        · rw [if_pos (by rw [qq_]; omega), if_neg (fun (e : n ≠ 0 ∧ dg n = a) => e.1 h0)]
          exact ⟨_, rfl, fun o ho => by cases ho⟩
        · rw [if_neg (by rw [qq_]; omega)]
          by_cases hd : dg n = a
          · rw [if_neg (by rw [nes_iff]; exact fun e => e hd), if_pos ⟨h0, hd⟩, ec]
            exact ⟨_, rfl, fun o ho => by cases ho; rfl⟩
          · rw [if_pos (by rw [nes_iff]; exact hd), if_neg (fun e => hd e.2)]
            exact ⟨_, rfl, fun o ho => by cases ho⟩
    · have e1 : strip [32] (c :: a) = none := by
        show (if 32 = c then _ else none) = none
        rw [if_neg (fun e => hc e.symm)]
      have e2 : rdN k (c :: a) = none := by
        unfold rdN
        split
        · rename_i a' e
          exact absurd (List.cons.inj e).1 hc
        · rfl
      rw [e1, e2]
      exact ⟨_, rfl, fun o ho => by cases ho⟩
theorem readNothing_eq {k : Int} {r : List UInt8} : Rd (q66_ (k, r, ())) (rd0 k r) := by
  have h : q66_ (k, r, ()) = some ((k, 0, []), eqs r [], ()) := rfl
  rw [h, eqs_nil]
  unfold rd0
  by_cases hr : r = []
  · rw [if_pos hr, decide_eq_true hr]
    exact ⟨_, rfl, fun o ho => by cases ho; rfl⟩
  · rw [if_neg hr, decide_eq_false hr]
    exact ⟨_, rfl, fun o ho => by cases ho⟩
end Go.Proofs.Lx
end
section
namespace Go.Proofs.Lx
open Go Ev Sx Pl
set_option maxRecDepth 100000
abbrev SP := List UInt8 × Int × List UInt8 × Int × List UInt8 × Int × List UInt8 × Int × List UInt8 × Int × List UInt8 × Int × (Int × Int × List UInt8)
def stP (s : List UInt8) (j : Int) : SP := (s, 1, wSub, 2, wCan, 3, wSta, 4, wHis, 5, wSla, j, (0, 0, []))
def FP : (SP -> Option (As [.pr (.int .u8) (.pr (.int .u32) .str), .int .i64])) -> SP -> Option (As [.pr (.int .u8) (.pr (.int .u32) .str), .int .i64]) := fun self s =>
  ql0_ (qg8_ (fun line t9 t9_2 t9_3 t9_4 t9_5 t9_6 t9_7 t9_8 t9_9 t9_10 t10 t2 => self (line, t9, t9_2, t9_3, t9_4, t9_5, t9_6, t9_7, t9_8, t9_9, t9_10, t10, t2))) qg6_ (fun line t9 t9_2 t9_3 t9_4 t9_5 t9_6 t9_7 t9_8 t9_9 t9_10 t10 t2 => self (line, t9, t9_2, t9_3, t9_4, t9_5, t9_6, t9_7, t9_8, t9_9, t9_10, t10, t2)) s.1 s.2.1 s.2.2.1 s.2.2.2.1 s.2.2.2.2.1 s.2.2.2.2.2.1 s.2.2.2.2.2.2.1 s.2.2.2.2.2.2.2.1 s.2.2.2.2.2.2.2.2.1 s.2.2.2.2.2.2.2.2.2.1 s.2.2.2.2.2.2.2.2.2.2.1 s.2.2.2.2.2.2.2.2.2.2.2.1 s.2.2.2.2.2.2.2.2.2.2.2.2
abbrev RP := Option (As [.pr (.int .u8) (.pr (.int .u32) .str), .int .i64])
def outP (z : RP) : Option TOrd -> RP
  | some o => some (o, 0, ())
  | none => z
theorem formP {w s : List UInt8} {rd : List UInt8 -> Option TOrd} {R : List UInt8 -> Option (As [.pr (.int .u8) (.pr (.int .u32) .str), .bool])} {Z : RP} {K : Bool -> TOrd -> RP} (hK : ∀ b o, K b o = if b = true then some (o, 0, ()) else Z)
    (hR : ∀ r, r.length ≤ s.length -> Rd (R r) (rd r)) :
    (Option.bind (q3l_ (s, w, ())) fun y => if (!y.2.1) = true then Z else Option.bind (R y.1) fun y => if y.2.1 = true then Option.bind (q70_ (y.1, ())) fun y_1 => K y_1.1 y.1 else K false y.1) = outP Z (form w rd s) := by
  rw [cutp_eq]
  unfold form
  cases hs : strip w s with
  | none => rfl
  | some r =>
    have hl : r.length ≤ s.length := by
      have := congrArg List.length (strip_some hs)
      rw [List.length_append] at this
      omega
    obtain ⟨o', h1, h2⟩ := hR r hl
    show Option.bind (some (r, true, ())) _ = _
    rw [Option.bind_some, if_neg (by show ¬ (!true) = true; decide)]
    show Option.bind (R r) _ = _
    rw [h1, Option.bind_some, Option.bind_some]
    dsimp only
    cases hr : rd r with
    | none =>
      rw [if_neg (by decide), hK, if_neg (by decide)]
      rfl
    | some o =>
      cases h2 o hr
      rw [if_pos (show (some o').isSome = true from rfl), sright_eq, Option.bind_some, Option.bind_some, hK]
      cases rightO o' <;> rfl
theorem sparse_eq {s : List UInt8} (hl : s.length ≤ 100000) : q9f_ (s, ()) = outP (some ((0, 0, []), 280, ())) (parO s) := by
  have h0 : ∀ N, loopF FP (N + 1) (stP s 0) = outP (loopF FP N (stP s 1)) (form wSub (rdT 1) s) := fun N =>
    formP (w := wSub) (rd := rdT 1) (R := fun r => q9b_ (1, r, ())) (Z := loopF FP N (stP s 1)) (K := fun b o => if b = true then some (o, 0, ()) else loopF FP N (stP s 1)) (fun _ _ => rfl) (fun r hr => readText_eq (Nat.le_trans (show r.length ≤ s.length from hr) hl))
  have h1 : ∀ N, loopF FP (N + 1) (stP s 1) = outP (loopF FP N (stP s 2)) (form wCan (rdN 2) s) := fun N =>
    formP (w := wCan) (rd := rdN 2) (R := fun r => q5w_ (2, r, ())) (Z := loopF FP N (stP s 2)) (K := fun b o => if b = true then some (o, 0, ()) else loopF FP N (stP s 2)) (fun _ _ => rfl) (fun r hr => readNumber_eq (Nat.le_trans (show r.length ≤ s.length from hr) hl))
  have h2 : ∀ N, loopF FP (N + 1) (stP s 2) = outP (loopF FP N (stP s 3)) (form wSta (rdN 3) s) := fun N =>
    formP (w := wSta) (rd := rdN 3) (R := fun r => q5w_ (3, r, ())) (Z := loopF FP N (stP s 3)) (K := fun b o => if b = true then some (o, 0, ()) else loopF FP N (stP s 3)) (fun _ _ => rfl) (fun r hr => readNumber_eq (Nat.le_trans (show r.length ≤ s.length from hr) hl))
  have h3 : ∀ N, loopF FP (N + 1) (stP s 3) = outP (loopF FP N (stP s 4)) (form wHis (rd0 4) s) := fun N =>
    formP (w := wHis) (rd := rd0 4) (R := fun r => q66_ (4, r, ())) (Z := loopF FP N (stP s 4)) (K := fun b o => if b = true then some (o, 0, ()) else loopF FP N (stP s 4)) (fun _ _ => rfl) (fun r hr => readNothing_eq)
  have h4 : ∀ N, loopF FP (N + 1) (stP s 4) = outP (loopF FP N (stP s 5)) (form wSla (rd0 5) s) := fun N =>
    formP (w := wSla) (rd := rd0 5) (R := fun r => q66_ (5, r, ())) (Z := loopF FP N (stP s 5)) (K := fun b o => if b = true then some (o, 0, ()) else loopF FP N (stP s 5)) (fun _ _ => rfl) (fun r hr => readNothing_eq)
  have h5 : ∀ N, loopF FP (N + 1) (stP s 5) = some ((0, 0, []), 280, ()) := fun N => rfl
  have e : q9f_ (s, ()) = loopF FP (18446744073709551610 + 6) (stP s 0) := rfl
  rw [e, h0, h1, h2, h3, h4, h5]
  unfold parO
  cases form wSub (rdT 1) s with
  | some o => rfl
  | none =>
    cases form wCan (rdN 2) s with
    | some o => rfl
    | none =>
      cases form wSta (rdN 3) s with
      | some o => rfl
      | none =>
        cases form wHis (rd0 4) s with
        | some o => rfl
        | none => cases form wSla (rd0 5) s <;> rfl
theorem wrt_len (t : List UInt8) : (wrt t).length ≤ 2 * t.length := by
  rw [<- toS_flat]
  unfold toS
  rw [List.length_map]
  exact flat_len t
theorem dg_le {n : Nat} (h : n < 4294967296) : (dg n).length ≤ 10 := dg_len (by omega) (by omega)
theorem plain_len {t : List UInt8} (h : plainT t = true) : t.length ≤ 8192 := by
  unfold plainT at h
  rw [Bool.and_eq_true] at h
  exact of_decide_eq_true h.1
abbrev SQ := Int × List UInt8 × Int × List UInt8 × Int × List UInt8 × Int × List UInt8 × Int × List UInt8 × Int × (Int × Int × List UInt8)
abbrev RQ := Option (As [.str, .bool])
def FQ : (SQ -> RQ) -> SQ -> RQ := fun self s =>
  qkj_ (fun t9 t9_2 t9_3 t9_4 t9_5 t9_6 t9_7 t9_8 t9_9 t9_10 t10 o => self (t9, t9_2, t9_3, t9_4, t9_5, t9_6, t9_7, t9_8, t9_9, t9_10, t10, o)) s.1 s.2.1 s.2.2.1 s.2.2.2.1 s.2.2.2.2.1 s.2.2.2.2.2.1 s.2.2.2.2.2.2.1 s.2.2.2.2.2.2.2.1 s.2.2.2.2.2.2.2.2.1 s.2.2.2.2.2.2.2.2.2.1 s.2.2.2.2.2.2.2.2.2.2.1 s.2.2.2.2.2.2.2.2.2.2.2
def stQ (j : Int) (o : TOrd) : SQ := (1, wSub, 2, wCan, 3, wSta, 4, wHis, 5, wSla, j, o)
theorem sprint_eq {o : TOrd} (hu : 0 ≤ o.2.1 ∧ o.2.1 < 4294967296) : qe7_ (o, ()) = if rightO o = true then some (prO o, true, ()) else some ([], false, ()) := by
  have e : qe7_ (o, ()) = Option.bind (q70_ (o, ())) fun y => if (!y.1) = true then some ([], false, ()) else loopF FQ (18446744073709551611 + 5) (stQ 0 o) := rfl
  rw [e, sright_eq, Option.bind_some]
  cases hr : rightO o with
  | false => rfl
  | true =>
    rw [if_neg (by show ¬ (!true) = true; decide), if_pos rfl]
    obtain ⟨k, n, t⟩ := o
    have hn : 0 ≤ n ∧ n < 4294967296 := hu
    obtain ⟨m, rfl⟩ := Int.eq_ofNat_of_zero_le hn.1
    have hm : m < 4294967296 := by omega
    unfold rightO at hr
    dsimp only at hr
    by_cases h1 : k = 1
    · subst h1
      rw [if_pos rfl, Bool.and_eq_true] at hr
      have ht := plain_len hr.2
      have hw := wrt_len t
      have key : ∀ N, loopF FQ (N + 5) (stQ 0 (1, (m : Int), t)) = need (small (wSub.length + 1)) (Option.bind (q7y_ (t, ())) fun y => need (small ((wSub ++ [32]).length + y.1.length)) (some (wSub ++ [32] ++ y.1, true, ()))) := fun N => rfl
      rw [key, q1k_ (by decide), written_eq (by omega), Option.bind_some, q1k_ (by simp [wSub]; omega)]
      rfl
    rw [if_neg h1] at hr
    by_cases h2 : k = 2
    · subst h2
      have key : ∀ N, loopF FQ (N + 5) (stQ 0 (2, (m : Int), t)) = need (small (wCan.length + 1)) (Option.bind (q2o_ ((m : Int), ())) fun y => need (small ((wCan ++ [32]).length + y.1.length)) (some (wCan ++ [32] ++ y.1, true, ()))) := fun N => rfl
      have hd := dg_le hm
      rw [key, q1k_ (by decide), sdigits_eq hm, Option.bind_some, q1k_ (by simp [wCan]; omega)]
      rfl
    by_cases h3 : k = 3
    · subst h3
      have key : ∀ N, loopF FQ (N + 5) (stQ 0 (3, (m : Int), t)) = need (small (wSta.length + 1)) (Option.bind (q2o_ ((m : Int), ())) fun y => need (small ((wSta ++ [32]).length + y.1.length)) (some (wSta ++ [32] ++ y.1, true, ()))) := fun N => rfl
      have hd := dg_le hm
      rw [key, q1k_ (by decide), sdigits_eq hm, Option.bind_some, q1k_ (by simp [wSta]; omega)]
      rfl
    rw [if_neg (by omega)] at hr
    by_cases h4 : k = 4
    · subst h4
      have key : ∀ N, loopF FQ (N + 5) (stQ 0 (4, (m : Int), t)) = some (wHis, true, ()) := fun N => rfl
      rw [key]
      rfl
    by_cases h5 : k = 5
    · subst h5
      have key : ∀ N, loopF FQ (N + 5) (stQ 0 (5, (m : Int), t)) = some (wSla, true, ()) := fun N => rfl
      rw [key]
      rfl
    rw [if_neg (by omega)] at hr
    cases hr
end Go.Proofs.Lx
end
section
set_option maxRecDepth 100000
namespace Go.Proofs.Lx
open Go Ev Sx Pl
def i64R (x : Int) : Prop := -9223372036854775808 ≤ x ∧ x ≤ 9223372036854775807
theorem itoa_at {x : Int} (h : i64R x) : strconv_Itoa (x, ()) = some (itF x, ()) := if_pos h
theorem digs_at {x : Int} (h : i64R x) : q71_ (x, ()) = some (itF x, ()) := if_pos h
theorem itF_len (x : Int) : (itF x).length ≤ 21 := by
  unfold itF
  split
  · have := dF_len 19 x.natAbs
    simp only [List.length_cons]
    omega
  · have := dF_len 19 x.toNat
    omega
theorem refused_eq {f : Int × Int} (h1 : i64R f.1) (h2 : i64R f.2) : ∃ t, qe1_ (f, ()) = some (t, ()) ∧ qjo_ (f, ()) = some (t, ()) := by
  obtain ⟨a, b⟩ := f
  have l1 := itF_len a
  have l2 := itF_len b
  show ∃ t, qif_ (a, b) = some (t, ()) ∧ qjy_ (a, b) = some (t, ())
  unfold qif_ qjy_
  dsimp only
  rw [itoa_at h1, itoa_at h2, digs_at h1, digs_at h2]
  simp only [Option.bind_some]
  rw [q1k_ (by omega), q1k_ (by omega)]
  by_cases hb : gt b 0 = true
  · rw [if_pos hb, if_pos hb, q1k_ (by omega), q1k_ (by omega), q1k_ (by omega), q1k_ (by simp only [List.length_append, List.length_cons, List.length_nil]; omega)]
    refine ⟨_, rfl, ?_⟩
    rw [List.append_assoc]
    rfl
  · rw [if_neg hb, if_neg hb, q1k_ (by omega)]
    exact ⟨_, rfl, rfl⟩
theorem rright_eq {o : TOrd} (hl : o.2.2.length ≤ 100000) (hu : 0 ≤ o.2.1) : qdl_ (o, ()) = some (rightO o, ()) := by
  obtain ⟨k, n, t⟩ := o
  have hl : t.length ≤ 100000 := hl
  have hu : 0 ≤ n := hu
  show qhh_ qdy_ qhg_ (k, n, t) = _
  unfold qhh_ rightO
  dsimp only
  by_cases h1 : k = 1
  · rw [if_pos (qq_.2 h1), if_pos h1]
    unfold qdy_
    have key : loopF (fun (self : (Int) × (Int × Int × List UInt8) -> Option (As [.bool])) (s : (Int) × (Int × Int × List UInt8)) => qa2_ (qbp_ (fun i o => self (i, o))) (qa6_) (fun i o => self (i, o)) s.1 s.2) 18446744073709551616 (((0 : Nat) : Int), (k, n, t)) =
        goL (fun (_ : Unit) (c : UInt8) q => if okC c = true then q () else some (false, ())) (fun _ => qa6_ (k, n, t)) (t.drop 0) () := by
      refine loop_go (xs := t) (mk := fun i _ => ((i : Int), (k, n, t))) ?_ ?_ t.length 0 () _ (by omega) (by omega)
      · intro self i acc c hc
        have hi := (List.getElem?_eq_some_iff.1 hc).1
        show qa2_ _ _ _ (i : Int) (k, n, t) = _
        unfold qa2_
        dsimp only
        rw [if_pos (by rw [q15_, qf_]; omega), at_get hc]
        simp only [Option.bind_some]
        have K : ∀ (b : Bool), qbp_ (fun a b => self (a, b)) (i : Int) b (k, n, t) = if b = true then some (false, ()) else self (((i + 1 : Nat) : Int), (k, n, t)) := fun b => by
          unfold qbp_ ql7_
          rw [q31_ (by omega)]
        have hb := c.toNat_lt
        unfold okC
        by_cases h10 : c.toNat = 10
        · have e10 : nei (Int.ofNat c.toNat) 10 = false := by
            rw [<- Bool.not_eq_true, nei_iff, qf_]
            omega
          rw [if_pos (by rw [q15_, qf_]; omega), e10, decide_eq_true h10, Bool.true_or]
          exact K false
        · have e10 : nei (Int.ofNat c.toNat) 10 = true := by
            rw [nei_iff, qf_]
            omega
          rw [e10, decide_eq_false h10, Bool.false_or]
          by_cases h32 : 32 ≤ c.toNat
          · rw [if_neg (by rw [q15_, qf_]; omega), decide_eq_true h32, Bool.true_and]
            by_cases h126 : c.toNat ≤ 126
            · rw [if_neg (by rw [q4q_, qf_]; omega), decide_eq_true h126, if_pos rfl]
              exact K false
            · rw [if_pos (by rw [q4q_, qf_]; omega), decide_eq_false h126, if_neg (by decide)]
              exact K true
          · rw [if_pos (by rw [q15_, qf_]; omega), decide_eq_false h32]
            exact K true
      · intro self acc
        show qa2_ _ _ _ (t.length : Int) (k, n, t) = _
        unfold qa2_
        dsimp only
        rw [if_neg (by rw [q15_, qf_]; omega)]
    refine key.trans ?_
    rw [List.drop_zero]
    have gen : ∀ (r : List UInt8) (z : Bool), goL (R := Bool × Unit) (fun (_ : Unit) (c : UInt8) q => if okC c = true then q () else some (false, ())) (fun _ => some (z, ())) r () = some (r.all okC && z, ()) := by
      intro r z
      induction r with
      | nil => rfl
      | cons x r ih =>
        show (if okC x = true then goL _ _ r () else some (false, ())) = _
        rw [ih, List.all_cons]
        cases okC x <;> rfl
    have e4 : qa6_ (k, n, t) = some (decide (n = 0) && decide (t.length ≤ 8192), ()) := by
      unfold qa6_ ql6_
      dsimp only
      by_cases h0 : n = 0
      · rw [if_pos (qq_.2 h0), decide_eq_true h0, Bool.true_and]
        have : le (Int.ofNat t.length) 8192 = decide (t.length ≤ 8192) := by
          rw [Bool.eq_iff_iff, le_iff, decide_eq_true_iff, qf_]
          omega
        rw [this]
      · rw [if_neg (fun e => h0 (qq_.1 e)), decide_eq_false h0]
        rfl
    rw [e4, gen]
    unfold plainT
    rw [Bool.and_comm (t.all okC), Bool.and_assoc]
  · rw [if_neg (fun e => h1 (qq_.1 e)), if_neg h1]
    have g0 : gt n 0 = decide (0 < n) := by
      rw [Bool.eq_iff_iff, q4q_, decide_eq_true_iff]
    have e0 : eqi n 0 = decide (n = 0) := by rw [Bool.eq_iff_iff, qq_, decide_eq_true_iff]
    have K5 : ∀ b : Bool, qbr_ b (k, n, t) = if b = true then some (decide (0 < n) && decide (t = []), ()) else if k = 4 ∨ k = 5 then some (decide (n = 0) && decide (t = []), ()) else some (false, ()) := fun b => by
      unfold qbr_ ql8_
      dsimp only
      rw [g0, e0, eqs_nil]
      cases b with
      | true =>
        rw [if_pos rfl, if_pos rfl]
        cases decide (0 < n) <;> rfl
      | false =>
        rw [if_neg (show ¬ (false = true) by decide), if_neg (show ¬ (false = true) by decide)]
        by_cases h4 : k = 4
        · rw [if_pos (qq_.2 h4), if_pos (show k = 4 ∨ k = 5 from .inl h4)]
          cases decide (n = 0) <;> rfl
        · rw [if_neg (fun e => h4 (qq_.1 e))]
          by_cases h5 : k = 5
          · rw [if_pos (qq_.2 h5), if_pos (show k = 4 ∨ k = 5 from .inr h5)]
            cases decide (n = 0) <;> rfl
          · rw [if_neg (fun e => h5 (qq_.1 e)), if_neg (show ¬ (k = 4 ∨ k = 5) by omega)]
    show qi1_ qbr_ (k, n, t) = _
    unfold qi1_
    dsimp only
    by_cases h2 : k = 2
    · rw [if_pos (qq_.2 h2), if_pos (.inl h2), K5, if_pos rfl]
    · rw [if_neg (fun e => h2 (qq_.1 e)), K5]
      by_cases h3 : k = 3
      · rw [if_pos (qq_.2 h3), if_pos (.inr h3)]
      · rw [if_neg (fun e => h3 (qq_.1 e)), if_neg (by omega : ¬ (k = 2 ∨ k = 3))]
        split <;> rfl
end Go.Proofs.Lx
end
section
set_option maxRecDepth 100000
namespace Go.Proofs.Lx
open Go Ev Sx Pl
theorem itF_dg {n : Int} (h0 : 0 ≤ n) (h1 : n < 4294967296) : itF n = dg n.toNat := by
  unfold itF
  rw [if_neg (by omega), dF_dg (by omega)]
theorem rprint_eq {o : TOrd} (hr : rightO o = true) (hu : 0 ≤ o.2.1 ∧ o.2.1 < 4294967296) : qdo_ (o, ()) = some (prO o, ()) := by
  obtain ⟨k, n, t⟩ := o
  have hn : 0 ≤ n ∧ n < 4294967296 := hu
  show qhl_ qbu_ (k, n, t) = _
  unfold qhl_ prO
  unfold rightO at hr
  dsimp only at hr ⊢
  have hd : q71_ (cvt .i64 n, ()) = some (dg n.toNat, ()) := by
    have e : cvt .i64 n = n := by unfold cvt; rw [w64 (by omega) (by omega)]
    rw [e, digs_at ⟨by omega, by omega⟩, itF_dg hn.1 hn.2]
  have hdl : (dg n.toNat).length ≤ 10 := dg_le (by omega)
  by_cases h1 : k = 1
  · rw [if_pos h1, Bool.and_eq_true] at hr
    have ht := plain_len hr.2
    rw [if_pos (qq_.2 h1), if_pos h1]
    have e : t.foldl (fun (o : List Int) c => o ++ encI c) [] = t.flatMap encI := by
      have : ∀ (t : List UInt8) (o : List Int), t.foldl (fun (o : List Int) c => o ++ encI c) o = o ++ t.flatMap encI := by
        intro t
        induction t with
        | nil => intro o; simp
        | cons c t ih => intro o; rw [List.foldl_cons, ih, List.flatMap_cons, List.append_assoc]
      rw [this, List.nil_append]
    have key : qbu_ 0 (k, n, t) [] = qbt_ ((t.drop 0).foldl (fun (o : List Int) c => o ++ encI c) []) := by
      unfold qbu_
      refine loop_idx (xs := t) (stp := fun (o : List Int) c => o ++ encI c) (mk := fun i (o : List Int) => ((i : Int), (k, n, t), o)) (fin := qbt_) (fun i o => o.length ≤ 2 * i) ?_ ?_ ?_ t.length 0 [] _ (by omega) (by omega) (by simp)
      · intro self i o c hc hI
        have hi := (List.getElem?_eq_some_iff.1 hc).1
        show qbo_ _ _ _ (i : Int) (k, n, t) o = _
        unfold qbo_
        have a10 : eqi (Int.ofNat c.toNat) 10 = true ↔ c = 10 := c_eq (k := 10) (by omega)
        have a92 : eqi (Int.ofNat c.toNat) 92 = true ↔ c = 92 := c_eq (k := 92) (by omega)
        have K : ∀ q : List Int, qed_ (fun i o out => self (i, o, out)) (i : Int) (k, n, t) q = self (((i + 1 : Nat) : Int), (k, n, t), q) := fun q => by
          unfold qed_ qla_
          rw [q31_ (by omega)]
        dsimp only
        rw [if_pos (by rw [q15_, qf_]; omega), at_get hc]
        simp only [Option.bind_some]
        unfold encI
        by_cases h10 : c = 10
        · rw [if_pos (a10.2 h10), if_pos h10, q1k_ (by omega)]
          exact K _
        · rw [if_neg (fun e => h10 (a10.1 e)), if_neg h10]
          by_cases h92 : c = 92
          · rw [if_pos (a92.2 h92), if_pos h92, q1k_ (by omega)]
            exact K _
          · rw [if_neg (fun e => h92 (a92.1 e)), if_neg h92, q1k_ (by omega)]
            exact K _
      · intro i o c _ hI
        have := enc_len c
        show (o ++ encI c).length ≤ 2 * (i + 1)
        rw [List.length_append]
        omega
      · intro self o hI
        show qbo_ _ _ _ (t.length : Int) (k, n, t) o = _
        unfold qbo_
        dsimp only
        rw [if_neg (by rw [q15_, qf_]; omega)]
    rw [key, List.drop_zero, e]
    unfold qbt_ ql5_
    have hw := wrt_len t
    rw [toS_flat, q1k_ (by omega)]
    rfl
  · rw [if_neg (fun e => h1 (qq_.1 e)), if_neg h1]
    by_cases h2 : k = 2
    · rw [if_pos (qq_.2 h2), if_pos h2, hd]
      simp only [Option.bind_some]
      rw [q1k_ (by omega)]
      rfl
    · rw [if_neg (fun e => h2 (qq_.1 e)), if_neg h2]
      by_cases h3 : k = 3
      · rw [if_pos (qq_.2 h3), if_pos h3, hd]
        simp only [Option.bind_some]
        rw [q1k_ (by omega)]
        rfl
      · rw [if_neg (fun e => h3 (qq_.1 e)), if_neg h3]
        by_cases h4 : k = 4
        · rw [if_pos (qq_.2 h4), if_pos h4]
          rfl
        · rw [if_neg (fun e => h4 (qq_.1 e)), if_neg h4]
          rfl
def nBody (n : Int) (c : UInt8) (k : Int -> Option (As [.int .u32])) : Option (As [.int .u32]) :=
  if c.toNat < 48 ∨ 57 < c.toNat ∨ n > 4294967295 then some (0, ()) else k (add .u64 (mul .u64 n 10) (cvt .u64 (Sx.sub .u8 (Int.ofNat c.toNat) 48)))
def nFin (n : Int) : Option (As [.int .u32]) := if n > 4294967295 then some (0, ()) else some (cvt .u32 n, ())
theorem number_go {s : List UInt8} (hl : s.length ≤ 100000) : qbv_ (s, ()) = goL nBody nFin s 0 := by
  show qgd_ qcu_ s = _
  unfold qgd_ qcu_
  refine (loop_go (xs := s) (mk := fun i (n : Int) => (s, n, (i : Int))) (body := nBody) (fin := nFin) ?_ ?_ s.length 0 0 _ (by omega) (by omega)).trans (by rw [List.drop_zero])
  · intro self i n c hc
    have hi := (List.getElem?_eq_some_iff.1 hc).1
    show qat_ _ _ _ s n (i : Int) = _
    unfold qat_ nBody
    rw [if_pos (by rw [q15_, qf_]; omega), at_get hc]
    simp only [Option.bind_some]
    have K : ∀ b : Bool, qcz_ (fun s n i => self (s, n, i)) s n (i : Int) b = if b = true then some (0, ()) else self (s, add .u64 (mul .u64 n 10) (cvt .u64 (Sx.sub .u8 (Int.ofNat c.toNat) 48)), ((i + 1 : Nat) : Int)) := fun b => by
      unfold qcz_ qkh_
      rw [at_get hc, Option.bind_some, q31_ (by omega)]
    by_cases h48 : c.toNat < 48
    · rw [if_pos (by rw [q15_, qf_]; omega), if_pos (.inl h48)]
      exact K true
    · rw [if_neg (by rw [q15_, qf_]; omega)]
      by_cases h57 : 57 < c.toNat
      · rw [if_pos (by rw [q4q_, qf_]; omega), if_pos (.inr (.inl h57))]
        exact K true
      · rw [if_neg (by rw [q4q_, qf_]; omega)]
        refine (K _).trans ?_
        by_cases hb : n > 4294967295
        · rw [if_pos (q4q_.2 hb), if_pos (.inr (.inr hb))]
        · rw [if_neg (fun e => hb (q4q_.1 e)), if_neg (by omega)]
  · intro self n
    show qat_ _ _ _ s n (s.length : Int) = _
    unfold qat_ nFin qg9_ qkz_
    rw [if_neg (by rw [q15_, qf_]; omega)]
    by_cases hb : n > 4294967295
    · rw [if_pos (q4q_.2 hb), if_pos hb]
    · rw [if_neg (fun e => hb (q4q_.1 e)), if_neg hb]
theorem c32 {x : Int} (h0 : 0 ≤ x) (h1 : x < 4294967296) : cvt .u32 x = x := by
  unfold cvt
  rw [wu32 h0 (by omega)]
theorem dig_step {n : Int} {c : UInt8} (h0 : 0 ≤ n) (h1 : n ≤ 4294967295) (h2 : 48 ≤ c.toNat) : add .u64 (mul .u64 n 10) (cvt .u64 (Sx.sub .u8 (Int.ofNat c.toNat) 48)) = 10 * n + ((c.toNat - 48 : Nat) : Int) := by
  have hb := c.toNat_lt
  have e1 : Sx.sub .u8 (Int.ofNat c.toNat) 48 = ((c.toNat - 48 : Nat) : Int) := by
    unfold Sx.sub
    rw [qf_, wu8 (by omega) (by omega)]
    omega
  rw [e1]
  unfold add mul cvt
  rw [wu64 (x := n * 10) (by omega) (by omega), wu64 (x := ((c.toNat - 48 : Nat) : Int)) (by omega) (by omega), wu64 (by omega) (by omega)]
  omega
theorem num_ok : ∀ (r : List UInt8) (n : Int), 0 ≤ n -> ∃ v : Int, goL nBody nFin r n = some (v, ()) ∧ 0 ≤ v ∧ v < 4294967296
  | [], n, h => by
    show ∃ v : Int, nFin n = some (v, ()) ∧ _
    unfold nFin
    by_cases hb : n > 4294967295
    · rw [if_pos hb]
      exact ⟨0, rfl, by omega, by omega⟩
    · rw [if_neg hb, c32 h (by omega)]
      exact ⟨n, rfl, h, by omega⟩
  | c :: r, n, h => by
    show ∃ v : Int, nBody n c (fun a => goL nBody nFin r a) = some (v, ()) ∧ _
    unfold nBody
    by_cases hb : c.toNat < 48 ∨ 57 < c.toNat ∨ n > 4294967295
    · rw [if_pos hb]
      exact ⟨0, rfl, by omega, by omega⟩
    · rw [if_neg hb, dig_step h (by omega) (by omega)]
      exact num_ok r _ (by omega)
theorem num_val : ∀ (r : List UInt8) (n : Nat), (∀ c ∈ r, 48 ≤ c.toNat ∧ c.toNat ≤ 57) -> r.foldl (fun a c => 10 * a + (c.toNat - 48)) n < 4294967296 -> goL nBody nFin r (n : Int) = some (((r.foldl (fun a c => 10 * a + (c.toNat - 48)) n : Nat) : Int), ())
  | [], n, _, h => by
    have h : n < 4294967296 := h
    show nFin (n : Int) = _
    unfold nFin
    rw [if_neg (by omega), c32 (by omega) (by omega)]
    rfl
  | c :: r, n, hd, h => by
    have hc := hd c (by simp)
    have hg := fold_ge r (10 * n + (c.toNat - 48))
    have h : r.foldl (fun a c => 10 * a + (c.toNat - 48)) (10 * n + (c.toNat - 48)) < 4294967296 := h
    show nBody (n : Int) c (fun a => goL nBody nFin r a) = _
    unfold nBody
    rw [if_neg (by omega), dig_step (by omega) (by omega) hc.1]
    have := num_val r (10 * n + (c.toNat - 48)) (fun x hx => hd x (by simp [hx])) h
    rw [show (((10 * n + (c.toNat - 48) : Nat)) : Int) = 10 * (n : Int) + ((c.toNat - 48 : Nat) : Int) by omega] at this
    exact this
def numV (r : List UInt8) : Int := match goL nBody nFin r 0 with
  | some (v, _) => v
  | none => 0
theorem number_eq {r : List UInt8} (hl : r.length ≤ 100000) : qbv_ (r, ()) = some (numV r, ()) ∧ 0 ≤ numV r ∧ numV r < 4294967296 := by
  obtain ⟨v, h1, h2, h3⟩ := num_ok r 0 (by omega)
  have e : numV r = v := by unfold numV; rw [h1]
  rw [number_go hl, h1, e]
  exact ⟨rfl, h2, h3⟩
theorem numV_dg {n : Nat} (h : n < 4294967296) : numV (dg n) = n := by
  have hv : (dg n).foldl (fun a c => 10 * a + (c.toNat - 48)) 0 = n := vl_dg n
  have := num_val (dg n) 0 (dg_dig n) (by rw [hv]; exact h)
  unfold numV
  rw [show ((0 : Nat) : Int) = 0 from rfl] at this
  rw [this, hv]
end Go.Proofs.Lx
end
section
set_option maxRecDepth 100000
namespace Go.Proofs.Lx
open Go Ev Sx Pl
def dec : List UInt8 -> List UInt8
  | [] => []
  | [c] => [c]
  | c :: d :: q => if c = 92 then (if d = 110 then 10 else d) :: dec q else c :: dec (d :: q)
theorem dec_cons {c : UInt8} (h : c ≠ 92) (q : List UInt8) : dec (c :: q) = c :: dec q := by
  cases q with
  | nil => rfl
  | cons d q => rw [dec, if_neg h]
theorem dec_bs (d : UInt8) (q : List UInt8) : dec (92 :: d :: q) = (if d = 110 then 10 else d) :: dec q := by rw [dec, if_pos rfl]
theorem dec_wrt : ∀ t : List UInt8, dec (wrt t) = t
  | [] => rfl
  | c :: t => by
    rw [wrt_cons]
    by_cases h10 : c = 10
    · rw [if_pos h10]
      show dec (92 :: 110 :: wrt t) = _
      rw [dec_bs, if_pos rfl, dec_wrt t, h10]
    · rw [if_neg h10]
      by_cases h92 : c = 92
      · rw [if_pos h92]
        show dec (92 :: 92 :: wrt t) = _
        rw [dec_bs, if_neg (by decide), dec_wrt t, h92]
      · rw [if_neg h92]
        show dec (c :: wrt t) = _
        rw [dec_cons h92, dec_wrt t]
theorem dec_len : ∀ (n : Nat) (q : List UInt8), q.length ≤ n -> (dec q).length ≤ q.length
  | _, [], _ => Nat.le_refl _
  | _, [c], _ => Nat.le_refl _
  | 0, _ :: _ :: _, h => by simp at h
  | n + 1, c :: d :: q, h => by
    rw [dec]
    split
    · have := dec_len n q (by simp at h; omega)
      simp only [List.length_cons]
      omega
    · have := dec_len n (d :: q) (by simp at h ⊢; omega)
      simp only [List.length_cons] at this ⊢
      omega
abbrev S0 : TOrd := (0, 0, [])
theorem toS_snoc (o : List Int) (c : UInt8) : toS (o ++ [Int.ofNat c.toNat]) = toS o ++ [c] := by rw [toS_app, toS_c]
theorem text_eq {s r : List UInt8} (hl : r.length ≤ 100000) : qbl_ s r 0 S0 S0 [] = q37_ s S0 (1, 0, dec r) := by
  unfold qbl_
  refine (loopF_eq (σ := List UInt8 × List UInt8 × Int × TOrd × TOrd × List Int)
    (Inv := fun st => st.1 = s ∧ st.2.1 = r ∧ ∃ n : Nat, st.2.2.1 = (n : Int) ∧ n ≤ r.length ∧ st.2.2.2.2.2.length ≤ n ∧ st.2.2.2.1 = S0 ∧ st.2.2.2.2.1 = S0)
    (μ := fun st => r.length - st.2.2.1.toNat) (G := fun st => q37_ s S0 (1, 0, toS st.2.2.2.2.2 ++ dec (r.drop st.2.2.1.toNat))) ?_ 18446744073709551616 (s, r, 0, S0, S0, [])
    ⟨rfl, rfl, 0, rfl, Nat.zero_le _, Nat.le_refl _, rfl, rfl⟩ (by show r.length - 0 < _; omega)).trans rfl
  rintro self ⟨s', r', i, t2, o0, out⟩ ⟨h1, h2, n, hi, hn, ho, h3, h4⟩ ih
  have h1 : s' = s := h1
  have h2 : r' = r := h2
  have hi : i = (n : Int) := hi
  have h3 : t2 = S0 := h3
  have h4 : o0 = S0 := h4
  subst h1 h2 hi h3 h4
  have ho : out.length ≤ n := ho
  show qhx_ _ _ _ s' r' (n : Int) S0 S0 out = q37_ s' S0 (1, 0, toS out ++ dec (r'.drop (n : Int).toNat))
  rw [Int.toNat_natCast]
  have go : ∀ (m : Nat) (c : UInt8), n < m -> m ≤ r'.length -> self (s', r', (m : Int), S0, S0, out ++ [Int.ofNat c.toNat]) = q37_ s' S0 (1, 0, toS out ++ c :: dec (r'.drop m)) := by
    intro m c g1 g2
    rw [ih (s', r', (m : Int), S0, S0, out ++ [Int.ofNat c.toNat]) ⟨rfl, rfl, m, rfl, g2, by simp; omega, rfl, rfl⟩ (by show r'.length - (m : Int).toNat < r'.length - (n : Int).toNat; omega)]
    show q37_ s' S0 (1, 0, toS (out ++ [Int.ofNat c.toNat]) ++ dec (r'.drop (m : Int).toNat)) = _
    rw [Int.toNat_natCast, toS_snoc, List.append_assoc]
    rfl
  unfold qhx_
  by_cases hlt : n < r'.length
  · obtain ⟨c, hc⟩ : ∃ c, r'[n]? = some c := ⟨_, List.getElem?_eq_getElem hlt⟩
    have hd : r'.drop n = c :: r'.drop (n + 1) := by
      rw [List.drop_eq_getElem_cons hlt]
      rw [List.getElem?_eq_getElem hlt] at hc
      rw [Option.some.inj hc]
    have a92 : eqi (Int.ofNat c.toNat) 92 = true ↔ c = 92 := c_eq (k := 92) (by omega)
    rw [if_pos (by rw [q15_, qf_]; omega), at_get hc, Option.bind_some, hd, q31_ (by omega)]
    have K6 : ∀ (m : Nat) (x : UInt8), n ≤ m -> m < r'.length -> qe8_ (fun a b c d e f => self (a, b, c, d, e, f)) s' r' (m : Int) (Int.ofNat x.toNat) S0 S0 out = q37_ s' S0 (1, 0, toS out ++ x :: dec (r'.drop (m + 1))) := fun m x g1 g2 => by
      unfold qe8_ ql9_
      rw [q1k_ (by show out.length + 1 ≤ 1073741824; omega), q31_ (by omega)]
      exact go (m + 1) x (by omega) (by omega)
    have K4 : qbn_ (fun a b c d e f => self (a, b, c, d, e, f)) s' r' (n : Int) (Int.ofNat c.toNat) false S0 S0 out = q37_ s' S0 (1, 0, toS out ++ c :: dec (r'.drop (n + 1))) := by
      unfold qbn_ qhf_
      rw [if_neg (by decide)]
      exact K6 n c (Nat.le_refl _) hlt
    by_cases h92 : c = 92
    · rw [if_pos (a92.2 h92)]
      by_cases he : n + 1 = r'.length
      · have hf : lt ((n + 1 : Nat) : Int) (Int.ofNat r'.length) = false := by
          rw [<- Bool.not_eq_true, q15_, qf_]
          omega
        rw [hf, K4, List.drop_of_length_le (by omega)]
        rfl
      · have hf : lt ((n + 1 : Nat) : Int) (Int.ofNat r'.length) = true := by
          rw [q15_, qf_]
          omega
        have hlt2 : n + 1 < r'.length := by omega
        obtain ⟨d, hdd⟩ : ∃ d, r'[n + 1]? = some d := ⟨_, List.getElem?_eq_getElem hlt2⟩
        have hd2 : r'.drop (n + 1) = d :: r'.drop (n + 2) := by
          rw [List.drop_eq_getElem_cons hlt2]
          rw [List.getElem?_eq_getElem hlt2] at hdd
          rw [Option.some.inj hdd]
        have b110 : eqi (Int.ofNat d.toNat) 110 = true ↔ d = 110 := c_eq (k := 110) (by omega)
        rw [hf]
        unfold qbn_ qhf_
        rw [if_pos rfl, q31_ (by omega), at_get hdd, Option.bind_some, hd2, h92, dec_bs]
        by_cases h110 : d = 110
        · rw [if_pos (b110.2 h110), if_pos h110]
          exact K6 (n + 1) 10 (by omega) hlt2
        · rw [if_neg (fun e => h110 (b110.1 e)), if_neg h110]
          exact K6 (n + 1) d (by omega) hlt2
    · rw [if_neg (fun e => h92 (a92.1 e)), K4, dec_cons h92]
  · have hn' : n ≤ r'.length := hn
    have he : n = r'.length := by omega
    rw [if_neg (by rw [q15_, qf_]; omega), List.drop_of_length_le (by omega)]
    show qhb_ s' S0 S0 out = q37_ s' S0 (1, 0, toS out ++ [])
    rw [List.append_nil]
    rfl
end Go.Proofs.Lx
end
section
set_option maxRecDepth 100000
namespace Go.Proofs.Lx
open Go Ev Sx Pl
abbrev wSub2 : List UInt8 := [115, 117, 98, 109, 105, 116, 32]
abbrev wCan2 : List UInt8 := [99, 97, 110, 99, 101, 108, 32]
abbrev wSta2 : List UInt8 := [115, 116, 97, 116, 117, 115, 32]
def cand (s : List UInt8) : TOrd :=
  if s = wHis then (4, 0, []) else if s = wSla then (5, 0, []) else if 7 ≤ s.length then
    (if s.take 7 = wSub2 then (1, 0, dec (s.drop 7)) else if s.take 7 = wCan2 then (2, numV (s.drop 7), []) else if s.take 7 = wSta2 then (3, numV (s.drop 7), []) else S0) else S0
theorem cand_dom {s : List UInt8} (hl : s.length ≤ 100000) : (cand s).2.2.length ≤ 100000 ∧ 0 ≤ (cand s).2.1 ∧ (cand s).2.1 < 4294967296 := by
  have hd : (s.drop 7).length ≤ 100000 := by rw [List.length_drop]; omega
  have h1 := number_eq hd
  have h2 := dec_len _ (s.drop 7) (Nat.le_refl _)
  unfold cand
  split
  · exact ⟨Nat.zero_le _, by decide, by decide⟩
  split
  · exact ⟨Nat.zero_le _, by decide, by decide⟩
  split
  · split
    · exact ⟨by show (dec (s.drop 7)).length ≤ 100000; omega, by show (0 : Int) ≤ 0; omega, by show (0 : Int) < 4294967296; omega⟩
    split
    · exact ⟨Nat.zero_le _, h1.2.1, h1.2.2⟩
    split
    · exact ⟨Nat.zero_le _, h1.2.1, h1.2.2⟩
    · exact ⟨Nat.zero_le _, by decide, by decide⟩
  · exact ⟨Nat.zero_le _, by decide, by decide⟩
theorem cand_parse {s : List UInt8} (hl : s.length ≤ 100000) : qfh_ (s, ()) = q37_ s S0 (cand s) := by
  have hd : (s.drop 7).length ≤ 100000 := by rw [List.length_drop]; omega
  show qi0_ q37_ qbl_ s = _
  unfold qi0_ cand
  rw [show ([104, 105, 115, 116, 111, 114, 121] : List UInt8) = wHis from rfl, show ([115, 108, 97, 118, 101, 115] : List UInt8) = wSla from rfl]
  by_cases h1 : s = wHis
  · rw [if_pos (eqs_iff.2 h1), if_pos h1]
  rw [if_neg (fun e => h1 (eqs_iff.1 e)), if_neg h1]
  by_cases h2 : s = wSla
  · rw [if_pos (eqs_iff.2 h2), if_pos h2]
  rw [if_neg (fun e => h2 (eqs_iff.1 e)), if_neg h2]
  by_cases h3 : 7 ≤ s.length
  · rw [if_pos (by rw [q5n_, qf_]; omega), if_pos h3]
    have c1 : cut s 0 7 = some (s.take 7) := cut_to (j := 7) h3
    have c2 : cut s 7 (Int.ofNat s.length) = some (s.drop 7) := cut_from (i := 7) h3
    rw [c1, c2, Option.bind_some, Option.bind_some]
    by_cases h4 : s.take 7 = wSub2
    · rw [if_pos (eqs_iff.2 h4), if_pos h4]
      exact text_eq hd
    rw [if_neg (fun e => h4 (eqs_iff.1 e)), if_neg h4]
    by_cases h5 : s.take 7 = wCan2
    · rw [if_pos (eqs_iff.2 h5), if_pos h5, (number_eq hd).1, Option.bind_some]
    rw [if_neg (fun e => h5 (eqs_iff.1 e)), if_neg h5]
    by_cases h6 : s.take 7 = wSta2
    · rw [if_pos (eqs_iff.2 h6), if_pos h6, (number_eq hd).1, Option.bind_some]
    rw [if_neg (fun e => h6 (eqs_iff.1 e)), if_neg h6]
  · rw [if_neg (by rw [q5n_, qf_]; omega), if_neg h3]
theorem take7 (a b c d e f g : UInt8) (x : List UInt8) : List.take 7 (a :: b :: c :: d :: e :: f :: g :: x) = [a, b, c, d, e, f, g] := rfl
theorem cand_pr {p : TOrd} (hr : rightO p = true) (h0 : 0 ≤ p.2.1) (h1 : p.2.1 < 4294967296) : cand (prO p) = p := by
  obtain ⟨k, n, t⟩ := p
  have h0 : 0 ≤ n := h0
  have h1 : n < 4294967296 := h1
  unfold rightO at hr
  dsimp only at hr
  have hnum : numV (dg n.toNat) = n := by
    rw [numV_dg (by omega)]
    omega
  by_cases k1 : k = 1
  · subst k1
    rw [if_pos rfl, Bool.and_eq_true, decide_eq_true_eq] at hr
    obtain ⟨rfl, _⟩ := hr
    show cand (115 :: 117 :: 98 :: 109 :: 105 :: 116 :: 32 :: wrt t) = _
    unfold cand
    rw [if_neg (by simp [wHis]), if_neg (by simp [wSla]), if_pos (by simp only [List.length_cons]; omega), take7, if_pos rfl]
    show (1, 0, dec (wrt t)) = _
    rw [dec_wrt]
  rw [if_neg k1] at hr
  by_cases k2 : k = 2
  · subst k2
    rw [if_pos (.inl rfl), Bool.and_eq_true, decide_eq_true_eq, decide_eq_true_eq] at hr
    obtain ⟨_, rfl⟩ := hr
    show cand (99 :: 97 :: 110 :: 99 :: 101 :: 108 :: 32 :: dg n.toNat) = _
    unfold cand
    rw [if_neg (by simp [wHis]), if_neg (by simp [wSla]), if_pos (by simp only [List.length_cons]; omega), take7, if_neg (by decide), if_pos rfl]
    show (2, numV (dg n.toNat), []) = _
    rw [hnum]
  by_cases k3 : k = 3
  · subst k3
    rw [if_pos (.inr rfl), Bool.and_eq_true, decide_eq_true_eq, decide_eq_true_eq] at hr
    obtain ⟨_, rfl⟩ := hr
    show cand (115 :: 116 :: 97 :: 116 :: 117 :: 115 :: 32 :: dg n.toNat) = _
    unfold cand
    rw [if_neg (by simp [wHis]), if_neg (by simp [wSla]), if_pos (by simp only [List.length_cons]; omega), take7, if_neg (by decide), if_neg (by decide), if_pos rfl]
    show (3, numV (dg n.toNat), []) = _
    rw [hnum]
  rw [if_neg (by omega)] at hr
  by_cases k4 : k = 4
  · subst k4
    rw [if_pos (.inl rfl), Bool.and_eq_true, decide_eq_true_eq, decide_eq_true_eq] at hr
    obtain ⟨rfl, rfl⟩ := hr
    rfl
  by_cases k5 : k = 5
  · subst k5
    rw [if_pos (.inr rfl), Bool.and_eq_true, decide_eq_true_eq, decide_eq_true_eq] at hr
    obtain ⟨rfl, rfl⟩ := hr
    rfl
  rw [if_neg (by omega)] at hr
  cases hr
theorem rK1_eq {s : List UInt8} {o : TOrd} (h1 : o.2.2.length ≤ 100000) (h2 : 0 ≤ o.2.1) (h3 : o.2.1 < 4294967296) :
    q37_ s S0 o = if rightO o = true ∧ prO o = s then some (o, 0, ()) else some (S0, 280, ()) := by
  unfold q37_ ql4_
  rw [rright_eq h1 h2, Option.bind_some]
  dsimp only
  cases hr : rightO o with
  | false =>
    rw [if_pos (by decide), if_neg (by simp)]
    rfl
  | true =>
    rw [if_neg (by decide), rprint_eq hr ⟨h2, h3⟩, Option.bind_some]
    unfold qhp_ ql3_
    dsimp only
    by_cases hp : prO o = s
    · rw [if_neg (by rw [nes_iff]; exact fun e => e hp), if_pos (⟨rfl, hp⟩ : true = true ∧ prO o = s)]
    · rw [if_pos (nes_iff.2 hp), if_neg (fun e : true = true ∧ prO o = s => hp e.2)]
theorem rparse_eq {s : List UInt8} (hl : s.length ≤ 100000) : qfh_ (s, ()) = outP (some (S0, 280, ())) (parO s) := by
  obtain ⟨h1, h2, h3⟩ := cand_dom hl
  rw [cand_parse hl, rK1_eq h1 h2 h3]
  cases hp : parO s with
  | some p =>
    obtain ⟨g1, g2, g3, g4, g5, g6⟩ := parO_back hp
    have := cand_pr g1 g5 g6
    rw [g2] at this
    rw [this, if_pos ⟨g1, g2⟩]
    rfl
  | none =>
    rw [if_neg]
    · rfl
    · rintro ⟨g1, g2⟩
      have := parO_pr g1 h3
      rw [g2, hp] at this
      cases this
end Go.Proofs.Lx
end
section
namespace Go.Proofs.Lx
open Go Ev Sx Pl
set_option maxRecDepth 100000
abbrev TJob := Int × Int × List Int × Int
def rightJ : Int -> List TJob -> Bool
  | _, [] => true
  | b, j :: r => decide (b < j.1 ∧ j.2.1 ≠ 0 ∧ j.2.2.1.length ≤ 8192 ∧ 1 ≤ j.2.2.2 ∧ j.2.2.2 ≤ 5) && rightJ j.1 r
theorem rightJ_cons (b : Int) (j : TJob) (r : List TJob) : rightJ b (j :: r) = (decide (b < j.1 ∧ j.2.1 ≠ 0 ∧ j.2.2.1.length ≤ 8192 ∧ 1 ≤ j.2.2.2 ∧ j.2.2.2 ≤ 5) && rightJ j.1 r) := rfl
theorem rightJ_go : ∀ (r : List TJob) (b : Int), goL (R := Bool × Unit) (fun (b : Int) (j : TJob) k => if b < j.1 ∧ j.2.1 ≠ 0 ∧ j.2.2.1.length ≤ 8192 ∧ 1 ≤ j.2.2.2 ∧ j.2.2.2 ≤ 5 then k j.1 else some (false, ())) (fun _ => some (true, ())) r b = some (rightJ b r, ())
  | [], _ => rfl
  | j :: r, b => by
    show (if _ then goL _ _ r j.1 else _) = _
    rw [rightJ_go r j.1, rightJ_cons]
    split
    · rename_i h
      rw [decide_eq_true h, Bool.true_and]
    · rename_i h
      rw [decide_eq_false h, Bool.false_and]
abbrev Rise (l : List TJob) : Prop := l.Pairwise (fun a b => a.1 < b.1)
theorem rightJ_rise : ∀ {l : List TJob} {b : Int}, rightJ b l = true -> Rise l ∧ ∀ j ∈ l, b < j.1
  | [], _, _ => ⟨.nil, by simp⟩
  | j :: r, b, h => by
    rw [rightJ_cons] at h
    rw [Bool.and_eq_true, decide_eq_true_eq] at h
    obtain ⟨h1, h2⟩ := rightJ_rise h.2
    refine ⟨.cons h2 h1, fun x hx => ?_⟩
    rcases List.mem_cons.1 hx with e | e
    · rw [e]; exact h.1.1
    · have := h2 x e
      omega
theorem rightJ_mem : ∀ {l : List TJob} {b : Int}, rightJ b l = true -> ∀ j ∈ l, j.2.1 ≠ 0 ∧ j.2.2.1.length ≤ 8192 ∧ 1 ≤ j.2.2.2 ∧ j.2.2.2 ≤ 5
  | [], _, _ => by simp
  | j :: r, b, h => by
    rw [rightJ_cons] at h
    rw [Bool.and_eq_true, decide_eq_true_eq] at h
    intro x hx
    rcases List.mem_cons.1 hx with e | e
    · rw [e]; exact h.1.2
    · exact rightJ_mem h.2 x e
theorem rise_get {l : List TJob} (h : Rise l) {i k : Nat} {x y : TJob} (hi : l[i]? = some x) (hk : l[k]? = some y) (hlt : i < k) : x.1 < y.1 := by
  obtain ⟨a, rfl⟩ := List.getElem?_eq_some_iff.1 hi
  obtain ⟨b, rfl⟩ := List.getElem?_eq_some_iff.1 hk
  exact List.pairwise_iff_getElem.1 h i k a b hlt
theorem half64 {i j : Nat} (h : i + j < 1000000000000) : cvt .i64 (Sx.shr .u64 (cvt .u64 (add .i64 (i : Int) (j : Int))) 1) = (((i + j) / 2 : Nat) : Int) := by
  rw [addn64 (by omega)]
  have e1 : cvt .u64 (((i + j : Nat) : Int)) = ((i + j : Nat) : Int) := wu64 (by omega) (by omega)
  have e2 : Sx.shr .u64 ((i + j : Nat) : Int) 1 = (((i + j) / 2 : Nat) : Int) := by
    unfold Sx.shr
    have : min (1 : Int).toNat IntKind.u64.bits = 1 := rfl
    rw [this, Int.fdiv_eq_ediv_of_nonneg _ (by decide)]
    omega
  rw [e1, e2, cvt64 (by omega) (by omega)]
theorem cmp_eq (j : TJob) (t : Int) : qh2_ (j, t, ()) = some ((if j.1 < t then -1 else if t < j.1 then 1 else 0), ()) := by
  show qkl_ j t = _
  unfold qkl_
  simp only [lt_dec, gt_dec, decide_eq_true_eq]
  split
  · rfl
  · split <;> rfl
theorem lb_ex {l : List TJob} (h : Rise l) (t : Int) : ∃ i : Nat, i ≤ l.length ∧ ∀ k x, l[k]? = some x -> (x.1 < t ↔ k < i) := by
  induction l with
  | nil => exact ⟨0, Nat.le_refl _, by simp⟩
  | cons j r ih =>
    obtain ⟨i, h1, h2⟩ := ih h.of_cons
    by_cases hj : j.1 < t
    · refine ⟨i + 1, by simpa using h1, fun k x hk => ?_⟩
      cases k with
      | zero => simp at hk; subst hk; simp [hj]
      | succ k => rw [h2 k x (by simpa using hk)]; omega
    · refine ⟨0, by omega, fun k x hk => ?_⟩
      cases k with
      | zero => simp at hk; subst hk; simp [hj]
      | succ k =>
        have := rise_get h (i := 0) (k := k + 1) rfl hk (by omega)
        omega
theorem bs_eq {l : List TJob} (hs : Rise l) (hl : l.length ≤ 1000000) (t : Int) : ∃ i : Nat, i ≤ l.length ∧ (∀ k x, l[k]? = some x -> (x.1 < t ↔ k < i)) ∧ ∃ b, q4h_ (l, t, ()) = some ((i : Int), b, ()) := by
  obtain ⟨i, h1, h2⟩ := lb_ex hs t
  refine ⟨i, h1, h2, ?_⟩
  have fin : ∃ b, q4v_ l t (Int.ofNat l.length) (i : Int) = some ((i : Int), b, ()) := by
    unfold q4v_ q8k_
    by_cases hi : i < l.length
    · rw [if_pos (by rw [q15_, qf_]; omega), at_get (List.getElem?_eq_getElem hi), Option.bind_some, cmp_eq]
      exact ⟨_, rfl⟩
    · rw [if_neg (by rw [q15_, qf_]; omega)]
      exact ⟨_, rfl⟩
  obtain ⟨b, hb⟩ := fin
  refine ⟨b, ?_⟩
  show q4u_ l t (Int.ofNat l.length) ((0 : Nat) : Int) (l.length : Int) = _
  unfold q4u_
  refine loopF_eq (Inv := fun s => ∃ p q : Nat, s = (l, t, Int.ofNat l.length, (p : Int), (q : Int)) ∧ p ≤ i ∧ i ≤ q ∧ q ≤ l.length) (μ := fun s => (s.2.2.2.2 - s.2.2.2.1).toNat) (G := fun _ => some ((i : Int), b, ())) ?_ _ _ ⟨0, l.length, rfl, Nat.zero_le _, h1, Nat.le_refl _⟩ (by dsimp only; omega)
  rintro self s ⟨p, q, rfl, hp, hq, hn⟩ ih
  show q6l_ _ _ l t (Int.ofNat l.length) (p : Int) (q : Int) = _
  unfold q6l_
  by_cases hpq : p < q
  · have hm : (p + q) / 2 < l.length := by omega
    have hg := List.getElem?_eq_getElem hm
    rw [if_pos (by rw [q15_]; omega), half64 (by omega), at_get hg, Option.bind_some, cmp_eq, Option.bind_some]
    dsimp only
    have := h2 _ _ hg
    by_cases hc : (l[(p + q) / 2]'hm).1 < t
    · rw [if_pos hc, if_pos (by decide), q31_ (by omega)]
      exact ih _ ⟨(p + q) / 2 + 1, q, rfl, by omega, hq, hn⟩ (by dsimp only; omega)
    · rw [if_neg hc]
      have e : ∀ x : Int, x = (if t < (l[(p + q) / 2]'hm).1 then 1 else 0) -> ¬ (lt x 0 = true) := fun x hx => by
        rw [q15_, hx]
        split <;> decide
      rw [if_neg (e _ rfl)]
      exact ih _ ⟨p, (p + q) / 2, rfl, hp, by omega, by omega⟩ (by dsimp only; omega)
  · rw [if_neg (by rw [q15_]; omega)]
    have : p = i := by omega
    rw [this]
    exact hb
theorem find_yes {l : List TJob} (hs : Rise l) (hl : l.length ≤ 1000000) {i : Nat} {j : TJob} (hj : l[i]? = some j) : qje_ (l, j.1, ()) = some ((i : Int), true, ()) := by
  obtain ⟨k, h1, h2, b, h3⟩ := bs_eq hs hl j.1
  have hi := (List.getElem?_eq_some_iff.1 hj).1
  have e : k = i := by
    have := h2 i j hj
    by_cases hk : k < l.length
    · have a1 := h2 k _ (List.getElem?_eq_getElem hk)
      rcases Nat.lt_trichotomy k i with h | h | h
      · have := rise_get hs (List.getElem?_eq_getElem hk) hj h
        omega
      · exact h
      · omega
    · omega
  subst e
  show qbq_ qdw_ l j.1 = _
  unfold qbq_ qld_
  show Option.bind (Option.bind (q4h_ (l, j.1, ())) _) _ = _
  rw [h3, Option.bind_some, Option.bind_some]
  dsimp only
  rw [if_neg (by rw [q5n_, qf_]; omega), at_get hj, Option.bind_some]
  have : nei j.1 j.1 = false := by simp [nei]
  rw [this]
  rfl
theorem find_no {l : List TJob} (hs : Rise l) (hl : l.length ≤ 1000000) {t : Int} (ht : ∀ j ∈ l, j.1 ≠ t) : qje_ (l, t, ()) = some (0, false, ()) := by
  obtain ⟨k, h1, h2, b, h3⟩ := bs_eq hs hl t
  show qbq_ qdw_ l t = _
  unfold qbq_ qld_
  show Option.bind (Option.bind (q4h_ (l, t, ())) _) _ = _
  rw [h3, Option.bind_some, Option.bind_some]
  dsimp only
  by_cases hk : k < l.length
  · have hg := List.getElem?_eq_getElem hk
    rw [if_neg (by rw [q5n_, qf_]; omega), at_get hg, Option.bind_some]
    have : nei (l[k]).1 t = true := by
      rw [nei_iff]
      exact ht _ (List.getElem_mem _)
    rw [this]
    rfl
  · rw [if_pos (by rw [q5n_, qf_]; omega)]
    rfl
end Go.Proofs.Lx
end
section
namespace Pl
open Go Ev Sx
def goI {α β R : Type} (body : Nat -> β -> α -> (β -> Option R) -> Option R) (fin : β -> Option R) : Nat -> List α -> β -> Option R
  | _, [], acc => fin acc
  | i, x :: r, acc => body i acc x (goI body fin (i + 1) r)
theorem loop_goi {σ R α β : Type} {F : (σ -> Option R) -> σ -> Option R} {mk : Nat -> β -> σ} {xs : List α} {body : Nat -> β -> α -> (β -> Option R) -> Option R} {fin : β -> Option R}
    (hs : ∀ self i acc x, xs[i]? = some x -> F self (mk i acc) = body i acc x fun a => self (mk (i + 1) a))
    (he : ∀ self acc, F self (mk xs.length acc) = fin acc) :
    ∀ (k i : Nat) (acc : β) (n : Nat), i + k = xs.length -> k < n -> loopF F n (mk i acc) = goI body fin i (xs.drop i) acc
  | _, _, _, 0, _, hn => by omega
  | 0, i, acc, n + 1, h, _ => by
    have : i = xs.length := by omega
    subst this
    rw [q2e_, he, List.drop_length]
    rfl
  | k + 1, i, acc, n + 1, h, hn => by
    have hx : xs[i]? = some (xs[i]'(by omega)) := List.getElem?_eq_getElem (by omega)
    rw [q2e_, hs _ _ _ _ hx, List.drop_eq_getElem_cons (show i < xs.length by omega)]
    show _ = body i acc _ (goI body fin (i + 1) (xs.drop (i + 1)))
    congr 1
    funext a
    exact loop_goi hs he k (i + 1) a n (by omega) (by omega)
end Pl
end
section
namespace Go.Proofs.Lx
open Go Ev Sx Pl
set_option maxRecDepth 100000
def idxI (v : Int) : Nat -> List Int -> Int
  | _, [] => -1
  | i, x :: r => if v = x then (i : Int) else idxI v (i + 1) r
theorem idxI_cons (v x : Int) (i : Nat) (r : List Int) : idxI v i (x :: r) = if v = x then (i : Int) else idxI v (i + 1) r := rfl
theorem idxI_ge (v : Int) : ∀ (r : List Int) (i : Nat), 0 ≤ idxI v i r ↔ v ∈ r
  | [], _ => by simp [idxI]
  | x :: r, i => by
    unfold idxI
    rw [List.mem_cons]
    by_cases h : v = x
    · rw [if_pos h]; simp [h]
    · rw [if_neg h, idxI_ge v r]; simp [h]
theorem index_eq {s : List Int} (hl : s.length ≤ 1000000) (v : Int) : qbf_ (s, v, ()) = some (idxI v 0 s, ()) := by
  have key : ∀ (r : List Int) (i : Nat), goI (R := Int × Unit) (fun i (_ : Unit) (x : Int) k => if v = x then some ((i : Int), ()) else k ()) (fun _ => some (-1, ())) i r () = some (idxI v i r, ()) := by
    intro r
    induction r with
    | nil => intro i; rfl
    | cons x r ih =>
      intro i
      show (if v = x then _ else goI _ _ (i + 1) r ()) = _
      rw [ih, idxI_cons]
      split <;> rfl
  show q8i_ s v (Int.ofNat s.length) ((0 : Nat) : Int) = _
  rw [<- key]
  unfold q8i_
  refine loop_goi (xs := s) (mk := fun i _ => (s, v, Int.ofNat s.length, (i : Int))) ?_ ?_ s.length 0 () _ (by omega) (by omega)
  · intro self i _ x hx
    have hi := (List.getElem?_eq_some_iff.1 hx).1
    show q7b_ _ s v (Int.ofNat s.length) (i : Int) = _
    unfold q7b_
    rw [if_pos (by rw [q15_, qf_]; omega), at_get hx, Option.bind_some, q31_ (by omega)]
    simp only [qq_]
  · intro self _
    show q7b_ _ s v (Int.ofNat s.length) (s.length : Int) = _
    unfold q7b_
    rw [if_neg (by rw [q15_, qf_]; omega)]
theorem contains_eq {s : List Int} (hl : s.length ≤ 1000000) (v : Int) : qcl_ (s, v, ()) = some (decide (v ∈ s), ()) := by
  show qay_ s v = _
  unfold qay_
  rw [index_eq hl, Option.bind_some]
  have : ge (idxI v 0 s) 0 = decide (v ∈ s) := by
    rw [Bool.eq_iff_iff, q5n_, decide_eq_true_eq]
    exact idxI_ge v s 0
  rw [this]
def stW (waits : List Int) (j : TJob) : Int := if j.2.2.2 = 1 ∧ j.1 ∈ waits then 6 else j.2.2.2
def wRun : List UInt8 := [114, 117, 110, 110, 105, 110, 103]
def wCom : List UInt8 := [99, 111, 109, 109, 105, 116, 116, 101, 100]
def wAbo : List UInt8 := [97, 98, 111, 114, 116, 101, 100]
def wComD : List UInt8 := [99, 111, 109, 109, 105, 116, 116, 101, 100, 32, 100, 111, 110, 101]
def wAboD : List UInt8 := [97, 98, 111, 114, 116, 101, 100, 32, 100, 111, 110, 101]
def wWai : List UInt8 := [119, 97, 105, 116, 105, 110, 103]
def wUnk : List UInt8 := [117, 110, 107, 110, 111, 119, 110]
def nameS (k : Int) : List UInt8 := if k = 1 then wRun else if k = 2 then wCom else if k = 3 then wAbo else if k = 4 then wComD else if k = 5 then wAboD else wWai
theorem report_eq {waits : List Int} (hl : waits.length ≤ 1000000) {j : TJob} (h1 : 1 ≤ j.2.2.2) (h2 : j.2.2.2 ≤ 5) : qcx_ (j, waits, ()) = some (nameS (stW waits j), waits, ()) := by
  have K : ∀ t, (t = true -> stW waits j = 6) -> (t = false -> stW waits j = j.2.2.2) -> q8y_ t waits j [[], wRun, wCom, wAbo, wComD, wAboD] = some (nameS (stW waits j), waits, ()) := by
    intro t ht hf
    unfold q8y_ qh1_
    cases t with
    | true => rw [if_pos rfl, ht rfl]; rfl
    | false =>
      rw [hf rfl, if_neg (by decide), cvt64 (by omega) (by omega), if_neg (by rw [q5n_]; omega), need_t (by rw [q15_]; omega)]
      rcases (by omega : j.2.2.2 = 1 ∨ j.2.2.2 = 2 ∨ j.2.2.2 = 3 ∨ j.2.2.2 = 4 ∨ j.2.2.2 = 5) with h | h | h | h | h <;> rw [h] <;> rfl
  show qdg_ q8y_ j waits = _
  unfold qdg_
  by_cases h : j.2.2.2 = 1
  · have hz : qdx_ (j.1, waits, ()) = some (decide (j.1 ∈ waits), waits, ()) := by
      show qir_ j.1 waits = _
      unfold qir_
      rw [contains_eq hl]
      rfl
    rw [if_pos (qq_.2 h), hz, Option.bind_some]
    refine K _ (fun ht => ?_) (fun ht => ?_)
    · unfold stW
      rw [if_pos ⟨h, of_decide_eq_true ht⟩]
    · unfold stW
      rw [if_neg (fun e => of_decide_eq_false ht e.2)]
  · rw [if_neg (fun e => h (qq_.1 e))]
    refine K false (fun ht => by cases ht) (fun _ => ?_)
    unfold stW
    rw [if_neg (fun e => h e.1)]
theorem tell_yes {l : List TJob} (hs : Rise l) (hl : l.length ≤ 1000000) {waits : List Int} (hw : waits.length ≤ 1000000) {i : Nat} {j : TJob} (hj : l[i]? = some j) (h1 : 1 ≤ j.2.2.2) (h2 : j.2.2.2 ≤ 5) : qah_ (l, waits, j.1, ()) = some (nameS (stW waits j), ()) := by
  show qe4_ l waits j.1 = _
  unfold qe4_
  rw [find_yes hs hl hj, Option.bind_some]
  dsimp only
  rw [if_neg (by decide), at_get hj, Option.bind_some, report_eq hw h1 h2]
  rfl
theorem tell_no {l : List TJob} (hs : Rise l) (hl : l.length ≤ 1000000) {waits : List Int} {t : Int} (ht : ∀ j ∈ l, j.1 ≠ t) : qah_ (l, waits, t, ()) = some (wUnk, ()) := by
  show qe4_ l waits t = _
  unfold qe4_
  rw [find_no hs hl ht, Option.bind_some]
  rfl
end Go.Proofs.Lx
end
section
set_option maxRecDepth 100000
namespace Go.Proofs.Lx
open Go Ev Sx Pl
theorem rj_eq {l : List TJob} (hl : l.length ≤ 1000000) : qj1_ (l, ()) = some (rightJ 0 l, ()) := by
  show qee_ l 0 0 = _
  rw [<- rightJ_go]
  unfold qee_
  refine loop_go (xs := l) (mk := fun i b => (l, b, (i : Int))) ?_ ?_ l.length 0 0 _ (by omega) (by omega)
  · intro self i b j hj
    have hi := (List.getElem?_eq_some_iff.1 hj).1
    show qbm_ _ _ l b (i : Int) = _
    unfold qbm_
    rw [if_pos (by rw [q15_, qf_]; omega), at_get hj, Option.bind_some]
    have K2 : ∀ t, qe6_ (fun l last i => self (l, last, i)) l (i : Int) t j = if t = true then some (false, ()) else self (l, j.1, ((i + 1 : Nat) : Int)) := fun t => by
      unfold qe6_ ql2_
      rw [q31_ (by omega)]
    rw [K2, K2]
    simp only [le_dec, lt_dec, qq_, gt_dec, decide_eq_true_eq, qf_]
    grind
  · intro self b
    show qbm_ _ _ l b (l.length : Int) = _
    unfold qbm_
    rw [if_neg (by rw [q15_, qf_]; omega)]
theorem rfind_go {l : List TJob} (hl : l.length ≤ 1000000) (t : Int) : qli_ (l, t, ()) = goI (R := Int × Unit) (fun i (_ : Unit) (j : TJob) k => if j.1 = t then some ((i : Int), ()) else k ()) (fun _ => some (-1, ())) 0 l () := by
  show qey_ l t 0 = _
  unfold qey_
  refine (loop_goi (xs := l) (mk := fun i (_ : Unit) => (l, t, (i : Int))) (body := fun i (_ : Unit) (j : TJob) k => if j.1 = t then some ((i : Int), ()) else k ()) (fin := fun _ => some (-1, ())) ?_ ?_ l.length 0 () _ (by omega) (by omega)).trans (by rw [List.drop_zero])
  · intro self i _ j hj
    have hi := (List.getElem?_eq_some_iff.1 hj).1
    show qcn_ _ l t (i : Int) = _
    unfold qcn_
    rw [if_pos (by rw [q15_, qf_]; omega), at_get hj, Option.bind_some, q31_ (by omega)]
    by_cases h : j.1 = t
    · rw [if_pos (qq_.2 h), if_pos h]
    · rw [if_neg (fun e => h (qq_.1 e)), if_neg h]
  · intro self _
    show qcn_ _ l t (l.length : Int) = _
    unfold qcn_
    rw [if_neg (by rw [q15_, qf_]; omega)]
abbrev fB (t : Int) : Nat -> Unit -> TJob -> (Unit -> Option (Int × Unit)) -> Option (Int × Unit) := fun i _ j k => if j.1 = t then some ((i : Int), ()) else k ()
theorem goI_no {t : Int} : ∀ (r : List TJob) (i : Nat), (∀ j ∈ r, j.1 ≠ t) -> goI (R := Int × Unit) (fB t) (fun _ => some (-1, ())) i r () = some (-1, ())
  | [], _, _ => rfl
  | j :: r, i, h => by
    show (if j.1 = t then some ((i : Int), ()) else goI (fB t) _ (i + 1) r ()) = _
    rw [if_neg (h j (by simp)), goI_no r (i + 1) fun x hx => h x (by simp [hx])]
theorem goI_yes {t : Int} : ∀ (r : List TJob) (i k : Nat) (j : TJob), r[k]? = some j -> j.1 = t -> (∀ m x, m < k -> r[m]? = some x -> x.1 ≠ t) -> goI (R := Int × Unit) (fB t) (fun _ => some (-1, ())) i r () = some (((i + k : Nat) : Int), ())
  | [], _, _, _, h, _, _ => by simp at h
  | x :: r, i, 0, j, h, hj, _ => by
    simp at h
    subst h
    show (if x.1 = t then some ((i : Int), ()) else _) = _
    rw [if_pos hj]
    rfl
  | x :: r, i, k + 1, j, h, hj, hm => by
    show (if x.1 = t then some ((i : Int), ()) else goI (fB t) _ (i + 1) r ()) = _
    rw [if_neg (hm 0 x (by omega) rfl), goI_yes r (i + 1) k j (by simpa using h) hj fun m y h1 h2 => hm (m + 1) y (by omega) (by simpa using h2), show i + 1 + k = i + (k + 1) by omega]
theorem waiting_eq {s : List Int} (hl : s.length ≤ 1000000) (t : Int) : qjp_ (s, t, ()) = some (decide (t ∈ s), ()) := by
  show qby_ s t 0 = _
  unfold qby_
  refine (loop_go (xs := s) (mk := fun i (_ : Unit) => (s, t, (i : Int))) (body := fun (_ : Unit) (x : Int) k => if x = t then some (true, ()) else k ()) (fin := fun _ => some (false, ())) ?_ ?_ s.length 0 () _ (by omega) (by omega)).trans ?_
  · intro self i _ x hx
    have hi := (List.getElem?_eq_some_iff.1 hx).1
    show qa7_ _ s t (i : Int) = _
    unfold qa7_
    rw [if_pos (by rw [q15_, qf_]; omega), at_get hx, Option.bind_some, q31_ (by omega)]
    by_cases h : x = t
    · rw [if_pos (qq_.2 h), if_pos h]
    · rw [if_neg (fun e => h (qq_.1 e)), if_neg h]
  · intro self _
    show qa7_ _ s t (s.length : Int) = _
    unfold qa7_
    rw [if_neg (by rw [q15_, qf_]; omega)]
  · rw [List.drop_zero]
    clear hl
    induction s with
    | nil => rfl
    | cons x r ih =>
      show (if x = t then some (true, ()) else goL _ _ r ()) = _
      by_cases h : x = t
      · rw [if_pos h, decide_eq_true (by simp [h])]
      · rw [if_neg h, ih]
        congr 2
        rw [Bool.eq_iff_iff, decide_eq_true_iff, decide_eq_true_iff, List.mem_cons]
        exact ⟨.inr, fun e => e.elim (fun e => absurd e.symm h) id⟩
theorem told_eq {waits : List Int} (hl : waits.length ≤ 1000000) {j : TJob} (h1 : 1 ≤ j.2.2.2) (h2 : j.2.2.2 ≤ 5) : qkn_ (j, waits, ()) = some (nameS (stW waits j), ()) := by
  show qlf_ j waits = _
  unfold qlf_ stW
  rcases (by omega : j.2.2.2 = 1 ∨ j.2.2.2 = 2 ∨ j.2.2.2 = 3 ∨ j.2.2.2 = 4 ∨ j.2.2.2 = 5) with h | h | h | h | h
  · rw [if_pos (qq_.2 h), waiting_eq hl, Option.bind_some]
    dsimp only
    by_cases hm : j.1 ∈ waits
    · rw [if_pos (decide_eq_true hm), if_pos (⟨h, hm⟩ : j.2.2.2 = 1 ∧ j.1 ∈ waits)]
      rfl
    · rw [if_neg (by simp [hm]), if_neg (fun e : j.2.2.2 = 1 ∧ j.1 ∈ waits => hm e.2), h]
      rfl
  all_goals
    rw [h]
    rfl
theorem stW_dom {waits : List Int} {j : TJob} (h1 : 1 ≤ j.2.2.2) (h2 : j.2.2.2 ≤ 5) : (nameS (stW waits j)).length ≤ 14 := by
  unfold nameS
  split
  · decide
  split
  · decide
  split
  · decide
  split
  · decide
  split
  · decide
  · decide
theorem rtell_eq {l : List TJob} (hr : rightJ 0 l = true) (hl : l.length ≤ 1000000) {waits : List Int} (hw : waits.length ≤ 1000000) (t : Int) : ∃ x, qah_ (l, waits, t, ()) = some (x, ()) ∧ qlj_ (l, waits, t, ()) = some (x, ()) := by
  have hs := (rightJ_rise hr).1
  by_cases h : ∃ j ∈ l, j.1 = t
  · obtain ⟨j, hm, rfl⟩ := h
    obtain ⟨i, hi⟩ := List.getElem?_of_mem hm
    obtain ⟨_, _, g1, g2⟩ := rightJ_mem hr j hm
    refine ⟨_, tell_yes hs hl hw hi g1 g2, ?_⟩
    have hlt := (List.getElem?_eq_some_iff.1 hi).1
    show qfa_ l waits j.1 = _
    unfold qfa_
    rw [rfind_go hl, goI_yes l 0 i j hi rfl fun m x h1 h2 => by have := rise_get hs h2 hi h1; omega, Option.bind_some]
    dsimp only
    rw [Nat.zero_add, if_neg (by rw [q15_]; omega), at_get hi, Option.bind_some, told_eq hw g1 g2]
    rfl
  · have hn : ∀ j ∈ l, j.1 ≠ t := fun j hj e => h ⟨j, hj, e⟩
    refine ⟨_, tell_no hs hl hn, ?_⟩
    show qfa_ l waits t = _
    unfold qfa_
    rw [rfind_go hl, goI_no l 0 hn, Option.bind_some]
    rfl
end Go.Proofs.Lx
end
section
set_option maxRecDepth 100000
namespace Go.Proofs.Lx
open Go Ev Sx Pl
def srt (xs : List Int) : List Int := xs.mergeSort fun x y => decide (x ≤ y)
theorem srt_len (xs : List Int) : (srt xs).length = xs.length := List.length_mergeSort _
theorem srt_mem {xs : List Int} {t : Int} : t ∈ srt xs ↔ t ∈ xs := (List.mergeSort_perm xs _).mem_iff
theorem srt_rise (xs : List Int) : (srt xs).Pairwise (fun a b => a ≤ b) := by
  have := List.pairwise_mergeSort (le := fun x y : Int => decide (x ≤ y)) (fun a b c h1 h2 => by simp at *; omega) (fun a b => by simp; omega) xs
  exact this.imp fun h => by simpa using h
theorem sorted_eq {xs : List Int} (h : xs.length ≤ 60) : qar_ (xs, ()) = some (srt xs, ()) := by
  show qbw_ xs = _
  unfold qbw_
  have hc : qdm_ (xs, ()) = some (xs, ()) := if_pos (show xs.length ≤ 1000 by omega)
  rw [hc, Option.bind_some]
  dsimp only
  rw [sort_ok (by omega)]
  rfl
theorem nn_eq (x : Int) : q9i_ (x, ()) = some (false, ()) := by
  show qcj_ x = _
  unfold qcj_
  have : nei x x = false := by rw [<- Bool.not_eq_true, nei_iff]; simp
  rw [this]
theorem lbi_ex {l : List Int} (h : l.Pairwise (fun a b => a ≤ b)) (t : Int) : ∃ i : Nat, i ≤ l.length ∧ ∀ k x, l[k]? = some x -> (x < t ↔ k < i) := by
  induction l with
  | nil => exact ⟨0, Nat.le_refl _, by simp⟩
  | cons j r ih =>
    obtain ⟨i, h1, h2⟩ := ih h.of_cons
    by_cases hj : j < t
    · refine ⟨i + 1, by simpa using h1, fun k x hk => ?_⟩
      cases k with
      | zero => simp at hk; subst hk; simp [hj]
      | succ k => rw [h2 k x (by simpa using hk)]; omega
    · refine ⟨0, by omega, fun k x hk => ?_⟩
      cases k with
      | zero => simp at hk; subst hk; simp [hj]
      | succ k =>
        have := (List.pairwise_cons.1 h).1 x (List.mem_of_getElem? (by simpa using hk))
        omega
theorem bsi_eq {l : List Int} (hs : l.Pairwise (fun a b => a ≤ b)) (hl : l.length ≤ 1000000) (t : Int) : ∃ i : Int, q8n_ (l, t, ()) = some (i, decide (t ∈ l), ()) := by
  obtain ⟨i, h1, h2⟩ := lbi_ex hs t
  have fin : q63_ l t (Int.ofNat l.length) (i : Int) = some ((i : Int), decide (t ∈ l), ()) := by
    unfold q63_ q9c_
    by_cases hi : i < l.length
    · have hg := List.getElem?_eq_getElem hi
      rw [if_pos (by rw [q15_, qf_]; omega), at_get hg, Option.bind_some]
      by_cases he : l[i] = t
      · rw [if_pos (qq_.2 he), decide_eq_true (by rw [<- he]; exact List.getElem_mem hi)]
      · rw [if_neg (fun e => he (qq_.1 e)), Option.bind_some, nn_eq, Option.bind_some]
        dsimp only
        rw [if_neg (by decide), decide_eq_false]
        intro hm
        obtain ⟨k, hk⟩ := List.getElem?_of_mem hm
        have a := h2 k t hk
        have b := h2 i _ hg
        have hki : i ≤ k := by omega
        rcases Nat.eq_or_lt_of_le hki with e | e
        · subst e
          rw [hg] at hk
          exact he (Option.some.inj hk)
        · obtain ⟨hk1, hk2⟩ := List.getElem?_eq_some_iff.1 hk
          have := List.pairwise_iff_getElem.1 hs i k hi hk1 e
          rw [hk2] at this
          omega
    · rw [if_neg (by rw [q15_, qf_]; omega), decide_eq_false]
      intro hm
      obtain ⟨k, hk⟩ := List.getElem?_of_mem hm
      have a := h2 k t hk
      have := (List.getElem?_eq_some_iff.1 hk).1
      omega
  refine ⟨(i : Int), ?_⟩
  show q60_ l t (Int.ofNat l.length) ((0 : Nat) : Int) (l.length : Int) = _
  unfold q60_
  refine loopF_eq (Inv := fun s => ∃ p q : Nat, s = (l, t, Int.ofNat l.length, (p : Int), (q : Int)) ∧ p ≤ i ∧ i ≤ q ∧ q ≤ l.length) (μ := fun s => (s.2.2.2.2 - s.2.2.2.1).toNat) (G := fun _ => some ((i : Int), decide (t ∈ l), ())) ?_ _ _ ⟨0, l.length, rfl, Nat.zero_le _, h1, Nat.le_refl _⟩ (by dsimp only; omega)
  rintro self s ⟨p, q, rfl, hp, hq, hn⟩ ih
  show q80_ _ _ l t (Int.ofNat l.length) (p : Int) (q : Int) = _
  unfold q80_
  by_cases hpq : p < q
  · have hm : (p + q) / 2 < l.length := by omega
    have hg := List.getElem?_eq_getElem hm
    rw [if_pos (by rw [q15_]; omega), half64 (by omega), at_get hg, Option.bind_some, less_eq, Option.bind_some]
    dsimp only
    have := h2 _ _ hg
    unfold Sort.ltInt
    by_cases hc : (l[(p + q) / 2]'hm) < t
    · rw [if_pos (decide_eq_true hc), q31_ (by omega)]
      exact ih _ ⟨(p + q) / 2 + 1, q, rfl, by omega, hq, hn⟩ (by dsimp only; omega)
    · rw [if_neg (by simpa using hc)]
      exact ih _ ⟨p, (p + q) / 2, rfl, hp, by omega, by omega⟩ (by dsimp only; omega)
  · rw [if_neg (by rw [q15_]; omega)]
    have : p = i := by omega
    rw [this]
    exact fin
theorem hreport_eq {waits : List Int} (hl : waits.length ≤ 1000000) {j : TJob} (h1 : 1 ≤ j.2.2.2) (h2 : j.2.2.2 ≤ 5) : q9g_ (j, srt waits, ()) = some (nameS (stW waits j), srt waits, ()) := by
  have K : ∀ t, (t = true -> stW waits j = 6) -> (t = false -> stW waits j = j.2.2.2) -> q94_ t (srt waits) j [[], wRun, wCom, wAbo, wComD, wAboD] = some (nameS (stW waits j), srt waits, ()) := by
    intro t ht hf
    unfold q94_ qgs_
    cases t with
    | true => rw [if_pos rfl, ht rfl]; rfl
    | false =>
      rw [hf rfl, if_neg (by decide), cvt64 (by omega) (by omega), if_neg (by rw [q5n_]; omega), need_t (by rw [q15_]; omega)]
      rcases (by omega : j.2.2.2 = 1 ∨ j.2.2.2 = 2 ∨ j.2.2.2 = 3 ∨ j.2.2.2 = 4 ∨ j.2.2.2 = 5) with h | h | h | h | h <;> rw [h] <;> rfl
  show qcq_ q94_ j (srt waits) = _
  unfold qcq_
  by_cases h : j.2.2.2 = 1
  · have hz : q9p_ (j.1, srt waits, ()) = some (decide (j.1 ∈ waits), srt waits, ()) := by
      show qen_ j.1 (srt waits) = _
      unfold qen_
      obtain ⟨i, hi⟩ := bsi_eq (srt_rise waits) (by rw [srt_len]; exact hl) j.1
      rw [hi, Option.bind_some]
      dsimp only
      congr 2
      rw [Bool.eq_iff_iff, decide_eq_true_iff, decide_eq_true_iff]
      exact srt_mem
    rw [if_pos (qq_.2 h), hz, Option.bind_some]
    refine K _ (fun ht => ?_) (fun ht => ?_)
    · unfold stW
      rw [if_pos ⟨h, of_decide_eq_true ht⟩]
    · unfold stW
      rw [if_neg (fun e => of_decide_eq_false ht e.2)]
  · rw [if_neg (fun e => h (qq_.1 e))]
    refine K false (fun ht => by cases ht) (fun _ => ?_)
    unfold stW
    rw [if_neg (fun e => h e.1)]
end Go.Proofs.Lx
end
section
set_option maxRecDepth 100000
namespace Go.Proofs.Lx
open Go Ev Sx Pl
def DomJ (j : TJob) : Prop := 0 ≤ j.1 ∧ j.1 < 4294967296 ∧ 1 ≤ j.2.2.2 ∧ j.2.2.2 ≤ 5
def lineH (waits : List Int) (j : TJob) : List UInt8 := dg j.1.toNat ++ [32] ++ nameS (stW waits j) ++ [10]
def oI (s : List UInt8) : List Int := s.map fun b => Int.ofNat b.toNat
theorem oI_app (a b : List UInt8) : oI (a ++ b) = oI a ++ oI b := List.map_append
theorem toS_oI : ∀ s : List UInt8, toS (oI s) = s
  | [] => rfl
  | c :: s => by
    show toS ([Int.ofNat c.toNat] ++ oI s) = _
    rw [toS_app, toS_c, toS_oI s]
    rfl
theorem u8s_oI : ∀ s : List UInt8, u8s (oI s) = true
  | [] => rfl
  | c :: s => u8s_app (a := [Int.ofNat c.toNat]) (u8s_one c) (u8s_oI s)
theorem oI_len (s : List UInt8) : (oI s).length = s.length := List.length_map _
theorem lineH_len {waits : List Int} {j : TJob} (h : DomJ j) : (dg j.1.toNat).length ≤ 10 ∧ (nameS (stW waits j)).length ≤ 14 := ⟨dg_le (by have := h.1; have := h.2.1; omega), stW_dom h.2.2.1 h.2.2.2⟩
theorem digJ {j : TJob} (h : DomJ j) : q2o_ (j.1, ()) = some (dg j.1.toNat, ()) ∧ q71_ (cvt .i64 j.1, ()) = some (dg j.1.toNat, ()) := by
  obtain ⟨h0, h1, _⟩ := h
  constructor
  · have := sdigits_eq (n := j.1.toNat) (by omega)
    rw [Int.toNat_of_nonneg h0] at this
    exact this
  · have e : cvt .i64 j.1 = j.1 := by unfold cvt; rw [w64 (by omega) (by omega)]
    rw [e, digs_at ⟨by omega, by omega⟩, itF_dg h0 h1]
theorem fold_app (waits : List Int) : ∀ (l : List TJob) (o : List UInt8), l.foldl (fun o j => o ++ lineH waits j) o = o ++ l.flatMap (lineH waits)
  | [], o => by simp
  | j :: l, o => by rw [List.foldl_cons, fold_app waits l, List.flatMap_cons, List.append_assoc]
theorem hist_eq {l : List TJob} (hl : l.length ≤ 1000) (hd : ∀ j ∈ l, DomJ j) {waits : List Int} (hw : waits.length ≤ 60) : qea_ (l, waits, ()) = some (l.flatMap (lineH waits), ()) := by
  show qdt_ qb4_ l waits = _
  unfold qdt_
  rw [sorted_eq hw, Option.bind_some]
  dsimp only
  unfold qb4_
  refine (loop_idx (xs := l) (stp := fun (o : Bool × List UInt8) j => (true, o.2 ++ lineH waits j)) (mk := fun i (o : Bool × List UInt8) => (l, Int.ofNat l.length, (i : Int), srt waits, o.1, oI o.2)) (fin := fun o => some (o.2, ())) (fun i o => o.2.length ≤ 26 * i) ?_ ?_ ?_ l.length 0 (false, []) _ (by omega) (by omega) (by simp)).trans ?_
  · rintro self i ⟨b, o⟩ j hj hI
    have hi := (List.getElem?_eq_some_iff.1 hj).1
    have hD := hd j (List.mem_of_getElem? hj)
    obtain ⟨n1, n2⟩ := lineH_len (waits := waits) hD
    have hI : o.length ≤ 26 * i := hI
    have e1 : ∀ s : List UInt8, List.map (fun b : UInt8 => Int.ofNat b.toNat) s = oI s := fun _ => rfl
    show q9n_ _ l (Int.ofNat l.length) (i : Int) (srt waits) b (oI o) = self (l, Int.ofNat l.length, ((i + 1 : Nat) : Int), srt waits, true, oI (o ++ lineH waits j))
    unfold q9n_
    have eo : oI (o ++ lineH waits j) = oI o ++ oI (dg j.1.toNat) ++ [32] ++ oI (nameS (stW waits j)) ++ [10] := by
      unfold lineH
      rw [oI_app, oI_app, oI_app, oI_app, <- List.append_assoc, <- List.append_assoc, <- List.append_assoc]
      rfl
    have s1 : (oI o).length + (dg j.1.toNat).length ≤ 1073741824 := by rw [oI_len]; omega
    have s2 : (oI o ++ oI (dg j.1.toNat)).length + 1 ≤ 1073741824 := by simp only [List.length_append, oI_len]; omega
    have s3 : (oI o ++ oI (dg j.1.toNat) ++ [32]).length + (nameS (stW waits j)).length ≤ 1073741824 := by simp only [List.length_append, List.length_cons, List.length_nil, oI_len]; omega
    have s4 : (oI o ++ oI (dg j.1.toNat) ++ [32] ++ oI (nameS (stW waits j))).length + 1 ≤ 1073741824 := by simp only [List.length_append, List.length_cons, List.length_nil, oI_len]; omega
    rw [if_pos (by rw [q15_, qf_]; omega), at_get hj, Option.bind_some, (digJ hD).1, Option.bind_some, q31_ (by omega), eo]
    simp only [e1, q1k_ s1, q1k_ s2, hreport_eq (by omega : waits.length ≤ 1000000) hD.2.2.1 hD.2.2.2, Option.bind_some, q1k_ s3, q1k_ s4]
    cases b <;> rfl
  · rintro i ⟨b, o⟩ j hj hI
    have hD := hd j (List.mem_of_getElem? hj)
    obtain ⟨n1, n2⟩ := lineH_len (waits := waits) hD
    have hI : o.length ≤ 26 * i := hI
    show (o ++ lineH waits j).length ≤ 26 * (i + 1)
    unfold lineH
    simp only [List.length_append, List.length_cons, List.length_nil]
    omega
  · rintro self ⟨b, o⟩ hI
    have hI : o.length ≤ 26 * l.length := hI
    show q9n_ _ l (Int.ofNat l.length) (l.length : Int) (srt waits) b (oI o) = some (o, ())
    unfold q9n_
    rw [if_neg (by rw [q15_, qf_]; omega), need_t (qq_.2 rfl), q1k_ (by rw [oI_len]; omega), need_t (u8s_oI o), toS_oI]
  · rw [List.drop_zero]
    have : ∀ (l : List TJob) (b : Bool) (o : List UInt8), (l.foldl (fun (o : Bool × List UInt8) j => (true, o.2 ++ lineH waits j)) (b, o)).2 = o ++ l.flatMap (lineH waits) := by
      intro l
      induction l with
      | nil => intro b o; simp
      | cons j l ih => intro b o; rw [List.foldl_cons, ih, List.flatMap_cons, List.append_assoc]
    rw [this, List.nil_append]
theorem rhist_eq {l : List TJob} (hl : l.length ≤ 1000) (hd : ∀ j ∈ l, DomJ j) {waits : List Int} (hw : waits.length ≤ 60) : qf7_ (l, waits, ()) = some (l.flatMap (lineH waits), ()) := by
  show qbx_ l waits [] ((0 : Nat) : Int) = _
  unfold qbx_
  refine (loop_idx (xs := l) (stp := fun (o : List UInt8) j => o ++ lineH waits j) (mk := fun i (o : List UInt8) => (l, waits, o, (i : Int))) (fin := fun o => some (o, ())) (fun i o => o.length ≤ 26 * i) ?_ ?_ ?_ l.length 0 [] _ (by omega) (by omega) (by simp)).trans ?_
  · intro self i o j hj hI
    have hi := (List.getElem?_eq_some_iff.1 hj).1
    have hD := hd j (List.mem_of_getElem? hj)
    obtain ⟨n1, n2⟩ := lineH_len (waits := waits) hD
    show qaa_ _ l waits o (i : Int) = self (l, waits, o ++ lineH waits j, ((i + 1 : Nat) : Int))
    unfold qaa_
    rw [if_pos (by rw [q15_, qf_]; omega), at_get hj, Option.bind_some, Option.bind_some, (digJ hD).2, Option.bind_some, q31_ (by omega)]
    dsimp only
    rw [q1k_ (by omega), q1k_ (by simp only [List.length_append]; omega), told_eq (by omega) hD.2.2.1 hD.2.2.2, Option.bind_some, q1k_ (by simp only [List.length_append, List.length_cons, List.length_nil]; omega), q1k_ (by simp only [List.length_append, List.length_cons, List.length_nil]; omega)]
    unfold lineH
    simp only [List.append_assoc]
  · intro i o j hj hI
    have hD := hd j (List.mem_of_getElem? hj)
    obtain ⟨n1, n2⟩ := lineH_len (waits := waits) hD
    show (o ++ lineH waits j).length ≤ 26 * (i + 1)
    unfold lineH
    simp only [List.length_append, List.length_cons, List.length_nil]
    omega
  · intro self o hI
    show qaa_ _ l waits o (l.length : Int) = _
    unfold qaa_
    rw [if_neg (by rw [q15_, qf_]; omega)]
  · rw [List.drop_zero, fold_app, List.nil_append]
theorem awake_eq : qdn_ () = some (true, ()) := by kernel_rfl
theorem tells_law {line : List UInt8} {o : TOrd} {l : List TJob} {waits : List Int} {tx : Int} {f : Int × Int} (ho : 0 ≤ o.2.1 ∧ o.2.1 < 4294967296) (hl : ∀ j ∈ l, 0 ≤ j.1 ∧ j.1 < 4294967296) (hf1 : i64R f.1) (hf2 : i64R f.2) :
    qdu_ (line, o, l, waits, tx, f, ()) = some (true, ()) := by
  show qbb_ q7k_ line o l waits tx f = _
  have aw : (Option.bind (qdn_ ()) fun (y : Bool × Unit) => some (y.fst, ())) = some (true, ()) := by rw [awake_eq]; rfl
  have out : q7k_ line l waits tx true o f = some (true, ()) := by
    unfold q7k_ qbd_
    rw [if_pos rfl]
    exact aw
  unfold qbb_
  by_cases g1 : line.length > 9000
  · rw [if_pos (by rw [q4q_, qf_]; omega)]
    exact out
  rw [if_neg (by rw [q4q_, qf_]; omega)]
  by_cases g2 : o.2.2.length > 9000
  · rw [if_pos (by rw [q4q_, qf_]; omega)]
    exact out
  rw [if_neg (by rw [q4q_, qf_]; omega)]
  by_cases g3 : l.length > 60
  · rw [if_pos (by rw [q4q_, qf_]; omega)]
    exact out
  rw [if_neg (by rw [q4q_, qf_]; omega)]
  by_cases g4 : waits.length > 60
  · rw [show gt (Int.ofNat waits.length) 60 = true by rw [q4q_, qf_]; omega]
    exact out
  rw [show gt (Int.ofNat waits.length) 60 = false by rw [<- Bool.not_eq_true, q4q_, qf_]; omega]
  have last : q9e_ l waits tx false = some (true, ()) := by
    unfold q9e_ qem_
    rw [if_neg (by decide), rj_eq (by omega), Option.bind_some]
    dsimp only
    cases hr : rightJ 0 l with
    | false =>
      rw [if_pos (by decide)]
      exact aw
    | true =>
      rw [if_neg (by decide)]
      obtain ⟨x, t1, t2⟩ := rtell_eq hr (by omega) (waits := waits) (by omega) tx
      have hd : ∀ j ∈ l, DomJ j := fun j hj => ⟨(hl j hj).1, (hl j hj).2, (rightJ_mem hr j hj).2.2.1, (rightJ_mem hr j hj).2.2.2⟩
      rw [t1, t2, Option.bind_some, Option.bind_some]
      dsimp only
      rw [if_pos (eqs_iff.2 rfl), hist_eq (by omega) hd (by omega), rhist_eq (by omega) hd (by omega), Option.bind_some, Option.bind_some]
      dsimp only
      rw [if_pos (eqs_iff.2 rfl)]
      exact aw
  have mid : q9d_ l waits tx false o = some (true, ()) := by
    unfold q9d_ qes_
    rw [if_neg (by decide), sprint_eq ho, rright_eq (by omega) ho.1]
    cases hr : rightO o with
    | false =>
      rw [if_neg (by decide)]
      exact last
    | true =>
      rw [if_pos rfl, Option.bind_some, Option.bind_some, rprint_eq hr ho]
      have hn : nes (prO o) (prO o) = false := by rw [<- Bool.not_eq_true, nes_iff]; simp
      show (if nes (prO o) (prO o) = true then _ else _) = _
      rw [hn]
      exact last
  unfold q7k_ qbd_
  rw [if_neg (by decide), sparse_eq (by omega), rparse_eq (by omega)]
  have same : ∀ p : TOrd, (eqi p.1 p.1 && (eqi p.2.1 p.2.1 && (eqs p.2.2 p.2.2 && true))) = true := fun p => by
    rw [qq_.2 rfl, qq_.2 rfl, eqs_iff.2 rfl]
    rfl
  obtain ⟨t, r1, r2⟩ := refused_eq hf1 hf2
  have hn : nes t t = false := by rw [<- Bool.not_eq_true, nes_iff]; simp
  obtain ⟨p, e, hp⟩ : ∃ (p : TOrd) (e : Int), outP (some ((0, 0, []), 280, ())) (parO line) = some (p, e, ()) := by
    cases parO line with
    | none => exact ⟨_, _, rfl⟩
    | some p => exact ⟨_, _, rfl⟩
  have he : nei e e = false := by rw [<- Bool.not_eq_true, nei_iff]; simp
  rw [hp, Option.bind_some, Option.bind_some]
  dsimp only
  rw [same p, if_neg (by decide), he, if_neg (by decide), r1, r2, Option.bind_some, Option.bind_some]
  dsimp only
  rw [hn]
  exact mid
end Go.Proofs.Lx
end
section
set_option maxRecDepth 100000
namespace Go.Proofs.Lx
open Go Ev Sx Pl
theorem ok32s {x : Int} (h : (Lit.int .u32 x).wf = true) : 0 ≤ x ∧ x < 4294967296 := by
  simp [Lit.wf, IntKind.min, IntKind.max, IntKind.signed, IntKind.bits] at h
  omega
theorem ok64i {x : Int} (h : (Lit.int .i64 x).wf = true) : i64R x := by
  unfold i64R
  simp [Lit.wf, IntKind.min, IntKind.max, IntKind.signed, IntKind.bits] at h
  omega
abbrev tJob : Ty := .pr (.int .u32) (.pr (.int .u8) (.pr (.sl (.int .u8)) (.int .u8)))
abbrev tTells : List Ty := [.str, .pr (.int .u8) (.pr (.int .u32) .str), .sl tJob, .sl (.int .u32), .int .u32, .pr (.int .i64) (.int .i64)]
theorem tells_row (x : As tTells) (h : Rw.okA tTells x) : qdu_ x = some (true, ()) :=
  tells_law (line := x.1) (o := x.2.1) (l := x.2.2.1) (waits := x.2.2.2.1) (tx := x.2.2.2.2.1) (f := x.2.2.2.2.2.1) (ok32s h.2.1.2.1) (fun j hj => ok32s (h.2.2.1.2 j hj).1) (ok64i h.2.2.2.2.2.1.1) (ok64i h.2.2.2.2.2.1.2)
end Go.Proofs.Lx
end
section
namespace Go.Proofs.Lx
open Go Go.RowKit Go.ChangeShapes Go.Proofs Go.Proofs.YtlpbpoknpjgnbaaGreatDoor
def nmE : String := match Rows.laid_strconv_ErrRange (H := Unit) with
  | .iface n _ => n
  | _ => ""
theorem rowE (u : TypeId) (h : Tryz.prog.typeName? 3 u = some nmE) : u = 134 :=
  typeName_ptr_named (nm := "errors.errorString") (by kernel_rfl) (by kernel_rfl) (by decide) u (h.trans (congrArg some (by kernel_rfl)))
theorem gP : Tryz.prog.globalNamed p10 = some 0 := by kernel_rfl
theorem heap_var {W W' : World} {n : String} {g : Nat} {cs : Array Value} (hg : Tryz.prog.globalNamed n = some g) (h : W.var? Tryz.prog n = some cs) (hB : Below W.heap.size W W') : W'.var? Tryz.prog n = some cs := by
  unfold World.var? at h ⊢
  rw [hg] at h ⊢
  simp only [Option.bind_some] at h ⊢
  have hlt : g < W.heap.size := by
    rcases Nat.lt_or_ge g W.heap.size with h' | h'
    · exact h'
    · simp [Array.getElem?_eq_none h'] at h
  rw [hB.block g hlt]
  exact h
theorem I0_of {W : World} (h0 : W.var? Tryz.prog p10 = some (Lib.pow10Tab.map fun z => Value.int .u64 z).toArray) {n8 n9 : String} (g8 : Tryz.prog.globalNamed n8 = some 1) (g9 : Tryz.prog.globalNamed n9 = some 2)
    (h8 : ∃ a, W.var? Tryz.prog n8 = some #[.iface 134 (.pointer (some a))]) (h9 : ∃ a, W.var? Tryz.prog n9 = some #[.iface 134 (.pointer (some a))]) : ∀ W', Below W.heap.size W W' -> I0 W' := by
  intro W' hB
  obtain ⟨a, h8⟩ := h8
  obtain ⟨b, h9⟩ := h9
  exact ⟨heap_var gP h0 hB, ⟨134, .pointer (some a), by simpa using World.var?_cell g8 (heap_var g8 h8 hB) 0⟩, ⟨134, .pointer (some b), by simpa using World.var?_cell g9 (heap_var g9 h9 hB) 0⟩⟩
theorem I0_laid {W : World} (hL : laidMet Tryz.prog Rows.statusTellsRow.laid W) : ∀ W', Below W.heap.size W W' -> I0 W' := by
  have t2 : laidMet Tryz.prog ((p10, Lib.tabData .u64 Lib.pow10Tab) :: (Rows.statusTellsRow.laid.drop 3)) W := hL.tail.tail
  have t3 : laidMet Tryz.prog (Rows.statusTellsRow.laid.drop 3) W := t2.tail
  have t4 : laidMet Tryz.prog (Rows.statusTellsRow.laid.drop 4) W := t3.tail
  obtain ⟨a, _, e1, _⟩ := laid_sentinel (n := "strconv.ErrRange") (nm := nmE) (r := Rows.statusTellsRow.laid.drop 4) t3 (g := 2) (by kernel_rfl) (ti := 73) (by kernel_rfl) Tryz.underlying73 rowE Tryz.underlying134 Tryz.underlying136 rfl rfl Tryz.underlying9 (by kernel_rfl) (by kernel_rfl)
  obtain ⟨b, _, e2, _⟩ := laid_sentinel (n := "strconv.ErrSyntax") (nm := nmE) (r := Rows.statusTellsRow.laid.drop 5) t4 (g := 1) (by kernel_rfl) (ti := 73) (by kernel_rfl) Tryz.underlying73 rowE Tryz.underlying134 Tryz.underlying136 rfl rfl Tryz.underlying9 (by kernel_rfl) (by kernel_rfl)
  exact I0_of (Lib.tabIs_of_head gP (t := 119) (by kernel_rfl) Tryz.underlying119 Tryz.underlying78 (by kernel_rfl) (by kernel_rfl) t2) (n8 := "strconv.ErrSyntax") (n9 := "strconv.ErrRange") (by kernel_rfl) (by kernel_rfl) ⟨b, e2⟩ ⟨a, e1⟩
end Go.Proofs.Lx
end
