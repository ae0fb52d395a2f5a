/- Proved in the last of these 11 parts (this is part 6): StatusTells: whatever the line, the order, the ledger, the numbers that wait, the number and the fault, the law returns true.. Conditions: those of the given statement, and no others. -/
import Derived.Test.YtlpbpoknpjgnbaaGreatDoorParte
import Derived.Test.YtlpbpoknpjgnbaaGreatDoorProg
set_option linter.unusedVariables false
set_option linter.unusedSimpArgs false
set_option linter.unusedSectionVars false
section
open Go Go.Proofs Ev Sx
set_option maxRecDepth 100000
namespace Go.Proofs.Lx
@[reducible] def cmp_isNaN_Guint32_s : Sh := ⟨[.d (.int .u32)], [], [.int .u32], [.d (.bool)], [], 0, [.bool]⟩
def cmp_isNaN_Guint32_m0 (x : Int) : Option (As [.bool]) :=
  some (nei x x, ())
def qdv_ (x : As [.int .u32]) : Option (As [.bool]) := cmp_isNaN_Guint32_m0 x.1
theorem cmp_isNaN_Guint32_ok : CtOk Tryz.prog (fun _ => True) 65 ⟨cmp_isNaN_Guint32_s, qdv_⟩ := ctn env_nil 6 fun J x => by kernel_rfl
@[reducible] def cmp_Less_Guint32_s : Sh := ⟨[.d (.int .u32), .d (.int .u32)], [], [.int .u32, .int .u32], [.d (.bool)], [], 0, [.bool]⟩
def cmp_Less_Guint32_m0 (x y : Int) : Option (As [.bool]) :=
  Option.bind (qdv_ (x, ())) fun (y_1 : Bool × Unit) => if y_1.1 = true then Option.bind (qdv_ (y, ())) fun (y_2 : Bool × Unit) => if (!y_2.1) = true then some (true, ()) else some (lt x y, ()) else some (lt x y, ())
def qw_ (x : As [.int .u32, .int .u32]) : Option (As [.bool]) := cmp_Less_Guint32_m0 x.1 x.2.1
theorem q6i_ : CtOk Tryz.prog (fun _ => True) 52 ⟨cmp_Less_Guint32_s, qw_⟩ := ctn (env_cons cmp_isNaN_Guint32_ok env_nil) 6 fun J x => by kernel_rfl
@[reducible] def qe_ : Sh := ⟨[.row 0, .d (.int .i64), .d (.int .i64)], [.row (.int .u32) 22], [.int .i64, .int .i64, .sl (.int .u32)], [], [(0, .row (.int .u32) 22)], 0, [.sl (.int .u32)]⟩
def qm_ : Env := (cts [(52, (⟨cmp_Less_Guint32_s, qw_⟩ : Ct))])
def ql_ : List (Nat × Hint) := [(6, ⟨[], [0, 1, 2, 6, 20, 21, 22, 23, 24, 25, 26, 27, 28, 29]⟩), (25, ⟨[], [0, 1, 2, 6, 20, 21, 22, 23, 24, 25, 26, 27, 28, 29]⟩), (402, ⟨[], [0, 1, 2, 6, 7, 20, 21, 22, 23, 24, 25, 26, 27, 28, 29]⟩), (1608, ⟨[.agd 21 (.int .i64), .agd 23 (.int .u32), .agd 25 (.int .i64), .agd 26 (.int .i64), .agd 28 (.int .u32), .agd 29 .bool], [0, 1, 2, 6, 7, 30]⟩)]
def qk_ (a b i : Int) (data : List Int) : St := { fr := [(0, .row 0), (1, .d (.int .i64) a), (2, .d (.int .i64) b), (6, .d (.int .i64) i)], nt := 49, up := [], own := [(0, .row (.int .u32) 22 data)], nx := 1, log := [], ln := 1 }
def q16_ (a b i j : Int) (data : List Int) : St := { fr := [(0, .row 0), (1, .d (.int .i64) a), (2, .d (.int .i64) b), (6, .d (.int .i64) i), (7, .d (.int .i64) j)], nt := 49, up := [], own := [(0, .row (.int .u32) 22 data)], nx := 1, log := [], ln := 1 }
def q5r_ (a b i j : Int) (t30 : Bool) (data : List Int) : St := { fr := [(0, .row 0), (1, .d (.int .i64) a), (2, .d (.int .i64) b), (6, .d (.int .i64) i), (7, .d (.int .i64) j), (30, .d .bool t30)], nt := 49, up := [], own := [(0, .row (.int .u32) 22 data)], nx := 1, log := [], ln := 1 }
def q5u_ (a b i : Int) (data : List Int) : St := { fr := [(0, .row 0), (1, .d (.int .i64) a), (2, .d (.int .i64) b), (6, .d (.int .i64) i)], nt := 49, up := [], own := [(0, .row (.int .u32) 22 data)], nx := 1, log := [], ln := 1 }
def q3z_ (j2 : Int -> Int -> Int -> Int -> List Int -> Option (As [.sl (.int .u32)])) (self1 : Int -> Int -> Int -> List Int -> Option (As [.sl (.int .u32)])) (a b i : Int) (data : List Int) : Option (As [.sl (.int .u32)]) :=
  if lt i b = true then j2 a b i i data else some (data, ())
def q3y_ (j3 : Int -> Int -> Int -> Int -> Bool -> List Int -> Option (As [.sl (.int .u32)])) (self1 : Int -> Int -> Int -> List Int -> Option (As [.sl (.int .u32)])) (self2 : Int -> Int -> Int -> Int -> List Int -> Option (As [.sl (.int .u32)])) (a b i j : Int) (data : List Int) : Option (As [.sl (.int .u32)]) :=
  if gt j a = true then Option.bind (at? data j) fun (x : Int) => Option.bind (at? data j) fun (y : Int) => Option.bind (at? data (Sx.sub .i64 j 1)) fun (x : Int) => Option.bind (at? data (Sx.sub .i64 j 1)) fun (y_1 : Int) => Option.bind (qw_ (y, y_1, ())) fun (y : Bool × Unit) => j3 a b i j y.1 data else j3 a b i j false data
def q1g_ (j4 self1 : Int -> Int -> Int -> List Int -> Option (As [.sl (.int .u32)])) (self2 : Int -> Int -> Int -> Int -> List Int -> Option (As [.sl (.int .u32)])) (a b i j : Int) (t30 : Bool) (data : List Int) : Option (As [.sl (.int .u32)]) :=
  if t30 = true then Option.bind (at? data (Sx.sub .i64 j 1)) fun (x : Int) => Option.bind (at? data (Sx.sub .i64 j 1)) fun (y : Int) => Option.bind (at? data j) fun (x : Int) => Option.bind (at? data j) fun (y_1 : Int) => Option.bind (at? data j) fun (x : Int) => Option.bind (at? data j) fun (x : Int) => Option.bind (at? (List.set data (Int.toNat j) y) (Sx.sub .i64 j 1)) fun (x : Int) => Option.bind (at? (List.set data (Int.toNat j) y) (Sx.sub .i64 j 1)) fun (x : Int) => self2 a b i (Sx.sub .i64 j 1) (List.set (List.set data (Int.toNat j) y) (Int.toNat (Sx.sub .i64 j 1)) y_1) else j4 a b i data
def qa0_ (self1 : Int -> Int -> Int -> List Int -> Option (As [.sl (.int .u32)])) (a b i : Int) (data : List Int) : Option (As [.sl (.int .u32)]) :=
  self1 a b (add .i64 i 1) data
def qa1_ (j1 : Int -> Int -> Int -> List Int -> Option (As [.sl (.int .u32)])) (data a : Int) (b : List Int) : Option (As [.sl (.int .u32)]) :=
  j1 data a (add .i64 data 1) b
def q5p_ (u1 : Int -> Int -> Int -> List Int -> Option (As [.sl (.int .u32)])) (a b i : Int) (data : List Int) : Option (As [.sl (.int .u32)]) := qa0_ u1 a b i data
def q2y_ (u1 : Int -> Int -> Int -> List Int -> Option (As [.sl (.int .u32)])) (u2 : Int -> Int -> Int -> Int -> List Int -> Option (As [.sl (.int .u32)])) (a b i j : Int) (t30 : Bool) (data : List Int) : Option (As [.sl (.int .u32)]) := q1g_ (q5p_ u1) u1 u2 a b i j t30 data
def q2z_ (u1 : Int -> Int -> Int -> List Int -> Option (As [.sl (.int .u32)])) (a b i j : Int) (data : List Int) : Option (As [.sl (.int .u32)]) :=
  loopF (fun (self : (Int) × (Int) × (Int) × (Int) × (List Int) -> Option (As [.sl (.int .u32)])) (s : (Int) × (Int) × (Int) × (Int) × (List Int)) => q3y_ (q2y_ u1 (fun a b i j data => self (a, b, i, j, data))) u1 (fun a b i j data => self (a, b, i, j, data)) s.1 s.2.1 s.2.2.1 s.2.2.2.1 s.2.2.2.2) 18446744073709551616 (a, b, i, j, data)
def q44_ (a b i : Int) (data : List Int) : Option (As [.sl (.int .u32)]) :=
  loopF (fun (self : (Int) × (Int) × (Int) × (List Int) -> Option (As [.sl (.int .u32)])) (s : (Int) × (Int) × (Int) × (List Int)) => q3z_ (q2z_ (fun a b i data => self (a, b, i, data))) (fun a b i data => self (a, b, i, data)) s.1 s.2.1 s.2.2.1 s.2.2.2) 18446744073709551616 (a, b, i, data)
def q4p_ (x : As [.int .i64, .int .i64, .sl (.int .u32)]) : Option (As [.sl (.int .u32)]) := qa1_ q44_ x.1 x.2.1 x.2.2.1
theorem qfu_  (J w1 a b i data) : pfn Tryz.prog qm_ 6 18446744073709551616 (Ev.get ql_) 73 qe_ J 25 [w1] (q5u_ a b i data) = qa0_ (fun a b i data => w1 (qk_ a b i data)) a b i data := by kernel_rfl
theorem qfj_  (J w1 w2 a b i j t30 data) : pfn Tryz.prog qm_ 6 18446744073709551616 (Ev.get ql_) 73 qe_ J 1608 [w1, w2] (q5r_ a b i j t30 data) = q1g_ (fun a b i data => J 25 [w1] (q5u_ a b i data)) (fun a b i data => w1 (qk_ a b i data)) (fun a b i j data => w2 (q16_ a b i j data)) a b i j t30 data := by kernel_rfl
theorem qfs_  (J w1 w2 a b i j data) : pfn Tryz.prog qm_ 6 18446744073709551616 (Ev.get ql_) 73 qe_ J 402 [w1, w2] (q16_ a b i j data) = q3y_ (fun a b i j t30 data => J 1608 [w1, w2] (q5r_ a b i j t30 data)) (fun a b i data => w1 (qk_ a b i data)) (fun a b i j data => w2 (q16_ a b i j data)) a b i j data := by kernel_rfl
theorem qfo_  (J w1 a b i data) : pfn Tryz.prog qm_ 6 18446744073709551616 (Ev.get ql_) 73 qe_ J 6 [w1] (qk_ a b i data) = q3z_ (fun a b i j data => J 402 [w1] (q16_ a b i j data)) (fun a b i data => w1 (qk_ a b i data)) a b i data := by kernel_rfl
theorem qfn_ (J : Orc (As [.sl (.int .u32)])) (x : As [.int .i64, .int .i64, .sl (.int .u32)]) : rfn Tryz.prog qm_ 6 18446744073709551616 (Ev.get ql_) 73 qe_ J x = qa1_ (fun a b i data => J 6 [] (qk_ a b i data)) x.1 x.2.1 x.2.2.1 := by kernel_rfl
theorem qfk_  (w1 a b i data) : jfn Tryz.prog qm_ 6 18446744073709551616 (Ev.get ql_) 73 qe_ 25 [w1] (q5u_ a b i data) = q5p_ (fun a b i data => w1 (qk_ a b i data)) a b i data := by
  rw [qi_ (by decide)]
  rw [qfu_]
  rfl
theorem qfl_  (w1 w2 a b i j t30 data) : jfn Tryz.prog qm_ 6 18446744073709551616 (Ev.get ql_) 73 qe_ 1608 [w1, w2] (q5r_ a b i j t30 data) = q2y_ (fun a b i data => w1 (qk_ a b i data)) (fun a b i j data => w2 (q16_ a b i j data)) a b i j t30 data := by
  rw [qi_ (by decide)]
  have e4 : (fun a b i data => (jfn Tryz.prog qm_ 6 18446744073709551616 (Ev.get ql_) 73 qe_) 25 [w1] (q5u_ a b i data)) = q5p_ (fun a b i data => w1 (qk_ a b i data)) := by funext a b i data; exact qfk_ w1 a b i data
  rw [qfj_, e4]
  rfl
theorem qfv_  (w1 a b i j data) : jfn Tryz.prog qm_ 6 18446744073709551616 (Ev.get ql_) 73 qe_ 402 [w1] (q16_ a b i j data) = q2z_ (fun a b i data => w1 (qk_ a b i data)) a b i j data := by
  rw [qi_ (by decide)]
  rw [q2a_ (by kernel_rfl)]
  refine q1c_ (σ := (Int) × (Int) × (Int) × (Int) × (List Int)) (mk := fun s => q16_ s.1 s.2.1 s.2.2.1 s.2.2.2.1 s.2.2.2.2) (fun w2 s => ?_) 18446744073709551616 (a, b, i, j, data)
  have e3 : (fun a b i j t30 data => (jfn Tryz.prog qm_ 6 18446744073709551616 (Ev.get ql_) 73 qe_) 1608 [w1, w2] (q5r_ a b i j t30 data)) = q2y_ (fun a b i data => w1 (qk_ a b i data)) (fun a b i j data => w2 (q16_ a b i j data)) := by funext a b i j t30 data; exact qfl_ w1 w2 a b i j t30 data
  refine (qfs_ _ w1 w2 s.1 s.2.1 s.2.2.1 s.2.2.2.1 s.2.2.2.2).trans ?_
  rw [e3]
theorem qfr_  (a b i data) : jfn Tryz.prog qm_ 6 18446744073709551616 (Ev.get ql_) 73 qe_ 6 [] (qk_ a b i data) = q44_ a b i data := by
  rw [qi_ (by decide)]
  rw [q2a_ (by kernel_rfl)]
  refine q1c_ (σ := (Int) × (Int) × (Int) × (List Int)) (mk := fun s => qk_ s.1 s.2.1 s.2.2.1 s.2.2.2) (fun w1 s => ?_) 18446744073709551616 (a, b, i, data)
  have e2 : (fun a b i j data => (jfn Tryz.prog qm_ 6 18446744073709551616 (Ev.get ql_) 73 qe_) 402 [w1] (q16_ a b i j data)) = q2z_ (fun a b i data => w1 (qk_ a b i data)) := by funext a b i j data; exact qfv_ w1 a b i j data
  refine (qfo_ _ w1 s.1 s.2.1 s.2.2.1 s.2.2.2).trans ?_
  rw [e2]
theorem qgl_ (x : As [.int .i64, .int .i64, .sl (.int .u32)]) : evT Tryz.prog qm_ 6 18446744073709551616 (Ev.get ql_) 73 qe_ x = q4p_ x := by
  have e1 : (fun a b i data => (jfn Tryz.prog qm_ 6 18446744073709551616 (Ev.get ql_) 73 qe_) 6 [] (qk_ a b i data)) = q44_ := by funext a b i data; exact qfr_ a b i data
  rw [q3s_, qfn_, e1]
  rfl
theorem qg0_ : CtOk Tryz.prog (fun _ => True) 73 ⟨qe_, q4p_⟩ := ct_of_ev (env_cons q6i_ env_nil) qgl_
@[reducible] def qs_ : Sh := ⟨[.row 0, .d (.int .i64), .d (.int .i64), .d (.int .i64)], [.row (.int .u32) 22], [.int .i64, .int .i64, .int .i64, .sl (.int .u32)], [], [(0, .row (.int .u32) 22)], 0, [.sl (.int .u32)]⟩
def q11_ : Env := (cts [(52, (⟨cmp_Less_Guint32_s, qw_⟩ : Ct))])
def q14_ : List (Nat × Hint) := [(6, ⟨[], [0, 2, 3, 8, 22, 23, 24, 25, 26, 27, 28, 29, 30, 31, 32, 33, 34, 35]⟩), (99, ⟨[], [0, 2, 3, 8, 9, 22, 23, 24, 25, 26, 27, 28, 29, 30, 31, 32, 33, 34, 35]⟩), (198, ⟨[.agd 23 (.int .i64), .agd 24 (.int .i64), .agd 25 (.int .i64), .agd 27 (.int .u32), .agd 29 (.int .i64), .agd 30 (.int .i64), .agd 31 (.int .i64), .agd 32 (.int .i64), .agd 34 (.int .u32), .agd 35 .bool], [0, 2, 3, 8, 9, 36]⟩)]
def qu_ (hi first root : Int) (data : List Int) : St := { fr := [(0, .row 0), (2, .d (.int .i64) hi), (3, .d (.int .i64) first), (8, .d (.int .i64) root)], nt := 76, up := [], own := [(0, .row (.int .u32) 22 data)], nx := 1, log := [], ln := 1 }
def q78_ (hi first root child : Int) (t36 : Bool) (data : List Int) : St := { fr := [(0, .row 0), (2, .d (.int .i64) hi), (3, .d (.int .i64) first), (8, .d (.int .i64) root), (9, .d (.int .i64) child), (36, .d .bool t36)], nt := 76, up := [], own := [(0, .row (.int .u32) 22 data)], nx := 1, log := [], ln := 1 }
def q76_ (hi first root child : Int) (data : List Int) : St := { fr := [(0, .row 0), (2, .d (.int .i64) hi), (3, .d (.int .i64) first), (8, .d (.int .i64) root), (9, .d (.int .i64) child)], nt := 76, up := [], own := [(0, .row (.int .u32) 22 data)], nx := 1, log := [], ln := 1 }
def q52_ (j2 : Int -> Int -> Int -> Int -> Bool -> List Int -> Option (As [.sl (.int .u32)])) (self1 : Int -> Int -> Int -> List Int -> Option (As [.sl (.int .u32)])) (hi first root : Int) (data : List Int) : Option (As [.sl (.int .u32)]) :=
  if ge (add .i64 (mul .i64 2 root) 1) hi = true then some (data, ()) else if lt (add .i64 (add .i64 (mul .i64 2 root) 1) 1) hi = true then Option.bind (at? data (add .i64 first (add .i64 (mul .i64 2 root) 1))) fun (x : Int) => Option.bind (at? data (add .i64 first (add .i64 (mul .i64 2 root) 1))) fun (y : Int) => Option.bind (at? data (add .i64 (add .i64 first (add .i64 (mul .i64 2 root) 1)) 1)) fun (x : Int) => Option.bind (at? data (add .i64 (add .i64 first (add .i64 (mul .i64 2 root) 1)) 1)) fun (y_1 : Int) => Option.bind (qw_ (y, y_1, ())) fun (y : Bool × Unit) => j2 hi first root (add .i64 (mul .i64 2 root) 1) y.1 data else j2 hi first root (add .i64 (mul .i64 2 root) 1) false data
def q77_ (j3 : Int -> Int -> Int -> Int -> List Int -> Option (As [.sl (.int .u32)])) (self1 : Int -> Int -> Int -> List Int -> Option (As [.sl (.int .u32)])) (hi first root child : Int) (t36 : Bool) (data : List Int) : Option (As [.sl (.int .u32)]) :=
  if t36 = true then j3 hi first root (add .i64 child 1) data else j3 hi first root child data
def q74_ (self1 : Int -> Int -> Int -> List Int -> Option (As [.sl (.int .u32)])) (hi first root child : Int) (data : List Int) : Option (As [.sl (.int .u32)]) :=
  Option.bind (at? data (add .i64 first root)) fun (x : Int) => Option.bind (at? data (add .i64 first root)) fun (y : Int) => Option.bind (at? data (add .i64 first child)) fun (x : Int) => Option.bind (at? data (add .i64 first child)) fun (y_1 : Int) => Option.bind (qw_ (y, y_1, ())) fun (y : Bool × Unit) => if (!y.1) = true then some (data, ()) else Option.bind (at? data (add .i64 first child)) fun (x : Int) => Option.bind (at? data (add .i64 first child)) fun (y : Int) => Option.bind (at? data (add .i64 first root)) fun (x : Int) => Option.bind (at? data (add .i64 first root)) fun (y_2 : Int) => Option.bind (at? data (add .i64 first root)) fun (x : Int) => Option.bind (at? data (add .i64 first root)) fun (x : Int) => Option.bind (at? (List.set data (Int.toNat (add .i64 first root)) y) (add .i64 first child)) fun (x : Int) => Option.bind (at? (List.set data (Int.toNat (add .i64 first root)) y) (add .i64 first child)) fun (x : Int) => self1 hi first child (List.set (List.set data (Int.toNat (add .i64 first root)) y) (Int.toNat (add .i64 first child)) y_2)
def qbi_ (j1 : Int -> Int -> Int -> List Int -> Option (As [.sl (.int .u32)])) (data lo hi : Int) (first : List Int) : Option (As [.sl (.int .u32)]) :=
  j1 lo hi data first
def q79_ (u1 : Int -> Int -> Int -> List Int -> Option (As [.sl (.int .u32)])) (hi first root child : Int) (data : List Int) : Option (As [.sl (.int .u32)]) := q74_ u1 hi first root child data
def q30_ (u1 : Int -> Int -> Int -> List Int -> Option (As [.sl (.int .u32)])) (hi first root child : Int) (t36 : Bool) (data : List Int) : Option (As [.sl (.int .u32)]) := q77_ (q79_ u1) u1 hi first root child t36 data
def q54_ (hi first root : Int) (data : List Int) : Option (As [.sl (.int .u32)]) :=
  loopF (fun (self : (Int) × (Int) × (Int) × (List Int) -> Option (As [.sl (.int .u32)])) (s : (Int) × (Int) × (Int) × (List Int)) => q52_ (q30_ (fun hi first root data => self (hi, first, root, data))) (fun hi first root data => self (hi, first, root, data)) s.1 s.2.1 s.2.2.1 s.2.2.2) 18446744073709551616 (hi, first, root, data)
def q3e_ (x : As [.int .i64, .int .i64, .int .i64, .sl (.int .u32)]) : Option (As [.sl (.int .u32)]) := qbi_ q54_ x.1 x.2.1 x.2.2.1 x.2.2.2.1
theorem qj2_  (J w1 hi first root child data) : pfn Tryz.prog q11_ 6 18446744073709551616 (Ev.get q14_) 93 qs_ J 99 [w1] (q76_ hi first root child data) = q74_ (fun hi first root data => w1 (qu_ hi first root data)) hi first root child data := by kernel_rfl
theorem qj7_  (J w1 hi first root child t36 data) : pfn Tryz.prog q11_ 6 18446744073709551616 (Ev.get q14_) 93 qs_ J 198 [w1] (q78_ hi first root child t36 data) = q77_ (fun hi first root child data => J 99 [w1] (q76_ hi first root child data)) (fun hi first root data => w1 (qu_ hi first root data)) hi first root child t36 data := by kernel_rfl
theorem qjd_  (J w1 hi first root data) : pfn Tryz.prog q11_ 6 18446744073709551616 (Ev.get q14_) 93 qs_ J 6 [w1] (qu_ hi first root data) = q52_ (fun hi first root child t36 data => J 198 [w1] (q78_ hi first root child t36 data)) (fun hi first root data => w1 (qu_ hi first root data)) hi first root data := by kernel_rfl
theorem qjj_ (J : Orc (As [.sl (.int .u32)])) (x : As [.int .i64, .int .i64, .int .i64, .sl (.int .u32)]) : rfn Tryz.prog q11_ 6 18446744073709551616 (Ev.get q14_) 93 qs_ J x = qbi_ (fun hi first root data => J 6 [] (qu_ hi first root data)) x.1 x.2.1 x.2.2.1 x.2.2.2.1 := by kernel_rfl
theorem qjb_  (w1 hi first root child data) : jfn Tryz.prog q11_ 6 18446744073709551616 (Ev.get q14_) 93 qs_ 99 [w1] (q76_ hi first root child data) = q79_ (fun hi first root data => w1 (qu_ hi first root data)) hi first root child data := by
  rw [qi_ (by decide)]
  rw [qj2_]
  rfl
theorem qjn_  (w1 hi first root child t36 data) : jfn Tryz.prog q11_ 6 18446744073709551616 (Ev.get q14_) 93 qs_ 198 [w1] (q78_ hi first root child t36 data) = q30_ (fun hi first root data => w1 (qu_ hi first root data)) hi first root child t36 data := by
  rw [qi_ (by decide)]
  have e3 : (fun hi first root child data => (jfn Tryz.prog q11_ 6 18446744073709551616 (Ev.get q14_) 93 qs_) 99 [w1] (q76_ hi first root child data)) = q79_ (fun hi first root data => w1 (qu_ hi first root data)) := by funext hi first root child data; exact qjb_ w1 hi first root child data
  rw [qj7_, e3]
  rfl
theorem qjl_  (hi first root data) : jfn Tryz.prog q11_ 6 18446744073709551616 (Ev.get q14_) 93 qs_ 6 [] (qu_ hi first root data) = q54_ hi first root data := by
  rw [qi_ (by decide)]
  rw [q2a_ (by kernel_rfl)]
  refine q1c_ (σ := (Int) × (Int) × (Int) × (List Int)) (mk := fun s => qu_ s.1 s.2.1 s.2.2.1 s.2.2.2) (fun w1 s => ?_) 18446744073709551616 (hi, first, root, data)
  have e2 : (fun hi first root child t36 data => (jfn Tryz.prog q11_ 6 18446744073709551616 (Ev.get q14_) 93 qs_) 198 [w1] (q78_ hi first root child t36 data)) = q30_ (fun hi first root data => w1 (qu_ hi first root data)) := by funext hi first root child t36 data; exact qjn_ w1 hi first root child t36 data
  refine (qjd_ _ w1 s.1 s.2.1 s.2.2.1 s.2.2.2).trans ?_
  rw [e2]
theorem qk1_ (x : As [.int .i64, .int .i64, .int .i64, .sl (.int .u32)]) : evT Tryz.prog q11_ 6 18446744073709551616 (Ev.get q14_) 93 qs_ x = q3e_ x := by
  have e1 : (fun hi first root data => (jfn Tryz.prog q11_ 6 18446744073709551616 (Ev.get q14_) 93 qs_) 6 [] (qu_ hi first root data)) = q54_ := by funext hi first root data; exact qjl_ hi first root data
  rw [q3s_, qjj_, e1]
  rfl
theorem qj4_ : CtOk Tryz.prog (fun _ => True) 93 ⟨qs_, q3e_⟩ := ct_of_ev (env_cons q6i_ env_nil) qk1_
@[reducible] def qp_ : Sh := ⟨[.row 0, .d (.int .i64), .d (.int .i64)], [.row (.int .u32) 22], [.int .i64, .int .i64, .sl (.int .u32)], [], [(0, .row (.int .u32) 22)], 0, [.sl (.int .u32)]⟩
def q12_ : Env := (cts [(93, (⟨qs_, q3e_⟩ : Ct))])
def q13_ : List (Nat × Hint) := [(15, ⟨[], [0, 6, 7, 8]⟩), (126, ⟨[], [0, 6, 7, 10]⟩), (122, ⟨[], [0, 6, 7, 8, 9]⟩)]
def q3v_ (first lo hi i : Int) (data : List Int) : St := { fr := [(0, .row 0), (6, .d (.int .i64) first), (7, .d (.int .i64) lo), (8, .d (.int .i64) hi), (9, .d (.int .i64) i)], nt := 56, up := [], own := [(0, .row (.int .u32) 22 data)], nx := 1, log := [], ln := 1 }
def q75_ (first lo hi : Int) (data : List Int) : St := { fr := [(0, .row 0), (6, .d (.int .i64) first), (7, .d (.int .i64) lo), (8, .d (.int .i64) hi)], nt := 56, up := [], own := [(0, .row (.int .u32) 22 data)], nx := 1, log := [], ln := 1 }
def q3u_ (first lo i : Int) (data : List Int) : St := { fr := [(0, .row 0), (6, .d (.int .i64) first), (7, .d (.int .i64) lo), (10, .d (.int .i64) i)], nt := 56, up := [], own := [(0, .row (.int .u32) 22 data)], nx := 1, log := [], ln := 1 }
def q3w_ (j2 : Int -> Int -> Int -> List Int -> Option (As [.sl (.int .u32)])) (self1 : Int -> Int -> Int -> Int -> List Int -> Option (As [.sl (.int .u32)])) (first lo hi i : Int) (data : List Int) : Option (As [.sl (.int .u32)]) :=
  if ge i 0 = true then Option.bind (q3e_ (i, hi, first, data, ())) fun (y : List Int × Unit) => self1 first lo hi (Sx.sub .i64 i 1) y.1 else j2 first lo hi data
def qbk_ (j3 : Int -> Int -> Int -> List Int -> Option (As [.sl (.int .u32)])) (first lo hi : Int) (data : List Int) : Option (As [.sl (.int .u32)]) :=
  j3 first lo (Sx.sub .i64 hi 1) data
def q3x_ (self3 : Int -> Int -> Int -> List Int -> Option (As [.sl (.int .u32)])) (first lo i : Int) (data : List Int) : Option (As [.sl (.int .u32)]) :=
  if ge i 0 = true then Option.bind (at? data (add .i64 first i)) fun (x : Int) => Option.bind (at? data (add .i64 first i)) fun (y : Int) => Option.bind (at? data first) fun (x : Int) => Option.bind (at? data first) fun (y_1 : Int) => Option.bind (at? data first) fun (x : Int) => Option.bind (at? data first) fun (x : Int) => Option.bind (at? (List.set data (Int.toNat first) y) (add .i64 first i)) fun (x : Int) => Option.bind (at? (List.set data (Int.toNat first) y) (add .i64 first i)) fun (x : Int) => Option.bind (q3e_ (lo, i, first, List.set (List.set data (Int.toNat first) y) (Int.toNat (add .i64 first i)) y_1, ())) fun (y : List Int × Unit) => self3 first lo (Sx.sub .i64 i 1) y.1 else some (data, ())
def qbj_ (j1 : Int -> Int -> Int -> Int -> List Int -> Option (As [.sl (.int .u32)])) (data a : Int) (b : List Int) : Option (As [.sl (.int .u32)]) :=
  j1 data 0 (Sx.sub .i64 a data) (quo .i64 (Sx.sub .i64 (Sx.sub .i64 a data) 1) 2) b
def q53_ (first lo i : Int) (data : List Int) : Option (As [.sl (.int .u32)]) :=
  loopF (fun (self : (Int) × (Int) × (Int) × (List Int) -> Option (As [.sl (.int .u32)])) (s : (Int) × (Int) × (Int) × (List Int)) => q3x_ (fun first lo i data => self (first, lo, i, data)) s.1 s.2.1 s.2.2.1 s.2.2.2) 18446744073709551616 (first, lo, i, data)
def q3t_ (first lo hi : Int) (data : List Int) : Option (As [.sl (.int .u32)]) := qbk_ (q53_) first lo hi data
def q51_ (first lo hi i : Int) (data : List Int) : Option (As [.sl (.int .u32)]) :=
  loopF (fun (self : (Int) × (Int) × (Int) × (Int) × (List Int) -> Option (As [.sl (.int .u32)])) (s : (Int) × (Int) × (Int) × (Int) × (List Int)) => q3w_ (q3t_) (fun first lo hi i data => self (first, lo, hi, i, data)) s.1 s.2.1 s.2.2.1 s.2.2.2.1 s.2.2.2.2) 18446744073709551616 (first, lo, hi, i, data)
def q61_ (x : As [.int .i64, .int .i64, .sl (.int .u32)]) : Option (As [.sl (.int .u32)]) := qbj_ q51_ x.1 x.2.1 x.2.2.1
theorem qj6_  (J w3 first lo i data) : pfn Tryz.prog q12_ 6 18446744073709551616 (Ev.get q13_) 74 qp_ J 126 [w3] (q3u_ first lo i data) = q3x_ (fun first lo i data => w3 (q3u_ first lo i data)) first lo i data := by kernel_rfl
theorem qjk_  (J first lo hi data) : pfn Tryz.prog q12_ 6 18446744073709551616 (Ev.get q13_) 74 qp_ J 15 [] (q75_ first lo hi data) = qbk_ (fun first lo i data => J 126 [] (q3u_ first lo i data)) first lo hi data := by kernel_rfl
theorem qjh_  (J w1 first lo hi i data) : pfn Tryz.prog q12_ 6 18446744073709551616 (Ev.get q13_) 74 qp_ J 122 [w1] (q3v_ first lo hi i data) = q3w_ (fun first lo hi data => J 15 [] (q75_ first lo hi data)) (fun first lo hi i data => w1 (q3v_ first lo hi i data)) first lo hi i data := by kernel_rfl
theorem qjc_ (J : Orc (As [.sl (.int .u32)])) (x : As [.int .i64, .int .i64, .sl (.int .u32)]) : rfn Tryz.prog q12_ 6 18446744073709551616 (Ev.get q13_) 74 qp_ J x = qbj_ (fun first lo hi i data => J 122 [] (q3v_ first lo hi i data)) x.1 x.2.1 x.2.2.1 := by kernel_rfl
theorem qj5_  (first lo i data) : jfn Tryz.prog q12_ 6 18446744073709551616 (Ev.get q13_) 74 qp_ 126 [] (q3u_ first lo i data) = q53_ first lo i data := by
  rw [qi_ (by decide)]
  rw [q2a_ (by kernel_rfl)]
  refine q1c_ (σ := (Int) × (Int) × (Int) × (List Int)) (mk := fun s => q3u_ s.1 s.2.1 s.2.2.1 s.2.2.2) (fun w3 s => ?_) 18446744073709551616 (first, lo, i, data)
  refine (qj6_ _ w3 s.1 s.2.1 s.2.2.1 s.2.2.2).trans ?_
  rfl
theorem qja_  (first lo hi data) : jfn Tryz.prog q12_ 6 18446744073709551616 (Ev.get q13_) 74 qp_ 15 [] (q75_ first lo hi data) = q3t_ first lo hi data := by
  rw [qi_ (by decide)]
  have e3 : (fun first lo i data => (jfn Tryz.prog q12_ 6 18446744073709551616 (Ev.get q13_) 74 qp_) 126 [] (q3u_ first lo i data)) = q53_ := by funext first lo i data; exact qj5_ first lo i data
  rw [qjk_, e3]
  rfl
theorem qj3_  (first lo hi i data) : jfn Tryz.prog q12_ 6 18446744073709551616 (Ev.get q13_) 74 qp_ 122 [] (q3v_ first lo hi i data) = q51_ first lo hi i data := by
  rw [qi_ (by decide)]
  rw [q2a_ (by kernel_rfl)]
  refine q1c_ (σ := (Int) × (Int) × (Int) × (Int) × (List Int)) (mk := fun s => q3v_ s.1 s.2.1 s.2.2.1 s.2.2.2.1 s.2.2.2.2) (fun w1 s => ?_) 18446744073709551616 (first, lo, hi, i, data)
  have e2 : (fun first lo hi data => (jfn Tryz.prog q12_ 6 18446744073709551616 (Ev.get q13_) 74 qp_) 15 [] (q75_ first lo hi data)) = q3t_ := by funext first lo hi data; exact qja_ first lo hi data
  refine (qjh_ _ w1 s.1 s.2.1 s.2.2.1 s.2.2.2.1 s.2.2.2.2).trans ?_
  rw [e2]
theorem qk0_ (x : As [.int .i64, .int .i64, .sl (.int .u32)]) : evT Tryz.prog q12_ 6 18446744073709551616 (Ev.get q13_) 74 qp_ x = q61_ x := by
  have e1 : (fun first lo hi i data => (jfn Tryz.prog q12_ 6 18446744073709551616 (Ev.get q13_) 74 qp_) 122 [] (q3v_ first lo hi i data)) = q51_ := by funext first lo hi i data; exact qj3_ first lo hi i data
  rw [q3s_, qjc_, e1]
  rfl
theorem qjm_ : CtOk Tryz.prog (fun _ => True) 74 ⟨qp_, q61_⟩ := ct_of_ev (env_cons qj4_ env_nil) qk0_
@[reducible] def bits_Len32_s : Sh := ⟨[.d (.int .u32)], [], [.int .u32], [.d (.int .i64)], [], 0, [.int .i64]⟩
def qao_ : Env := (cts [])
def qap_ : List (Nat × Hint) := [(3, ⟨[], [0, 2]⟩), (7, ⟨[], [0, 2]⟩)]
def bits_Len32_k1 (x n : Int) : St := { fr := [(0, .d (.int .u32) x), (2, .d (.int .i64) n)], nt := 19, up := [], own := [], nx := 0, log := [], ln := 0 }
def bits_Len32_k2 (x n : Int) : St := { fr := [(0, .d (.int .u32) x), (2, .d (.int .i64) n)], nt := 19, up := [], own := [], nx := 0, log := [], ln := 0 }
def bits_Len32_m1 (j2 : Int -> Int -> Option (As [.int .i64])) (x n : Int) : Option (As [.int .i64]) :=
  if ge x 256 = true then j2 (Sx.shr .u32 x 8) (add .i64 n 8) else j2 x n
def bits_Len32_m2 (x n : Int) : Option (As [.int .i64]) :=
  Option.bind (at? [0, 1, 2, 2, 3, 3, 3, 3, 4, 4, 4, 4, 4, 4, 4, 4, 5, 5, 5, 5, 5, 5, 5, 5, 5, 5, 5, 5, 5, 5, 5, 5, 6, 6, 6, 6, 6, 6, 6, 6, 6, 6, 6, 6, 6, 6, 6, 6, 6, 6, 6, 6, 6, 6, 6, 6, 6, 6, 6, 6, 6, 6, 6, 6, 7, 7, 7, 7, 7, 7, 7, 7, 7, 7, 7, 7, 7, 7, 7, 7, 7, 7, 7, 7, 7, 7, 7, 7, 7, 7, 7, 7, 7, 7, 7, 7, 7, 7, 7, 7, 7, 7, 7, 7, 7, 7, 7, 7, 7, 7, 7, 7, 7, 7, 7, 7, 7, 7, 7, 7, 7, 7, 7, 7, 7, 7, 7, 7, 8, 8, 8, 8, 8, 8, 8, 8, 8, 8, 8, 8, 8, 8, 8, 8, 8, 8, 8, 8, 8, 8, 8, 8, 8, 8, 8, 8, 8, 8, 8, 8, 8, 8, 8, 8, 8, 8, 8, 8, 8, 8, 8, 8, 8, 8, 8, 8, 8, 8, 8, 8, 8, 8, 8, 8, 8, 8, 8, 8, 8, 8, 8, 8, 8, 8, 8, 8, 8, 8, 8, 8, 8, 8, 8, 8, 8, 8, 8, 8, 8, 8, 8, 8, 8, 8, 8, 8, 8, 8, 8, 8, 8, 8, 8, 8, 8, 8, 8, 8, 8, 8, 8, 8, 8, 8, 8, 8, 8, 8, 8, 8, 8, 8, 8, 8, 8, 8, 8, 8, 8, 8, 8, 8, 8, 8, 8, 8] (cvt .u8 x)) fun (c : UInt8) => some (add .i64 n (cvt .i64 (Int.ofNat (UInt8.toNat c))), ())
def bits_Len32_m0 (j1 : Int -> Int -> Option (As [.int .i64])) (x : Int) : Option (As [.int .i64]) :=
  if ge x 65536 = true then j1 (Sx.shr .u32 x 16) 16 else j1 x 0
def bits_Len32_K2 (x n : Int) : Option (As [.int .i64]) := bits_Len32_m2 x n
def bits_Len32_K1 (x n : Int) : Option (As [.int .i64]) := bits_Len32_m1 (bits_Len32_K2) x n
def bits_Len32 (x : As [.int .u32]) : Option (As [.int .i64]) := bits_Len32_m0 bits_Len32_K1 x.1
theorem bits_Len32_c2  (J x n) : pfn Tryz.prog qao_ 6 18446744073709551616 (Ev.get qap_) 81 bits_Len32_s J 7 [] (bits_Len32_k2 x n) = bits_Len32_m2 x n := by kernel_rfl
theorem bits_Len32_c1  (J x n) : pfn Tryz.prog qao_ 6 18446744073709551616 (Ev.get qap_) 81 bits_Len32_s J 3 [] (bits_Len32_k1 x n) = bits_Len32_m1 (fun x n => J 7 [] (bits_Len32_k2 x n)) x n := by kernel_rfl
theorem bits_Len32_c0 (J : Orc (As [.int .i64])) (x : As [.int .u32]) : rfn Tryz.prog qao_ 6 18446744073709551616 (Ev.get qap_) 81 bits_Len32_s J x = bits_Len32_m0 (fun x n => J 3 [] (bits_Len32_k1 x n)) x.1 := by kernel_rfl
theorem bits_Len32_g2 (x n : Int) : jfn Tryz.prog qao_ 6 18446744073709551616 (Ev.get qap_) 81 bits_Len32_s 7 [] (bits_Len32_k2 x n) = bits_Len32_K2 x n := by
  rw [qi_ (by decide)]
  rw [bits_Len32_c2]
  rfl
theorem bits_Len32_g1 (x n : Int) : jfn Tryz.prog qao_ 6 18446744073709551616 (Ev.get qap_) 81 bits_Len32_s 3 [] (bits_Len32_k1 x n) = bits_Len32_K1 x n := by
  rw [qi_ (by decide)]
  have e2 : (fun x n => (jfn Tryz.prog qao_ 6 18446744073709551616 (Ev.get qap_) 81 bits_Len32_s) 7 [] (bits_Len32_k2 x n)) = bits_Len32_K2 := by funext x n; exact bits_Len32_g2 x n
  rw [bits_Len32_c1, e2]
  rfl
theorem bits_Len32_t (x : As [.int .u32]) : evT Tryz.prog qao_ 6 18446744073709551616 (Ev.get qap_) 81 bits_Len32_s x = bits_Len32 x := by
  have e1 : (fun x n => (jfn Tryz.prog qao_ 6 18446744073709551616 (Ev.get qap_) 81 bits_Len32_s) 3 [] (bits_Len32_k1 x n)) = bits_Len32_K1 := by funext x n; exact bits_Len32_g1 x n
  rw [q3s_, bits_Len32_c0, e1]
  rfl
theorem bits_Len32_ok : CtOk Tryz.prog (fun _ => True) 81 ⟨bits_Len32_s, bits_Len32⟩ := ct_of_ev env_nil bits_Len32_t
@[reducible] def bits_Len64_s : Sh := ⟨[.d (.int .u64)], [], [.int .u64], [.d (.int .i64)], [], 0, [.int .i64]⟩
def q89_ : Env := (cts [])
def q8a_ : List (Nat × Hint) := [(3, ⟨[], [0, 2]⟩), (7, ⟨[], [0, 2]⟩), (15, ⟨[], [0, 2]⟩)]
def bits_Len64_k1 (x n : Int) : St := { fr := [(0, .d (.int .u64) x), (2, .d (.int .i64) n)], nt := 25, up := [], own := [], nx := 0, log := [], ln := 0 }
def bits_Len64_k2 (x n : Int) : St := { fr := [(0, .d (.int .u64) x), (2, .d (.int .i64) n)], nt := 25, up := [], own := [], nx := 0, log := [], ln := 0 }
def bits_Len64_k3 (x n : Int) : St := { fr := [(0, .d (.int .u64) x), (2, .d (.int .i64) n)], nt := 25, up := [], own := [], nx := 0, log := [], ln := 0 }
def bits_Len64_m1 (j2 : Int -> Int -> Option (As [.int .i64])) (x n : Int) : Option (As [.int .i64]) :=
  if ge x 65536 = true then j2 (Sx.shr .u64 x 16) (add .i64 n 16) else j2 x n
def bits_Len64_m2 (j3 : Int -> Int -> Option (As [.int .i64])) (x n : Int) : Option (As [.int .i64]) :=
  if ge x 256 = true then j3 (Sx.shr .u64 x 8) (add .i64 n 8) else j3 x n
def bits_Len64_m3 (x n : Int) : Option (As [.int .i64]) :=
  Option.bind (at? [0, 1, 2, 2, 3, 3, 3, 3, 4, 4, 4, 4, 4, 4, 4, 4, 5, 5, 5, 5, 5, 5, 5, 5, 5, 5, 5, 5, 5, 5, 5, 5, 6, 6, 6, 6, 6, 6, 6, 6, 6, 6, 6, 6, 6, 6, 6, 6, 6, 6, 6, 6, 6, 6, 6, 6, 6, 6, 6, 6, 6, 6, 6, 6, 7, 7, 7, 7, 7, 7, 7, 7, 7, 7, 7, 7, 7, 7, 7, 7, 7, 7, 7, 7, 7, 7, 7, 7, 7, 7, 7, 7, 7, 7, 7, 7, 7, 7, 7, 7, 7, 7, 7, 7, 7, 7, 7, 7, 7, 7, 7, 7, 7, 7, 7, 7, 7, 7, 7, 7, 7, 7, 7, 7, 7, 7, 7, 7, 8, 8, 8, 8, 8, 8, 8, 8, 8, 8, 8, 8, 8, 8, 8, 8, 8, 8, 8, 8, 8, 8, 8, 8, 8, 8, 8, 8, 8, 8, 8, 8, 8, 8, 8, 8, 8, 8, 8, 8, 8, 8, 8, 8, 8, 8, 8, 8, 8, 8, 8, 8, 8, 8, 8, 8, 8, 8, 8, 8, 8, 8, 8, 8, 8, 8, 8, 8, 8, 8, 8, 8, 8, 8, 8, 8, 8, 8, 8, 8, 8, 8, 8, 8, 8, 8, 8, 8, 8, 8, 8, 8, 8, 8, 8, 8, 8, 8, 8, 8, 8, 8, 8, 8, 8, 8, 8, 8, 8, 8, 8, 8, 8, 8, 8, 8, 8, 8, 8, 8, 8, 8, 8, 8, 8, 8, 8, 8] (cvt .u8 x)) fun (c : UInt8) => some (add .i64 n (cvt .i64 (Int.ofNat (UInt8.toNat c))), ())
def bits_Len64_m0 (j1 : Int -> Int -> Option (As [.int .i64])) (x : Int) : Option (As [.int .i64]) :=
  if ge x 4294967296 = true then j1 (Sx.shr .u64 x 32) 32 else j1 x 0
def bits_Len64_K3 (x n : Int) : Option (As [.int .i64]) := bits_Len64_m3 x n
def bits_Len64_K2 (x n : Int) : Option (As [.int .i64]) := bits_Len64_m2 (bits_Len64_K3) x n
def bits_Len64_K1 (x n : Int) : Option (As [.int .i64]) := bits_Len64_m1 (bits_Len64_K2) x n
def bits_Len64 (x : As [.int .u64]) : Option (As [.int .i64]) := bits_Len64_m0 bits_Len64_K1 x.1
theorem bits_Len64_c3  (J x n) : pfn Tryz.prog q89_ 6 18446744073709551616 (Ev.get q8a_) 82 bits_Len64_s J 15 [] (bits_Len64_k3 x n) = bits_Len64_m3 x n := by kernel_rfl
theorem bits_Len64_c2  (J x n) : pfn Tryz.prog q89_ 6 18446744073709551616 (Ev.get q8a_) 82 bits_Len64_s J 7 [] (bits_Len64_k2 x n) = bits_Len64_m2 (fun x n => J 15 [] (bits_Len64_k3 x n)) x n := by kernel_rfl
theorem bits_Len64_c1  (J x n) : pfn Tryz.prog q89_ 6 18446744073709551616 (Ev.get q8a_) 82 bits_Len64_s J 3 [] (bits_Len64_k1 x n) = bits_Len64_m1 (fun x n => J 7 [] (bits_Len64_k2 x n)) x n := by kernel_rfl
theorem bits_Len64_c0 (J : Orc (As [.int .i64])) (x : As [.int .u64]) : rfn Tryz.prog q89_ 6 18446744073709551616 (Ev.get q8a_) 82 bits_Len64_s J x = bits_Len64_m0 (fun x n => J 3 [] (bits_Len64_k1 x n)) x.1 := by kernel_rfl
theorem bits_Len64_g3 (x n : Int) : jfn Tryz.prog q89_ 6 18446744073709551616 (Ev.get q8a_) 82 bits_Len64_s 15 [] (bits_Len64_k3 x n) = bits_Len64_K3 x n := by
  rw [qi_ (by decide)]
  rw [bits_Len64_c3]
  rfl
theorem bits_Len64_g2 (x n : Int) : jfn Tryz.prog q89_ 6 18446744073709551616 (Ev.get q8a_) 82 bits_Len64_s 7 [] (bits_Len64_k2 x n) = bits_Len64_K2 x n := by
  rw [qi_ (by decide)]
  have e3 : (fun x n => (jfn Tryz.prog q89_ 6 18446744073709551616 (Ev.get q8a_) 82 bits_Len64_s) 15 [] (bits_Len64_k3 x n)) = bits_Len64_K3 := by funext x n; exact bits_Len64_g3 x n
  rw [bits_Len64_c2, e3]
  rfl
theorem bits_Len64_g1 (x n : Int) : jfn Tryz.prog q89_ 6 18446744073709551616 (Ev.get q8a_) 82 bits_Len64_s 3 [] (bits_Len64_k1 x n) = bits_Len64_K1 x n := by
  rw [qi_ (by decide)]
  have e2 : (fun x n => (jfn Tryz.prog q89_ 6 18446744073709551616 (Ev.get q8a_) 82 bits_Len64_s) 7 [] (bits_Len64_k2 x n)) = bits_Len64_K2 := by funext x n; exact bits_Len64_g2 x n
  rw [bits_Len64_c1, e2]
  rfl
theorem bits_Len64_t (x : As [.int .u64]) : evT Tryz.prog q89_ 6 18446744073709551616 (Ev.get q8a_) 82 bits_Len64_s x = bits_Len64 x := by
  have e1 : (fun x n => (jfn Tryz.prog q89_ 6 18446744073709551616 (Ev.get q8a_) 82 bits_Len64_s) 3 [] (bits_Len64_k1 x n)) = bits_Len64_K1 := by funext x n; exact bits_Len64_g1 x n
  rw [q3s_, bits_Len64_c0, e1]
  rfl
theorem bits_Len64_ok : CtOk Tryz.prog (fun _ => True) 82 ⟨bits_Len64_s, bits_Len64⟩ := ct_of_ev env_nil bits_Len64_t
@[reducible] def bits_Len_s : Sh := ⟨[.d (.int .u64)], [], [.int .u64], [.d (.int .i64)], [], 0, [.int .i64]⟩
def bits_Len_m0 (x : Int) : Option (As [.int .i64]) :=
  Option.bind (bits_Len64 (x, ())) fun (y : Int × Unit) => some (y.1, ())
def bits_Len (x : As [.int .u64]) : Option (As [.int .i64]) := bits_Len_m0 x.1
theorem bits_Len_ok : CtOk Tryz.prog (fun _ => True) 64 ⟨bits_Len_s, bits_Len⟩ := ctn (env_cons bits_Len32_ok (env_cons bits_Len64_ok env_nil)) 6 fun J x => by kernel_rfl
@[reducible] def qi6_ : Sh := ⟨[.d (.int .i64)], [], [.int .i64], [.d (.int .u64)], [], 0, [.int .u64]⟩
def qlm_ (length : Int) : Option (As [.int .u64]) :=
  Option.bind (bits_Len (cvt .u64 length, ())) fun (y : Int × Unit) => need (ge y.1 0) (some (Sx.shl .u64 1 y.1, ()))
def q86_ (x : As [.int .i64]) : Option (As [.int .u64]) := qlm_ x.1
theorem qls_ : CtOk Tryz.prog (fun _ => True) 94 ⟨qi6_, q86_⟩ := ctn (env_cons bits_Len_ok env_nil) 6 fun J x => by kernel_rfl
@[reducible] def qj8_ : Sh := ⟨[.pb 0 0], [.box 122 [.d (.int .u64)]], [.int .u64], [.d (.int .u64)], [(0, .box 122 [.d (.int .u64)])], 0, [.int .u64, .int .u64]⟩
def qck_ (r : Int) : Option (As [.int .u64, .int .u64]) :=
  some (Sx.bxor .u64 (Sx.bxor .u64 (Sx.bxor .u64 r (Sx.shl .u64 r 13)) (Sx.shr .u64 (Sx.bxor .u64 r (Sx.shl .u64 r 13)) 7)) (Sx.shl .u64 (Sx.bxor .u64 (Sx.bxor .u64 r (Sx.shl .u64 r 13)) (Sx.shr .u64 (Sx.bxor .u64 r (Sx.shl .u64 r 13)) 7)) 17), Sx.bxor .u64 (Sx.bxor .u64 (Sx.bxor .u64 r (Sx.shl .u64 r 13)) (Sx.shr .u64 (Sx.bxor .u64 r (Sx.shl .u64 r 13)) 7)) (Sx.shl .u64 (Sx.bxor .u64 (Sx.bxor .u64 r (Sx.shl .u64 r 13)) (Sx.shr .u64 (Sx.bxor .u64 r (Sx.shl .u64 r 13)) 7)) 17), ())
def qbe_ (x : As [.int .u64]) : Option (As [.int .u64, .int .u64]) := qck_ x.1
theorem qlv_ : CtOk Tryz.prog (fun _ => True) 95 ⟨qj8_, qbe_⟩ := ctn env_nil 6 fun J x => by kernel_rfl
@[reducible] def qx_ : Sh := ⟨[.row 0, .d (.int .i64), .d (.int .i64)], [.row (.int .u32) 22], [.int .i64, .int .i64, .sl (.int .u32)], [], [(0, .row (.int .u32) 22)], 0, [.sl (.int .u32)]⟩
def q1n_ : Env := (cts [(94, (⟨qi6_, q86_⟩ : Ct)), (95, (⟨qj8_, qbe_⟩ : Ct))])
def q1o_ : List (Nat × Hint) := [(238, ⟨[], [0, 1, 6, 7, 8, 9]⟩), (7625, ⟨[], [0, 1, 6, 7, 8, 9, 10]⟩)]
def q17_ (a length modulus idx : Int) (data : List Int) (random : Int) : St := { fr := [(0, .row 0), (1, .d (.int .i64) a), (6, .d (.int .i64) length), (7, .pb 1 0), (8, .d (.int .u64) modulus), (9, .d (.int .i64) idx)], nt := 65, up := [], own := [(0, .row (.int .u32) 22 data), (1, .box 122 [.d (.int .u64) random])], nx := 2, log := [], ln := 1 }
def q5o_ (a length modulus idx other : Int) (data : List Int) (random : Int) : St := { fr := [(0, .row 0), (1, .d (.int .i64) a), (6, .d (.int .i64) length), (7, .pb 1 0), (8, .d (.int .u64) modulus), (9, .d (.int .i64) idx), (10, .d (.int .i64) other)], nt := 65, up := [], own := [(0, .row (.int .u32) 22 data), (1, .box 122 [.d (.int .u64) random])], nx := 2, log := [], ln := 1 }
def q42_ (j2 : Int -> Int -> Int -> Int -> Int -> List Int -> Int -> Option (As [.sl (.int .u32)])) (self1 : Int -> Int -> Int -> Int -> List Int -> Int -> Option (As [.sl (.int .u32)])) (a length modulus idx : Int) (data : List Int) (random : Int) : Option (As [.sl (.int .u32)]) :=
  if le idx (add .i64 (add .i64 a (mul .i64 (quo .i64 length 4) 2)) 1) = true then Option.bind (qbe_ (random, ())) fun (y : Int × Int × Unit) => if ge (cvt .i64 (Sx.band .u64 y.1 (Sx.sub .u64 modulus 1))) length = true then j2 a length modulus idx (Sx.sub .i64 (cvt .i64 (Sx.band .u64 y.1 (Sx.sub .u64 modulus 1))) length) data y.2.1 else j2 a length modulus idx (cvt .i64 (Sx.band .u64 y.1 (Sx.sub .u64 modulus 1))) data y.2.1 else some (data, ())
def q5s_ (self1 : Int -> Int -> Int -> Int -> List Int -> Int -> Option (As [.sl (.int .u32)])) (a length modulus idx other : Int) (data : List Int) (random : Int) : Option (As [.sl (.int .u32)]) :=
  Option.bind (at? data (add .i64 a other)) fun (x : Int) => Option.bind (at? data (add .i64 a other)) fun (y : Int) => Option.bind (at? data idx) fun (x : Int) => Option.bind (at? data idx) fun (y_1 : Int) => Option.bind (at? data idx) fun (x : Int) => Option.bind (at? data idx) fun (x : Int) => Option.bind (at? (List.set data (Int.toNat idx) y) (add .i64 a other)) fun (x : Int) => Option.bind (at? (List.set data (Int.toNat idx) y) (add .i64 a other)) fun (x : Int) => self1 a length modulus (add .i64 idx 1) (List.set (List.set data (Int.toNat idx) y) (Int.toNat (add .i64 a other)) y_1) random
def q5t_ (j1 : Int -> Int -> Int -> Int -> List Int -> Int -> Option (As [.sl (.int .u32)])) (data a : Int) (b : List Int) : Option (As [.sl (.int .u32)]) :=
  if ge (Sx.sub .i64 a data) 8 = true then Option.bind (q86_ (Sx.sub .i64 a data, ())) fun (y : Int × Unit) => j1 data (Sx.sub .i64 a data) y.1 (Sx.sub .i64 (add .i64 data (mul .i64 (quo .i64 (Sx.sub .i64 a data) 4) 2)) 1) b (cvt .u64 (Sx.sub .i64 a data)) else some (b, ())
def q2x_ (u1 : Int -> Int -> Int -> Int -> List Int -> Int -> Option (As [.sl (.int .u32)])) (a length modulus idx other : Int) (data : List Int) (random : Int) : Option (As [.sl (.int .u32)]) := q5s_ u1 a length modulus idx other data random
def q43_ (a length modulus idx : Int) (data : List Int) (random : Int) : Option (As [.sl (.int .u32)]) :=
  loopF (fun (self : (Int) × (Int) × (Int) × (Int) × (List Int) × (Int) -> Option (As [.sl (.int .u32)])) (s : (Int) × (Int) × (Int) × (Int) × (List Int) × (Int)) => q42_ (q2x_ (fun a length modulus idx data random => self (a, length, modulus, idx, data, random))) (fun a length modulus idx data random => self (a, length, modulus, idx, data, random)) s.1 s.2.1 s.2.2.1 s.2.2.2.1 s.2.2.2.2.1 s.2.2.2.2.2) 18446744073709551616 (a, length, modulus, idx, data, random)
def q3d_ (x : As [.int .i64, .int .i64, .sl (.int .u32)]) : Option (As [.sl (.int .u32)]) := q5t_ q43_ x.1 x.2.1 x.2.2.1
theorem qfz_  (J w1 a length modulus idx other data random) : pfn Tryz.prog q1n_ 6 18446744073709551616 (Ev.get q1o_) 75 qx_ J 7625 [w1] (q5o_ a length modulus idx other data random) = q5s_ (fun a length modulus idx data random => w1 (q17_ a length modulus idx data random)) a length modulus idx other data random := by kernel_rfl
theorem qfw_  (J w1 a length modulus idx data random) : pfn Tryz.prog q1n_ 6 18446744073709551616 (Ev.get q1o_) 75 qx_ J 238 [w1] (q17_ a length modulus idx data random) = q42_ (fun a length modulus idx other data random => J 7625 [w1] (q5o_ a length modulus idx other data random)) (fun a length modulus idx data random => w1 (q17_ a length modulus idx data random)) a length modulus idx data random := by kernel_rfl
theorem qfq_ (J : Orc (As [.sl (.int .u32)])) (x : As [.int .i64, .int .i64, .sl (.int .u32)]) : rfn Tryz.prog q1n_ 6 18446744073709551616 (Ev.get q1o_) 75 qx_ J x = q5t_ (fun a length modulus idx data random => J 238 [] (q17_ a length modulus idx data random)) x.1 x.2.1 x.2.2.1 := by kernel_rfl
theorem qfi_  (w1 a length modulus idx other data random) : jfn Tryz.prog q1n_ 6 18446744073709551616 (Ev.get q1o_) 75 qx_ 7625 [w1] (q5o_ a length modulus idx other data random) = q2x_ (fun a length modulus idx data random => w1 (q17_ a length modulus idx data random)) a length modulus idx other data random := by
  rw [qi_ (by decide)]
  rw [qfz_]
  rfl
theorem qfp_  (a length modulus idx data random) : jfn Tryz.prog q1n_ 6 18446744073709551616 (Ev.get q1o_) 75 qx_ 238 [] (q17_ a length modulus idx data random) = q43_ a length modulus idx data random := by
  rw [qi_ (by decide)]
  rw [q2a_ (by kernel_rfl)]
  refine q1c_ (σ := (Int) × (Int) × (Int) × (Int) × (List Int) × (Int)) (mk := fun s => q17_ s.1 s.2.1 s.2.2.1 s.2.2.2.1 s.2.2.2.2.1 s.2.2.2.2.2) (fun w1 s => ?_) 18446744073709551616 (a, length, modulus, idx, data, random)
  have e2 : (fun a length modulus idx other data random => (jfn Tryz.prog q1n_ 6 18446744073709551616 (Ev.get q1o_) 75 qx_) 7625 [w1] (q5o_ a length modulus idx other data random)) = q2x_ (fun a length modulus idx data random => w1 (q17_ a length modulus idx data random)) := by funext a length modulus idx other data random; exact qfi_ w1 a length modulus idx other data random
  refine (qfw_ _ w1 s.1 s.2.1 s.2.2.1 s.2.2.2.1 s.2.2.2.2.1 s.2.2.2.2.2).trans ?_
  rw [e2]
theorem qgf_ (x : As [.int .i64, .int .i64, .sl (.int .u32)]) : evT Tryz.prog q1n_ 6 18446744073709551616 (Ev.get q1o_) 75 qx_ x = q3d_ x := by
  have e1 : (fun a length modulus idx data random => (jfn Tryz.prog q1n_ 6 18446744073709551616 (Ev.get q1o_) 75 qx_) 238 [] (q17_ a length modulus idx data random)) = q43_ := by funext a length modulus idx data random; exact qfp_ a length modulus idx data random
  rw [q3s_, qfq_, e1]
  rfl
theorem qft_ : CtOk Tryz.prog (fun _ => True) 75 ⟨qx_, q3d_⟩ := ct_of_ev (env_cons qls_ (env_cons qlv_ env_nil)) qgf_
@[reducible] def qkq_ : Sh := ⟨[.row 0, .d (.int .i64), .d (.int .i64), .pb 1 0], [.row (.int .u32) 22, .box 3 [.d (.int .i64)]], [.int .i64, .int .i64, .sl (.int .u32), .int .i64], [.d (.int .i64), .d (.int .i64)], [(0, .row (.int .u32) 22), (1, .box 3 [.d (.int .i64)])], 0, [.int .i64, .int .i64, .sl (.int .u32), .int .i64]⟩
def q96_ (data a : Int) (b : List Int) (swaps : Int) : Option (As [.int .i64, .int .i64, .sl (.int .u32), .int .i64]) :=
  Option.bind (at? b a) fun (x : Int) => Option.bind (at? b a) fun (y : Int) => Option.bind (at? b data) fun (x : Int) => Option.bind (at? b data) fun (y_1 : Int) => Option.bind (qw_ (y, y_1, ())) fun (y : Bool × Unit) => if y.1 = true then some (a, data, b, add .i64 swaps 1, ()) else some (data, a, b, swaps, ())
def q6z_ (x : As [.int .i64, .int .i64, .sl (.int .u32), .int .i64]) : Option (As [.int .i64, .int .i64, .sl (.int .u32), .int .i64]) := q96_ x.1 x.2.1 x.2.2.1 x.2.2.2.1
theorem qkd_ : CtOk Tryz.prog (fun _ => True) 102 ⟨qkq_, q6z_⟩ := ctn (env_cons q6i_ env_nil) 6 fun J x => by kernel_rfl
@[reducible] def qdf_ : Sh := ⟨[.row 0, .d (.int .i64), .d (.int .i64), .d (.int .i64), .pb 1 0], [.row (.int .u32) 22, .box 3 [.d (.int .i64)]], [.int .i64, .int .i64, .int .i64, .sl (.int .u32), .int .i64], [.d (.int .i64)], [(0, .row (.int .u32) 22), (1, .box 3 [.d (.int .i64)])], 0, [.int .i64, .sl (.int .u32), .int .i64]⟩
def q95_ (data a b : Int) (c : List Int) (swaps : Int) : Option (As [.int .i64, .sl (.int .u32), .int .i64]) :=
  Option.bind (q6z_ (data, a, c, swaps, ())) fun (y : Int × Int × List Int × Int × Unit) => Option.bind (q6z_ (y.2.1, b, y.2.2.1, y.2.2.2.1, ())) fun (y_1 : Int × Int × List Int × Int × Unit) => Option.bind (q6z_ (y.1, y_1.1, y_1.2.2.1, y_1.2.2.2.1, ())) fun (y : Int × Int × List Int × Int × Unit) => some (y.2.1, y.2.2.1, y.2.2.2.1, ())
def q6y_ (x : As [.int .i64, .int .i64, .int .i64, .sl (.int .u32), .int .i64]) : Option (As [.int .i64, .sl (.int .u32), .int .i64]) := q95_ x.1 x.2.1 x.2.2.1 x.2.2.2.1 x.2.2.2.2.1
theorem qci_ : CtOk Tryz.prog (fun _ => True) 97 ⟨qdf_, q6y_⟩ := ctn (env_cons qkd_ env_nil) 6 fun J x => by kernel_rfl
@[reducible] def q9x_ : Sh := ⟨[.row 0, .d (.int .i64), .pb 1 0], [.row (.int .u32) 22, .box 3 [.d (.int .i64)]], [.int .i64, .sl (.int .u32), .int .i64], [.d (.int .i64)], [(0, .row (.int .u32) 22), (1, .box 3 [.d (.int .i64)])], 0, [.int .i64, .sl (.int .u32), .int .i64]⟩
def q7v_ (data : Int) (a : List Int) (swaps : Int) : Option (As [.int .i64, .sl (.int .u32), .int .i64]) :=
  Option.bind (q6y_ (Sx.sub .i64 data 1, data, add .i64 data 1, a, swaps, ())) fun (y : Int × List Int × Int × Unit) => some (y.1, y.2.1, y.2.2.1, ())
def q2g_ (x : As [.int .i64, .sl (.int .u32), .int .i64]) : Option (As [.int .i64, .sl (.int .u32), .int .i64]) := q7v_ x.1 x.2.1 x.2.2.1
theorem qfg_ : CtOk Tryz.prog (fun _ => True) 96 ⟨q9x_, q2g_⟩ := ctn (env_cons qci_ env_nil) 6 fun J x => by kernel_rfl
@[reducible] def qv_ : Sh := ⟨[.row 0, .d (.int .i64), .d (.int .i64)], [.row (.int .u32) 22], [.int .i64, .int .i64, .sl (.int .u32)], [.d (.int .i64), .d (.int .i64)], [(0, .row (.int .u32) 22)], 0, [.int .i64, .int .i64, .sl (.int .u32)]⟩
def q1f_ : Env := (cts [(96, (⟨q9x_, q2g_⟩ : Ct)), (97, (⟨qdf_, q6y_⟩ : Ct))])
def q1d_ : List (Nat × Hint) := [(127, ⟨[], [9, 11]⟩), (1018, ⟨[], [0, 9, 10, 11, 12]⟩)]
def q68_ (i j k : Int) (data : List Int) (swaps : Int) : St := { fr := [(0, .row 0), (9, .pb 1 0), (10, .d (.int .i64) i), (11, .d (.int .i64) j), (12, .d (.int .i64) k)], nt := 57, up := [], own := [(0, .row (.int .u32) 22 data), (1, .box 3 [.d (.int .i64) swaps])], nx := 2, log := [], ln := 1 }
def q36_ (j : Int) (o : List Int) (swaps : Int) : St := { fr := [(9, .pb 1 0), (11, .d (.int .i64) j)], nt := 57, up := [], own := [(0, .row (.int .u32) 22 o), (1, .box 3 [.d (.int .i64) swaps])], nx := 2, log := [], ln := 1 }
def q67_ (j2 : Int -> List Int -> Int -> Option (As [.int .i64, .int .i64, .sl (.int .u32)])) (i j k : Int) (data : List Int) (swaps : Int) : Option (As [.int .i64, .int .i64, .sl (.int .u32)]) :=
  Option.bind (q6y_ (i, j, k, data, swaps, ())) fun (y : Int × List Int × Int × Unit) => j2 y.1 y.2.1 y.2.2.1
def q65_ (j : Int) (o : List Int) (swaps : Int) : Option (As [.int .i64, .int .i64, .sl (.int .u32)]) :=
  if eqi swaps 0 = true then some (j, 1, o, ()) else if eqi swaps 12 = true then some (j, 2, o, ()) else some (j, 0, o, ())
def q62_ (j1 : Int -> Int -> Int -> List Int -> Int -> Option (As [.int .i64, .int .i64, .sl (.int .u32)])) (j2 : Int -> List Int -> Int -> Option (As [.int .i64, .int .i64, .sl (.int .u32)])) (data a : Int) (b : List Int) : Option (As [.int .i64, .int .i64, .sl (.int .u32)]) :=
  if ge (Sx.sub .i64 a data) 8 = true then if ge (Sx.sub .i64 a data) 50 = true then Option.bind (q2g_ (add .i64 data (mul .i64 (quo .i64 (Sx.sub .i64 a data) 4) 1), b, 0, ())) fun (y : Int × List Int × Int × Unit) => Option.bind (q2g_ (add .i64 data (mul .i64 (quo .i64 (Sx.sub .i64 a data) 4) 2), y.2.1, y.2.2.1, ())) fun (y_1 : Int × List Int × Int × Unit) => Option.bind (q2g_ (add .i64 data (mul .i64 (quo .i64 (Sx.sub .i64 a data) 4) 3), y_1.2.1, y_1.2.2.1, ())) fun (y_2 : Int × List Int × Int × Unit) => j1 y.1 y_1.1 y_2.1 y_2.2.1 y_2.2.2.1 else j1 (add .i64 data (mul .i64 (quo .i64 (Sx.sub .i64 a data) 4) 1)) (add .i64 data (mul .i64 (quo .i64 (Sx.sub .i64 a data) 4) 2)) (add .i64 data (mul .i64 (quo .i64 (Sx.sub .i64 a data) 4) 3)) b 0 else j2 (add .i64 data (mul .i64 (quo .i64 (Sx.sub .i64 a data) 4) 2)) b 0
def q1t_ (j : Int) (o : List Int) (swaps : Int) : Option (As [.int .i64, .int .i64, .sl (.int .u32)]) := q65_ j o swaps
def q4i_ (i j k : Int) (data : List Int) (swaps : Int) : Option (As [.int .i64, .int .i64, .sl (.int .u32)]) := q67_ (q1t_) i j k data swaps
def q50_ (x : As [.int .i64, .int .i64, .sl (.int .u32)]) : Option (As [.int .i64, .int .i64, .sl (.int .u32)]) := q62_ q4i_ q1t_ x.1 x.2.1 x.2.2.1
theorem qgx_  (J j o swaps) : pfn Tryz.prog q1f_ 6 18446744073709551616 (Ev.get q1d_) 76 qv_ J 127 [] (q36_ j o swaps) = q65_ j o swaps := by kernel_rfl
theorem qgu_  (J i j k data swaps) : pfn Tryz.prog q1f_ 6 18446744073709551616 (Ev.get q1d_) 76 qv_ J 1018 [] (q68_ i j k data swaps) = q67_ (fun j o swaps => J 127 [] (q36_ j o swaps)) i j k data swaps := by kernel_rfl
theorem qh0_ (J : Orc (As [.int .i64, .int .i64, .sl (.int .u32)])) (x : As [.int .i64, .int .i64, .sl (.int .u32)]) : rfn Tryz.prog q1f_ 6 18446744073709551616 (Ev.get q1d_) 76 qv_ J x = q62_ (fun i j k data swaps => J 1018 [] (q68_ i j k data swaps)) (fun j o swaps => J 127 [] (q36_ j o swaps)) x.1 x.2.1 x.2.2.1 := by kernel_rfl
theorem qai_  (j o swaps) : jfn Tryz.prog q1f_ 6 18446744073709551616 (Ev.get q1d_) 76 qv_ 127 [] (q36_ j o swaps) = q1t_ j o swaps := by
  rw [qi_ (by decide)]
  rw [qgx_]
  rfl
theorem qgw_  (i j k data swaps) : jfn Tryz.prog q1f_ 6 18446744073709551616 (Ev.get q1d_) 76 qv_ 1018 [] (q68_ i j k data swaps) = q4i_ i j k data swaps := by
  rw [qi_ (by decide)]
  have e2 : (fun j o swaps => (jfn Tryz.prog q1f_ 6 18446744073709551616 (Ev.get q1d_) 76 qv_) 127 [] (q36_ j o swaps)) = q1t_ := by funext j o swaps; exact qai_ j o swaps
  rw [qgu_, e2]
  rfl
theorem qha_ (x : As [.int .i64, .int .i64, .sl (.int .u32)]) : evT Tryz.prog q1f_ 6 18446744073709551616 (Ev.get q1d_) 76 qv_ x = q50_ x := by
  have e1 : (fun i j k data swaps => (jfn Tryz.prog q1f_ 6 18446744073709551616 (Ev.get q1d_) 76 qv_) 1018 [] (q68_ i j k data swaps)) = q4i_ := by funext i j k data swaps; exact qgw_ i j k data swaps
  have e2 : (fun j o swaps => (jfn Tryz.prog q1f_ 6 18446744073709551616 (Ev.get q1d_) 76 qv_) 127 [] (q36_ j o swaps)) = q1t_ := by funext j o swaps; exact qai_ j o swaps
  rw [q3s_, qh0_, e1, e2]
  rfl
theorem qh4_ : CtOk Tryz.prog (fun _ => True) 76 ⟨qv_, q50_⟩ := ct_of_ev (env_cons qfg_ (env_cons qci_ env_nil)) qha_
@[reducible] def q2f_ : Sh := ⟨[.row 0, .d (.int .i64), .d (.int .i64)], [.row (.int .u32) 22], [.int .i64, .int .i64, .sl (.int .u32)], [], [(0, .row (.int .u32) 22)], 0, [.sl (.int .u32)]⟩
def q4k_ : Env := (cts [])
def q4l_ : List (Nat × Hint) := [(14, ⟨[], [0, 6, 7]⟩)]
def q35_ (i j : Int) (data : List Int) : St := { fr := [(0, .row 0), (6, .d (.int .i64) i), (7, .d (.int .i64) j)], nt := 32, up := [], own := [(0, .row (.int .u32) 22 data)], nx := 1, log := [], ln := 1 }
def q4g_ (self1 : Int -> Int -> List Int -> Option (As [.sl (.int .u32)])) (i j : Int) (data : List Int) : Option (As [.sl (.int .u32)]) :=
  if lt i j = true then Option.bind (at? data j) fun (x : Int) => Option.bind (at? data j) fun (y : Int) => Option.bind (at? data i) fun (x : Int) => Option.bind (at? data i) fun (y_1 : Int) => Option.bind (at? data i) fun (x : Int) => Option.bind (at? data i) fun (x : Int) => Option.bind (at? (List.set data (Int.toNat i) y) j) fun (x : Int) => Option.bind (at? (List.set data (Int.toNat i) y) j) fun (x : Int) => self1 (add .i64 i 1) (Sx.sub .i64 j 1) (List.set (List.set data (Int.toNat i) y) (Int.toNat j) y_1) else some (data, ())
def qae_ (j1 : Int -> Int -> List Int -> Option (As [.sl (.int .u32)])) (data a : Int) (b : List Int) : Option (As [.sl (.int .u32)]) :=
  j1 data (Sx.sub .i64 a 1) b
def q4f_ (i j : Int) (data : List Int) : Option (As [.sl (.int .u32)]) :=
  loopF (fun (self : (Int) × (Int) × (List Int) -> Option (As [.sl (.int .u32)])) (s : (Int) × (Int) × (List Int)) => q4g_ (fun i j data => self (i, j, data)) s.1 s.2.1 s.2.2) 18446744073709551616 (i, j, data)
def q4w_ (x : As [.int .i64, .int .i64, .sl (.int .u32)]) : Option (As [.sl (.int .u32)]) := qae_ q4f_ x.1 x.2.1 x.2.2.1
theorem qgh_  (J w1 i j data) : pfn Tryz.prog q4k_ 6 18446744073709551616 (Ev.get q4l_) 77 q2f_ J 14 [w1] (q35_ i j data) = q4g_ (fun i j data => w1 (q35_ i j data)) i j data := by kernel_rfl
theorem qgo_ (J : Orc (As [.sl (.int .u32)])) (x : As [.int .i64, .int .i64, .sl (.int .u32)]) : rfn Tryz.prog q4k_ 6 18446744073709551616 (Ev.get q4l_) 77 q2f_ J x = qae_ (fun i j data => J 14 [] (q35_ i j data)) x.1 x.2.1 x.2.2.1 := by kernel_rfl
theorem qgi_  (i j data) : jfn Tryz.prog q4k_ 6 18446744073709551616 (Ev.get q4l_) 77 q2f_ 14 [] (q35_ i j data) = q4f_ i j data := by
  rw [qi_ (by decide)]
  rw [q2a_ (by kernel_rfl)]
  refine q1c_ (σ := (Int) × (Int) × (List Int)) (mk := fun s => q35_ s.1 s.2.1 s.2.2) (fun w1 s => ?_) 18446744073709551616 (i, j, data)
  refine (qgh_ _ w1 s.1 s.2.1 s.2.2).trans ?_
  rfl
theorem qgt_ (x : As [.int .i64, .int .i64, .sl (.int .u32)]) : evT Tryz.prog q4k_ 6 18446744073709551616 (Ev.get q4l_) 77 q2f_ x = q4w_ x := by
  have e1 : (fun i j data => (jfn Tryz.prog q4k_ 6 18446744073709551616 (Ev.get q4l_) 77 q2f_) 14 [] (q35_ i j data)) = q4f_ := by funext i j data; exact qgi_ i j data
  rw [q3s_, qgo_, e1]
  rfl
theorem qgm_ : CtOk Tryz.prog (fun _ => True) 77 ⟨q2f_, q4w_⟩ := ct_of_ev env_nil qgt_
@[reducible] def q3_ : Sh := ⟨[.row 0, .d (.int .i64), .d (.int .i64)], [.row (.int .u32) 22], [.int .i64, .int .i64, .sl (.int .u32)], [.d .bool], [(0, .row (.int .u32) 22)], 0, [.bool, .sl (.int .u32)]⟩
def q6_ : Env := (cts [(52, (⟨cmp_Less_Guint32_s, qw_⟩ : Ct))])
def q5_ : List (Nat × Hint) := [(58, ⟨[], [0, 1, 2, 7, 8, 21, 22, 23, 24, 25, 26, 27, 28, 29, 30, 31]⟩), (233, ⟨[], [0, 1, 2, 7, 8, 21, 22, 23, 24, 25, 26, 27, 28, 29, 30, 31]⟩), (932, ⟨[], [0, 1, 2, 7, 8, 21, 22, 23, 24, 25, 26, 27, 28, 29, 30, 31]⟩), (14927, ⟨[], [0, 1, 2, 7, 8, 21, 22, 23, 24, 25, 26, 27, 28, 29, 30, 31]⟩), (477690, ⟨[], [0, 1, 2, 7, 8, 10, 21, 22, 23, 24, 25, 26, 27, 28, 29, 30, 31]⟩), (477674, ⟨[], [0, 1, 2, 7, 8, 9, 21, 22, 23, 24, 25, 26, 27, 28, 29, 30, 31]⟩), (3728, ⟨[], [0, 1, 2, 7, 8, 21, 22, 23, 24, 25, 26, 27, 28, 29, 30, 31]⟩), (14912, ⟨[.agd 22 (.int .i64), .agd 24 (.int .u32), .agd 26 (.int .i64), .agd 27 (.int .i64), .agd 29 (.int .u32), .agd 30 .bool, .agd 31 .bool], [0, 1, 2, 7, 8, 32]⟩)]
def q4_ (a b i j : Int) (data : List Int) : St := { fr := [(0, .row 0), (1, .d (.int .i64) a), (2, .d (.int .i64) b), (7, .d (.int .i64) i), (8, .d (.int .i64) j)], nt := 133, up := [], own := [(0, .row (.int .u32) 22 data)], nx := 1, log := [], ln := 1 }
def qr_ (a b i j : Int) (data : List Int) : St := { fr := [(0, .row 0), (1, .d (.int .i64) a), (2, .d (.int .i64) b), (7, .d (.int .i64) i), (8, .d (.int .i64) j)], nt := 133, up := [], own := [(0, .row (.int .u32) 22 data)], nx := 1, log := [], ln := 1 }
def q48_ (a b i j : Int) (t32 : Bool) (data : List Int) : St := { fr := [(0, .row 0), (1, .d (.int .i64) a), (2, .d (.int .i64) b), (7, .d (.int .i64) i), (8, .d (.int .i64) j), (32, .d .bool t32)], nt := 133, up := [], own := [(0, .row (.int .u32) 22 data)], nx := 1, log := [], ln := 1 }
def q47_ (a b i j : Int) (data : List Int) : St := { fr := [(0, .row 0), (1, .d (.int .i64) a), (2, .d (.int .i64) b), (7, .d (.int .i64) i), (8, .d (.int .i64) j)], nt := 133, up := [], own := [(0, .row (.int .u32) 22 data)], nx := 1, log := [], ln := 1 }
def q23_ (a b i j j_2 : Int) (data : List Int) : St := { fr := [(0, .row 0), (1, .d (.int .i64) a), (2, .d (.int .i64) b), (7, .d (.int .i64) i), (8, .d (.int .i64) j), (9, .d (.int .i64) j_2)], nt := 133, up := [], own := [(0, .row (.int .u32) 22 data)], nx := 1, log := [], ln := 1 }
def q21_ (a b i j : Int) (data : List Int) : St := { fr := [(0, .row 0), (1, .d (.int .i64) a), (2, .d (.int .i64) b), (7, .d (.int .i64) i), (8, .d (.int .i64) j)], nt := 133, up := [], own := [(0, .row (.int .u32) 22 data)], nx := 1, log := [], ln := 1 }
def q1v_ (a b i j j_2 : Int) (data : List Int) : St := { fr := [(0, .row 0), (1, .d (.int .i64) a), (2, .d (.int .i64) b), (7, .d (.int .i64) i), (8, .d (.int .i64) j), (10, .d (.int .i64) j_2)], nt := 133, up := [], own := [(0, .row (.int .u32) 22 data)], nx := 1, log := [], ln := 1 }
def q1z_ (a b i j : Int) (data : List Int) : St := { fr := [(0, .row 0), (1, .d (.int .i64) a), (2, .d (.int .i64) b), (7, .d (.int .i64) i), (8, .d (.int .i64) j)], nt := 133, up := [], own := [(0, .row (.int .u32) 22 data)], nx := 1, log := [], ln := 1 }
def q22_ (j2 self1 : Int -> Int -> Int -> Int -> List Int -> Option (As [.bool, .sl (.int .u32)])) (a b i j : Int) (data : List Int) : Option (As [.bool, .sl (.int .u32)]) :=
  if lt j 5 = true then j2 a b i j data else some (false, data, ())
def q2v_ (j3 : Int -> Int -> Int -> Int -> Bool -> List Int -> Option (As [.bool, .sl (.int .u32)])) (self1 self2 : Int -> Int -> Int -> Int -> List Int -> Option (As [.bool, .sl (.int .u32)])) (a b i j : Int) (data : List Int) : Option (As [.bool, .sl (.int .u32)]) :=
  if lt i b = true then Option.bind (at? data i) fun (x : Int) => Option.bind (at? data i) fun (y : Int) => Option.bind (at? data (Sx.sub .i64 i 1)) fun (x : Int) => Option.bind (at? data (Sx.sub .i64 i 1)) fun (y_1 : Int) => Option.bind (qw_ (y, y_1, ())) fun (y : Bool × Unit) => j3 a b i j (!y.1) data else j3 a b i j false data
def q49_ (j4 self1 self2 : Int -> Int -> Int -> Int -> List Int -> Option (As [.bool, .sl (.int .u32)])) (a b i j : Int) (t32 : Bool) (data : List Int) : Option (As [.bool, .sl (.int .u32)]) :=
  if t32 = true then self2 a b (add .i64 i 1) j data else j4 a b i j data
def q4b_ (j5 : Int -> Int -> Int -> Int -> Int -> List Int -> Option (As [.bool, .sl (.int .u32)])) (j6 self1 : Int -> Int -> Int -> Int -> List Int -> Option (As [.bool, .sl (.int .u32)])) (a b i j : Int) (data : List Int) : Option (As [.bool, .sl (.int .u32)]) :=
  if eqi i b = true then some (true, data, ()) else if lt (Sx.sub .i64 b a) 50 = true then some (false, data, ()) else Option.bind (at? data (Sx.sub .i64 i 1)) fun (x : Int) => Option.bind (at? data (Sx.sub .i64 i 1)) fun (y : Int) => Option.bind (at? data i) fun (x : Int) => Option.bind (at? data i) fun (y_1 : Int) => Option.bind (at? data i) fun (x : Int) => Option.bind (at? data i) fun (x : Int) => Option.bind (at? (List.set data (Int.toNat i) y) (Sx.sub .i64 i 1)) fun (x : Int) => Option.bind (at? (List.set data (Int.toNat i) y) (Sx.sub .i64 i 1)) fun (x : Int) => if ge (Sx.sub .i64 i a) 2 = true then j5 a b i j (Sx.sub .i64 i 1) (List.set (List.set data (Int.toNat i) y) (Int.toNat (Sx.sub .i64 i 1)) y_1) else j6 a b i j (List.set (List.set data (Int.toNat i) y) (Int.toNat (Sx.sub .i64 i 1)) y_1)
def q1x_ (j6 self1 : Int -> Int -> Int -> Int -> List Int -> Option (As [.bool, .sl (.int .u32)])) (self5 : Int -> Int -> Int -> Int -> Int -> List Int -> Option (As [.bool, .sl (.int .u32)])) (a b i j j_2 : Int) (data : List Int) : Option (As [.bool, .sl (.int .u32)]) :=
  if ge j_2 1 = true then Option.bind (at? data j_2) fun (x : Int) => Option.bind (at? data j_2) fun (y : Int) => Option.bind (at? data (Sx.sub .i64 j_2 1)) fun (x : Int) => Option.bind (at? data (Sx.sub .i64 j_2 1)) fun (y_1 : Int) => Option.bind (qw_ (y, y_1, ())) fun (y : Bool × Unit) => if (!y.1) = true then j6 a b i j data else Option.bind (at? data (Sx.sub .i64 j_2 1)) fun (x : Int) => Option.bind (at? data (Sx.sub .i64 j_2 1)) fun (y : Int) => Option.bind (at? data j_2) fun (x : Int) => Option.bind (at? data j_2) fun (y_2 : Int) => Option.bind (at? data j_2) fun (x : Int) => Option.bind (at? data j_2) fun (x : Int) => Option.bind (at? (List.set data (Int.toNat j_2) y) (Sx.sub .i64 j_2 1)) fun (x : Int) => Option.bind (at? (List.set data (Int.toNat j_2) y) (Sx.sub .i64 j_2 1)) fun (x : Int) => self5 a b i j (Sx.sub .i64 j_2 1) (List.set (List.set data (Int.toNat j_2) y) (Int.toNat (Sx.sub .i64 j_2 1)) y_2) else j6 a b i j data
def q46_ (j7 : Int -> Int -> Int -> Int -> Int -> List Int -> Option (As [.bool, .sl (.int .u32)])) (j8 self1 : Int -> Int -> Int -> Int -> List Int -> Option (As [.bool, .sl (.int .u32)])) (a b i j : Int) (data : List Int) : Option (As [.bool, .sl (.int .u32)]) :=
  if ge (Sx.sub .i64 b i) 2 = true then j7 a b i j (add .i64 i 1) data else j8 a b i j data
def q2t_ (j8 self1 : Int -> Int -> Int -> Int -> List Int -> Option (As [.bool, .sl (.int .u32)])) (self7 : Int -> Int -> Int -> Int -> Int -> List Int -> Option (As [.bool, .sl (.int .u32)])) (a b i j j_2 : Int) (data : List Int) : Option (As [.bool, .sl (.int .u32)]) :=
  if lt j_2 b = true then Option.bind (at? data j_2) fun (x : Int) => Option.bind (at? data j_2) fun (y : Int) => Option.bind (at? data (Sx.sub .i64 j_2 1)) fun (x : Int) => Option.bind (at? data (Sx.sub .i64 j_2 1)) fun (y_1 : Int) => Option.bind (qw_ (y, y_1, ())) fun (y : Bool × Unit) => if (!y.1) = true then j8 a b i j data else Option.bind (at? data (Sx.sub .i64 j_2 1)) fun (x : Int) => Option.bind (at? data (Sx.sub .i64 j_2 1)) fun (y : Int) => Option.bind (at? data j_2) fun (x : Int) => Option.bind (at? data j_2) fun (y_2 : Int) => Option.bind (at? data j_2) fun (x : Int) => Option.bind (at? data j_2) fun (x : Int) => Option.bind (at? (List.set data (Int.toNat j_2) y) (Sx.sub .i64 j_2 1)) fun (x : Int) => Option.bind (at? (List.set data (Int.toNat j_2) y) (Sx.sub .i64 j_2 1)) fun (x : Int) => self7 a b i j (add .i64 j_2 1) (List.set (List.set data (Int.toNat j_2) y) (Int.toNat (Sx.sub .i64 j_2 1)) y_2) else j8 a b i j data
def q8q_ (self1 : Int -> Int -> Int -> Int -> List Int -> Option (As [.bool, .sl (.int .u32)])) (a b i j : Int) (data : List Int) : Option (As [.bool, .sl (.int .u32)]) :=
  self1 a b i (add .i64 j 1) data
def q8o_ (j1 : Int -> Int -> Int -> Int -> List Int -> Option (As [.bool, .sl (.int .u32)])) (data a : Int) (b : List Int) : Option (As [.bool, .sl (.int .u32)]) :=
  j1 data a (add .i64 data 1) 0 b
def qo_ (u1 : Int -> Int -> Int -> Int -> List Int -> Option (As [.bool, .sl (.int .u32)])) (a b i j : Int) (data : List Int) : Option (As [.bool, .sl (.int .u32)]) := q8q_ u1 a b i j data
def q4a_ (u1 : Int -> Int -> Int -> Int -> List Int -> Option (As [.bool, .sl (.int .u32)])) (a b i j j_2 : Int) (data : List Int) : Option (As [.bool, .sl (.int .u32)]) :=
  loopF (fun (self : (Int) × (Int) × (Int) × (Int) × (Int) × (List Int) -> Option (As [.bool, .sl (.int .u32)])) (s : (Int) × (Int) × (Int) × (Int) × (Int) × (List Int)) => q2t_ (qo_ u1) u1 (fun a b i j j_2 data => self (a, b, i, j, j_2, data)) s.1 s.2.1 s.2.2.1 s.2.2.2.1 s.2.2.2.2.1 s.2.2.2.2.2) 18446744073709551616 (a, b, i, j, j_2, data)
def qn_ (u1 : Int -> Int -> Int -> Int -> List Int -> Option (As [.bool, .sl (.int .u32)])) (a b i j : Int) (data : List Int) : Option (As [.bool, .sl (.int .u32)]) := q46_ (q4a_ u1) (qo_ u1) u1 a b i j data
def q2s_ (u1 : Int -> Int -> Int -> Int -> List Int -> Option (As [.bool, .sl (.int .u32)])) (a b i j j_2 : Int) (data : List Int) : Option (As [.bool, .sl (.int .u32)]) :=
  loopF (fun (self : (Int) × (Int) × (Int) × (Int) × (Int) × (List Int) -> Option (As [.bool, .sl (.int .u32)])) (s : (Int) × (Int) × (Int) × (Int) × (Int) × (List Int)) => q1x_ (qn_ u1) u1 (fun a b i j j_2 data => self (a, b, i, j, j_2, data)) s.1 s.2.1 s.2.2.1 s.2.2.2.1 s.2.2.2.2.1 s.2.2.2.2.2) 18446744073709551616 (a, b, i, j, j_2, data)
def q2w_ (u1 : Int -> Int -> Int -> Int -> List Int -> Option (As [.bool, .sl (.int .u32)])) (a b i j : Int) (data : List Int) : Option (As [.bool, .sl (.int .u32)]) := q4b_ (q2s_ u1) (qn_ u1) u1 a b i j data
def q18_ (u1 u2 : Int -> Int -> Int -> Int -> List Int -> Option (As [.bool, .sl (.int .u32)])) (a b i j : Int) (t32 : Bool) (data : List Int) : Option (As [.bool, .sl (.int .u32)]) := q49_ (q2w_ u1) u1 u2 a b i j t32 data
def q1w_ (u1 : Int -> Int -> Int -> Int -> List Int -> Option (As [.bool, .sl (.int .u32)])) (a b i j : Int) (data : List Int) : Option (As [.bool, .sl (.int .u32)]) :=
  loopF (fun (self : (Int) × (Int) × (Int) × (Int) × (List Int) -> Option (As [.bool, .sl (.int .u32)])) (s : (Int) × (Int) × (Int) × (Int) × (List Int)) => q2v_ (q18_ u1 (fun a b i j data => self (a, b, i, j, data))) u1 (fun a b i j data => self (a, b, i, j, data)) s.1 s.2.1 s.2.2.1 s.2.2.2.1 s.2.2.2.2) 18446744073709551616 (a, b, i, j, data)
def q2u_ (a b i j : Int) (data : List Int) : Option (As [.bool, .sl (.int .u32)]) :=
  loopF (fun (self : (Int) × (Int) × (Int) × (Int) × (List Int) -> Option (As [.bool, .sl (.int .u32)])) (s : (Int) × (Int) × (Int) × (Int) × (List Int)) => q22_ (q1w_ (fun a b i j data => self (a, b, i, j, data))) (fun a b i j data => self (a, b, i, j, data)) s.1 s.2.1 s.2.2.1 s.2.2.2.1 s.2.2.2.2) 18446744073709551616 (a, b, i, j, data)
def q38_ (x : As [.int .i64, .int .i64, .sl (.int .u32)]) : Option (As [.bool, .sl (.int .u32)]) := q8o_ q2u_ x.1 x.2.1 x.2.2.1
theorem qdi_  (J w1 a b i j data) : pfn Tryz.prog q6_ 6 18446744073709551616 (Ev.get q5_) 78 q3_ J 233 [w1] (q1z_ a b i j data) = q8q_ (fun a b i j data => w1 (q4_ a b i j data)) a b i j data := by kernel_rfl
theorem qdh_  (J w1 w7 a b i j j_2 data) : pfn Tryz.prog q6_ 6 18446744073709551616 (Ev.get q5_) 78 q3_ J 477690 [w1, w7] (q1v_ a b i j j_2 data) = q2t_ (fun a b i j data => J 233 [w1] (q1z_ a b i j data)) (fun a b i j data => w1 (q4_ a b i j data)) (fun a b i j j_2 data => w7 (q1v_ a b i j j_2 data)) a b i j j_2 data := by kernel_rfl
theorem qcy_  (J w1 a b i j data) : pfn Tryz.prog q6_ 6 18446744073709551616 (Ev.get q5_) 78 q3_ J 14927 [w1] (q21_ a b i j data) = q46_ (fun a b i j j_2 data => J 477690 [w1] (q1v_ a b i j j_2 data)) (fun a b i j data => J 233 [w1] (q1z_ a b i j data)) (fun a b i j data => w1 (q4_ a b i j data)) a b i j data := by kernel_rfl
theorem qcw_  (J w1 w5 a b i j j_2 data) : pfn Tryz.prog q6_ 6 18446744073709551616 (Ev.get q5_) 78 q3_ J 477674 [w1, w5] (q23_ a b i j j_2 data) = q1x_ (fun a b i j data => J 14927 [w1] (q21_ a b i j data)) (fun a b i j data => w1 (q4_ a b i j data)) (fun a b i j j_2 data => w5 (q23_ a b i j j_2 data)) a b i j j_2 data := by kernel_rfl
theorem qdk_  (J w1 a b i j data) : pfn Tryz.prog q6_ 6 18446744073709551616 (Ev.get q5_) 78 q3_ J 932 [w1] (q47_ a b i j data) = q4b_ (fun a b i j j_2 data => J 477674 [w1] (q23_ a b i j j_2 data)) (fun a b i j data => J 14927 [w1] (q21_ a b i j data)) (fun a b i j data => w1 (q4_ a b i j data)) a b i j data := by kernel_rfl
theorem qda_  (J w1 w2 a b i j t32 data) : pfn Tryz.prog q6_ 6 18446744073709551616 (Ev.get q5_) 78 q3_ J 14912 [w1, w2] (q48_ a b i j t32 data) = q49_ (fun a b i j data => J 932 [w1] (q47_ a b i j data)) (fun a b i j data => w1 (q4_ a b i j data)) (fun a b i j data => w2 (qr_ a b i j data)) a b i j t32 data := by kernel_rfl
theorem qd4_  (J w1 w2 a b i j data) : pfn Tryz.prog q6_ 6 18446744073709551616 (Ev.get q5_) 78 q3_ J 3728 [w1, w2] (qr_ a b i j data) = q2v_ (fun a b i j t32 data => J 14912 [w1, w2] (q48_ a b i j t32 data)) (fun a b i j data => w1 (q4_ a b i j data)) (fun a b i j data => w2 (qr_ a b i j data)) a b i j data := by kernel_rfl
theorem qcr_  (J w1 a b i j data) : pfn Tryz.prog q6_ 6 18446744073709551616 (Ev.get q5_) 78 q3_ J 58 [w1] (q4_ a b i j data) = q22_ (fun a b i j data => J 3728 [w1] (qr_ a b i j data)) (fun a b i j data => w1 (q4_ a b i j data)) a b i j data := by kernel_rfl
theorem qd9_ (J : Orc (As [.bool, .sl (.int .u32)])) (x : As [.int .i64, .int .i64, .sl (.int .u32)]) : rfn Tryz.prog q6_ 6 18446744073709551616 (Ev.get q5_) 78 q3_ J x = q8o_ (fun a b i j data => J 58 [] (q4_ a b i j data)) x.1 x.2.1 x.2.2.1 := by kernel_rfl
theorem q8p_  (w1 a b i j data) : jfn Tryz.prog q6_ 6 18446744073709551616 (Ev.get q5_) 78 q3_ 233 [w1] (q1z_ a b i j data) = qo_ (fun a b i j data => w1 (q4_ a b i j data)) a b i j data := by
  rw [qi_ (by decide)]
  rw [qdi_]
  rfl
theorem qd1_  (w1 a b i j j_2 data) : jfn Tryz.prog q6_ 6 18446744073709551616 (Ev.get q5_) 78 q3_ 477690 [w1] (q1v_ a b i j j_2 data) = q4a_ (fun a b i j data => w1 (q4_ a b i j data)) a b i j j_2 data := by
  rw [qi_ (by decide)]
  rw [q2a_ (by kernel_rfl)]
  refine q1c_ (σ := (Int) × (Int) × (Int) × (Int) × (Int) × (List Int)) (mk := fun s => q1v_ s.1 s.2.1 s.2.2.1 s.2.2.2.1 s.2.2.2.2.1 s.2.2.2.2.2) (fun w7 s => ?_) 18446744073709551616 (a, b, i, j, j_2, data)
  have e8 : (fun a b i j data => (jfn Tryz.prog q6_ 6 18446744073709551616 (Ev.get q5_) 78 q3_) 233 [w1] (q1z_ a b i j data)) = qo_ (fun a b i j data => w1 (q4_ a b i j data)) := by funext a b i j data; exact q8p_ w1 a b i j data
  refine (qdh_ _ w1 w7 s.1 s.2.1 s.2.2.1 s.2.2.2.1 s.2.2.2.2.1 s.2.2.2.2.2).trans ?_
  rw [e8]
theorem q8r_  (w1 a b i j data) : jfn Tryz.prog q6_ 6 18446744073709551616 (Ev.get q5_) 78 q3_ 14927 [w1] (q21_ a b i j data) = qn_ (fun a b i j data => w1 (q4_ a b i j data)) a b i j data := by
  rw [qi_ (by decide)]
  have e7 : (fun a b i j j_2 data => (jfn Tryz.prog q6_ 6 18446744073709551616 (Ev.get q5_) 78 q3_) 477690 [w1] (q1v_ a b i j j_2 data)) = q4a_ (fun a b i j data => w1 (q4_ a b i j data)) := by funext a b i j j_2 data; exact qd1_ w1 a b i j j_2 data
  have e8 : (fun a b i j data => (jfn Tryz.prog q6_ 6 18446744073709551616 (Ev.get q5_) 78 q3_) 233 [w1] (q1z_ a b i j data)) = qo_ (fun a b i j data => w1 (q4_ a b i j data)) := by funext a b i j data; exact q8p_ w1 a b i j data
  rw [qcy_, e7, e8]
  rfl
theorem qd7_  (w1 a b i j j_2 data) : jfn Tryz.prog q6_ 6 18446744073709551616 (Ev.get q5_) 78 q3_ 477674 [w1] (q23_ a b i j j_2 data) = q2s_ (fun a b i j data => w1 (q4_ a b i j data)) a b i j j_2 data := by
  rw [qi_ (by decide)]
  rw [q2a_ (by kernel_rfl)]
  refine q1c_ (σ := (Int) × (Int) × (Int) × (Int) × (Int) × (List Int)) (mk := fun s => q23_ s.1 s.2.1 s.2.2.1 s.2.2.2.1 s.2.2.2.2.1 s.2.2.2.2.2) (fun w5 s => ?_) 18446744073709551616 (a, b, i, j, j_2, data)
  have e6 : (fun a b i j data => (jfn Tryz.prog q6_ 6 18446744073709551616 (Ev.get q5_) 78 q3_) 14927 [w1] (q21_ a b i j data)) = qn_ (fun a b i j data => w1 (q4_ a b i j data)) := by funext a b i j data; exact q8r_ w1 a b i j data
  refine (qcw_ _ w1 w5 s.1 s.2.1 s.2.2.1 s.2.2.2.1 s.2.2.2.2.1 s.2.2.2.2.2).trans ?_
  rw [e6]
theorem qd8_  (w1 a b i j data) : jfn Tryz.prog q6_ 6 18446744073709551616 (Ev.get q5_) 78 q3_ 932 [w1] (q47_ a b i j data) = q2w_ (fun a b i j data => w1 (q4_ a b i j data)) a b i j data := by
  rw [qi_ (by decide)]
  have e5 : (fun a b i j j_2 data => (jfn Tryz.prog q6_ 6 18446744073709551616 (Ev.get q5_) 78 q3_) 477674 [w1] (q23_ a b i j j_2 data)) = q2s_ (fun a b i j data => w1 (q4_ a b i j data)) := by funext a b i j j_2 data; exact qd7_ w1 a b i j j_2 data
  have e6 : (fun a b i j data => (jfn Tryz.prog q6_ 6 18446744073709551616 (Ev.get q5_) 78 q3_) 14927 [w1] (q21_ a b i j data)) = qn_ (fun a b i j data => w1 (q4_ a b i j data)) := by funext a b i j data; exact q8r_ w1 a b i j data
  rw [qdk_, e5, e6]
  rfl
theorem qct_  (w1 w2 a b i j t32 data) : jfn Tryz.prog q6_ 6 18446744073709551616 (Ev.get q5_) 78 q3_ 14912 [w1, w2] (q48_ a b i j t32 data) = q18_ (fun a b i j data => w1 (q4_ a b i j data)) (fun a b i j data => w2 (qr_ a b i j data)) a b i j t32 data := by
  rw [qi_ (by decide)]
  have e4 : (fun a b i j data => (jfn Tryz.prog q6_ 6 18446744073709551616 (Ev.get q5_) 78 q3_) 932 [w1] (q47_ a b i j data)) = q2w_ (fun a b i j data => w1 (q4_ a b i j data)) := by funext a b i j data; exact qd8_ w1 a b i j data
  rw [qda_, e4]
  rfl
theorem qdb_  (w1 a b i j data) : jfn Tryz.prog q6_ 6 18446744073709551616 (Ev.get q5_) 78 q3_ 3728 [w1] (qr_ a b i j data) = q1w_ (fun a b i j data => w1 (q4_ a b i j data)) a b i j data := by
  rw [qi_ (by decide)]
  rw [q2a_ (by kernel_rfl)]
  refine q1c_ (σ := (Int) × (Int) × (Int) × (Int) × (List Int)) (mk := fun s => qr_ s.1 s.2.1 s.2.2.1 s.2.2.2.1 s.2.2.2.2) (fun w2 s => ?_) 18446744073709551616 (a, b, i, j, data)
  have e3 : (fun a b i j t32 data => (jfn Tryz.prog q6_ 6 18446744073709551616 (Ev.get q5_) 78 q3_) 14912 [w1, w2] (q48_ a b i j t32 data)) = q18_ (fun a b i j data => w1 (q4_ a b i j data)) (fun a b i j data => w2 (qr_ a b i j data)) := by funext a b i j t32 data; exact qct_ w1 w2 a b i j t32 data
  refine (qd4_ _ w1 w2 s.1 s.2.1 s.2.2.1 s.2.2.2.1 s.2.2.2.2).trans ?_
  rw [e3]
theorem qdd_  (a b i j data) : jfn Tryz.prog q6_ 6 18446744073709551616 (Ev.get q5_) 78 q3_ 58 [] (q4_ a b i j data) = q2u_ a b i j data := by
  rw [qi_ (by decide)]
  rw [q2a_ (by kernel_rfl)]
  refine q1c_ (σ := (Int) × (Int) × (Int) × (Int) × (List Int)) (mk := fun s => q4_ s.1 s.2.1 s.2.2.1 s.2.2.2.1 s.2.2.2.2) (fun w1 s => ?_) 18446744073709551616 (a, b, i, j, data)
  have e2 : (fun a b i j data => (jfn Tryz.prog q6_ 6 18446744073709551616 (Ev.get q5_) 78 q3_) 3728 [w1] (qr_ a b i j data)) = q1w_ (fun a b i j data => w1 (q4_ a b i j data)) := by funext a b i j data; exact qdb_ w1 a b i j data
  refine (qcr_ _ w1 s.1 s.2.1 s.2.2.1 s.2.2.2.1 s.2.2.2.2).trans ?_
  rw [e2]
theorem qdp_ (x : As [.int .i64, .int .i64, .sl (.int .u32)]) : evT Tryz.prog q6_ 6 18446744073709551616 (Ev.get q5_) 78 q3_ x = q38_ x := by
  have e1 : (fun a b i j data => (jfn Tryz.prog q6_ 6 18446744073709551616 (Ev.get q5_) 78 q3_) 58 [] (q4_ a b i j data)) = q2u_ := by funext a b i j data; exact qdd_ a b i j data
  rw [q3s_, qd9_, e1]
  rfl
theorem qd0_ : CtOk Tryz.prog (fun _ => True) 78 ⟨q3_, q38_⟩ := ct_of_ev (env_cons q6i_ env_nil) qdp_
@[reducible] def q7_ : Sh := ⟨[.row 0, .d (.int .i64), .d (.int .i64), .d (.int .i64)], [.row (.int .u32) 22], [.int .i64, .int .i64, .int .i64, .sl (.int .u32)], [.d (.int .i64)], [(0, .row (.int .u32) 22)], 0, [.int .i64, .sl (.int .u32)]⟩
def qb_ : Env := (cts [(52, (⟨cmp_Less_Guint32_s, qw_⟩ : Ct))])
def qa_ : List (Nat × Hint) := [(60, ⟨[], [0, 1, 9, 10, 33, 34, 35, 36, 37, 38, 39, 40, 41, 42, 50, 51, 52, 53, 54, 55, 56, 57, 58]⟩), (240, ⟨[], [0, 1, 9, 10, 33, 34, 35, 36, 37, 38, 39, 40, 41, 42, 50, 51, 52, 53, 54, 55, 56, 57, 58]⟩), (481, ⟨[], [0, 1, 9, 10, 33, 34, 35, 36, 37, 38, 39, 40, 41, 42, 50, 51, 52, 53, 54, 55, 56, 57, 58]⟩), (1924, ⟨[], [0, 1, 9, 10, 33, 34, 35, 36, 37, 38, 39, 40, 41, 42, 50, 51, 52, 53, 54, 55, 56, 57, 58]⟩), (7696, ⟨[.agd 51 (.int .i64), .agd 53 (.int .u32), .agd 55 (.int .i64), .agd 57 (.int .u32), .agd 58 .bool], [0, 1, 9, 10, 59]⟩), (960, ⟨[], [0, 1, 9, 10, 33, 34, 35, 36, 37, 38, 39, 40, 41, 42, 50, 51, 52, 53, 54, 55, 56, 57, 58]⟩), (3840, ⟨[.agd 34 (.int .i64), .agd 36 (.int .u32), .agd 38 (.int .i64), .agd 40 (.int .u32), .agd 41 .bool, .agd 42 .bool], [0, 1, 9, 10, 43]⟩)]
def q8_ (a i j : Int) (data : List Int) : St := { fr := [(0, .row 0), (1, .d (.int .i64) a), (9, .d (.int .i64) i), (10, .d (.int .i64) j)], nt := 84, up := [], own := [(0, .row (.int .u32) 22 data)], nx := 1, log := [], ln := 1 }
def q10_ (a i j : Int) (data : List Int) : St := { fr := [(0, .row 0), (1, .d (.int .i64) a), (9, .d (.int .i64) i), (10, .d (.int .i64) j)], nt := 84, up := [], own := [(0, .row (.int .u32) 22 data)], nx := 1, log := [], ln := 1 }
def q5f_ (a i j : Int) (t43 : Bool) (data : List Int) : St := { fr := [(0, .row 0), (1, .d (.int .i64) a), (9, .d (.int .i64) i), (10, .d (.int .i64) j), (43, .d .bool t43)], nt := 84, up := [], own := [(0, .row (.int .u32) 22 data)], nx := 1, log := [], ln := 1 }
def q5h_ (a i j : Int) (data : List Int) : St := { fr := [(0, .row 0), (1, .d (.int .i64) a), (9, .d (.int .i64) i), (10, .d (.int .i64) j)], nt := 84, up := [], own := [(0, .row (.int .u32) 22 data)], nx := 1, log := [], ln := 1 }
def qz_ (a i j : Int) (data : List Int) : St := { fr := [(0, .row 0), (1, .d (.int .i64) a), (9, .d (.int .i64) i), (10, .d (.int .i64) j)], nt := 84, up := [], own := [(0, .row (.int .u32) 22 data)], nx := 1, log := [], ln := 1 }
def q5g_ (a i j : Int) (t59 : Bool) (data : List Int) : St := { fr := [(0, .row 0), (1, .d (.int .i64) a), (9, .d (.int .i64) i), (10, .d (.int .i64) j), (59, .d .bool t59)], nt := 84, up := [], own := [(0, .row (.int .u32) 22 data)], nx := 1, log := [], ln := 1 }
def q5e_ (a i j : Int) (data : List Int) : St := { fr := [(0, .row 0), (1, .d (.int .i64) a), (9, .d (.int .i64) i), (10, .d (.int .i64) j)], nt := 84, up := [], own := [(0, .row (.int .u32) 22 data)], nx := 1, log := [], ln := 1 }
def q3q_ (j2 self1 : Int -> Int -> Int -> List Int -> Option (As [.int .i64, .sl (.int .u32)])) (a i j : Int) (data : List Int) : Option (As [.int .i64, .sl (.int .u32)]) :=
  j2 a i j data
def q2m_ (j3 : Int -> Int -> Int -> Bool -> List Int -> Option (As [.int .i64, .sl (.int .u32)])) (self1 self2 : Int -> Int -> Int -> List Int -> Option (As [.int .i64, .sl (.int .u32)])) (a i j : Int) (data : List Int) : Option (As [.int .i64, .sl (.int .u32)]) :=
  if le i j = true then Option.bind (at? data a) fun (x : Int) => Option.bind (at? data a) fun (y : Int) => Option.bind (at? data i) fun (x : Int) => Option.bind (at? data i) fun (y_1 : Int) => Option.bind (qw_ (y, y_1, ())) fun (y : Bool × Unit) => j3 a i j (!y.1) data else j3 a i j false data
def q5a_ (j4 self1 self2 : Int -> Int -> Int -> List Int -> Option (As [.int .i64, .sl (.int .u32)])) (a i j : Int) (t43 : Bool) (data : List Int) : Option (As [.int .i64, .sl (.int .u32)]) :=
  if t43 = true then self2 a (add .i64 i 1) j data else j4 a i j data
def q9t_ (j5 self1 : Int -> Int -> Int -> List Int -> Option (As [.int .i64, .sl (.int .u32)])) (a i j : Int) (data : List Int) : Option (As [.int .i64, .sl (.int .u32)]) :=
  j5 a i j data
def q2n_ (j6 : Int -> Int -> Int -> Bool -> List Int -> Option (As [.int .i64, .sl (.int .u32)])) (self1 self5 : Int -> Int -> Int -> List Int -> Option (As [.int .i64, .sl (.int .u32)])) (a i j : Int) (data : List Int) : Option (As [.int .i64, .sl (.int .u32)]) :=
  if le i j = true then Option.bind (at? data a) fun (x : Int) => Option.bind (at? data a) fun (y : Int) => Option.bind (at? data j) fun (x : Int) => Option.bind (at? data j) fun (y_1 : Int) => Option.bind (qw_ (y, y_1, ())) fun (y : Bool × Unit) => j6 a i j y.1 data else j6 a i j false data
def q5c_ (j7 self1 self5 : Int -> Int -> Int -> List Int -> Option (As [.int .i64, .sl (.int .u32)])) (a i j : Int) (t59 : Bool) (data : List Int) : Option (As [.int .i64, .sl (.int .u32)]) :=
  if t59 = true then self5 a i (Sx.sub .i64 j 1) data else j7 a i j data
def q5d_ (self1 : Int -> Int -> Int -> List Int -> Option (As [.int .i64, .sl (.int .u32)])) (a i j : Int) (data : List Int) : Option (As [.int .i64, .sl (.int .u32)]) :=
  if gt i j = true then some (i, data, ()) else Option.bind (at? data j) fun (x : Int) => Option.bind (at? data j) fun (y : Int) => Option.bind (at? data i) fun (x : Int) => Option.bind (at? data i) fun (y_1 : Int) => Option.bind (at? data i) fun (x : Int) => Option.bind (at? data i) fun (x : Int) => Option.bind (at? (List.set data (Int.toNat i) y) j) fun (x : Int) => Option.bind (at? (List.set data (Int.toNat i) y) j) fun (x : Int) => self1 a (add .i64 i 1) (Sx.sub .i64 j 1) (List.set (List.set data (Int.toNat i) y) (Int.toNat j) y_1)
def q58_ (j1 : Int -> Int -> Int -> List Int -> Option (As [.int .i64, .sl (.int .u32)])) (data a b : Int) (pivot : List Int) : Option (As [.int .i64, .sl (.int .u32)]) :=
  Option.bind (at? pivot b) fun (x : Int) => Option.bind (at? pivot b) fun (y : Int) => Option.bind (at? pivot data) fun (x : Int) => Option.bind (at? pivot data) fun (y_1 : Int) => Option.bind (at? pivot data) fun (x : Int) => Option.bind (at? pivot data) fun (x : Int) => Option.bind (at? (List.set pivot (Int.toNat data) y) b) fun (x : Int) => Option.bind (at? (List.set pivot (Int.toNat data) y) b) fun (x : Int) => j1 data (add .i64 data 1) (Sx.sub .i64 a 1) (List.set (List.set pivot (Int.toNat data) y) (Int.toNat b) y_1)
def q2j_ (u1 : Int -> Int -> Int -> List Int -> Option (As [.int .i64, .sl (.int .u32)])) (a i j : Int) (data : List Int) : Option (As [.int .i64, .sl (.int .u32)]) := q5d_ u1 a i j data
def q1a_ (u1 u5 : Int -> Int -> Int -> List Int -> Option (As [.int .i64, .sl (.int .u32)])) (a i j : Int) (t59 : Bool) (data : List Int) : Option (As [.int .i64, .sl (.int .u32)]) := q5c_ (q2j_ u1) u1 u5 a i j t59 data
def q19_ (u1 : Int -> Int -> Int -> List Int -> Option (As [.int .i64, .sl (.int .u32)])) (a i j : Int) (data : List Int) : Option (As [.int .i64, .sl (.int .u32)]) :=
  loopF (fun (self : (Int) × (Int) × (Int) × (List Int) -> Option (As [.int .i64, .sl (.int .u32)])) (s : (Int) × (Int) × (Int) × (List Int)) => q2n_ (q1a_ u1 (fun a i j data => self (a, i, j, data))) u1 (fun a i j data => self (a, i, j, data)) s.1 s.2.1 s.2.2.1 s.2.2.2) 18446744073709551616 (a, i, j, data)
def q7t_ (u1 : Int -> Int -> Int -> List Int -> Option (As [.int .i64, .sl (.int .u32)])) (a i j : Int) (data : List Int) : Option (As [.int .i64, .sl (.int .u32)]) := q9t_ (q19_ u1) u1 a i j data
def q1b_ (u1 u2 : Int -> Int -> Int -> List Int -> Option (As [.int .i64, .sl (.int .u32)])) (a i j : Int) (t43 : Bool) (data : List Int) : Option (As [.int .i64, .sl (.int .u32)]) := q5a_ (q7t_ u1) u1 u2 a i j t43 data
def q24_ (u1 : Int -> Int -> Int -> List Int -> Option (As [.int .i64, .sl (.int .u32)])) (a i j : Int) (data : List Int) : Option (As [.int .i64, .sl (.int .u32)]) :=
  loopF (fun (self : (Int) × (Int) × (Int) × (List Int) -> Option (As [.int .i64, .sl (.int .u32)])) (s : (Int) × (Int) × (Int) × (List Int)) => q2m_ (q1b_ u1 (fun a i j data => self (a, i, j, data))) u1 (fun a i j data => self (a, i, j, data)) s.1 s.2.1 s.2.2.1 s.2.2.2) 18446744073709551616 (a, i, j, data)
def q2k_ (a i j : Int) (data : List Int) : Option (As [.int .i64, .sl (.int .u32)]) :=
  loopF (fun (self : (Int) × (Int) × (Int) × (List Int) -> Option (As [.int .i64, .sl (.int .u32)])) (s : (Int) × (Int) × (Int) × (List Int)) => q3q_ (q24_ (fun a i j data => self (a, i, j, data))) (fun a i j data => self (a, i, j, data)) s.1 s.2.1 s.2.2.1 s.2.2.2) 18446744073709551616 (a, i, j, data)
def q4j_ (x : As [.int .i64, .int .i64, .int .i64, .sl (.int .u32)]) : Option (As [.int .i64, .sl (.int .u32)]) := q58_ q2k_ x.1 x.2.1 x.2.2.1 x.2.2.2.1
theorem qfb_  (J w1 a i j data) : pfn Tryz.prog qb_ 6 18446744073709551616 (Ev.get qa_) 79 q7_ J 481 [w1] (q5e_ a i j data) = q5d_ (fun a i j data => w1 (q8_ a i j data)) a i j data := by kernel_rfl
theorem qf4_  (J w1 w5 a i j t59 data) : pfn Tryz.prog qb_ 6 18446744073709551616 (Ev.get qa_) 79 q7_ J 7696 [w1, w5] (q5g_ a i j t59 data) = q5c_ (fun a i j data => J 481 [w1] (q5e_ a i j data)) (fun a i j data => w1 (q8_ a i j data)) (fun a i j data => w5 (qz_ a i j data)) a i j t59 data := by kernel_rfl
theorem qfe_  (J w1 w5 a i j data) : pfn Tryz.prog qb_ 6 18446744073709551616 (Ev.get qa_) 79 q7_ J 1924 [w1, w5] (qz_ a i j data) = q2n_ (fun a i j t59 data => J 7696 [w1, w5] (q5g_ a i j t59 data)) (fun a i j data => w1 (q8_ a i j data)) (fun a i j data => w5 (qz_ a i j data)) a i j data := by kernel_rfl
theorem qf9_  (J w1 a i j data) : pfn Tryz.prog qb_ 6 18446744073709551616 (Ev.get qa_) 79 q7_ J 240 [w1] (q5h_ a i j data) = q9t_ (fun a i j data => J 1924 [w1] (qz_ a i j data)) (fun a i j data => w1 (q8_ a i j data)) a i j data := by kernel_rfl
theorem qex_  (J w1 w2 a i j t43 data) : pfn Tryz.prog qb_ 6 18446744073709551616 (Ev.get qa_) 79 q7_ J 3840 [w1, w2] (q5f_ a i j t43 data) = q5a_ (fun a i j data => J 240 [w1] (q5h_ a i j data)) (fun a i j data => w1 (q8_ a i j data)) (fun a i j data => w2 (q10_ a i j data)) a i j t43 data := by kernel_rfl
theorem qfd_  (J w1 w2 a i j data) : pfn Tryz.prog qb_ 6 18446744073709551616 (Ev.get qa_) 79 q7_ J 960 [w1, w2] (q10_ a i j data) = q2m_ (fun a i j t43 data => J 3840 [w1, w2] (q5f_ a i j t43 data)) (fun a i j data => w1 (q8_ a i j data)) (fun a i j data => w2 (q10_ a i j data)) a i j data := by kernel_rfl
theorem qf8_  (J w1 a i j data) : pfn Tryz.prog qb_ 6 18446744073709551616 (Ev.get qa_) 79 q7_ J 60 [w1] (q8_ a i j data) = q3q_ (fun a i j data => J 960 [w1] (q10_ a i j data)) (fun a i j data => w1 (q8_ a i j data)) a i j data := by kernel_rfl
theorem qf3_ (J : Orc (As [.int .i64, .sl (.int .u32)])) (x : As [.int .i64, .int .i64, .int .i64, .sl (.int .u32)]) : rfn Tryz.prog qb_ 6 18446744073709551616 (Ev.get qa_) 79 q7_ J x = q58_ (fun a i j data => J 60 [] (q8_ a i j data)) x.1 x.2.1 x.2.2.1 x.2.2.2.1 := by kernel_rfl
theorem qfc_  (w1 a i j data) : jfn Tryz.prog qb_ 6 18446744073709551616 (Ev.get qa_) 79 q7_ 481 [w1] (q5e_ a i j data) = q2j_ (fun a i j data => w1 (q8_ a i j data)) a i j data := by
  rw [qi_ (by decide)]
  rw [qfb_]
  rfl
theorem qf1_  (w1 w5 a i j t59 data) : jfn Tryz.prog qb_ 6 18446744073709551616 (Ev.get qa_) 79 q7_ 7696 [w1, w5] (q5g_ a i j t59 data) = q1a_ (fun a i j data => w1 (q8_ a i j data)) (fun a i j data => w5 (qz_ a i j data)) a i j t59 data := by
  rw [qi_ (by decide)]
  have e7 : (fun a i j data => (jfn Tryz.prog qb_ 6 18446744073709551616 (Ev.get qa_) 79 q7_) 481 [w1] (q5e_ a i j data)) = q2j_ (fun a i j data => w1 (q8_ a i j data)) := by funext a i j data; exact qfc_ w1 a i j data
  rw [qf4_, e7]
  rfl
theorem qev_  (w1 a i j data) : jfn Tryz.prog qb_ 6 18446744073709551616 (Ev.get qa_) 79 q7_ 1924 [w1] (qz_ a i j data) = q19_ (fun a i j data => w1 (q8_ a i j data)) a i j data := by
  rw [qi_ (by decide)]
  rw [q2a_ (by kernel_rfl)]
  refine q1c_ (σ := (Int) × (Int) × (Int) × (List Int)) (mk := fun s => qz_ s.1 s.2.1 s.2.2.1 s.2.2.2) (fun w5 s => ?_) 18446744073709551616 (a, i, j, data)
  have e6 : (fun a i j t59 data => (jfn Tryz.prog qb_ 6 18446744073709551616 (Ev.get qa_) 79 q7_) 7696 [w1, w5] (q5g_ a i j t59 data)) = q1a_ (fun a i j data => w1 (q8_ a i j data)) (fun a i j data => w5 (qz_ a i j data)) := by funext a i j t59 data; exact qf1_ w1 w5 a i j t59 data
  refine (qfe_ _ w1 w5 s.1 s.2.1 s.2.2.1 s.2.2.2).trans ?_
  rw [e6]
theorem qf5_  (w1 a i j data) : jfn Tryz.prog qb_ 6 18446744073709551616 (Ev.get qa_) 79 q7_ 240 [w1] (q5h_ a i j data) = q7t_ (fun a i j data => w1 (q8_ a i j data)) a i j data := by
  rw [qi_ (by decide)]
  have e5 : (fun a i j data => (jfn Tryz.prog qb_ 6 18446744073709551616 (Ev.get qa_) 79 q7_) 1924 [w1] (qz_ a i j data)) = q19_ (fun a i j data => w1 (q8_ a i j data)) := by funext a i j data; exact qev_ w1 a i j data
  rw [qf9_, e5]
  rfl
theorem qf0_  (w1 w2 a i j t43 data) : jfn Tryz.prog qb_ 6 18446744073709551616 (Ev.get qa_) 79 q7_ 3840 [w1, w2] (q5f_ a i j t43 data) = q1b_ (fun a i j data => w1 (q8_ a i j data)) (fun a i j data => w2 (q10_ a i j data)) a i j t43 data := by
  rw [qi_ (by decide)]
  have e4 : (fun a i j data => (jfn Tryz.prog qb_ 6 18446744073709551616 (Ev.get qa_) 79 q7_) 240 [w1] (q5h_ a i j data)) = q7t_ (fun a i j data => w1 (q8_ a i j data)) := by funext a i j data; exact qf5_ w1 a i j data
  rw [qex_, e4]
  rfl
theorem qf6_  (w1 a i j data) : jfn Tryz.prog qb_ 6 18446744073709551616 (Ev.get qa_) 79 q7_ 960 [w1] (q10_ a i j data) = q24_ (fun a i j data => w1 (q8_ a i j data)) a i j data := by
  rw [qi_ (by decide)]
  rw [q2a_ (by kernel_rfl)]
  refine q1c_ (σ := (Int) × (Int) × (Int) × (List Int)) (mk := fun s => q10_ s.1 s.2.1 s.2.2.1 s.2.2.2) (fun w2 s => ?_) 18446744073709551616 (a, i, j, data)
  have e3 : (fun a i j t43 data => (jfn Tryz.prog qb_ 6 18446744073709551616 (Ev.get qa_) 79 q7_) 3840 [w1, w2] (q5f_ a i j t43 data)) = q1b_ (fun a i j data => w1 (q8_ a i j data)) (fun a i j data => w2 (q10_ a i j data)) := by funext a i j t43 data; exact qf0_ w1 w2 a i j t43 data
  refine (qfd_ _ w1 w2 s.1 s.2.1 s.2.2.1 s.2.2.2).trans ?_
  rw [e3]
theorem qff_  (a i j data) : jfn Tryz.prog qb_ 6 18446744073709551616 (Ev.get qa_) 79 q7_ 60 [] (q8_ a i j data) = q2k_ a i j data := by
  rw [qi_ (by decide)]
  rw [q2a_ (by kernel_rfl)]
  refine q1c_ (σ := (Int) × (Int) × (Int) × (List Int)) (mk := fun s => q8_ s.1 s.2.1 s.2.2.1 s.2.2.2) (fun w1 s => ?_) 18446744073709551616 (a, i, j, data)
  have e2 : (fun a i j data => (jfn Tryz.prog qb_ 6 18446744073709551616 (Ev.get qa_) 79 q7_) 960 [w1] (q10_ a i j data)) = q24_ (fun a i j data => w1 (q8_ a i j data)) := by funext a i j data; exact qf6_ w1 a i j data
  refine (qf8_ _ w1 s.1 s.2.1 s.2.2.1 s.2.2.2).trans ?_
  rw [e2]
theorem qfx_ (x : As [.int .i64, .int .i64, .int .i64, .sl (.int .u32)]) : evT Tryz.prog qb_ 6 18446744073709551616 (Ev.get qa_) 79 q7_ x = q4j_ x := by
  have e1 : (fun a i j data => (jfn Tryz.prog qb_ 6 18446744073709551616 (Ev.get qa_) 79 q7_) 60 [] (q8_ a i j data)) = q2k_ := by funext a i j data; exact qff_ a i j data
  rw [q3s_, qf3_, e1]
  rfl
theorem qf2_ : CtOk Tryz.prog (fun _ => True) 79 ⟨q7_, q4j_⟩ := ct_of_ev (env_cons q6i_ env_nil) qfx_
end Go.Proofs.Lx
end
