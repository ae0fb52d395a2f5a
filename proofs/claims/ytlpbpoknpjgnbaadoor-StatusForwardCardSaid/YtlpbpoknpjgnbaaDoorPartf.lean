/- Proved in the last of these 11 parts (this is part 6): StatusForward: whatever the records and the numbers that wait, the law returns true.. Conditions: those of the given statement, and no others. -/
import Derived.Test.YtlpbpoknpjgnbaaDoorParte
import Derived.Test.YtlpbpoknpjgnbaaDoorProg
set_option linter.unusedVariables false
set_option linter.unusedSimpArgs false
set_option linter.unusedSectionVars false
section
open Go Go.Proofs Ev Sx
set_option maxRecDepth 100000
namespace Go.Proofs.Lx
@[reducible] def cmp_isNaN_Guint32_s : Sh := ⟨[.d (.int .u32)], [], [.int .u32], [.d (.bool)], [], 0, [.bool]⟩
def cmp_isNaN_Guint32_m0 (x : Int) : Option (As [.bool]) :=
  some (nei x x, ())
def qd2_ (x : As [.int .u32]) : Option (As [.bool]) := cmp_isNaN_Guint32_m0 x.1
theorem cmp_isNaN_Guint32_ok : CtOk Tryd.prog (fun _ => True) 67 ⟨cmp_isNaN_Guint32_s, qd2_⟩ := ctn env_nil 6 fun J x => by kernel_rfl
@[reducible] def cmp_Less_Guint32_s : Sh := ⟨[.d (.int .u32), .d (.int .u32)], [], [.int .u32, .int .u32], [.d (.bool)], [], 0, [.bool]⟩
def cmp_Less_Guint32_m0 (x y : Int) : Option (As [.bool]) :=
  Option.bind (qd2_ (x, ())) fun (y_1 : Bool × Unit) => if y_1.1 = true then Option.bind (qd2_ (y, ())) fun (y_2 : Bool × Unit) => if (!y_2.1) = true then some (true, ()) else some (lt x y, ()) else some (lt x y, ())
def q10_ (x : As [.int .u32, .int .u32]) : Option (As [.bool]) := cmp_Less_Guint32_m0 x.1 x.2.1
theorem q6i_ : CtOk Tryd.prog (fun _ => True) 47 ⟨cmp_Less_Guint32_s, q10_⟩ := ctn (env_cons cmp_isNaN_Guint32_ok env_nil) 6 fun J x => by kernel_rfl
@[reducible] def qj_ : Sh := ⟨[.row 0, .d (.int .i64), .d (.int .i64)], [.row (.int .u32) 26], [.int .i64, .int .i64, .sl (.int .u32)], [], [(0, .row (.int .u32) 26)], 0, [.sl (.int .u32)]⟩
def qq_ : Env := (cts [(47, (⟨cmp_Less_Guint32_s, q10_⟩ : Ct))])
def qp_ : List (Nat × Hint) := [(6, ⟨[], [0, 1, 2, 6, 20, 21, 22, 23, 24, 25, 26, 27, 28, 29]⟩), (25, ⟨[], [0, 1, 2, 6, 20, 21, 22, 23, 24, 25, 26, 27, 28, 29]⟩), (402, ⟨[], [0, 1, 2, 6, 7, 20, 21, 22, 23, 24, 25, 26, 27, 28, 29]⟩), (1608, ⟨[.agd 21 (.int .i64), .agd 23 (.int .u32), .agd 25 (.int .i64), .agd 26 (.int .i64), .agd 28 (.int .u32), .agd 29 .bool], [0, 1, 2, 6, 7, 30]⟩)]
def qn_ (a b i : Int) (data : List Int) : St := { fr := [(0, .row 0), (1, .d (.int .i64) a), (2, .d (.int .i64) b), (6, .d (.int .i64) i)], nt := 49, up := [], own := [(0, .row (.int .u32) 26 data)], nx := 1, log := [], ln := 1 }
def q19_ (a b i j : Int) (data : List Int) : St := { fr := [(0, .row 0), (1, .d (.int .i64) a), (2, .d (.int .i64) b), (6, .d (.int .i64) i), (7, .d (.int .i64) j)], nt := 49, up := [], own := [(0, .row (.int .u32) 26 data)], nx := 1, log := [], ln := 1 }
def q5o_ (a b i j : Int) (t30 : Bool) (data : List Int) : St := { fr := [(0, .row 0), (1, .d (.int .i64) a), (2, .d (.int .i64) b), (6, .d (.int .i64) i), (7, .d (.int .i64) j), (30, .d .bool t30)], nt := 49, up := [], own := [(0, .row (.int .u32) 26 data)], nx := 1, log := [], ln := 1 }
def q5r_ (a b i : Int) (data : List Int) : St := { fr := [(0, .row 0), (1, .d (.int .i64) a), (2, .d (.int .i64) b), (6, .d (.int .i64) i)], nt := 49, up := [], own := [(0, .row (.int .u32) 26 data)], nx := 1, log := [], ln := 1 }
def q3y_ (j2 : Int -> Int -> Int -> Int -> List Int -> Option (As [.sl (.int .u32)])) (self1 : Int -> Int -> Int -> List Int -> Option (As [.sl (.int .u32)])) (a b i : Int) (data : List Int) : Option (As [.sl (.int .u32)]) :=
  if lt i b = true then j2 a b i i data else some (data, ())
def q3z_ (j3 : Int -> Int -> Int -> Int -> Bool -> List Int -> Option (As [.sl (.int .u32)])) (self1 : Int -> Int -> Int -> List Int -> Option (As [.sl (.int .u32)])) (self2 : Int -> Int -> Int -> Int -> List Int -> Option (As [.sl (.int .u32)])) (a b i j : Int) (data : List Int) : Option (As [.sl (.int .u32)]) :=
  if gt j a = true then Option.bind (at? data j) fun (x : Int) => Option.bind (at? data j) fun (y : Int) => Option.bind (at? data (Sx.sub .i64 j 1)) fun (x : Int) => Option.bind (at? data (Sx.sub .i64 j 1)) fun (y_1 : Int) => Option.bind (q10_ (y, y_1, ())) fun (y : Bool × Unit) => j3 a b i j y.1 data else j3 a b i j false data
def q1k_ (j4 self1 : Int -> Int -> Int -> List Int -> Option (As [.sl (.int .u32)])) (self2 : Int -> Int -> Int -> Int -> List Int -> Option (As [.sl (.int .u32)])) (a b i j : Int) (t30 : Bool) (data : List Int) : Option (As [.sl (.int .u32)]) :=
  if t30 = true then Option.bind (at? data (Sx.sub .i64 j 1)) fun (x : Int) => Option.bind (at? data (Sx.sub .i64 j 1)) fun (y : Int) => Option.bind (at? data j) fun (x : Int) => Option.bind (at? data j) fun (y_1 : Int) => Option.bind (at? data j) fun (x : Int) => Option.bind (at? data j) fun (x : Int) => Option.bind (at? (List.set data (Int.toNat j) y) (Sx.sub .i64 j 1)) fun (x : Int) => Option.bind (at? (List.set data (Int.toNat j) y) (Sx.sub .i64 j 1)) fun (x : Int) => self2 a b i (Sx.sub .i64 j 1) (List.set (List.set data (Int.toNat j) y) (Int.toNat (Sx.sub .i64 j 1)) y_1) else j4 a b i data
def q9t_ (self1 : Int -> Int -> Int -> List Int -> Option (As [.sl (.int .u32)])) (a b i : Int) (data : List Int) : Option (As [.sl (.int .u32)]) :=
  self1 a b (add .i64 i 1) data
def q9v_ (j1 : Int -> Int -> Int -> List Int -> Option (As [.sl (.int .u32)])) (data a : Int) (b : List Int) : Option (As [.sl (.int .u32)]) :=
  j1 data a (add .i64 data 1) b
def q5m_ (u1 : Int -> Int -> Int -> List Int -> Option (As [.sl (.int .u32)])) (a b i : Int) (data : List Int) : Option (As [.sl (.int .u32)]) := q9t_ u1 a b i data
def q31_ (u1 : Int -> Int -> Int -> List Int -> Option (As [.sl (.int .u32)])) (u2 : Int -> Int -> Int -> Int -> List Int -> Option (As [.sl (.int .u32)])) (a b i j : Int) (t30 : Bool) (data : List Int) : Option (As [.sl (.int .u32)]) := q1k_ (q5m_ u1) u1 u2 a b i j t30 data
def q32_ (u1 : Int -> Int -> Int -> List Int -> Option (As [.sl (.int .u32)])) (a b i j : Int) (data : List Int) : Option (As [.sl (.int .u32)]) :=
  loopF (fun (self : (Int) × (Int) × (Int) × (Int) × (List Int) -> Option (As [.sl (.int .u32)])) (s : (Int) × (Int) × (Int) × (Int) × (List Int)) => q3z_ (q31_ u1 (fun a b i j data => self (a, b, i, j, data))) u1 (fun a b i j data => self (a, b, i, j, data)) s.1 s.2.1 s.2.2.1 s.2.2.2.1 s.2.2.2.2) 18446744073709551616 (a, b, i, j, data)
def q3x_ (a b i : Int) (data : List Int) : Option (As [.sl (.int .u32)]) :=
  loopF (fun (self : (Int) × (Int) × (Int) × (List Int) -> Option (As [.sl (.int .u32)])) (s : (Int) × (Int) × (Int) × (List Int)) => q3y_ (q32_ (fun a b i data => self (a, b, i, data))) (fun a b i data => self (a, b, i, data)) s.1 s.2.1 s.2.2.1 s.2.2.2) 18446744073709551616 (a, b, i, data)
def q4q_ (x : As [.int .i64, .int .i64, .sl (.int .u32)]) : Option (As [.sl (.int .u32)]) := q9v_ q3x_ x.1 x.2.1 x.2.2.1
theorem qf2_  (J w1 a b i data) : pfn Tryd.prog qq_ 6 18446744073709551616 (Ev.get qp_) 74 qj_ J 25 [w1] (q5r_ a b i data) = q9t_ (fun a b i data => w1 (qn_ a b i data)) a b i data := by kernel_rfl
theorem qes_  (J w1 w2 a b i j t30 data) : pfn Tryd.prog qq_ 6 18446744073709551616 (Ev.get qp_) 74 qj_ J 1608 [w1, w2] (q5o_ a b i j t30 data) = q1k_ (fun a b i data => J 25 [w1] (q5r_ a b i data)) (fun a b i data => w1 (qn_ a b i data)) (fun a b i j data => w2 (q19_ a b i j data)) a b i j t30 data := by kernel_rfl
theorem qeo_  (J w1 w2 a b i j data) : pfn Tryd.prog qq_ 6 18446744073709551616 (Ev.get qp_) 74 qj_ J 402 [w1, w2] (q19_ a b i j data) = q3z_ (fun a b i j t30 data => J 1608 [w1, w2] (q5o_ a b i j t30 data)) (fun a b i data => w1 (qn_ a b i data)) (fun a b i j data => w2 (q19_ a b i j data)) a b i j data := by kernel_rfl
theorem qey_  (J w1 a b i data) : pfn Tryd.prog qq_ 6 18446744073709551616 (Ev.get qp_) 74 qj_ J 6 [w1] (qn_ a b i data) = q3y_ (fun a b i j data => J 402 [w1] (q19_ a b i j data)) (fun a b i data => w1 (qn_ a b i data)) a b i data := by kernel_rfl
theorem qen_ (J : Orc (As [.sl (.int .u32)])) (x : As [.int .i64, .int .i64, .sl (.int .u32)]) : rfn Tryd.prog qq_ 6 18446744073709551616 (Ev.get qp_) 74 qj_ J x = q9v_ (fun a b i data => J 6 [] (qn_ a b i data)) x.1 x.2.1 x.2.2.1 := by kernel_rfl
theorem qep_  (w1 a b i data) : jfn Tryd.prog qq_ 6 18446744073709551616 (Ev.get qp_) 74 qj_ 25 [w1] (q5r_ a b i data) = q5m_ (fun a b i data => w1 (qn_ a b i data)) a b i data := by
  rw [qo_ (by decide)]
  rw [qf2_]
  rfl
theorem qem_  (w1 w2 a b i j t30 data) : jfn Tryd.prog qq_ 6 18446744073709551616 (Ev.get qp_) 74 qj_ 1608 [w1, w2] (q5o_ a b i j t30 data) = q31_ (fun a b i data => w1 (qn_ a b i data)) (fun a b i j data => w2 (q19_ a b i j data)) a b i j t30 data := by
  rw [qo_ (by decide)]
  have e4 : (fun a b i data => (jfn Tryd.prog qq_ 6 18446744073709551616 (Ev.get qp_) 74 qj_) 25 [w1] (q5r_ a b i data)) = q5m_ (fun a b i data => w1 (qn_ a b i data)) := by funext a b i data; exact qep_ w1 a b i data
  rw [qes_, e4]
  rfl
theorem qeu_  (w1 a b i j data) : jfn Tryd.prog qq_ 6 18446744073709551616 (Ev.get qp_) 74 qj_ 402 [w1] (q19_ a b i j data) = q32_ (fun a b i data => w1 (qn_ a b i data)) a b i j data := by
  rw [qo_ (by decide)]
  rw [q2u_ (by kernel_rfl)]
  refine q29_ (σ := (Int) × (Int) × (Int) × (Int) × (List Int)) (mk := fun s => q19_ s.1 s.2.1 s.2.2.1 s.2.2.2.1 s.2.2.2.2) (fun w2 s => ?_) 18446744073709551616 (a, b, i, j, data)
  have e3 : (fun a b i j t30 data => (jfn Tryd.prog qq_ 6 18446744073709551616 (Ev.get qp_) 74 qj_) 1608 [w1, w2] (q5o_ a b i j t30 data)) = q31_ (fun a b i data => w1 (qn_ a b i data)) (fun a b i j data => w2 (q19_ a b i j data)) := by funext a b i j t30 data; exact qem_ w1 w2 a b i j t30 data
  refine (qeo_ _ w1 w2 s.1 s.2.1 s.2.2.1 s.2.2.2.1 s.2.2.2.2).trans ?_
  rw [e3]
theorem qew_  (a b i data) : jfn Tryd.prog qq_ 6 18446744073709551616 (Ev.get qp_) 74 qj_ 6 [] (qn_ a b i data) = q3x_ a b i data := by
  rw [qo_ (by decide)]
  rw [q2u_ (by kernel_rfl)]
  refine q29_ (σ := (Int) × (Int) × (Int) × (List Int)) (mk := fun s => qn_ s.1 s.2.1 s.2.2.1 s.2.2.2) (fun w1 s => ?_) 18446744073709551616 (a, b, i, data)
  have e2 : (fun a b i j data => (jfn Tryd.prog qq_ 6 18446744073709551616 (Ev.get qp_) 74 qj_) 402 [w1] (q19_ a b i j data)) = q32_ (fun a b i data => w1 (qn_ a b i data)) := by funext a b i j data; exact qeu_ w1 a b i j data
  refine (qey_ _ w1 s.1 s.2.1 s.2.2.1 s.2.2.2).trans ?_
  rw [e2]
theorem qfd_ (x : As [.int .i64, .int .i64, .sl (.int .u32)]) : evT Tryd.prog qq_ 6 18446744073709551616 (Ev.get qp_) 74 qj_ x = q4q_ x := by
  have e1 : (fun a b i data => (jfn Tryd.prog qq_ 6 18446744073709551616 (Ev.get qp_) 74 qj_) 6 [] (qn_ a b i data)) = q3x_ := by funext a b i data; exact qew_ a b i data
  rw [q56_, qen_, e1]
  rfl
theorem qf4_ : CtOk Tryd.prog (fun _ => True) 74 ⟨qj_, q4q_⟩ := ct_of_ev (env_cons q6i_ env_nil) qfd_
@[reducible] def qv_ : Sh := ⟨[.row 0, .d (.int .i64), .d (.int .i64), .d (.int .i64)], [.row (.int .u32) 26], [.int .i64, .int .i64, .int .i64, .sl (.int .u32)], [], [(0, .row (.int .u32) 26)], 0, [.sl (.int .u32)]⟩
def q17_ : Env := (cts [(47, (⟨cmp_Less_Guint32_s, q10_⟩ : Ct))])
def q16_ : List (Nat × Hint) := [(6, ⟨[], [0, 2, 3, 8, 22, 23, 24, 25, 26, 27, 28, 29, 30, 31, 32, 33, 34, 35]⟩), (99, ⟨[], [0, 2, 3, 8, 9, 22, 23, 24, 25, 26, 27, 28, 29, 30, 31, 32, 33, 34, 35]⟩), (198, ⟨[.agd 23 (.int .i64), .agd 24 (.int .i64), .agd 25 (.int .i64), .agd 27 (.int .u32), .agd 29 (.int .i64), .agd 30 (.int .i64), .agd 31 (.int .i64), .agd 32 (.int .i64), .agd 34 (.int .u32), .agd 35 .bool], [0, 2, 3, 8, 9, 36]⟩)]
def qx_ (hi first root : Int) (data : List Int) : St := { fr := [(0, .row 0), (2, .d (.int .i64) hi), (3, .d (.int .i64) first), (8, .d (.int .i64) root)], nt := 76, up := [], own := [(0, .row (.int .u32) 26 data)], nx := 1, log := [], ln := 1 }
def q73_ (hi first root child : Int) (t36 : Bool) (data : List Int) : St := { fr := [(0, .row 0), (2, .d (.int .i64) hi), (3, .d (.int .i64) first), (8, .d (.int .i64) root), (9, .d (.int .i64) child), (36, .d .bool t36)], nt := 76, up := [], own := [(0, .row (.int .u32) 26 data)], nx := 1, log := [], ln := 1 }
def q6z_ (hi first root child : Int) (data : List Int) : St := { fr := [(0, .row 0), (2, .d (.int .i64) hi), (3, .d (.int .i64) first), (8, .d (.int .i64) root), (9, .d (.int .i64) child)], nt := 76, up := [], own := [(0, .row (.int .u32) 26 data)], nx := 1, log := [], ln := 1 }
def q4z_ (j2 : Int -> Int -> Int -> Int -> Bool -> List Int -> Option (As [.sl (.int .u32)])) (self1 : Int -> Int -> Int -> List Int -> Option (As [.sl (.int .u32)])) (hi first root : Int) (data : List Int) : Option (As [.sl (.int .u32)]) :=
  if ge (add .i64 (mul .i64 2 root) 1) hi = true then some (data, ()) else if lt (add .i64 (add .i64 (mul .i64 2 root) 1) 1) hi = true then Option.bind (at? data (add .i64 first (add .i64 (mul .i64 2 root) 1))) fun (x : Int) => Option.bind (at? data (add .i64 first (add .i64 (mul .i64 2 root) 1))) fun (y : Int) => Option.bind (at? data (add .i64 (add .i64 first (add .i64 (mul .i64 2 root) 1)) 1)) fun (x : Int) => Option.bind (at? data (add .i64 (add .i64 first (add .i64 (mul .i64 2 root) 1)) 1)) fun (y_1 : Int) => Option.bind (q10_ (y, y_1, ())) fun (y : Bool × Unit) => j2 hi first root (add .i64 (mul .i64 2 root) 1) y.1 data else j2 hi first root (add .i64 (mul .i64 2 root) 1) false data
def q74_ (j3 : Int -> Int -> Int -> Int -> List Int -> Option (As [.sl (.int .u32)])) (self1 : Int -> Int -> Int -> List Int -> Option (As [.sl (.int .u32)])) (hi first root child : Int) (t36 : Bool) (data : List Int) : Option (As [.sl (.int .u32)]) :=
  if t36 = true then j3 hi first root (add .i64 child 1) data else j3 hi first root child data
def q72_ (self1 : Int -> Int -> Int -> List Int -> Option (As [.sl (.int .u32)])) (hi first root child : Int) (data : List Int) : Option (As [.sl (.int .u32)]) :=
  Option.bind (at? data (add .i64 first root)) fun (x : Int) => Option.bind (at? data (add .i64 first root)) fun (y : Int) => Option.bind (at? data (add .i64 first child)) fun (x : Int) => Option.bind (at? data (add .i64 first child)) fun (y_1 : Int) => Option.bind (q10_ (y, y_1, ())) fun (y : Bool × Unit) => if (!y.1) = true then some (data, ()) else Option.bind (at? data (add .i64 first child)) fun (x : Int) => Option.bind (at? data (add .i64 first child)) fun (y : Int) => Option.bind (at? data (add .i64 first root)) fun (x : Int) => Option.bind (at? data (add .i64 first root)) fun (y_2 : Int) => Option.bind (at? data (add .i64 first root)) fun (x : Int) => Option.bind (at? data (add .i64 first root)) fun (x : Int) => Option.bind (at? (List.set data (Int.toNat (add .i64 first root)) y) (add .i64 first child)) fun (x : Int) => Option.bind (at? (List.set data (Int.toNat (add .i64 first root)) y) (add .i64 first child)) fun (x : Int) => self1 hi first child (List.set (List.set data (Int.toNat (add .i64 first root)) y) (Int.toNat (add .i64 first child)) y_2)
def qb9_ (j1 : Int -> Int -> Int -> List Int -> Option (As [.sl (.int .u32)])) (data lo hi : Int) (first : List Int) : Option (As [.sl (.int .u32)]) :=
  j1 lo hi data first
def q70_ (u1 : Int -> Int -> Int -> List Int -> Option (As [.sl (.int .u32)])) (hi first root child : Int) (data : List Int) : Option (As [.sl (.int .u32)]) := q72_ u1 hi first root child data
def q33_ (u1 : Int -> Int -> Int -> List Int -> Option (As [.sl (.int .u32)])) (hi first root child : Int) (t36 : Bool) (data : List Int) : Option (As [.sl (.int .u32)]) := q74_ (q70_ u1) u1 hi first root child t36 data
def q53_ (hi first root : Int) (data : List Int) : Option (As [.sl (.int .u32)]) :=
  loopF (fun (self : (Int) × (Int) × (Int) × (List Int) -> Option (As [.sl (.int .u32)])) (s : (Int) × (Int) × (Int) × (List Int)) => q4z_ (q33_ (fun hi first root data => self (hi, first, root, data))) (fun hi first root data => self (hi, first, root, data)) s.1 s.2.1 s.2.2.1 s.2.2.2) 18446744073709551616 (hi, first, root, data)
def q3g_ (x : As [.int .i64, .int .i64, .int .i64, .sl (.int .u32)]) : Option (As [.sl (.int .u32)]) := qb9_ q53_ x.1 x.2.1 x.2.2.1 x.2.2.2.1
theorem qi3_  (J w1 hi first root child data) : pfn Tryd.prog q17_ 6 18446744073709551616 (Ev.get q16_) 85 qv_ J 99 [w1] (q6z_ hi first root child data) = q72_ (fun hi first root data => w1 (qx_ hi first root data)) hi first root child data := by kernel_rfl
theorem qi1_  (J w1 hi first root child t36 data) : pfn Tryd.prog q17_ 6 18446744073709551616 (Ev.get q16_) 85 qv_ J 198 [w1] (q73_ hi first root child t36 data) = q74_ (fun hi first root child data => J 99 [w1] (q6z_ hi first root child data)) (fun hi first root data => w1 (qx_ hi first root data)) hi first root child t36 data := by kernel_rfl
theorem qhr_  (J w1 hi first root data) : pfn Tryd.prog q17_ 6 18446744073709551616 (Ev.get q16_) 85 qv_ J 6 [w1] (qx_ hi first root data) = q4z_ (fun hi first root child t36 data => J 198 [w1] (q73_ hi first root child t36 data)) (fun hi first root data => w1 (qx_ hi first root data)) hi first root data := by kernel_rfl
theorem qi0_ (J : Orc (As [.sl (.int .u32)])) (x : As [.int .i64, .int .i64, .int .i64, .sl (.int .u32)]) : rfn Tryd.prog q17_ 6 18446744073709551616 (Ev.get q16_) 85 qv_ J x = qb9_ (fun hi first root data => J 6 [] (qx_ hi first root data)) x.1 x.2.1 x.2.2.1 x.2.2.2.1 := by kernel_rfl
theorem qho_  (w1 hi first root child data) : jfn Tryd.prog q17_ 6 18446744073709551616 (Ev.get q16_) 85 qv_ 99 [w1] (q6z_ hi first root child data) = q70_ (fun hi first root data => w1 (qx_ hi first root data)) hi first root child data := by
  rw [qo_ (by decide)]
  rw [qi3_]
  rfl
theorem qhw_  (w1 hi first root child t36 data) : jfn Tryd.prog q17_ 6 18446744073709551616 (Ev.get q16_) 85 qv_ 198 [w1] (q73_ hi first root child t36 data) = q33_ (fun hi first root data => w1 (qx_ hi first root data)) hi first root child t36 data := by
  rw [qo_ (by decide)]
  have e3 : (fun hi first root child data => (jfn Tryd.prog q17_ 6 18446744073709551616 (Ev.get q16_) 85 qv_) 99 [w1] (q6z_ hi first root child data)) = q70_ (fun hi first root data => w1 (qx_ hi first root data)) := by funext hi first root child data; exact qho_ w1 hi first root child data
  rw [qi1_, e3]
  rfl
theorem qhx_  (hi first root data) : jfn Tryd.prog q17_ 6 18446744073709551616 (Ev.get q16_) 85 qv_ 6 [] (qx_ hi first root data) = q53_ hi first root data := by
  rw [qo_ (by decide)]
  rw [q2u_ (by kernel_rfl)]
  refine q29_ (σ := (Int) × (Int) × (Int) × (List Int)) (mk := fun s => qx_ s.1 s.2.1 s.2.2.1 s.2.2.2) (fun w1 s => ?_) 18446744073709551616 (hi, first, root, data)
  have e2 : (fun hi first root child t36 data => (jfn Tryd.prog q17_ 6 18446744073709551616 (Ev.get q16_) 85 qv_) 198 [w1] (q73_ hi first root child t36 data)) = q33_ (fun hi first root data => w1 (qx_ hi first root data)) := by funext hi first root child t36 data; exact qhw_ w1 hi first root child t36 data
  refine (qhr_ _ w1 s.1 s.2.1 s.2.2.1 s.2.2.2).trans ?_
  rw [e2]
theorem qie_ (x : As [.int .i64, .int .i64, .int .i64, .sl (.int .u32)]) : evT Tryd.prog q17_ 6 18446744073709551616 (Ev.get q16_) 85 qv_ x = q3g_ x := by
  have e1 : (fun hi first root data => (jfn Tryd.prog q17_ 6 18446744073709551616 (Ev.get q16_) 85 qv_) 6 [] (qx_ hi first root data)) = q53_ := by funext hi first root data; exact qhx_ hi first root data
  rw [q56_, qi0_, e1]
  rfl
theorem qhv_ : CtOk Tryd.prog (fun _ => True) 85 ⟨qv_, q3g_⟩ := ct_of_ev (env_cons q6i_ env_nil) qie_
@[reducible] def qt_ : Sh := ⟨[.row 0, .d (.int .i64), .d (.int .i64)], [.row (.int .u32) 26], [.int .i64, .int .i64, .sl (.int .u32)], [], [(0, .row (.int .u32) 26)], 0, [.sl (.int .u32)]⟩
def q18_ : Env := (cts [(85, (⟨qv_, q3g_⟩ : Ct))])
def q15_ : List (Nat × Hint) := [(15, ⟨[], [0, 6, 7, 8]⟩), (126, ⟨[], [0, 6, 7, 10]⟩), (122, ⟨[], [0, 6, 7, 8, 9]⟩)]
def q3q_ (first lo hi i : Int) (data : List Int) : St := { fr := [(0, .row 0), (6, .d (.int .i64) first), (7, .d (.int .i64) lo), (8, .d (.int .i64) hi), (9, .d (.int .i64) i)], nt := 56, up := [], own := [(0, .row (.int .u32) 26 data)], nx := 1, log := [], ln := 1 }
def q71_ (first lo hi : Int) (data : List Int) : St := { fr := [(0, .row 0), (6, .d (.int .i64) first), (7, .d (.int .i64) lo), (8, .d (.int .i64) hi)], nt := 56, up := [], own := [(0, .row (.int .u32) 26 data)], nx := 1, log := [], ln := 1 }
def q3s_ (first lo i : Int) (data : List Int) : St := { fr := [(0, .row 0), (6, .d (.int .i64) first), (7, .d (.int .i64) lo), (10, .d (.int .i64) i)], nt := 56, up := [], own := [(0, .row (.int .u32) 26 data)], nx := 1, log := [], ln := 1 }
def q3t_ (j2 : Int -> Int -> Int -> List Int -> Option (As [.sl (.int .u32)])) (self1 : Int -> Int -> Int -> Int -> List Int -> Option (As [.sl (.int .u32)])) (first lo hi i : Int) (data : List Int) : Option (As [.sl (.int .u32)]) :=
  if ge i 0 = true then Option.bind (q3g_ (i, hi, first, data, ())) fun (y : List Int × Unit) => self1 first lo hi (Sx.sub .i64 i 1) y.1 else j2 first lo hi data
def qbb_ (j3 : Int -> Int -> Int -> List Int -> Option (As [.sl (.int .u32)])) (first lo hi : Int) (data : List Int) : Option (As [.sl (.int .u32)]) :=
  j3 first lo (Sx.sub .i64 hi 1) data
def q3u_ (self3 : Int -> Int -> Int -> List Int -> Option (As [.sl (.int .u32)])) (first lo i : Int) (data : List Int) : Option (As [.sl (.int .u32)]) :=
  if ge i 0 = true then Option.bind (at? data (add .i64 first i)) fun (x : Int) => Option.bind (at? data (add .i64 first i)) fun (y : Int) => Option.bind (at? data first) fun (x : Int) => Option.bind (at? data first) fun (y_1 : Int) => Option.bind (at? data first) fun (x : Int) => Option.bind (at? data first) fun (x : Int) => Option.bind (at? (List.set data (Int.toNat first) y) (add .i64 first i)) fun (x : Int) => Option.bind (at? (List.set data (Int.toNat first) y) (add .i64 first i)) fun (x : Int) => Option.bind (q3g_ (lo, i, first, List.set (List.set data (Int.toNat first) y) (Int.toNat (add .i64 first i)) y_1, ())) fun (y : List Int × Unit) => self3 first lo (Sx.sub .i64 i 1) y.1 else some (data, ())
def qbc_ (j1 : Int -> Int -> Int -> Int -> List Int -> Option (As [.sl (.int .u32)])) (data a : Int) (b : List Int) : Option (As [.sl (.int .u32)]) :=
  j1 data 0 (Sx.sub .i64 a data) (quo .i64 (Sx.sub .i64 (Sx.sub .i64 a data) 1) 2) b
def q51_ (first lo i : Int) (data : List Int) : Option (As [.sl (.int .u32)]) :=
  loopF (fun (self : (Int) × (Int) × (Int) × (List Int) -> Option (As [.sl (.int .u32)])) (s : (Int) × (Int) × (Int) × (List Int)) => q3u_ (fun first lo i data => self (first, lo, i, data)) s.1 s.2.1 s.2.2.1 s.2.2.2) 18446744073709551616 (first, lo, i, data)
def q3r_ (first lo hi : Int) (data : List Int) : Option (As [.sl (.int .u32)]) := qbb_ (q51_) first lo hi data
def q52_ (first lo hi i : Int) (data : List Int) : Option (As [.sl (.int .u32)]) :=
  loopF (fun (self : (Int) × (Int) × (Int) × (Int) × (List Int) -> Option (As [.sl (.int .u32)])) (s : (Int) × (Int) × (Int) × (Int) × (List Int)) => q3t_ (q3r_) (fun first lo hi i data => self (first, lo, hi, i, data)) s.1 s.2.1 s.2.2.1 s.2.2.2.1 s.2.2.2.2) 18446744073709551616 (first, lo, hi, i, data)
def q68_ (x : As [.int .i64, .int .i64, .sl (.int .u32)]) : Option (As [.sl (.int .u32)]) := qbc_ q52_ x.1 x.2.1 x.2.2.1
theorem qi5_  (J w3 first lo i data) : pfn Tryd.prog q18_ 6 18446744073709551616 (Ev.get q15_) 75 qt_ J 126 [w3] (q3s_ first lo i data) = q3u_ (fun first lo i data => w3 (q3s_ first lo i data)) first lo i data := by kernel_rfl
theorem qht_  (J first lo hi data) : pfn Tryd.prog q18_ 6 18446744073709551616 (Ev.get q15_) 75 qt_ J 15 [] (q71_ first lo hi data) = qbb_ (fun first lo i data => J 126 [] (q3s_ first lo i data)) first lo hi data := by kernel_rfl
theorem qhp_  (J w1 first lo hi i data) : pfn Tryd.prog q18_ 6 18446744073709551616 (Ev.get q15_) 75 qt_ J 122 [w1] (q3q_ first lo hi i data) = q3t_ (fun first lo hi data => J 15 [] (q71_ first lo hi data)) (fun first lo hi i data => w1 (q3q_ first lo hi i data)) first lo hi i data := by kernel_rfl
theorem qhy_ (J : Orc (As [.sl (.int .u32)])) (x : As [.int .i64, .int .i64, .sl (.int .u32)]) : rfn Tryd.prog q18_ 6 18446744073709551616 (Ev.get q15_) 75 qt_ J x = qbc_ (fun first lo hi i data => J 122 [] (q3q_ first lo hi i data)) x.1 x.2.1 x.2.2.1 := by kernel_rfl
theorem qi7_  (first lo i data) : jfn Tryd.prog q18_ 6 18446744073709551616 (Ev.get q15_) 75 qt_ 126 [] (q3s_ first lo i data) = q51_ first lo i data := by
  rw [qo_ (by decide)]
  rw [q2u_ (by kernel_rfl)]
  refine q29_ (σ := (Int) × (Int) × (Int) × (List Int)) (mk := fun s => q3s_ s.1 s.2.1 s.2.2.1 s.2.2.2) (fun w3 s => ?_) 18446744073709551616 (first, lo, i, data)
  refine (qi5_ _ w3 s.1 s.2.1 s.2.2.1 s.2.2.2).trans ?_
  rfl
theorem qhz_  (first lo hi data) : jfn Tryd.prog q18_ 6 18446744073709551616 (Ev.get q15_) 75 qt_ 15 [] (q71_ first lo hi data) = q3r_ first lo hi data := by
  rw [qo_ (by decide)]
  have e3 : (fun first lo i data => (jfn Tryd.prog q18_ 6 18446744073709551616 (Ev.get q15_) 75 qt_) 126 [] (q3s_ first lo i data)) = q51_ := by funext first lo i data; exact qi7_ first lo i data
  rw [qht_, e3]
  rfl
theorem qi4_  (first lo hi i data) : jfn Tryd.prog q18_ 6 18446744073709551616 (Ev.get q15_) 75 qt_ 122 [] (q3q_ first lo hi i data) = q52_ first lo hi i data := by
  rw [qo_ (by decide)]
  rw [q2u_ (by kernel_rfl)]
  refine q29_ (σ := (Int) × (Int) × (Int) × (Int) × (List Int)) (mk := fun s => q3q_ s.1 s.2.1 s.2.2.1 s.2.2.2.1 s.2.2.2.2) (fun w1 s => ?_) 18446744073709551616 (first, lo, hi, i, data)
  have e2 : (fun first lo hi data => (jfn Tryd.prog q18_ 6 18446744073709551616 (Ev.get q15_) 75 qt_) 15 [] (q71_ first lo hi data)) = q3r_ := by funext first lo hi data; exact qhz_ first lo hi data
  refine (qhp_ _ w1 s.1 s.2.1 s.2.2.1 s.2.2.2.1 s.2.2.2.2).trans ?_
  rw [e2]
theorem qip_ (x : As [.int .i64, .int .i64, .sl (.int .u32)]) : evT Tryd.prog q18_ 6 18446744073709551616 (Ev.get q15_) 75 qt_ x = q68_ x := by
  have e1 : (fun first lo hi i data => (jfn Tryd.prog q18_ 6 18446744073709551616 (Ev.get q15_) 75 qt_) 122 [] (q3q_ first lo hi i data)) = q52_ := by funext first lo hi i data; exact qi4_ first lo hi i data
  rw [q56_, qhy_, e1]
  rfl
theorem qhm_ : CtOk Tryd.prog (fun _ => True) 75 ⟨qt_, q68_⟩ := ct_of_ev (env_cons qhv_ env_nil) qip_
@[reducible] def bits_Len64_s : Sh := ⟨[.d (.int .u64)], [], [.int .u64], [.d (.int .i64)], [], 0, [.int .i64]⟩
def q86_ : Env := (cts [])
def q87_ : List (Nat × Hint) := [(3, ⟨[], [0, 2]⟩), (7, ⟨[], [0, 2]⟩), (15, ⟨[], [0, 2]⟩)]
def bits_Len64_k1 (x n : Int) : St := { fr := [(0, .d (.int .u64) x), (2, .d (.int .i64) n)], nt := 25, up := [], own := [], nx := 0, log := [], ln := 0 }
def bits_Len64_k2 (x n : Int) : St := { fr := [(0, .d (.int .u64) x), (2, .d (.int .i64) n)], nt := 25, up := [], own := [], nx := 0, log := [], ln := 0 }
def bits_Len64_k3 (x n : Int) : St := { fr := [(0, .d (.int .u64) x), (2, .d (.int .i64) n)], nt := 25, up := [], own := [], nx := 0, log := [], ln := 0 }
def bits_Len64_m1 (j2 : Int -> Int -> Option (As [.int .i64])) (x n : Int) : Option (As [.int .i64]) :=
  if ge x 65536 = true then j2 (Sx.shr .u64 x 16) (add .i64 n 16) else j2 x n
def bits_Len64_m2 (j3 : Int -> Int -> Option (As [.int .i64])) (x n : Int) : Option (As [.int .i64]) :=
  if ge x 256 = true then j3 (Sx.shr .u64 x 8) (add .i64 n 8) else j3 x n
def bits_Len64_m3 (x n : Int) : Option (As [.int .i64]) :=
  Option.bind (at? [0, 1, 2, 2, 3, 3, 3, 3, 4, 4, 4, 4, 4, 4, 4, 4, 5, 5, 5, 5, 5, 5, 5, 5, 5, 5, 5, 5, 5, 5, 5, 5, 6, 6, 6, 6, 6, 6, 6, 6, 6, 6, 6, 6, 6, 6, 6, 6, 6, 6, 6, 6, 6, 6, 6, 6, 6, 6, 6, 6, 6, 6, 6, 6, 7, 7, 7, 7, 7, 7, 7, 7, 7, 7, 7, 7, 7, 7, 7, 7, 7, 7, 7, 7, 7, 7, 7, 7, 7, 7, 7, 7, 7, 7, 7, 7, 7, 7, 7, 7, 7, 7, 7, 7, 7, 7, 7, 7, 7, 7, 7, 7, 7, 7, 7, 7, 7, 7, 7, 7, 7, 7, 7, 7, 7, 7, 7, 7, 8, 8, 8, 8, 8, 8, 8, 8, 8, 8, 8, 8, 8, 8, 8, 8, 8, 8, 8, 8, 8, 8, 8, 8, 8, 8, 8, 8, 8, 8, 8, 8, 8, 8, 8, 8, 8, 8, 8, 8, 8, 8, 8, 8, 8, 8, 8, 8, 8, 8, 8, 8, 8, 8, 8, 8, 8, 8, 8, 8, 8, 8, 8, 8, 8, 8, 8, 8, 8, 8, 8, 8, 8, 8, 8, 8, 8, 8, 8, 8, 8, 8, 8, 8, 8, 8, 8, 8, 8, 8, 8, 8, 8, 8, 8, 8, 8, 8, 8, 8, 8, 8, 8, 8, 8, 8, 8, 8, 8, 8, 8, 8, 8, 8, 8, 8, 8, 8, 8, 8, 8, 8, 8, 8, 8, 8, 8, 8] (cvt .u8 x)) fun (c : UInt8) => some (add .i64 n (cvt .i64 (Int.ofNat (UInt8.toNat c))), ())
def bits_Len64_m0 (j1 : Int -> Int -> Option (As [.int .i64])) (x : Int) : Option (As [.int .i64]) :=
  if ge x 4294967296 = true then j1 (Sx.shr .u64 x 32) 32 else j1 x 0
def bits_Len64_K3 (x n : Int) : Option (As [.int .i64]) := bits_Len64_m3 x n
def bits_Len64_K2 (x n : Int) : Option (As [.int .i64]) := bits_Len64_m2 (bits_Len64_K3) x n
def bits_Len64_K1 (x n : Int) : Option (As [.int .i64]) := bits_Len64_m1 (bits_Len64_K2) x n
def bits_Len64 (x : As [.int .u64]) : Option (As [.int .i64]) := bits_Len64_m0 bits_Len64_K1 x.1
theorem bits_Len64_c3  (J x n) : pfn Tryd.prog q86_ 6 18446744073709551616 (Ev.get q87_) 60 bits_Len64_s J 15 [] (bits_Len64_k3 x n) = bits_Len64_m3 x n := by kernel_rfl
theorem bits_Len64_c2  (J x n) : pfn Tryd.prog q86_ 6 18446744073709551616 (Ev.get q87_) 60 bits_Len64_s J 7 [] (bits_Len64_k2 x n) = bits_Len64_m2 (fun x n => J 15 [] (bits_Len64_k3 x n)) x n := by kernel_rfl
theorem bits_Len64_c1  (J x n) : pfn Tryd.prog q86_ 6 18446744073709551616 (Ev.get q87_) 60 bits_Len64_s J 3 [] (bits_Len64_k1 x n) = bits_Len64_m1 (fun x n => J 7 [] (bits_Len64_k2 x n)) x n := by kernel_rfl
theorem bits_Len64_c0 (J : Orc (As [.int .i64])) (x : As [.int .u64]) : rfn Tryd.prog q86_ 6 18446744073709551616 (Ev.get q87_) 60 bits_Len64_s J x = bits_Len64_m0 (fun x n => J 3 [] (bits_Len64_k1 x n)) x.1 := by kernel_rfl
theorem bits_Len64_g3 (x n : Int) : jfn Tryd.prog q86_ 6 18446744073709551616 (Ev.get q87_) 60 bits_Len64_s 15 [] (bits_Len64_k3 x n) = bits_Len64_K3 x n := by
  rw [qo_ (by decide)]
  rw [bits_Len64_c3]
  rfl
theorem bits_Len64_g2 (x n : Int) : jfn Tryd.prog q86_ 6 18446744073709551616 (Ev.get q87_) 60 bits_Len64_s 7 [] (bits_Len64_k2 x n) = bits_Len64_K2 x n := by
  rw [qo_ (by decide)]
  have e3 : (fun x n => (jfn Tryd.prog q86_ 6 18446744073709551616 (Ev.get q87_) 60 bits_Len64_s) 15 [] (bits_Len64_k3 x n)) = bits_Len64_K3 := by funext x n; exact bits_Len64_g3 x n
  rw [bits_Len64_c2, e3]
  rfl
theorem bits_Len64_g1 (x n : Int) : jfn Tryd.prog q86_ 6 18446744073709551616 (Ev.get q87_) 60 bits_Len64_s 3 [] (bits_Len64_k1 x n) = bits_Len64_K1 x n := by
  rw [qo_ (by decide)]
  have e2 : (fun x n => (jfn Tryd.prog q86_ 6 18446744073709551616 (Ev.get q87_) 60 bits_Len64_s) 7 [] (bits_Len64_k2 x n)) = bits_Len64_K2 := by funext x n; exact bits_Len64_g2 x n
  rw [bits_Len64_c1, e2]
  rfl
theorem bits_Len64_t (x : As [.int .u64]) : evT Tryd.prog q86_ 6 18446744073709551616 (Ev.get q87_) 60 bits_Len64_s x = bits_Len64 x := by
  have e1 : (fun x n => (jfn Tryd.prog q86_ 6 18446744073709551616 (Ev.get q87_) 60 bits_Len64_s) 3 [] (bits_Len64_k1 x n)) = bits_Len64_K1 := by funext x n; exact bits_Len64_g1 x n
  rw [q56_, bits_Len64_c0, e1]
  rfl
theorem bits_Len64_ok : CtOk Tryd.prog (fun _ => True) 60 ⟨bits_Len64_s, bits_Len64⟩ := ct_of_ev env_nil bits_Len64_t
@[reducible] def bits_Len32_s : Sh := ⟨[.d (.int .u32)], [], [.int .u32], [.d (.int .i64)], [], 0, [.int .i64]⟩
def qap_ : Env := (cts [])
def qaq_ : List (Nat × Hint) := [(3, ⟨[], [0, 2]⟩), (7, ⟨[], [0, 2]⟩)]
def bits_Len32_k1 (x n : Int) : St := { fr := [(0, .d (.int .u32) x), (2, .d (.int .i64) n)], nt := 19, up := [], own := [], nx := 0, log := [], ln := 0 }
def bits_Len32_k2 (x n : Int) : St := { fr := [(0, .d (.int .u32) x), (2, .d (.int .i64) n)], nt := 19, up := [], own := [], nx := 0, log := [], ln := 0 }
def bits_Len32_m1 (j2 : Int -> Int -> Option (As [.int .i64])) (x n : Int) : Option (As [.int .i64]) :=
  if ge x 256 = true then j2 (Sx.shr .u32 x 8) (add .i64 n 8) else j2 x n
def bits_Len32_m2 (x n : Int) : Option (As [.int .i64]) :=
  Option.bind (at? [0, 1, 2, 2, 3, 3, 3, 3, 4, 4, 4, 4, 4, 4, 4, 4, 5, 5, 5, 5, 5, 5, 5, 5, 5, 5, 5, 5, 5, 5, 5, 5, 6, 6, 6, 6, 6, 6, 6, 6, 6, 6, 6, 6, 6, 6, 6, 6, 6, 6, 6, 6, 6, 6, 6, 6, 6, 6, 6, 6, 6, 6, 6, 6, 7, 7, 7, 7, 7, 7, 7, 7, 7, 7, 7, 7, 7, 7, 7, 7, 7, 7, 7, 7, 7, 7, 7, 7, 7, 7, 7, 7, 7, 7, 7, 7, 7, 7, 7, 7, 7, 7, 7, 7, 7, 7, 7, 7, 7, 7, 7, 7, 7, 7, 7, 7, 7, 7, 7, 7, 7, 7, 7, 7, 7, 7, 7, 7, 8, 8, 8, 8, 8, 8, 8, 8, 8, 8, 8, 8, 8, 8, 8, 8, 8, 8, 8, 8, 8, 8, 8, 8, 8, 8, 8, 8, 8, 8, 8, 8, 8, 8, 8, 8, 8, 8, 8, 8, 8, 8, 8, 8, 8, 8, 8, 8, 8, 8, 8, 8, 8, 8, 8, 8, 8, 8, 8, 8, 8, 8, 8, 8, 8, 8, 8, 8, 8, 8, 8, 8, 8, 8, 8, 8, 8, 8, 8, 8, 8, 8, 8, 8, 8, 8, 8, 8, 8, 8, 8, 8, 8, 8, 8, 8, 8, 8, 8, 8, 8, 8, 8, 8, 8, 8, 8, 8, 8, 8, 8, 8, 8, 8, 8, 8, 8, 8, 8, 8, 8, 8, 8, 8, 8, 8, 8, 8] (cvt .u8 x)) fun (c : UInt8) => some (add .i64 n (cvt .i64 (Int.ofNat (UInt8.toNat c))), ())
def bits_Len32_m0 (j1 : Int -> Int -> Option (As [.int .i64])) (x : Int) : Option (As [.int .i64]) :=
  if ge x 65536 = true then j1 (Sx.shr .u32 x 16) 16 else j1 x 0
def bits_Len32_K2 (x n : Int) : Option (As [.int .i64]) := bits_Len32_m2 x n
def bits_Len32_K1 (x n : Int) : Option (As [.int .i64]) := bits_Len32_m1 (bits_Len32_K2) x n
def bits_Len32 (x : As [.int .u32]) : Option (As [.int .i64]) := bits_Len32_m0 bits_Len32_K1 x.1
theorem bits_Len32_c2  (J x n) : pfn Tryd.prog qap_ 6 18446744073709551616 (Ev.get qaq_) 82 bits_Len32_s J 7 [] (bits_Len32_k2 x n) = bits_Len32_m2 x n := by kernel_rfl
theorem bits_Len32_c1  (J x n) : pfn Tryd.prog qap_ 6 18446744073709551616 (Ev.get qaq_) 82 bits_Len32_s J 3 [] (bits_Len32_k1 x n) = bits_Len32_m1 (fun x n => J 7 [] (bits_Len32_k2 x n)) x n := by kernel_rfl
theorem bits_Len32_c0 (J : Orc (As [.int .i64])) (x : As [.int .u32]) : rfn Tryd.prog qap_ 6 18446744073709551616 (Ev.get qaq_) 82 bits_Len32_s J x = bits_Len32_m0 (fun x n => J 3 [] (bits_Len32_k1 x n)) x.1 := by kernel_rfl
theorem bits_Len32_g2 (x n : Int) : jfn Tryd.prog qap_ 6 18446744073709551616 (Ev.get qaq_) 82 bits_Len32_s 7 [] (bits_Len32_k2 x n) = bits_Len32_K2 x n := by
  rw [qo_ (by decide)]
  rw [bits_Len32_c2]
  rfl
theorem bits_Len32_g1 (x n : Int) : jfn Tryd.prog qap_ 6 18446744073709551616 (Ev.get qaq_) 82 bits_Len32_s 3 [] (bits_Len32_k1 x n) = bits_Len32_K1 x n := by
  rw [qo_ (by decide)]
  have e2 : (fun x n => (jfn Tryd.prog qap_ 6 18446744073709551616 (Ev.get qaq_) 82 bits_Len32_s) 7 [] (bits_Len32_k2 x n)) = bits_Len32_K2 := by funext x n; exact bits_Len32_g2 x n
  rw [bits_Len32_c1, e2]
  rfl
theorem bits_Len32_t (x : As [.int .u32]) : evT Tryd.prog qap_ 6 18446744073709551616 (Ev.get qaq_) 82 bits_Len32_s x = bits_Len32 x := by
  have e1 : (fun x n => (jfn Tryd.prog qap_ 6 18446744073709551616 (Ev.get qaq_) 82 bits_Len32_s) 3 [] (bits_Len32_k1 x n)) = bits_Len32_K1 := by funext x n; exact bits_Len32_g1 x n
  rw [q56_, bits_Len32_c0, e1]
  rfl
theorem bits_Len32_ok : CtOk Tryd.prog (fun _ => True) 82 ⟨bits_Len32_s, bits_Len32⟩ := ct_of_ev env_nil bits_Len32_t
@[reducible] def bits_Len_s : Sh := ⟨[.d (.int .u64)], [], [.int .u64], [.d (.int .i64)], [], 0, [.int .i64]⟩
def bits_Len_m0 (x : Int) : Option (As [.int .i64]) :=
  Option.bind (bits_Len64 (x, ())) fun (y : Int × Unit) => some (y.1, ())
def bits_Len (x : As [.int .u64]) : Option (As [.int .i64]) := bits_Len_m0 x.1
theorem bits_Len_ok : CtOk Tryd.prog (fun _ => True) 66 ⟨bits_Len_s, bits_Len⟩ := ctn (env_cons bits_Len64_ok (env_cons bits_Len32_ok env_nil)) 6 fun J x => by kernel_rfl
@[reducible] def qgs_ : Sh := ⟨[.d (.int .i64)], [], [.int .i64], [.d (.int .u64)], [], 0, [.int .u64]⟩
def qkc_ (length : Int) : Option (As [.int .u64]) :=
  Option.bind (bits_Len (cvt .u64 length, ())) fun (y : Int × Unit) => need (ge y.1 0) (some (Sx.shl .u64 1 y.1, ()))
def q82_ (x : As [.int .i64]) : Option (As [.int .u64]) := qkc_ x.1
theorem qk8_ : CtOk Tryd.prog (fun _ => True) 86 ⟨qgs_, q82_⟩ := ctn (env_cons bits_Len_ok env_nil) 6 fun J x => by kernel_rfl
@[reducible] def qhl_ : Sh := ⟨[.pb 0 0], [.box 133 [.d (.int .u64)]], [.int .u64], [.d (.int .u64)], [(0, .box 133 [.d (.int .u64)])], 0, [.int .u64, .int .u64]⟩
def qbz_ (r : Int) : Option (As [.int .u64, .int .u64]) :=
  some (Sx.bxor .u64 (Sx.bxor .u64 (Sx.bxor .u64 r (Sx.shl .u64 r 13)) (Sx.shr .u64 (Sx.bxor .u64 r (Sx.shl .u64 r 13)) 7)) (Sx.shl .u64 (Sx.bxor .u64 (Sx.bxor .u64 r (Sx.shl .u64 r 13)) (Sx.shr .u64 (Sx.bxor .u64 r (Sx.shl .u64 r 13)) 7)) 17), Sx.bxor .u64 (Sx.bxor .u64 (Sx.bxor .u64 r (Sx.shl .u64 r 13)) (Sx.shr .u64 (Sx.bxor .u64 r (Sx.shl .u64 r 13)) 7)) (Sx.shl .u64 (Sx.bxor .u64 (Sx.bxor .u64 r (Sx.shl .u64 r 13)) (Sx.shr .u64 (Sx.bxor .u64 r (Sx.shl .u64 r 13)) 7)) 17), ())
def qb5_ (x : As [.int .u64]) : Option (As [.int .u64, .int .u64]) := qbz_ x.1
theorem qkj_ : CtOk Tryd.prog (fun _ => True) 87 ⟨qhl_, qb5_⟩ := ctn env_nil 6 fun J x => by kernel_rfl
@[reducible] def q11_ : Sh := ⟨[.row 0, .d (.int .i64), .d (.int .i64)], [.row (.int .u32) 26], [.int .i64, .int .i64, .sl (.int .u32)], [], [(0, .row (.int .u32) 26)], 0, [.sl (.int .u32)]⟩
def q1q_ : Env := (cts [(86, (⟨qgs_, q82_⟩ : Ct)), (87, (⟨qhl_, qb5_⟩ : Ct))])
def q1r_ : List (Nat × Hint) := [(238, ⟨[], [0, 1, 6, 7, 8, 9]⟩), (7625, ⟨[], [0, 1, 6, 7, 8, 9, 10]⟩)]
def q1a_ (a length modulus idx : Int) (data : List Int) (random : Int) : St := { fr := [(0, .row 0), (1, .d (.int .i64) a), (6, .d (.int .i64) length), (7, .pb 1 0), (8, .d (.int .u64) modulus), (9, .d (.int .i64) idx)], nt := 65, up := [], own := [(0, .row (.int .u32) 26 data), (1, .box 133 [.d (.int .u64) random])], nx := 2, log := [], ln := 1 }
def q5q_ (a length modulus idx other : Int) (data : List Int) (random : Int) : St := { fr := [(0, .row 0), (1, .d (.int .i64) a), (6, .d (.int .i64) length), (7, .pb 1 0), (8, .d (.int .u64) modulus), (9, .d (.int .i64) idx), (10, .d (.int .i64) other)], nt := 65, up := [], own := [(0, .row (.int .u32) 26 data), (1, .box 133 [.d (.int .u64) random])], nx := 2, log := [], ln := 1 }
def q3w_ (j2 : Int -> Int -> Int -> Int -> Int -> List Int -> Int -> Option (As [.sl (.int .u32)])) (self1 : Int -> Int -> Int -> Int -> List Int -> Int -> Option (As [.sl (.int .u32)])) (a length modulus idx : Int) (data : List Int) (random : Int) : Option (As [.sl (.int .u32)]) :=
  if le idx (add .i64 (add .i64 a (mul .i64 (quo .i64 length 4) 2)) 1) = true then Option.bind (qb5_ (random, ())) fun (y : Int × Int × Unit) => if ge (cvt .i64 (Sx.band .u64 y.1 (Sx.sub .u64 modulus 1))) length = true then j2 a length modulus idx (Sx.sub .i64 (cvt .i64 (Sx.band .u64 y.1 (Sx.sub .u64 modulus 1))) length) data y.2.1 else j2 a length modulus idx (cvt .i64 (Sx.band .u64 y.1 (Sx.sub .u64 modulus 1))) data y.2.1 else some (data, ())
def q5n_ (self1 : Int -> Int -> Int -> Int -> List Int -> Int -> Option (As [.sl (.int .u32)])) (a length modulus idx other : Int) (data : List Int) (random : Int) : Option (As [.sl (.int .u32)]) :=
  Option.bind (at? data (add .i64 a other)) fun (x : Int) => Option.bind (at? data (add .i64 a other)) fun (y : Int) => Option.bind (at? data idx) fun (x : Int) => Option.bind (at? data idx) fun (y_1 : Int) => Option.bind (at? data idx) fun (x : Int) => Option.bind (at? data idx) fun (x : Int) => Option.bind (at? (List.set data (Int.toNat idx) y) (add .i64 a other)) fun (x : Int) => Option.bind (at? (List.set data (Int.toNat idx) y) (add .i64 a other)) fun (x : Int) => self1 a length modulus (add .i64 idx 1) (List.set (List.set data (Int.toNat idx) y) (Int.toNat (add .i64 a other)) y_1) random
def q5p_ (j1 : Int -> Int -> Int -> Int -> List Int -> Int -> Option (As [.sl (.int .u32)])) (data a : Int) (b : List Int) : Option (As [.sl (.int .u32)]) :=
  if ge (Sx.sub .i64 a data) 8 = true then Option.bind (q82_ (Sx.sub .i64 a data, ())) fun (y : Int × Unit) => j1 data (Sx.sub .i64 a data) y.1 (Sx.sub .i64 (add .i64 data (mul .i64 (quo .i64 (Sx.sub .i64 a data) 4) 2)) 1) b (cvt .u64 (Sx.sub .i64 a data)) else some (b, ())
def q30_ (u1 : Int -> Int -> Int -> Int -> List Int -> Int -> Option (As [.sl (.int .u32)])) (a length modulus idx other : Int) (data : List Int) (random : Int) : Option (As [.sl (.int .u32)]) := q5n_ u1 a length modulus idx other data random
def q40_ (a length modulus idx : Int) (data : List Int) (random : Int) : Option (As [.sl (.int .u32)]) :=
  loopF (fun (self : (Int) × (Int) × (Int) × (Int) × (List Int) × (Int) -> Option (As [.sl (.int .u32)])) (s : (Int) × (Int) × (Int) × (Int) × (List Int) × (Int)) => q3w_ (q30_ (fun a length modulus idx data random => self (a, length, modulus, idx, data, random))) (fun a length modulus idx data random => self (a, length, modulus, idx, data, random)) s.1 s.2.1 s.2.2.1 s.2.2.2.1 s.2.2.2.2.1 s.2.2.2.2.2) 18446744073709551616 (a, length, modulus, idx, data, random)
def q3c_ (x : As [.int .i64, .int .i64, .sl (.int .u32)]) : Option (As [.sl (.int .u32)]) := q5p_ q40_ x.1 x.2.1 x.2.2.1
theorem qf0_  (J w1 a length modulus idx other data random) : pfn Tryd.prog q1q_ 6 18446744073709551616 (Ev.get q1r_) 76 q11_ J 7625 [w1] (q5q_ a length modulus idx other data random) = q5n_ (fun a length modulus idx data random => w1 (q1a_ a length modulus idx data random)) a length modulus idx other data random := by kernel_rfl
theorem qet_  (J w1 a length modulus idx data random) : pfn Tryd.prog q1q_ 6 18446744073709551616 (Ev.get q1r_) 76 q11_ J 238 [w1] (q1a_ a length modulus idx data random) = q3w_ (fun a length modulus idx other data random => J 7625 [w1] (q5q_ a length modulus idx other data random)) (fun a length modulus idx data random => w1 (q1a_ a length modulus idx data random)) a length modulus idx data random := by kernel_rfl
theorem qex_ (J : Orc (As [.sl (.int .u32)])) (x : As [.int .i64, .int .i64, .sl (.int .u32)]) : rfn Tryd.prog q1q_ 6 18446744073709551616 (Ev.get q1r_) 76 q11_ J x = q5p_ (fun a length modulus idx data random => J 238 [] (q1a_ a length modulus idx data random)) x.1 x.2.1 x.2.2.1 := by kernel_rfl
theorem qf3_  (w1 a length modulus idx other data random) : jfn Tryd.prog q1q_ 6 18446744073709551616 (Ev.get q1r_) 76 q11_ 7625 [w1] (q5q_ a length modulus idx other data random) = q30_ (fun a length modulus idx data random => w1 (q1a_ a length modulus idx data random)) a length modulus idx other data random := by
  rw [qo_ (by decide)]
  rw [qf0_]
  rfl
theorem qer_  (a length modulus idx data random) : jfn Tryd.prog q1q_ 6 18446744073709551616 (Ev.get q1r_) 76 q11_ 238 [] (q1a_ a length modulus idx data random) = q40_ a length modulus idx data random := by
  rw [qo_ (by decide)]
  rw [q2u_ (by kernel_rfl)]
  refine q29_ (σ := (Int) × (Int) × (Int) × (Int) × (List Int) × (Int)) (mk := fun s => q1a_ s.1 s.2.1 s.2.2.1 s.2.2.2.1 s.2.2.2.2.1 s.2.2.2.2.2) (fun w1 s => ?_) 18446744073709551616 (a, length, modulus, idx, data, random)
  have e2 : (fun a length modulus idx other data random => (jfn Tryd.prog q1q_ 6 18446744073709551616 (Ev.get q1r_) 76 q11_) 7625 [w1] (q5q_ a length modulus idx other data random)) = q30_ (fun a length modulus idx data random => w1 (q1a_ a length modulus idx data random)) := by funext a length modulus idx other data random; exact qf3_ w1 a length modulus idx other data random
  refine (qet_ _ w1 s.1 s.2.1 s.2.2.1 s.2.2.2.1 s.2.2.2.2.1 s.2.2.2.2.2).trans ?_
  rw [e2]
theorem qfg_ (x : As [.int .i64, .int .i64, .sl (.int .u32)]) : evT Tryd.prog q1q_ 6 18446744073709551616 (Ev.get q1r_) 76 q11_ x = q3c_ x := by
  have e1 : (fun a length modulus idx data random => (jfn Tryd.prog q1q_ 6 18446744073709551616 (Ev.get q1r_) 76 q11_) 238 [] (q1a_ a length modulus idx data random)) = q40_ := by funext a length modulus idx data random; exact qer_ a length modulus idx data random
  rw [q56_, qex_, e1]
  rfl
theorem qf1_ : CtOk Tryd.prog (fun _ => True) 76 ⟨q11_, q3c_⟩ := ct_of_ev (env_cons qk8_ (env_cons qkj_ env_nil)) qfg_
@[reducible] def qjb_ : Sh := ⟨[.row 0, .d (.int .i64), .d (.int .i64), .pb 1 0], [.row (.int .u32) 26, .box 3 [.d (.int .i64)]], [.int .i64, .int .i64, .sl (.int .u32), .int .i64], [.d (.int .i64), .d (.int .i64)], [(0, .row (.int .u32) 26), (1, .box 3 [.d (.int .i64)])], 0, [.int .i64, .int .i64, .sl (.int .u32), .int .i64]⟩
def q9c_ (data a : Int) (b : List Int) (swaps : Int) : Option (As [.int .i64, .int .i64, .sl (.int .u32), .int .i64]) :=
  Option.bind (at? b a) fun (x : Int) => Option.bind (at? b a) fun (y : Int) => Option.bind (at? b data) fun (x : Int) => Option.bind (at? b data) fun (y_1 : Int) => Option.bind (q10_ (y, y_1, ())) fun (y : Bool × Unit) => if y.1 = true then some (a, data, b, add .i64 swaps 1, ()) else some (data, a, b, swaps, ())
def q6w_ (x : As [.int .i64, .int .i64, .sl (.int .u32), .int .i64]) : Option (As [.int .i64, .int .i64, .sl (.int .u32), .int .i64]) := q9c_ x.1 x.2.1 x.2.2.1 x.2.2.2.1
theorem qiy_ : CtOk Tryd.prog (fun _ => True) 96 ⟨qjb_, q6w_⟩ := ctn (env_cons q6i_ env_nil) 6 fun J x => by kernel_rfl
@[reducible] def qcp_ : Sh := ⟨[.row 0, .d (.int .i64), .d (.int .i64), .d (.int .i64), .pb 1 0], [.row (.int .u32) 26, .box 3 [.d (.int .i64)]], [.int .i64, .int .i64, .int .i64, .sl (.int .u32), .int .i64], [.d (.int .i64)], [(0, .row (.int .u32) 26), (1, .box 3 [.d (.int .i64)])], 0, [.int .i64, .sl (.int .u32), .int .i64]⟩
def q9b_ (data a b : Int) (c : List Int) (swaps : Int) : Option (As [.int .i64, .sl (.int .u32), .int .i64]) :=
  Option.bind (q6w_ (data, a, c, swaps, ())) fun (y : Int × Int × List Int × Int × Unit) => Option.bind (q6w_ (y.2.1, b, y.2.2.1, y.2.2.2.1, ())) fun (y_1 : Int × Int × List Int × Int × Unit) => Option.bind (q6w_ (y.1, y_1.1, y_1.2.2.1, y_1.2.2.2.1, ())) fun (y : Int × Int × List Int × Int × Unit) => some (y.2.1, y.2.2.1, y.2.2.2.1, ())
def q6x_ (x : As [.int .i64, .int .i64, .int .i64, .sl (.int .u32), .int .i64]) : Option (As [.int .i64, .sl (.int .u32), .int .i64]) := q9b_ x.1 x.2.1 x.2.2.1 x.2.2.2.1 x.2.2.2.2.1
theorem qbv_ : CtOk Tryd.prog (fun _ => True) 89 ⟨qcp_, q6x_⟩ := ctn (env_cons qiy_ env_nil) 6 fun J x => by kernel_rfl
@[reducible] def q9y_ : Sh := ⟨[.row 0, .d (.int .i64), .pb 1 0], [.row (.int .u32) 26, .box 3 [.d (.int .i64)]], [.int .i64, .sl (.int .u32), .int .i64], [.d (.int .i64)], [(0, .row (.int .u32) 26), (1, .box 3 [.d (.int .i64)])], 0, [.int .i64, .sl (.int .u32), .int .i64]⟩
def q7m_ (data : Int) (a : List Int) (swaps : Int) : Option (As [.int .i64, .sl (.int .u32), .int .i64]) :=
  Option.bind (q6x_ (Sx.sub .i64 data 1, data, add .i64 data 1, a, swaps, ())) fun (y : Int × List Int × Int × Unit) => some (y.1, y.2.1, y.2.2.1, ())
def q2j_ (x : As [.int .i64, .sl (.int .u32), .int .i64]) : Option (As [.int .i64, .sl (.int .u32), .int .i64]) := q7m_ x.1 x.2.1 x.2.2.1
theorem qeh_ : CtOk Tryd.prog (fun _ => True) 88 ⟨q9y_, q2j_⟩ := ctn (env_cons qbv_ env_nil) 6 fun J x => by kernel_rfl
@[reducible] def qy_ : Sh := ⟨[.row 0, .d (.int .i64), .d (.int .i64)], [.row (.int .u32) 26], [.int .i64, .int .i64, .sl (.int .u32)], [.d (.int .i64), .d (.int .i64)], [(0, .row (.int .u32) 26)], 0, [.int .i64, .int .i64, .sl (.int .u32)]⟩
def q1j_ : Env := (cts [(88, (⟨q9y_, q2j_⟩ : Ct)), (89, (⟨qcp_, q6x_⟩ : Ct))])
def q1g_ : List (Nat × Hint) := [(127, ⟨[], [9, 11]⟩), (1018, ⟨[], [0, 9, 10, 11, 12]⟩)]
def q60_ (i j k : Int) (data : List Int) (swaps : Int) : St := { fr := [(0, .row 0), (9, .pb 1 0), (10, .d (.int .i64) i), (11, .d (.int .i64) j), (12, .d (.int .i64) k)], nt := 57, up := [], own := [(0, .row (.int .u32) 26 data), (1, .box 3 [.d (.int .i64) swaps])], nx := 2, log := [], ln := 1 }
def q38_ (j : Int) (o : List Int) (swaps : Int) : St := { fr := [(9, .pb 1 0), (11, .d (.int .i64) j)], nt := 57, up := [], own := [(0, .row (.int .u32) 26 o), (1, .box 3 [.d (.int .i64) swaps])], nx := 2, log := [], ln := 1 }
def q63_ (j2 : Int -> List Int -> Int -> Option (As [.int .i64, .int .i64, .sl (.int .u32)])) (i j k : Int) (data : List Int) (swaps : Int) : Option (As [.int .i64, .int .i64, .sl (.int .u32)]) :=
  Option.bind (q6x_ (i, j, k, data, swaps, ())) fun (y : Int × List Int × Int × Unit) => j2 y.1 y.2.1 y.2.2.1
def q61_ (j : Int) (o : List Int) (swaps : Int) : Option (As [.int .i64, .int .i64, .sl (.int .u32)]) :=
  if eqi swaps 0 = true then some (j, 1, o, ()) else if eqi swaps 12 = true then some (j, 2, o, ()) else some (j, 0, o, ())
def q5y_ (j1 : Int -> Int -> Int -> List Int -> Int -> Option (As [.int .i64, .int .i64, .sl (.int .u32)])) (j2 : Int -> List Int -> Int -> Option (As [.int .i64, .int .i64, .sl (.int .u32)])) (data a : Int) (b : List Int) : Option (As [.int .i64, .int .i64, .sl (.int .u32)]) :=
  if ge (Sx.sub .i64 a data) 8 = true then if ge (Sx.sub .i64 a data) 50 = true then Option.bind (q2j_ (add .i64 data (mul .i64 (quo .i64 (Sx.sub .i64 a data) 4) 1), b, 0, ())) fun (y : Int × List Int × Int × Unit) => Option.bind (q2j_ (add .i64 data (mul .i64 (quo .i64 (Sx.sub .i64 a data) 4) 2), y.2.1, y.2.2.1, ())) fun (y_1 : Int × List Int × Int × Unit) => Option.bind (q2j_ (add .i64 data (mul .i64 (quo .i64 (Sx.sub .i64 a data) 4) 3), y_1.2.1, y_1.2.2.1, ())) fun (y_2 : Int × List Int × Int × Unit) => j1 y.1 y_1.1 y_2.1 y_2.2.1 y_2.2.2.1 else j1 (add .i64 data (mul .i64 (quo .i64 (Sx.sub .i64 a data) 4) 1)) (add .i64 data (mul .i64 (quo .i64 (Sx.sub .i64 a data) 4) 2)) (add .i64 data (mul .i64 (quo .i64 (Sx.sub .i64 a data) 4) 3)) b 0 else j2 (add .i64 data (mul .i64 (quo .i64 (Sx.sub .i64 a data) 4) 2)) b 0
def q1w_ (j : Int) (o : List Int) (swaps : Int) : Option (As [.int .i64, .int .i64, .sl (.int .u32)]) := q61_ j o swaps
def q4k_ (i j k : Int) (data : List Int) (swaps : Int) : Option (As [.int .i64, .int .i64, .sl (.int .u32)]) := q63_ (q1w_) i j k data swaps
def q54_ (x : As [.int .i64, .int .i64, .sl (.int .u32)]) : Option (As [.int .i64, .int .i64, .sl (.int .u32)]) := q5y_ q4k_ q1w_ x.1 x.2.1 x.2.2.1
theorem qg2_  (J j o swaps) : pfn Tryd.prog q1j_ 6 18446744073709551616 (Ev.get q1g_) 77 qy_ J 127 [] (q38_ j o swaps) = q61_ j o swaps := by kernel_rfl
theorem qg6_  (J i j k data swaps) : pfn Tryd.prog q1j_ 6 18446744073709551616 (Ev.get q1g_) 77 qy_ J 1018 [] (q60_ i j k data swaps) = q63_ (fun j o swaps => J 127 [] (q38_ j o swaps)) i j k data swaps := by kernel_rfl
theorem qg1_ (J : Orc (As [.int .i64, .int .i64, .sl (.int .u32)])) (x : As [.int .i64, .int .i64, .sl (.int .u32)]) : rfn Tryd.prog q1j_ 6 18446744073709551616 (Ev.get q1g_) 77 qy_ J x = q5y_ (fun i j k data swaps => J 1018 [] (q60_ i j k data swaps)) (fun j o swaps => J 127 [] (q38_ j o swaps)) x.1 x.2.1 x.2.2.1 := by kernel_rfl
theorem qae_  (j o swaps) : jfn Tryd.prog q1j_ 6 18446744073709551616 (Ev.get q1g_) 77 qy_ 127 [] (q38_ j o swaps) = q1w_ j o swaps := by
  rw [qo_ (by decide)]
  rw [qg2_]
  rfl
theorem qfy_  (i j k data swaps) : jfn Tryd.prog q1j_ 6 18446744073709551616 (Ev.get q1g_) 77 qy_ 1018 [] (q60_ i j k data swaps) = q4k_ i j k data swaps := by
  rw [qo_ (by decide)]
  have e2 : (fun j o swaps => (jfn Tryd.prog q1j_ 6 18446744073709551616 (Ev.get q1g_) 77 qy_) 127 [] (q38_ j o swaps)) = q1w_ := by funext j o swaps; exact qae_ j o swaps
  rw [qg6_, e2]
  rfl
theorem qgj_ (x : As [.int .i64, .int .i64, .sl (.int .u32)]) : evT Tryd.prog q1j_ 6 18446744073709551616 (Ev.get q1g_) 77 qy_ x = q54_ x := by
  have e1 : (fun i j k data swaps => (jfn Tryd.prog q1j_ 6 18446744073709551616 (Ev.get q1g_) 77 qy_) 1018 [] (q60_ i j k data swaps)) = q4k_ := by funext i j k data swaps; exact qfy_ i j k data swaps
  have e2 : (fun j o swaps => (jfn Tryd.prog q1j_ 6 18446744073709551616 (Ev.get q1g_) 77 qy_) 127 [] (q38_ j o swaps)) = q1w_ := by funext j o swaps; exact qae_ j o swaps
  rw [q56_, qg1_, e1, e2]
  rfl
theorem qg5_ : CtOk Tryd.prog (fun _ => True) 77 ⟨qy_, q54_⟩ := ct_of_ev (env_cons qeh_ (env_cons qbv_ env_nil)) qgj_
@[reducible] def q2k_ : Sh := ⟨[.row 0, .d (.int .i64), .d (.int .i64)], [.row (.int .u32) 26], [.int .i64, .int .i64, .sl (.int .u32)], [], [(0, .row (.int .u32) 26)], 0, [.sl (.int .u32)]⟩
def q4l_ : Env := (cts [])
def q4m_ : List (Nat × Hint) := [(14, ⟨[], [0, 6, 7]⟩)]
def q37_ (i j : Int) (data : List Int) : St := { fr := [(0, .row 0), (6, .d (.int .i64) i), (7, .d (.int .i64) j)], nt := 32, up := [], own := [(0, .row (.int .u32) 26 data)], nx := 1, log := [], ln := 1 }
def q4b_ (self1 : Int -> Int -> List Int -> Option (As [.sl (.int .u32)])) (i j : Int) (data : List Int) : Option (As [.sl (.int .u32)]) :=
  if lt i j = true then Option.bind (at? data j) fun (x : Int) => Option.bind (at? data j) fun (y : Int) => Option.bind (at? data i) fun (x : Int) => Option.bind (at? data i) fun (y_1 : Int) => Option.bind (at? data i) fun (x : Int) => Option.bind (at? data i) fun (x : Int) => Option.bind (at? (List.set data (Int.toNat i) y) j) fun (x : Int) => Option.bind (at? (List.set data (Int.toNat i) y) j) fun (x : Int) => self1 (add .i64 i 1) (Sx.sub .i64 j 1) (List.set (List.set data (Int.toNat i) y) (Int.toNat j) y_1) else some (data, ())
def qa1_ (j1 : Int -> Int -> List Int -> Option (As [.sl (.int .u32)])) (data a : Int) (b : List Int) : Option (As [.sl (.int .u32)]) :=
  j1 data (Sx.sub .i64 a 1) b
def q4c_ (i j : Int) (data : List Int) : Option (As [.sl (.int .u32)]) :=
  loopF (fun (self : (Int) × (Int) × (List Int) -> Option (As [.sl (.int .u32)])) (s : (Int) × (Int) × (List Int)) => q4b_ (fun i j data => self (i, j, data)) s.1 s.2.1 s.2.2) 18446744073709551616 (i, j, data)
def q4t_ (x : As [.int .i64, .int .i64, .sl (.int .u32)]) : Option (As [.sl (.int .u32)]) := qa1_ q4c_ x.1 x.2.1 x.2.2.1
theorem qfl_  (J w1 i j data) : pfn Tryd.prog q4l_ 6 18446744073709551616 (Ev.get q4m_) 78 q2k_ J 14 [w1] (q37_ i j data) = q4b_ (fun i j data => w1 (q37_ i j data)) i j data := by kernel_rfl
theorem qfj_ (J : Orc (As [.sl (.int .u32)])) (x : As [.int .i64, .int .i64, .sl (.int .u32)]) : rfn Tryd.prog q4l_ 6 18446744073709551616 (Ev.get q4m_) 78 q2k_ J x = qa1_ (fun i j data => J 14 [] (q37_ i j data)) x.1 x.2.1 x.2.2.1 := by kernel_rfl
theorem qff_  (i j data) : jfn Tryd.prog q4l_ 6 18446744073709551616 (Ev.get q4m_) 78 q2k_ 14 [] (q37_ i j data) = q4c_ i j data := by
  rw [qo_ (by decide)]
  rw [q2u_ (by kernel_rfl)]
  refine q29_ (σ := (Int) × (Int) × (List Int)) (mk := fun s => q37_ s.1 s.2.1 s.2.2) (fun w1 s => ?_) 18446744073709551616 (i, j, data)
  refine (qfl_ _ w1 s.1 s.2.1 s.2.2).trans ?_
  rfl
theorem qfs_ (x : As [.int .i64, .int .i64, .sl (.int .u32)]) : evT Tryd.prog q4l_ 6 18446744073709551616 (Ev.get q4m_) 78 q2k_ x = q4t_ x := by
  have e1 : (fun i j data => (jfn Tryd.prog q4l_ 6 18446744073709551616 (Ev.get q4m_) 78 q2k_) 14 [] (q37_ i j data)) = q4c_ := by funext i j data; exact qff_ i j data
  rw [q56_, qfj_, e1]
  rfl
theorem qfm_ : CtOk Tryd.prog (fun _ => True) 78 ⟨q2k_, q4t_⟩ := ct_of_ev env_nil qfs_
@[reducible] def q4_ : Sh := ⟨[.row 0, .d (.int .i64), .d (.int .i64)], [.row (.int .u32) 26], [.int .i64, .int .i64, .sl (.int .u32)], [.d .bool], [(0, .row (.int .u32) 26)], 0, [.bool, .sl (.int .u32)]⟩
def q7_ : Env := (cts [(47, (⟨cmp_Less_Guint32_s, q10_⟩ : Ct))])
def q6_ : List (Nat × Hint) := [(58, ⟨[], [0, 1, 2, 7, 8, 21, 22, 23, 24, 25, 26, 27, 28, 29, 30, 31]⟩), (233, ⟨[], [0, 1, 2, 7, 8, 21, 22, 23, 24, 25, 26, 27, 28, 29, 30, 31]⟩), (932, ⟨[], [0, 1, 2, 7, 8, 21, 22, 23, 24, 25, 26, 27, 28, 29, 30, 31]⟩), (14927, ⟨[], [0, 1, 2, 7, 8, 21, 22, 23, 24, 25, 26, 27, 28, 29, 30, 31]⟩), (477690, ⟨[], [0, 1, 2, 7, 8, 10, 21, 22, 23, 24, 25, 26, 27, 28, 29, 30, 31]⟩), (477674, ⟨[], [0, 1, 2, 7, 8, 9, 21, 22, 23, 24, 25, 26, 27, 28, 29, 30, 31]⟩), (3728, ⟨[], [0, 1, 2, 7, 8, 21, 22, 23, 24, 25, 26, 27, 28, 29, 30, 31]⟩), (14912, ⟨[.agd 22 (.int .i64), .agd 24 (.int .u32), .agd 26 (.int .i64), .agd 27 (.int .i64), .agd 29 (.int .u32), .agd 30 .bool, .agd 31 .bool], [0, 1, 2, 7, 8, 32]⟩)]
def q5_ (a b i j : Int) (data : List Int) : St := { fr := [(0, .row 0), (1, .d (.int .i64) a), (2, .d (.int .i64) b), (7, .d (.int .i64) i), (8, .d (.int .i64) j)], nt := 133, up := [], own := [(0, .row (.int .u32) 26 data)], nx := 1, log := [], ln := 1 }
def qu_ (a b i j : Int) (data : List Int) : St := { fr := [(0, .row 0), (1, .d (.int .i64) a), (2, .d (.int .i64) b), (7, .d (.int .i64) i), (8, .d (.int .i64) j)], nt := 133, up := [], own := [(0, .row (.int .u32) 26 data)], nx := 1, log := [], ln := 1 }
def q42_ (a b i j : Int) (t32 : Bool) (data : List Int) : St := { fr := [(0, .row 0), (1, .d (.int .i64) a), (2, .d (.int .i64) b), (7, .d (.int .i64) i), (8, .d (.int .i64) j), (32, .d .bool t32)], nt := 133, up := [], own := [(0, .row (.int .u32) 26 data)], nx := 1, log := [], ln := 1 }
def q47_ (a b i j : Int) (data : List Int) : St := { fr := [(0, .row 0), (1, .d (.int .i64) a), (2, .d (.int .i64) b), (7, .d (.int .i64) i), (8, .d (.int .i64) j)], nt := 133, up := [], own := [(0, .row (.int .u32) 26 data)], nx := 1, log := [], ln := 1 }
def q28_ (a b i j j_2 : Int) (data : List Int) : St := { fr := [(0, .row 0), (1, .d (.int .i64) a), (2, .d (.int .i64) b), (7, .d (.int .i64) i), (8, .d (.int .i64) j), (9, .d (.int .i64) j_2)], nt := 133, up := [], own := [(0, .row (.int .u32) 26 data)], nx := 1, log := [], ln := 1 }
def q21_ (a b i j : Int) (data : List Int) : St := { fr := [(0, .row 0), (1, .d (.int .i64) a), (2, .d (.int .i64) b), (7, .d (.int .i64) i), (8, .d (.int .i64) j)], nt := 133, up := [], own := [(0, .row (.int .u32) 26 data)], nx := 1, log := [], ln := 1 }
def q1z_ (a b i j j_2 : Int) (data : List Int) : St := { fr := [(0, .row 0), (1, .d (.int .i64) a), (2, .d (.int .i64) b), (7, .d (.int .i64) i), (8, .d (.int .i64) j), (10, .d (.int .i64) j_2)], nt := 133, up := [], own := [(0, .row (.int .u32) 26 data)], nx := 1, log := [], ln := 1 }
def q22_ (a b i j : Int) (data : List Int) : St := { fr := [(0, .row 0), (1, .d (.int .i64) a), (2, .d (.int .i64) b), (7, .d (.int .i64) i), (8, .d (.int .i64) j)], nt := 133, up := [], own := [(0, .row (.int .u32) 26 data)], nx := 1, log := [], ln := 1 }
def q27_ (j2 self1 : Int -> Int -> Int -> Int -> List Int -> Option (As [.bool, .sl (.int .u32)])) (a b i j : Int) (data : List Int) : Option (As [.bool, .sl (.int .u32)]) :=
  if lt j 5 = true then j2 a b i j data else some (false, data, ())
def q2z_ (j3 : Int -> Int -> Int -> Int -> Bool -> List Int -> Option (As [.bool, .sl (.int .u32)])) (self1 self2 : Int -> Int -> Int -> Int -> List Int -> Option (As [.bool, .sl (.int .u32)])) (a b i j : Int) (data : List Int) : Option (As [.bool, .sl (.int .u32)]) :=
  if lt i b = true then Option.bind (at? data i) fun (x : Int) => Option.bind (at? data i) fun (y : Int) => Option.bind (at? data (Sx.sub .i64 i 1)) fun (x : Int) => Option.bind (at? data (Sx.sub .i64 i 1)) fun (y_1 : Int) => Option.bind (q10_ (y, y_1, ())) fun (y : Bool × Unit) => j3 a b i j (!y.1) data else j3 a b i j false data
def q45_ (j4 self1 self2 : Int -> Int -> Int -> Int -> List Int -> Option (As [.bool, .sl (.int .u32)])) (a b i j : Int) (t32 : Bool) (data : List Int) : Option (As [.bool, .sl (.int .u32)]) :=
  if t32 = true then self2 a b (add .i64 i 1) j data else j4 a b i j data
def q43_ (j5 : Int -> Int -> Int -> Int -> Int -> List Int -> Option (As [.bool, .sl (.int .u32)])) (j6 self1 : Int -> Int -> Int -> Int -> List Int -> Option (As [.bool, .sl (.int .u32)])) (a b i j : Int) (data : List Int) : Option (As [.bool, .sl (.int .u32)]) :=
  if eqi i b = true then some (true, data, ()) else if lt (Sx.sub .i64 b a) 50 = true then some (false, data, ()) else Option.bind (at? data (Sx.sub .i64 i 1)) fun (x : Int) => Option.bind (at? data (Sx.sub .i64 i 1)) fun (y : Int) => Option.bind (at? data i) fun (x : Int) => Option.bind (at? data i) fun (y_1 : Int) => Option.bind (at? data i) fun (x : Int) => Option.bind (at? data i) fun (x : Int) => Option.bind (at? (List.set data (Int.toNat i) y) (Sx.sub .i64 i 1)) fun (x : Int) => Option.bind (at? (List.set data (Int.toNat i) y) (Sx.sub .i64 i 1)) fun (x : Int) => if ge (Sx.sub .i64 i a) 2 = true then j5 a b i j (Sx.sub .i64 i 1) (List.set (List.set data (Int.toNat i) y) (Int.toNat (Sx.sub .i64 i 1)) y_1) else j6 a b i j (List.set (List.set data (Int.toNat i) y) (Int.toNat (Sx.sub .i64 i 1)) y_1)
def q23_ (j6 self1 : Int -> Int -> Int -> Int -> List Int -> Option (As [.bool, .sl (.int .u32)])) (self5 : Int -> Int -> Int -> Int -> Int -> List Int -> Option (As [.bool, .sl (.int .u32)])) (a b i j j_2 : Int) (data : List Int) : Option (As [.bool, .sl (.int .u32)]) :=
  if ge j_2 1 = true then Option.bind (at? data j_2) fun (x : Int) => Option.bind (at? data j_2) fun (y : Int) => Option.bind (at? data (Sx.sub .i64 j_2 1)) fun (x : Int) => Option.bind (at? data (Sx.sub .i64 j_2 1)) fun (y_1 : Int) => Option.bind (q10_ (y, y_1, ())) fun (y : Bool × Unit) => if (!y.1) = true then j6 a b i j data else Option.bind (at? data (Sx.sub .i64 j_2 1)) fun (x : Int) => Option.bind (at? data (Sx.sub .i64 j_2 1)) fun (y : Int) => Option.bind (at? data j_2) fun (x : Int) => Option.bind (at? data j_2) fun (y_2 : Int) => Option.bind (at? data j_2) fun (x : Int) => Option.bind (at? data j_2) fun (x : Int) => Option.bind (at? (List.set data (Int.toNat j_2) y) (Sx.sub .i64 j_2 1)) fun (x : Int) => Option.bind (at? (List.set data (Int.toNat j_2) y) (Sx.sub .i64 j_2 1)) fun (x : Int) => self5 a b i j (Sx.sub .i64 j_2 1) (List.set (List.set data (Int.toNat j_2) y) (Int.toNat (Sx.sub .i64 j_2 1)) y_2) else j6 a b i j data
def q46_ (j7 : Int -> Int -> Int -> Int -> Int -> List Int -> Option (As [.bool, .sl (.int .u32)])) (j8 self1 : Int -> Int -> Int -> Int -> List Int -> Option (As [.bool, .sl (.int .u32)])) (a b i j : Int) (data : List Int) : Option (As [.bool, .sl (.int .u32)]) :=
  if ge (Sx.sub .i64 b i) 2 = true then j7 a b i j (add .i64 i 1) data else j8 a b i j data
def q2y_ (j8 self1 : Int -> Int -> Int -> Int -> List Int -> Option (As [.bool, .sl (.int .u32)])) (self7 : Int -> Int -> Int -> Int -> Int -> List Int -> Option (As [.bool, .sl (.int .u32)])) (a b i j j_2 : Int) (data : List Int) : Option (As [.bool, .sl (.int .u32)]) :=
  if lt j_2 b = true then Option.bind (at? data j_2) fun (x : Int) => Option.bind (at? data j_2) fun (y : Int) => Option.bind (at? data (Sx.sub .i64 j_2 1)) fun (x : Int) => Option.bind (at? data (Sx.sub .i64 j_2 1)) fun (y_1 : Int) => Option.bind (q10_ (y, y_1, ())) fun (y : Bool × Unit) => if (!y.1) = true then j8 a b i j data else Option.bind (at? data (Sx.sub .i64 j_2 1)) fun (x : Int) => Option.bind (at? data (Sx.sub .i64 j_2 1)) fun (y : Int) => Option.bind (at? data j_2) fun (x : Int) => Option.bind (at? data j_2) fun (y_2 : Int) => Option.bind (at? data j_2) fun (x : Int) => Option.bind (at? data j_2) fun (x : Int) => Option.bind (at? (List.set data (Int.toNat j_2) y) (Sx.sub .i64 j_2 1)) fun (x : Int) => Option.bind (at? (List.set data (Int.toNat j_2) y) (Sx.sub .i64 j_2 1)) fun (x : Int) => self7 a b i j (add .i64 j_2 1) (List.set (List.set data (Int.toNat j_2) y) (Int.toNat (Sx.sub .i64 j_2 1)) y_2) else j8 a b i j data
def q8l_ (self1 : Int -> Int -> Int -> Int -> List Int -> Option (As [.bool, .sl (.int .u32)])) (a b i j : Int) (data : List Int) : Option (As [.bool, .sl (.int .u32)]) :=
  self1 a b i (add .i64 j 1) data
def q8j_ (j1 : Int -> Int -> Int -> Int -> List Int -> Option (As [.bool, .sl (.int .u32)])) (data a : Int) (b : List Int) : Option (As [.bool, .sl (.int .u32)]) :=
  j1 data a (add .i64 data 1) 0 b
def qs_ (u1 : Int -> Int -> Int -> Int -> List Int -> Option (As [.bool, .sl (.int .u32)])) (a b i j : Int) (data : List Int) : Option (As [.bool, .sl (.int .u32)]) := q8l_ u1 a b i j data
def q44_ (u1 : Int -> Int -> Int -> Int -> List Int -> Option (As [.bool, .sl (.int .u32)])) (a b i j j_2 : Int) (data : List Int) : Option (As [.bool, .sl (.int .u32)]) :=
  loopF (fun (self : (Int) × (Int) × (Int) × (Int) × (Int) × (List Int) -> Option (As [.bool, .sl (.int .u32)])) (s : (Int) × (Int) × (Int) × (Int) × (Int) × (List Int)) => q2y_ (qs_ u1) u1 (fun a b i j j_2 data => self (a, b, i, j, j_2, data)) s.1 s.2.1 s.2.2.1 s.2.2.2.1 s.2.2.2.2.1 s.2.2.2.2.2) 18446744073709551616 (a, b, i, j, j_2, data)
def qr_ (u1 : Int -> Int -> Int -> Int -> List Int -> Option (As [.bool, .sl (.int .u32)])) (a b i j : Int) (data : List Int) : Option (As [.bool, .sl (.int .u32)]) := q46_ (q44_ u1) (qs_ u1) u1 a b i j data
def q2v_ (u1 : Int -> Int -> Int -> Int -> List Int -> Option (As [.bool, .sl (.int .u32)])) (a b i j j_2 : Int) (data : List Int) : Option (As [.bool, .sl (.int .u32)]) :=
  loopF (fun (self : (Int) × (Int) × (Int) × (Int) × (Int) × (List Int) -> Option (As [.bool, .sl (.int .u32)])) (s : (Int) × (Int) × (Int) × (Int) × (Int) × (List Int)) => q23_ (qr_ u1) u1 (fun a b i j j_2 data => self (a, b, i, j, j_2, data)) s.1 s.2.1 s.2.2.1 s.2.2.2.1 s.2.2.2.2.1 s.2.2.2.2.2) 18446744073709551616 (a, b, i, j, j_2, data)
def q2w_ (u1 : Int -> Int -> Int -> Int -> List Int -> Option (As [.bool, .sl (.int .u32)])) (a b i j : Int) (data : List Int) : Option (As [.bool, .sl (.int .u32)]) := q43_ (q2v_ u1) (qr_ u1) u1 a b i j data
def q1c_ (u1 u2 : Int -> Int -> Int -> Int -> List Int -> Option (As [.bool, .sl (.int .u32)])) (a b i j : Int) (t32 : Bool) (data : List Int) : Option (As [.bool, .sl (.int .u32)]) := q45_ (q2w_ u1) u1 u2 a b i j t32 data
def q26_ (u1 : Int -> Int -> Int -> Int -> List Int -> Option (As [.bool, .sl (.int .u32)])) (a b i j : Int) (data : List Int) : Option (As [.bool, .sl (.int .u32)]) :=
  loopF (fun (self : (Int) × (Int) × (Int) × (Int) × (List Int) -> Option (As [.bool, .sl (.int .u32)])) (s : (Int) × (Int) × (Int) × (Int) × (List Int)) => q2z_ (q1c_ u1 (fun a b i j data => self (a, b, i, j, data))) u1 (fun a b i j data => self (a, b, i, j, data)) s.1 s.2.1 s.2.2.1 s.2.2.2.1 s.2.2.2.2) 18446744073709551616 (a, b, i, j, data)
def q2x_ (a b i j : Int) (data : List Int) : Option (As [.bool, .sl (.int .u32)]) :=
  loopF (fun (self : (Int) × (Int) × (Int) × (Int) × (List Int) -> Option (As [.bool, .sl (.int .u32)])) (s : (Int) × (Int) × (Int) × (Int) × (List Int)) => q27_ (q26_ (fun a b i j data => self (a, b, i, j, data))) (fun a b i j data => self (a, b, i, j, data)) s.1 s.2.1 s.2.2.1 s.2.2.2.1 s.2.2.2.2) 18446744073709551616 (a, b, i, j, data)
def q39_ (x : As [.int .i64, .int .i64, .sl (.int .u32)]) : Option (As [.bool, .sl (.int .u32)]) := q8j_ q2x_ x.1 x.2.1 x.2.2.1
theorem qcj_  (J w1 a b i j data) : pfn Tryd.prog q7_ 6 18446744073709551616 (Ev.get q6_) 79 q4_ J 233 [w1] (q22_ a b i j data) = q8l_ (fun a b i j data => w1 (q5_ a b i j data)) a b i j data := by kernel_rfl
theorem qce_  (J w1 w7 a b i j j_2 data) : pfn Tryd.prog q7_ 6 18446744073709551616 (Ev.get q6_) 79 q4_ J 477690 [w1, w7] (q1z_ a b i j j_2 data) = q2y_ (fun a b i j data => J 233 [w1] (q22_ a b i j data)) (fun a b i j data => w1 (q5_ a b i j data)) (fun a b i j j_2 data => w7 (q1z_ a b i j j_2 data)) a b i j j_2 data := by kernel_rfl
theorem qcf_  (J w1 a b i j data) : pfn Tryd.prog q7_ 6 18446744073709551616 (Ev.get q6_) 79 q4_ J 14927 [w1] (q21_ a b i j data) = q46_ (fun a b i j j_2 data => J 477690 [w1] (q1z_ a b i j j_2 data)) (fun a b i j data => J 233 [w1] (q22_ a b i j data)) (fun a b i j data => w1 (q5_ a b i j data)) a b i j data := by kernel_rfl
theorem qcr_  (J w1 w5 a b i j j_2 data) : pfn Tryd.prog q7_ 6 18446744073709551616 (Ev.get q6_) 79 q4_ J 477674 [w1, w5] (q28_ a b i j j_2 data) = q23_ (fun a b i j data => J 14927 [w1] (q21_ a b i j data)) (fun a b i j data => w1 (q5_ a b i j data)) (fun a b i j j_2 data => w5 (q28_ a b i j j_2 data)) a b i j j_2 data := by kernel_rfl
theorem qc6_  (J w1 a b i j data) : pfn Tryd.prog q7_ 6 18446744073709551616 (Ev.get q6_) 79 q4_ J 932 [w1] (q47_ a b i j data) = q43_ (fun a b i j j_2 data => J 477674 [w1] (q28_ a b i j j_2 data)) (fun a b i j data => J 14927 [w1] (q21_ a b i j data)) (fun a b i j data => w1 (q5_ a b i j data)) a b i j data := by kernel_rfl
theorem qcq_  (J w1 w2 a b i j t32 data) : pfn Tryd.prog q7_ 6 18446744073709551616 (Ev.get q6_) 79 q4_ J 14912 [w1, w2] (q42_ a b i j t32 data) = q45_ (fun a b i j data => J 932 [w1] (q47_ a b i j data)) (fun a b i j data => w1 (q5_ a b i j data)) (fun a b i j data => w2 (qu_ a b i j data)) a b i j t32 data := by kernel_rfl
theorem qcc_  (J w1 w2 a b i j data) : pfn Tryd.prog q7_ 6 18446744073709551616 (Ev.get q6_) 79 q4_ J 3728 [w1, w2] (qu_ a b i j data) = q2z_ (fun a b i j t32 data => J 14912 [w1, w2] (q42_ a b i j t32 data)) (fun a b i j data => w1 (q5_ a b i j data)) (fun a b i j data => w2 (qu_ a b i j data)) a b i j data := by kernel_rfl
theorem qch_  (J w1 a b i j data) : pfn Tryd.prog q7_ 6 18446744073709551616 (Ev.get q6_) 79 q4_ J 58 [w1] (q5_ a b i j data) = q27_ (fun a b i j data => J 3728 [w1] (qu_ a b i j data)) (fun a b i j data => w1 (q5_ a b i j data)) a b i j data := by kernel_rfl
theorem qcg_ (J : Orc (As [.bool, .sl (.int .u32)])) (x : As [.int .i64, .int .i64, .sl (.int .u32)]) : rfn Tryd.prog q7_ 6 18446744073709551616 (Ev.get q6_) 79 q4_ J x = q8j_ (fun a b i j data => J 58 [] (q5_ a b i j data)) x.1 x.2.1 x.2.2.1 := by kernel_rfl
theorem q8k_  (w1 a b i j data) : jfn Tryd.prog q7_ 6 18446744073709551616 (Ev.get q6_) 79 q4_ 233 [w1] (q22_ a b i j data) = qs_ (fun a b i j data => w1 (q5_ a b i j data)) a b i j data := by
  rw [qo_ (by decide)]
  rw [qcj_]
  rfl
theorem qcm_  (w1 a b i j j_2 data) : jfn Tryd.prog q7_ 6 18446744073709551616 (Ev.get q6_) 79 q4_ 477690 [w1] (q1z_ a b i j j_2 data) = q44_ (fun a b i j data => w1 (q5_ a b i j data)) a b i j j_2 data := by
  rw [qo_ (by decide)]
  rw [q2u_ (by kernel_rfl)]
  refine q29_ (σ := (Int) × (Int) × (Int) × (Int) × (Int) × (List Int)) (mk := fun s => q1z_ s.1 s.2.1 s.2.2.1 s.2.2.2.1 s.2.2.2.2.1 s.2.2.2.2.2) (fun w7 s => ?_) 18446744073709551616 (a, b, i, j, j_2, data)
  have e8 : (fun a b i j data => (jfn Tryd.prog q7_ 6 18446744073709551616 (Ev.get q6_) 79 q4_) 233 [w1] (q22_ a b i j data)) = qs_ (fun a b i j data => w1 (q5_ a b i j data)) := by funext a b i j data; exact q8k_ w1 a b i j data
  refine (qce_ _ w1 w7 s.1 s.2.1 s.2.2.1 s.2.2.2.1 s.2.2.2.2.1 s.2.2.2.2.2).trans ?_
  rw [e8]
theorem q8m_  (w1 a b i j data) : jfn Tryd.prog q7_ 6 18446744073709551616 (Ev.get q6_) 79 q4_ 14927 [w1] (q21_ a b i j data) = qr_ (fun a b i j data => w1 (q5_ a b i j data)) a b i j data := by
  rw [qo_ (by decide)]
  have e7 : (fun a b i j j_2 data => (jfn Tryd.prog q7_ 6 18446744073709551616 (Ev.get q6_) 79 q4_) 477690 [w1] (q1z_ a b i j j_2 data)) = q44_ (fun a b i j data => w1 (q5_ a b i j data)) := by funext a b i j j_2 data; exact qcm_ w1 a b i j j_2 data
  have e8 : (fun a b i j data => (jfn Tryd.prog q7_ 6 18446744073709551616 (Ev.get q6_) 79 q4_) 233 [w1] (q22_ a b i j data)) = qs_ (fun a b i j data => w1 (q5_ a b i j data)) := by funext a b i j data; exact q8k_ w1 a b i j data
  rw [qcf_, e7, e8]
  rfl
theorem qcn_  (w1 a b i j j_2 data) : jfn Tryd.prog q7_ 6 18446744073709551616 (Ev.get q6_) 79 q4_ 477674 [w1] (q28_ a b i j j_2 data) = q2v_ (fun a b i j data => w1 (q5_ a b i j data)) a b i j j_2 data := by
  rw [qo_ (by decide)]
  rw [q2u_ (by kernel_rfl)]
  refine q29_ (σ := (Int) × (Int) × (Int) × (Int) × (Int) × (List Int)) (mk := fun s => q28_ s.1 s.2.1 s.2.2.1 s.2.2.2.1 s.2.2.2.2.1 s.2.2.2.2.2) (fun w5 s => ?_) 18446744073709551616 (a, b, i, j, j_2, data)
  have e6 : (fun a b i j data => (jfn Tryd.prog q7_ 6 18446744073709551616 (Ev.get q6_) 79 q4_) 14927 [w1] (q21_ a b i j data)) = qr_ (fun a b i j data => w1 (q5_ a b i j data)) := by funext a b i j data; exact q8m_ w1 a b i j data
  refine (qcr_ _ w1 w5 s.1 s.2.1 s.2.2.1 s.2.2.2.1 s.2.2.2.2.1 s.2.2.2.2.2).trans ?_
  rw [e6]
theorem qco_  (w1 a b i j data) : jfn Tryd.prog q7_ 6 18446744073709551616 (Ev.get q6_) 79 q4_ 932 [w1] (q47_ a b i j data) = q2w_ (fun a b i j data => w1 (q5_ a b i j data)) a b i j data := by
  rw [qo_ (by decide)]
  have e5 : (fun a b i j j_2 data => (jfn Tryd.prog q7_ 6 18446744073709551616 (Ev.get q6_) 79 q4_) 477674 [w1] (q28_ a b i j j_2 data)) = q2v_ (fun a b i j data => w1 (q5_ a b i j data)) := by funext a b i j j_2 data; exact qcn_ w1 a b i j j_2 data
  have e6 : (fun a b i j data => (jfn Tryd.prog q7_ 6 18446744073709551616 (Ev.get q6_) 79 q4_) 14927 [w1] (q21_ a b i j data)) = qr_ (fun a b i j data => w1 (q5_ a b i j data)) := by funext a b i j data; exact q8m_ w1 a b i j data
  rw [qc6_, e5, e6]
  rfl
theorem qc4_  (w1 w2 a b i j t32 data) : jfn Tryd.prog q7_ 6 18446744073709551616 (Ev.get q6_) 79 q4_ 14912 [w1, w2] (q42_ a b i j t32 data) = q1c_ (fun a b i j data => w1 (q5_ a b i j data)) (fun a b i j data => w2 (qu_ a b i j data)) a b i j t32 data := by
  rw [qo_ (by decide)]
  have e4 : (fun a b i j data => (jfn Tryd.prog q7_ 6 18446744073709551616 (Ev.get q6_) 79 q4_) 932 [w1] (q47_ a b i j data)) = q2w_ (fun a b i j data => w1 (q5_ a b i j data)) := by funext a b i j data; exact qco_ w1 a b i j data
  rw [qcq_, e4]
  rfl
theorem qcd_  (w1 a b i j data) : jfn Tryd.prog q7_ 6 18446744073709551616 (Ev.get q6_) 79 q4_ 3728 [w1] (qu_ a b i j data) = q26_ (fun a b i j data => w1 (q5_ a b i j data)) a b i j data := by
  rw [qo_ (by decide)]
  rw [q2u_ (by kernel_rfl)]
  refine q29_ (σ := (Int) × (Int) × (Int) × (Int) × (List Int)) (mk := fun s => qu_ s.1 s.2.1 s.2.2.1 s.2.2.2.1 s.2.2.2.2) (fun w2 s => ?_) 18446744073709551616 (a, b, i, j, data)
  have e3 : (fun a b i j t32 data => (jfn Tryd.prog q7_ 6 18446744073709551616 (Ev.get q6_) 79 q4_) 14912 [w1, w2] (q42_ a b i j t32 data)) = q1c_ (fun a b i j data => w1 (q5_ a b i j data)) (fun a b i j data => w2 (qu_ a b i j data)) := by funext a b i j t32 data; exact qc4_ w1 w2 a b i j t32 data
  refine (qcc_ _ w1 w2 s.1 s.2.1 s.2.2.1 s.2.2.2.1 s.2.2.2.2).trans ?_
  rw [e3]
theorem qcs_  (a b i j data) : jfn Tryd.prog q7_ 6 18446744073709551616 (Ev.get q6_) 79 q4_ 58 [] (q5_ a b i j data) = q2x_ a b i j data := by
  rw [qo_ (by decide)]
  rw [q2u_ (by kernel_rfl)]
  refine q29_ (σ := (Int) × (Int) × (Int) × (Int) × (List Int)) (mk := fun s => q5_ s.1 s.2.1 s.2.2.1 s.2.2.2.1 s.2.2.2.2) (fun w1 s => ?_) 18446744073709551616 (a, b, i, j, data)
  have e2 : (fun a b i j data => (jfn Tryd.prog q7_ 6 18446744073709551616 (Ev.get q6_) 79 q4_) 3728 [w1] (qu_ a b i j data)) = q26_ (fun a b i j data => w1 (q5_ a b i j data)) := by funext a b i j data; exact qcd_ w1 a b i j data
  refine (qch_ _ w1 s.1 s.2.1 s.2.2.1 s.2.2.2.1 s.2.2.2.2).trans ?_
  rw [e2]
theorem qcw_ (x : As [.int .i64, .int .i64, .sl (.int .u32)]) : evT Tryd.prog q7_ 6 18446744073709551616 (Ev.get q6_) 79 q4_ x = q39_ x := by
  have e1 : (fun a b i j data => (jfn Tryd.prog q7_ 6 18446744073709551616 (Ev.get q6_) 79 q4_) 58 [] (q5_ a b i j data)) = q2x_ := by funext a b i j data; exact qcs_ a b i j data
  rw [q56_, qcg_, e1]
  rfl
theorem qc9_ : CtOk Tryd.prog (fun _ => True) 79 ⟨q4_, q39_⟩ := ct_of_ev (env_cons q6i_ env_nil) qcw_
@[reducible] def q9_ : Sh := ⟨[.row 0, .d (.int .i64), .d (.int .i64), .d (.int .i64)], [.row (.int .u32) 26], [.int .i64, .int .i64, .int .i64, .sl (.int .u32)], [.d (.int .i64)], [(0, .row (.int .u32) 26)], 0, [.int .i64, .sl (.int .u32)]⟩
def qc_ : Env := (cts [(47, (⟨cmp_Less_Guint32_s, q10_⟩ : Ct))])
def qd_ : List (Nat × Hint) := [(60, ⟨[], [0, 1, 9, 10, 33, 34, 35, 36, 37, 38, 39, 40, 41, 42, 50, 51, 52, 53, 54, 55, 56, 57, 58]⟩), (240, ⟨[], [0, 1, 9, 10, 33, 34, 35, 36, 37, 38, 39, 40, 41, 42, 50, 51, 52, 53, 54, 55, 56, 57, 58]⟩), (481, ⟨[], [0, 1, 9, 10, 33, 34, 35, 36, 37, 38, 39, 40, 41, 42, 50, 51, 52, 53, 54, 55, 56, 57, 58]⟩), (1924, ⟨[], [0, 1, 9, 10, 33, 34, 35, 36, 37, 38, 39, 40, 41, 42, 50, 51, 52, 53, 54, 55, 56, 57, 58]⟩), (7696, ⟨[.agd 51 (.int .i64), .agd 53 (.int .u32), .agd 55 (.int .i64), .agd 57 (.int .u32), .agd 58 .bool], [0, 1, 9, 10, 59]⟩), (960, ⟨[], [0, 1, 9, 10, 33, 34, 35, 36, 37, 38, 39, 40, 41, 42, 50, 51, 52, 53, 54, 55, 56, 57, 58]⟩), (3840, ⟨[.agd 34 (.int .i64), .agd 36 (.int .u32), .agd 38 (.int .i64), .agd 40 (.int .u32), .agd 41 .bool, .agd 42 .bool], [0, 1, 9, 10, 43]⟩)]
def qa_ (a i j : Int) (data : List Int) : St := { fr := [(0, .row 0), (1, .d (.int .i64) a), (9, .d (.int .i64) i), (10, .d (.int .i64) j)], nt := 84, up := [], own := [(0, .row (.int .u32) 26 data)], nx := 1, log := [], ln := 1 }
def q13_ (a i j : Int) (data : List Int) : St := { fr := [(0, .row 0), (1, .d (.int .i64) a), (9, .d (.int .i64) i), (10, .d (.int .i64) j)], nt := 84, up := [], own := [(0, .row (.int .u32) 26 data)], nx := 1, log := [], ln := 1 }
def q5f_ (a i j : Int) (t43 : Bool) (data : List Int) : St := { fr := [(0, .row 0), (1, .d (.int .i64) a), (9, .d (.int .i64) i), (10, .d (.int .i64) j), (43, .d .bool t43)], nt := 84, up := [], own := [(0, .row (.int .u32) 26 data)], nx := 1, log := [], ln := 1 }
def q5c_ (a i j : Int) (data : List Int) : St := { fr := [(0, .row 0), (1, .d (.int .i64) a), (9, .d (.int .i64) i), (10, .d (.int .i64) j)], nt := 84, up := [], own := [(0, .row (.int .u32) 26 data)], nx := 1, log := [], ln := 1 }
def q14_ (a i j : Int) (data : List Int) : St := { fr := [(0, .row 0), (1, .d (.int .i64) a), (9, .d (.int .i64) i), (10, .d (.int .i64) j)], nt := 84, up := [], own := [(0, .row (.int .u32) 26 data)], nx := 1, log := [], ln := 1 }
def q5e_ (a i j : Int) (t59 : Bool) (data : List Int) : St := { fr := [(0, .row 0), (1, .d (.int .i64) a), (9, .d (.int .i64) i), (10, .d (.int .i64) j), (59, .d .bool t59)], nt := 84, up := [], own := [(0, .row (.int .u32) 26 data)], nx := 1, log := [], ln := 1 }
def q59_ (a i j : Int) (data : List Int) : St := { fr := [(0, .row 0), (1, .d (.int .i64) a), (9, .d (.int .i64) i), (10, .d (.int .i64) j)], nt := 84, up := [], own := [(0, .row (.int .u32) 26 data)], nx := 1, log := [], ln := 1 }
def q3o_ (j2 self1 : Int -> Int -> Int -> List Int -> Option (As [.int .i64, .sl (.int .u32)])) (a i j : Int) (data : List Int) : Option (As [.int .i64, .sl (.int .u32)]) :=
  j2 a i j data
def q2p_ (j3 : Int -> Int -> Int -> Bool -> List Int -> Option (As [.int .i64, .sl (.int .u32)])) (self1 self2 : Int -> Int -> Int -> List Int -> Option (As [.int .i64, .sl (.int .u32)])) (a i j : Int) (data : List Int) : Option (As [.int .i64, .sl (.int .u32)]) :=
  if le i j = true then Option.bind (at? data a) fun (x : Int) => Option.bind (at? data a) fun (y : Int) => Option.bind (at? data i) fun (x : Int) => Option.bind (at? data i) fun (y_1 : Int) => Option.bind (q10_ (y, y_1, ())) fun (y : Bool × Unit) => j3 a i j (!y.1) data else j3 a i j false data
def q5d_ (j4 self1 self2 : Int -> Int -> Int -> List Int -> Option (As [.int .i64, .sl (.int .u32)])) (a i j : Int) (t43 : Bool) (data : List Int) : Option (As [.int .i64, .sl (.int .u32)]) :=
  if t43 = true then self2 a (add .i64 i 1) j data else j4 a i j data
def q9p_ (j5 self1 : Int -> Int -> Int -> List Int -> Option (As [.int .i64, .sl (.int .u32)])) (a i j : Int) (data : List Int) : Option (As [.int .i64, .sl (.int .u32)]) :=
  j5 a i j data
def q2o_ (j6 : Int -> Int -> Int -> Bool -> List Int -> Option (As [.int .i64, .sl (.int .u32)])) (self1 self5 : Int -> Int -> Int -> List Int -> Option (As [.int .i64, .sl (.int .u32)])) (a i j : Int) (data : List Int) : Option (As [.int .i64, .sl (.int .u32)]) :=
  if le i j = true then Option.bind (at? data a) fun (x : Int) => Option.bind (at? data a) fun (y : Int) => Option.bind (at? data j) fun (x : Int) => Option.bind (at? data j) fun (y_1 : Int) => Option.bind (q10_ (y, y_1, ())) fun (y : Bool × Unit) => j6 a i j y.1 data else j6 a i j false data
def q57_ (j7 self1 self5 : Int -> Int -> Int -> List Int -> Option (As [.int .i64, .sl (.int .u32)])) (a i j : Int) (t59 : Bool) (data : List Int) : Option (As [.int .i64, .sl (.int .u32)]) :=
  if t59 = true then self5 a i (Sx.sub .i64 j 1) data else j7 a i j data
def q58_ (self1 : Int -> Int -> Int -> List Int -> Option (As [.int .i64, .sl (.int .u32)])) (a i j : Int) (data : List Int) : Option (As [.int .i64, .sl (.int .u32)]) :=
  if gt i j = true then some (i, data, ()) else Option.bind (at? data j) fun (x : Int) => Option.bind (at? data j) fun (y : Int) => Option.bind (at? data i) fun (x : Int) => Option.bind (at? data i) fun (y_1 : Int) => Option.bind (at? data i) fun (x : Int) => Option.bind (at? data i) fun (x : Int) => Option.bind (at? (List.set data (Int.toNat i) y) j) fun (x : Int) => Option.bind (at? (List.set data (Int.toNat i) y) j) fun (x : Int) => self1 a (add .i64 i 1) (Sx.sub .i64 j 1) (List.set (List.set data (Int.toNat i) y) (Int.toNat j) y_1)
def q5a_ (j1 : Int -> Int -> Int -> List Int -> Option (As [.int .i64, .sl (.int .u32)])) (data a b : Int) (pivot : List Int) : Option (As [.int .i64, .sl (.int .u32)]) :=
  Option.bind (at? pivot b) fun (x : Int) => Option.bind (at? pivot b) fun (y : Int) => Option.bind (at? pivot data) fun (x : Int) => Option.bind (at? pivot data) fun (y_1 : Int) => Option.bind (at? pivot data) fun (x : Int) => Option.bind (at? pivot data) fun (x : Int) => Option.bind (at? (List.set pivot (Int.toNat data) y) b) fun (x : Int) => Option.bind (at? (List.set pivot (Int.toNat data) y) b) fun (x : Int) => j1 data (add .i64 data 1) (Sx.sub .i64 a 1) (List.set (List.set pivot (Int.toNat data) y) (Int.toNat b) y_1)
def q2q_ (u1 : Int -> Int -> Int -> List Int -> Option (As [.int .i64, .sl (.int .u32)])) (a i j : Int) (data : List Int) : Option (As [.int .i64, .sl (.int .u32)]) := q58_ u1 a i j data
def q1d_ (u1 u5 : Int -> Int -> Int -> List Int -> Option (As [.int .i64, .sl (.int .u32)])) (a i j : Int) (t59 : Bool) (data : List Int) : Option (As [.int .i64, .sl (.int .u32)]) := q57_ (q2q_ u1) u1 u5 a i j t59 data
def q1e_ (u1 : Int -> Int -> Int -> List Int -> Option (As [.int .i64, .sl (.int .u32)])) (a i j : Int) (data : List Int) : Option (As [.int .i64, .sl (.int .u32)]) :=
  loopF (fun (self : (Int) × (Int) × (Int) × (List Int) -> Option (As [.int .i64, .sl (.int .u32)])) (s : (Int) × (Int) × (Int) × (List Int)) => q2o_ (q1d_ u1 (fun a i j data => self (a, i, j, data))) u1 (fun a i j data => self (a, i, j, data)) s.1 s.2.1 s.2.2.1 s.2.2.2) 18446744073709551616 (a, i, j, data)
def q7n_ (u1 : Int -> Int -> Int -> List Int -> Option (As [.int .i64, .sl (.int .u32)])) (a i j : Int) (data : List Int) : Option (As [.int .i64, .sl (.int .u32)]) := q9p_ (q1e_ u1) u1 a i j data
def q1f_ (u1 u2 : Int -> Int -> Int -> List Int -> Option (As [.int .i64, .sl (.int .u32)])) (a i j : Int) (t43 : Bool) (data : List Int) : Option (As [.int .i64, .sl (.int .u32)]) := q5d_ (q7n_ u1) u1 u2 a i j t43 data
def q2a_ (u1 : Int -> Int -> Int -> List Int -> Option (As [.int .i64, .sl (.int .u32)])) (a i j : Int) (data : List Int) : Option (As [.int .i64, .sl (.int .u32)]) :=
  loopF (fun (self : (Int) × (Int) × (Int) × (List Int) -> Option (As [.int .i64, .sl (.int .u32)])) (s : (Int) × (Int) × (Int) × (List Int)) => q2p_ (q1f_ u1 (fun a i j data => self (a, i, j, data))) u1 (fun a i j data => self (a, i, j, data)) s.1 s.2.1 s.2.2.1 s.2.2.2) 18446744073709551616 (a, i, j, data)
def q2n_ (a i j : Int) (data : List Int) : Option (As [.int .i64, .sl (.int .u32)]) :=
  loopF (fun (self : (Int) × (Int) × (Int) × (List Int) -> Option (As [.int .i64, .sl (.int .u32)])) (s : (Int) × (Int) × (Int) × (List Int)) => q3o_ (q2a_ (fun a i j data => self (a, i, j, data))) (fun a i j data => self (a, i, j, data)) s.1 s.2.1 s.2.2.1 s.2.2.2) 18446744073709551616 (a, i, j, data)
def q4o_ (x : As [.int .i64, .int .i64, .int .i64, .sl (.int .u32)]) : Option (As [.int .i64, .sl (.int .u32)]) := q5a_ q2n_ x.1 x.2.1 x.2.2.1 x.2.2.2.1
theorem qe2_  (J w1 a i j data) : pfn Tryd.prog qc_ 6 18446744073709551616 (Ev.get qd_) 80 q9_ J 481 [w1] (q59_ a i j data) = q58_ (fun a i j data => w1 (qa_ a i j data)) a i j data := by kernel_rfl
theorem qe4_  (J w1 w5 a i j t59 data) : pfn Tryd.prog qc_ 6 18446744073709551616 (Ev.get qd_) 80 q9_ J 7696 [w1, w5] (q5e_ a i j t59 data) = q57_ (fun a i j data => J 481 [w1] (q59_ a i j data)) (fun a i j data => w1 (qa_ a i j data)) (fun a i j data => w5 (q14_ a i j data)) a i j t59 data := by kernel_rfl
theorem qef_  (J w1 w5 a i j data) : pfn Tryd.prog qc_ 6 18446744073709551616 (Ev.get qd_) 80 q9_ J 1924 [w1, w5] (q14_ a i j data) = q2o_ (fun a i j t59 data => J 7696 [w1, w5] (q5e_ a i j t59 data)) (fun a i j data => w1 (qa_ a i j data)) (fun a i j data => w5 (q14_ a i j data)) a i j data := by kernel_rfl
theorem qe1_  (J w1 a i j data) : pfn Tryd.prog qc_ 6 18446744073709551616 (Ev.get qd_) 80 q9_ J 240 [w1] (q5c_ a i j data) = q9p_ (fun a i j data => J 1924 [w1] (q14_ a i j data)) (fun a i j data => w1 (qa_ a i j data)) a i j data := by kernel_rfl
theorem qe5_  (J w1 w2 a i j t43 data) : pfn Tryd.prog qc_ 6 18446744073709551616 (Ev.get qd_) 80 q9_ J 3840 [w1, w2] (q5f_ a i j t43 data) = q5d_ (fun a i j data => J 240 [w1] (q5c_ a i j data)) (fun a i j data => w1 (qa_ a i j data)) (fun a i j data => w2 (q13_ a i j data)) a i j t43 data := by kernel_rfl
theorem qeg_  (J w1 w2 a i j data) : pfn Tryd.prog qc_ 6 18446744073709551616 (Ev.get qd_) 80 q9_ J 960 [w1, w2] (q13_ a i j data) = q2p_ (fun a i j t43 data => J 3840 [w1, w2] (q5f_ a i j t43 data)) (fun a i j data => w1 (qa_ a i j data)) (fun a i j data => w2 (q13_ a i j data)) a i j data := by kernel_rfl
theorem qdz_  (J w1 a i j data) : pfn Tryd.prog qc_ 6 18446744073709551616 (Ev.get qd_) 80 q9_ J 60 [w1] (qa_ a i j data) = q3o_ (fun a i j data => J 960 [w1] (q13_ a i j data)) (fun a i j data => w1 (qa_ a i j data)) a i j data := by kernel_rfl
theorem qec_ (J : Orc (As [.int .i64, .sl (.int .u32)])) (x : As [.int .i64, .int .i64, .int .i64, .sl (.int .u32)]) : rfn Tryd.prog qc_ 6 18446744073709551616 (Ev.get qd_) 80 q9_ J x = q5a_ (fun a i j data => J 60 [] (qa_ a i j data)) x.1 x.2.1 x.2.2.1 x.2.2.2.1 := by kernel_rfl
theorem qe9_  (w1 a i j data) : jfn Tryd.prog qc_ 6 18446744073709551616 (Ev.get qd_) 80 q9_ 481 [w1] (q59_ a i j data) = q2q_ (fun a i j data => w1 (qa_ a i j data)) a i j data := by
  rw [qo_ (by decide)]
  rw [qe2_]
  rfl
theorem qej_  (w1 w5 a i j t59 data) : jfn Tryd.prog qc_ 6 18446744073709551616 (Ev.get qd_) 80 q9_ 7696 [w1, w5] (q5e_ a i j t59 data) = q1d_ (fun a i j data => w1 (qa_ a i j data)) (fun a i j data => w5 (q14_ a i j data)) a i j t59 data := by
  rw [qo_ (by decide)]
  have e7 : (fun a i j data => (jfn Tryd.prog qc_ 6 18446744073709551616 (Ev.get qd_) 80 q9_) 481 [w1] (q59_ a i j data)) = q2q_ (fun a i j data => w1 (qa_ a i j data)) := by funext a i j data; exact qe9_ w1 a i j data
  rw [qe4_, e7]
  rfl
theorem qe0_  (w1 a i j data) : jfn Tryd.prog qc_ 6 18446744073709551616 (Ev.get qd_) 80 q9_ 1924 [w1] (q14_ a i j data) = q1e_ (fun a i j data => w1 (qa_ a i j data)) a i j data := by
  rw [qo_ (by decide)]
  rw [q2u_ (by kernel_rfl)]
  refine q29_ (σ := (Int) × (Int) × (Int) × (List Int)) (mk := fun s => q14_ s.1 s.2.1 s.2.2.1 s.2.2.2) (fun w5 s => ?_) 18446744073709551616 (a, i, j, data)
  have e6 : (fun a i j t59 data => (jfn Tryd.prog qc_ 6 18446744073709551616 (Ev.get qd_) 80 q9_) 7696 [w1, w5] (q5e_ a i j t59 data)) = q1d_ (fun a i j data => w1 (qa_ a i j data)) (fun a i j data => w5 (q14_ a i j data)) := by funext a i j t59 data; exact qej_ w1 w5 a i j t59 data
  refine (qef_ _ w1 w5 s.1 s.2.1 s.2.2.1 s.2.2.2).trans ?_
  rw [e6]
theorem qed_  (w1 a i j data) : jfn Tryd.prog qc_ 6 18446744073709551616 (Ev.get qd_) 80 q9_ 240 [w1] (q5c_ a i j data) = q7n_ (fun a i j data => w1 (qa_ a i j data)) a i j data := by
  rw [qo_ (by decide)]
  have e5 : (fun a i j data => (jfn Tryd.prog qc_ 6 18446744073709551616 (Ev.get qd_) 80 q9_) 1924 [w1] (q14_ a i j data)) = q1e_ (fun a i j data => w1 (qa_ a i j data)) := by funext a i j data; exact qe0_ w1 a i j data
  rw [qe1_, e5]
  rfl
theorem qe3_  (w1 w2 a i j t43 data) : jfn Tryd.prog qc_ 6 18446744073709551616 (Ev.get qd_) 80 q9_ 3840 [w1, w2] (q5f_ a i j t43 data) = q1f_ (fun a i j data => w1 (qa_ a i j data)) (fun a i j data => w2 (q13_ a i j data)) a i j t43 data := by
  rw [qo_ (by decide)]
  have e4 : (fun a i j data => (jfn Tryd.prog qc_ 6 18446744073709551616 (Ev.get qd_) 80 q9_) 240 [w1] (q5c_ a i j data)) = q7n_ (fun a i j data => w1 (qa_ a i j data)) := by funext a i j data; exact qed_ w1 a i j data
  rw [qe5_, e4]
  rfl
theorem qdx_  (w1 a i j data) : jfn Tryd.prog qc_ 6 18446744073709551616 (Ev.get qd_) 80 q9_ 960 [w1] (q13_ a i j data) = q2a_ (fun a i j data => w1 (qa_ a i j data)) a i j data := by
  rw [qo_ (by decide)]
  rw [q2u_ (by kernel_rfl)]
  refine q29_ (σ := (Int) × (Int) × (Int) × (List Int)) (mk := fun s => q13_ s.1 s.2.1 s.2.2.1 s.2.2.2) (fun w2 s => ?_) 18446744073709551616 (a, i, j, data)
  have e3 : (fun a i j t43 data => (jfn Tryd.prog qc_ 6 18446744073709551616 (Ev.get qd_) 80 q9_) 3840 [w1, w2] (q5f_ a i j t43 data)) = q1f_ (fun a i j data => w1 (qa_ a i j data)) (fun a i j data => w2 (q13_ a i j data)) := by funext a i j t43 data; exact qe3_ w1 w2 a i j t43 data
  refine (qeg_ _ w1 w2 s.1 s.2.1 s.2.2.1 s.2.2.2).trans ?_
  rw [e3]
theorem qei_  (a i j data) : jfn Tryd.prog qc_ 6 18446744073709551616 (Ev.get qd_) 80 q9_ 60 [] (qa_ a i j data) = q2n_ a i j data := by
  rw [qo_ (by decide)]
  rw [q2u_ (by kernel_rfl)]
  refine q29_ (σ := (Int) × (Int) × (Int) × (List Int)) (mk := fun s => qa_ s.1 s.2.1 s.2.2.1 s.2.2.2) (fun w1 s => ?_) 18446744073709551616 (a, i, j, data)
  have e2 : (fun a i j data => (jfn Tryd.prog qc_ 6 18446744073709551616 (Ev.get qd_) 80 q9_) 960 [w1] (q13_ a i j data)) = q2a_ (fun a i j data => w1 (qa_ a i j data)) := by funext a i j data; exact qdx_ w1 a i j data
  refine (qdz_ _ w1 s.1 s.2.1 s.2.2.1 s.2.2.2).trans ?_
  rw [e2]
theorem qeq_ (x : As [.int .i64, .int .i64, .int .i64, .sl (.int .u32)]) : evT Tryd.prog qc_ 6 18446744073709551616 (Ev.get qd_) 80 q9_ x = q4o_ x := by
  have e1 : (fun a i j data => (jfn Tryd.prog qc_ 6 18446744073709551616 (Ev.get qd_) 80 q9_) 60 [] (qa_ a i j data)) = q2n_ := by funext a i j data; exact qei_ a i j data
  rw [q56_, qec_, e1]
  rfl
theorem qek_ : CtOk Tryd.prog (fun _ => True) 80 ⟨q9_, q4o_⟩ := ct_of_ev (env_cons q6i_ env_nil) qeq_
end Go.Proofs.Lx
end
