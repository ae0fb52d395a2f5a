/- Proved in the last of these 12 parts (this is part 6): the law RecipeTells of chapter 14 returns true at every text and every two recipes. Conditions: those of the given statement, and no others. -/
import Derived.Test.YtnamnibaedolaaaGreatDoorParte
import Derived.Test.YtnamnibaedolaaaGreatDoorProg
set_option linter.unusedVariables false
set_option linter.unusedSimpArgs false
set_option linter.unusedSectionVars false
section
open Go Go.Proofs Ev Sx
set_option maxRecDepth 100000
namespace Go.Proofs.Lx
abbrev QAT3 : Type := (List UInt8 × (Int × Int) × List UInt8 × Int)
abbrev QAT0 : Type := (List UInt8 × Int × List QAT3)
abbrev QAT1 : Ty := (.pr (.int .u8) (.pr .str (.pr (.pr (.int .i64) (.int .u8)) (.int .i64))))
abbrev QAT5 : Ty := (.pr .str (.pr (.pr (.int .i64) (.int .u8)) (.pr .str (.int .i64))))
abbrev QAT2 : Ty := (.pr .str (.pr (.int .i64) (.sl QAT5)))
abbrev QAT4 : Type := (Int × List UInt8 × (Int × Int) × Int)
@[reducible] def qqu_ : Sh := ⟨[.d (.int .u8)], [], [.int .u8], [.d (.bool)], [], 0, [.bool]⟩
def qor_ (c : Int) : Option (As [.bool]) :=
  if ge c 97 = true then if le c 122 = true then some (true, ()) else if ge c 65 = true then some (le c 90, ()) else some (false, ()) else if ge c 65 = true then some (le c 90, ()) else some (false, ())
def qik_ (x : As [.int .u8]) : Option (As [.bool]) := qor_ x.1
theorem qiv_ : CtOk Tryz.prog I0 101 ⟨qqu_, qik_⟩ := ctn qa_ 6 fun J x => by kernel_rfl
@[reducible] def qep_ : Sh := ⟨[.d (.int .u8)], [], [.int .u8], [.d (.bool)], [], 0, [.bool]⟩
def qjp_ (c : Int) : Option (As [.bool]) :=
  Option.bind (qik_ (c, ())) fun (y : Bool × Unit) => if y.1 = true then some (true, ()) else some (eqi c 37, ())
def q13_ (x : As [.int .u8]) : Option (As [.bool]) := qjp_ x.1
theorem qh7_ : CtOk Tryz.prog I0 100 ⟨qep_, q13_⟩ := ctn (q1_ qiv_ qa_) 6 fun J x => by kernel_rfl
@[reducible] def qrm_ : Sh := ⟨[.d (.int .u8)], [], [.int .u8], [.d (.bool)], [], 0, [.bool]⟩
def qra_ (c : Int) : Option (As [.bool]) :=
  if ge c 48 = true then some (le c 57, ()) else some (false, ())
def qhv_ (x : As [.int .u8]) : Option (As [.bool]) := qra_ x.1
theorem qhj_ : CtOk Tryz.prog I0 103 ⟨qrm_, qhv_⟩ := ctn qa_ 6 fun J x => by kernel_rfl
@[reducible] def q5s_ : Sh := ⟨[.d (.int .u8)], [], [.int .u8], [.d (.bool)], [], 0, [.bool]⟩
def qjo_ (c : Int) : Option (As [.bool]) :=
  Option.bind (qik_ (c, ())) fun (y : Bool × Unit) => if y.1 = true then some (true, ()) else Option.bind (qhv_ (c, ())) fun (y : Bool × Unit) => if y.1 = true then some (true, ()) else if eqi c 95 = true then some (true, ()) else some (eqi c 37, ())
def q3v_ (x : As [.int .u8]) : Option (As [.bool]) := qjo_ x.1
theorem q6s_ : CtOk Tryz.prog I0 102 ⟨q5s_, q3v_⟩ := ctn (q1_ qiv_ (q1_ qhj_ qa_)) 6 fun J x => by kernel_rfl
@[reducible] def qiq_ : Sh := ⟨[.pb 0 0], [.box 106 [.d (.int .u8), .d .str, .d (.int .i64), .d (.int .u8), .d (.int .i64)]], [.int .u8, .str, .int .i64, .int .u8, .int .i64], [.d (.int .i64)], [(0, .box 106 [.d (.int .u8), .d .str, .d (.int .i64), .d (.int .u8), .d (.int .i64)])], 0, [.int .i64, .int .u8, .str, .int .i64, .int .u8, .int .i64]⟩
def qi4_ (t : Int) (t_2 : List UInt8) (v v_2 v_3 : Int) : Option (As [.int .i64, .int .u8, .str, .int .i64, .int .u8, .int .i64]) :=
  if gt (Int.ofNat (List.length t_2)) 20 = true then some (133, t, t_2, v, v_2, v_3, ()) else some (0, t, t_2, v, v_2, v_3, ())
def qg2_ (x : As [.int .u8, .str, .int .i64, .int .u8, .int .i64]) : Option (As [.int .i64, .int .u8, .str, .int .i64, .int .u8, .int .i64]) := qi4_ x.1 x.2.1 x.2.2.1 x.2.2.2.1 x.2.2.2.2.1
theorem qju_ : CtOk Tryz.prog I0 104 ⟨qiq_, qg2_⟩ := ctn qa_ 6 fun J x => by kernel_rfl
@[reducible] def qeq_ : Sh := ⟨[.d (.int .u8)], [], [.int .u8], [.d (.bool)], [], 0, [.bool]⟩
def qjq_ (c : Int) : Option (As [.bool]) :=
  Option.bind (qhv_ (c, ())) fun (y : Bool × Unit) => if y.1 = true then some (true, ()) else some (eqi c 45, ())
def qz_ (x : As [.int .u8]) : Option (As [.bool]) := qjq_ x.1
theorem qh9_ : CtOk Tryz.prog I0 105 ⟨qeq_, qz_⟩ := ctn (q1_ qhj_ qa_) 6 fun J x => by kernel_rfl
@[reducible] def q5z_ : Sh := ⟨[.d (.int .u8)], [], [.int .u8], [.d (.bool)], [], 0, [.bool]⟩
def qjm_ (c : Int) : Option (As [.bool]) :=
  Option.bind (qhv_ (c, ())) fun (y : Bool × Unit) => if y.1 = true then some (true, ()) else if eqi c 46 = true then some (true, ()) else some (eqi c 45, ())
def q3t_ (x : As [.int .u8]) : Option (As [.bool]) := qjm_ x.1
theorem q6t_ : CtOk Tryz.prog I0 106 ⟨q5z_, q3t_⟩ := ctn (q1_ qhj_ qa_) 6 fun J x => by kernel_rfl
@[reducible] def strings_makeASCIISet_s : Sh := ⟨[.d (.str)], [], [.str], [.d (.ar 256 .bool), .d (.bool)], [], 0, [.ar 256 .bool, .bool]⟩
def q2d_ : Env := (cts [])
def q2e_ : List (Nat × Hint) := [(3, ⟨[], [2]⟩), (26, ⟨[], [0, 2, 4]⟩)]
def q3m_ (chars : List UInt8) (i : Int) (as' : List Bool) : St := { fr := [(0, .d .str chars), (2, .pb 0 0), (4, .d (.int .i64) i)], nt := 21, up := [], own := [(0, .row .bool 197 as')], nx := 1, log := [], ln := 0 }
def q5o_ (as' : List Bool) : St := { fr := [(2, .pb 0 0)], nt := 21, up := [], own := [(0, .row .bool 197 as')], nx := 1, log := [], ln := 0 }
def strings_makeASCIISet_m1 (j2 : List Bool -> Option (As [.ar 256 .bool, .bool])) (self1 : List UInt8 -> Int -> List Bool -> Option (As [.ar 256 .bool, .bool])) (chars : List UInt8) (i : Int) (as' : List Bool) : Option (As [.ar 256 .bool, .bool]) :=
  if lt i (Int.ofNat (List.length chars)) = true then Option.bind (at? chars i) fun (c : UInt8) => if ge (Int.ofNat (UInt8.toNat c)) 128 = true then need (eqi (Int.ofNat (List.length as')) 256) (need (eqi (Int.ofNat (List.length as')) (Int.ofNat (List.length as'))) (need (eqi 256 (Int.ofNat (List.length as' * 1))) (need (eqi (Int.ofNat (List.length as')) 256) (need (eqi (Int.ofNat (List.length as')) 256) (some (as', false, ())))))) else need (lt (Int.ofNat (UInt8.toNat c)) 256) (Option.bind (at? as' (Int.ofNat (UInt8.toNat c))) fun (x : Bool) => Option.bind (at? as' (Int.ofNat (UInt8.toNat c))) fun (x : Bool) => self1 chars (add .i64 i 1) (List.set as' (Int.toNat (Int.ofNat (UInt8.toNat c))) true)) else j2 as'
def strings_makeASCIISet_m2 (as' : List Bool) : Option (As [.ar 256 .bool, .bool]) :=
  need (eqi (Int.ofNat (List.length as')) 256) (need (eqi (Int.ofNat (List.length as')) (Int.ofNat (List.length as'))) (need (eqi 256 (Int.ofNat (List.length as' * 1))) (need (eqi (Int.ofNat (List.length as')) 256) (need (eqi (Int.ofNat (List.length as')) 256) (some (as', true, ()))))))
def strings_makeASCIISet_m0 (j1 : List UInt8 -> Int -> List Bool -> Option (As [.ar 256 .bool, .bool])) (chars : List UInt8) : Option (As [.ar 256 .bool, .bool]) :=
  j1 chars 0 (List.replicate 256 false)
def q83_ (as' : List Bool) : Option (As [.ar 256 .bool, .bool]) := strings_makeASCIISet_m2 as'
def q84_ (chars : List UInt8) (i : Int) (as' : List Bool) : Option (As [.ar 256 .bool, .bool]) :=
  loopF (fun (self : (List UInt8) × (Int) × (List Bool) -> Option (As [.ar 256 .bool, .bool])) (s : (List UInt8) × (Int) × (List Bool)) => strings_makeASCIISet_m1 (q83_) (fun chars i as' => self (chars, i, as')) s.1 s.2.1 s.2.2) 18446744073709551616 (chars, i, as')
def q3q_ (x : As [.str]) : Option (As [.ar 256 .bool, .bool]) := strings_makeASCIISet_m0 q84_ x.1
theorem strings_makeASCIISet_c2  (J as') : pfn Tryz.prog q2d_ 6 18446744073709551616 (Ev.get q2e_) 134 strings_makeASCIISet_s J 3 [] (q5o_ as') = strings_makeASCIISet_m2 as' := by kernel_rfl
theorem strings_makeASCIISet_c1  (J w1 chars i as') : pfn Tryz.prog q2d_ 6 18446744073709551616 (Ev.get q2e_) 134 strings_makeASCIISet_s J 26 [w1] (q3m_ chars i as') = strings_makeASCIISet_m1 (fun as' => J 3 [] (q5o_ as')) (fun chars i as' => w1 (q3m_ chars i as')) chars i as' := by kernel_rfl
theorem strings_makeASCIISet_c0 (J : Orc (As [.ar 256 .bool, .bool])) (x : As [.str]) : rfn Tryz.prog q2d_ 6 18446744073709551616 (Ev.get q2e_) 134 strings_makeASCIISet_s J x = strings_makeASCIISet_m0 (fun chars i as' => J 26 [] (q3m_ chars i as')) x.1 := by kernel_rfl
theorem strings_makeASCIISet_g2  (as') : jfn Tryz.prog q2d_ 6 18446744073709551616 (Ev.get q2e_) 134 strings_makeASCIISet_s 3 [] (q5o_ as') = q83_ as' := by
  rw [q2_ (by decide)]
  rw [strings_makeASCIISet_c2]
  rfl
theorem strings_makeASCIISet_g1  (chars i as') : jfn Tryz.prog q2d_ 6 18446744073709551616 (Ev.get q2e_) 134 strings_makeASCIISet_s 26 [] (q3m_ chars i as') = q84_ chars i as' := by
  rw [q2_ (by decide)]
  rw [qm_ (by kernel_rfl)]
  refine qj_ (σ := (List UInt8) × (Int) × (List Bool)) (mk := fun s => q3m_ s.1 s.2.1 s.2.2) (fun w1 s => ?_) 18446744073709551616 (chars, i, as')
  have e2 : (fun as' => (jfn Tryz.prog q2d_ 6 18446744073709551616 (Ev.get q2e_) 134 strings_makeASCIISet_s) 3 [] (q5o_ as')) = q83_ := funext fun as' => strings_makeASCIISet_g2 as'
  refine (strings_makeASCIISet_c1 _ w1 s.1 s.2.1 s.2.2).trans ?_
  rw [e2]
theorem strings_makeASCIISet_t (x : As [.str]) : evT Tryz.prog q2d_ 6 18446744073709551616 (Ev.get q2e_) 134 strings_makeASCIISet_s x = q3q_ x := by
  have e1 : (fun chars i as' => (jfn Tryz.prog q2d_ 6 18446744073709551616 (Ev.get q2e_) 134 strings_makeASCIISet_s) 26 [] (q3m_ chars i as')) = q84_ := by funext chars i as'; exact strings_makeASCIISet_g1 chars i as'
  rw [q1v_, strings_makeASCIISet_c0, e1]
  rfl
theorem strings_makeASCIISet_ok : CtOk Tryz.prog I0 134 ⟨strings_makeASCIISet_s, q3q_⟩ := qu_ qa_ strings_makeASCIISet_t
@[reducible] def istringslite_HasPrefix_s : Sh := ⟨[.d (.str), .d (.str)], [], [.str, .str], [.d (.bool)], [], 0, [.bool]⟩
def istringslite_HasPrefix_m0 (s prefixV : List UInt8) : Option (As [.bool]) :=
  if ge (Int.ofNat (List.length s)) (Int.ofNat (List.length prefixV)) = true then Option.bind (cut s 0 (Int.ofNat (List.length prefixV))) fun (y : List UInt8) => some (eqs y prefixV, ()) else some (false, ())
def q4t_ (x : As [.str, .str]) : Option (As [.bool]) := istringslite_HasPrefix_m0 x.1 x.2.1
theorem qbf_ : CtOk Tryz.prog I0 87 ⟨istringslite_HasPrefix_s, q4t_⟩ := ctn qa_ 6 fun J x => by kernel_rfl
@[reducible] def istringslite_CutPrefix_s : Sh := ⟨[.d (.str), .d (.str)], [], [.str, .str], [.d (.str), .d (.bool)], [], 0, [.str, .bool]⟩
def istringslite_CutPrefix_m0 (s prefixV : List UInt8) : Option (As [.str, .bool]) :=
  Option.bind (q4t_ (s, prefixV, ())) fun (y : Bool × Unit) => if (!y.1) = true then some (s, false, ()) else Option.bind (cut s (Int.ofNat (List.length prefixV)) (Int.ofNat (List.length s))) fun (y : List UInt8) => some (y, true, ())
def q64_ (x : As [.str, .str]) : Option (As [.str, .bool]) := istringslite_CutPrefix_m0 x.1 x.2.1
theorem istringslite_CutPrefix_ok : CtOk Tryz.prog I0 176 ⟨istringslite_CutPrefix_s, q64_⟩ := ctn (q1_ qbf_ qa_) 6 fun J x => by kernel_rfl
@[reducible] def strings_CutPrefix_s : Sh := ⟨[.d (.str), .d (.str)], [], [.str, .str], [.d (.str), .d (.bool)], [], 0, [.str, .bool]⟩
def strings_CutPrefix_m0 (s prefixV : List UInt8) : Option (As [.str, .bool]) :=
  Option.bind (q64_ (s, prefixV, ())) fun (y : List UInt8 × Bool × Unit) => some (y.1, y.2.1, ())
def q92_ (x : As [.str, .str]) : Option (As [.str, .bool]) := strings_CutPrefix_m0 x.1 x.2.1
theorem strings_CutPrefix_ok : CtOk Tryz.prog I0 154 ⟨strings_CutPrefix_s, q92_⟩ := ctn (q1_ istringslite_CutPrefix_ok qa_) 6 fun J x => by kernel_rfl
@[reducible] def q1p_ : Sh := ⟨[.d (.str)], [], [.str], [.d (.bool)], [], 0, [.bool]⟩
def q27_ : Env := (cts [])
def q26_ : List (Nat × Hint) := [(3, ⟨[], [0]⟩), (26, ⟨[], [0, 5, 6, 14, 15, 16, 17]⟩), (1689, ⟨[.agd 14 .str, .agd 15 (.int .i64), .agd 16 (.int .u8), .agd 17 .bool], [0, 5, 6, 18]⟩)]
def q31_ (s : List UInt8) (t5 t6 : Int) : St := { fr := [(0, .d .str s), (5, .d (.int .i64) t5), (6, .d (.int .i64) t6)], nt := 22, up := [], own := [], nx := 0, log := [], ln := 0 }
def q8r_ (s : List UInt8) (t5 t6 : Int) (t18 : Bool) : St := { fr := [(0, .d .str s), (5, .d (.int .i64) t5), (6, .d (.int .i64) t6), (18, .d .bool t18)], nt := 22, up := [], own := [], nx := 0, log := [], ln := 0 }
def q8i_ (s : List UInt8) : St := { fr := [(0, .d .str s)], nt := 22, up := [], own := [], nx := 0, log := [], ln := 0 }
def q8p_ (j2 : List UInt8 -> Int -> Int -> Bool -> Option (As [.bool])) (j3 : List UInt8 -> Option (As [.bool])) (self1 : List UInt8 -> Int -> Int -> Option (As [.bool])) (s : List UInt8) (t5 t6 : Int) : Option (As [.bool]) :=
  if lt t6 t5 = true then Option.bind (at? s t6) fun (c : UInt8) => if lt (Int.ofNat (UInt8.toNat c)) 48 = true then j2 s t5 t6 true else Option.bind (at? s t6) fun (c : UInt8) => j2 s t5 t6 (gt (Int.ofNat (UInt8.toNat c)) 57) else j3 s
def q8j_ (self1 : List UInt8 -> Int -> Int -> Option (As [.bool])) (s : List UInt8) (t5 t6 : Int) (t18 : Bool) : Option (As [.bool]) :=
  if t18 = true then some (false, ()) else self1 s t5 (add .i64 t6 1)
def qbl_ (s : List UInt8) : Option (As [.bool]) :=
  some (nes s [], ())
def qgu_ (j1 : List UInt8 -> Int -> Int -> Option (As [.bool])) (s : List UInt8) : Option (As [.bool]) :=
  j1 s (Int.ofNat (List.length s)) 0
def q3j_ (u1 : List UInt8 -> Int -> Int -> Option (As [.bool])) (s : List UInt8) (t5 t6 : Int) (t18 : Bool) : Option (As [.bool]) := q8j_ u1 s t5 t6 t18
def q65_ (s : List UInt8) : Option (As [.bool]) := qbl_ s
def qbh_ (s : List UInt8) (t5 t6 : Int) : Option (As [.bool]) :=
  loopF (fun (self : (List UInt8) × (Int) × (Int) -> Option (As [.bool])) (s : (List UInt8) × (Int) × (Int)) => q8p_ (q3j_ (fun s t5 t6 => self (s, t5, t6))) (q65_) (fun s t5 t6 => self (s, t5, t6)) s.1 s.2.1 s.2.2) 18446744073709551616 (s, t5, t6)
def q2l_ (x : As [.str]) : Option (As [.bool]) := qgu_ qbh_ x.1
theorem qj8_  (J w1 s t5 t6 t18) : pfn Tryz.prog q27_ 6 18446744073709551616 (Ev.get q26_) 155 q1p_ J 1689 [w1] (q8r_ s t5 t6 t18) = q8j_ (fun s t5 t6 => w1 (q31_ s t5 t6)) s t5 t6 t18 := by kernel_rfl
theorem qjc_  (J s) : pfn Tryz.prog q27_ 6 18446744073709551616 (Ev.get q26_) 155 q1p_ J 3 [] (q8i_ s) = qbl_ s := by kernel_rfl
theorem qjh_  (J w1 s t5 t6) : pfn Tryz.prog q27_ 6 18446744073709551616 (Ev.get q26_) 155 q1p_ J 26 [w1] (q31_ s t5 t6) = q8p_ (fun s t5 t6 t18 => J 1689 [w1] (q8r_ s t5 t6 t18)) (fun s => J 3 [] (q8i_ s)) (fun s t5 t6 => w1 (q31_ s t5 t6)) s t5 t6 := by kernel_rfl
theorem qjf_ (J : Orc (As [.bool])) (x : As [.str]) : rfn Tryz.prog q27_ 6 18446744073709551616 (Ev.get q26_) 155 q1p_ J x = qgu_ (fun s t5 t6 => J 26 [] (q31_ s t5 t6)) x.1 := by kernel_rfl
theorem qj6_  (w1 s t5 t6 t18) : jfn Tryz.prog q27_ 6 18446744073709551616 (Ev.get q26_) 155 q1p_ 1689 [w1] (q8r_ s t5 t6 t18) = q3j_ (fun s t5 t6 => w1 (q31_ s t5 t6)) s t5 t6 t18 := by
  rw [q2_ (by decide)]
  rw [qj8_]
  rfl
theorem qjj_  (s) : jfn Tryz.prog q27_ 6 18446744073709551616 (Ev.get q26_) 155 q1p_ 3 [] (q8i_ s) = q65_ s := by
  rw [q2_ (by decide)]
  rw [qjc_]
  rfl
theorem qjd_  (s t5 t6) : jfn Tryz.prog q27_ 6 18446744073709551616 (Ev.get q26_) 155 q1p_ 26 [] (q31_ s t5 t6) = qbh_ s t5 t6 := by
  rw [q2_ (by decide)]
  rw [qm_ (by kernel_rfl)]
  refine qj_ (σ := (List UInt8) × (Int) × (Int)) (mk := fun s => q31_ s.1 s.2.1 s.2.2) (fun w1 s => ?_) 18446744073709551616 (s, t5, t6)
  have e2 : (fun s t5 t6 t18 => (jfn Tryz.prog q27_ 6 18446744073709551616 (Ev.get q26_) 155 q1p_) 1689 [w1] (q8r_ s t5 t6 t18)) = q3j_ (fun s t5 t6 => w1 (q31_ s t5 t6)) := by funext s t5 t6 t18; exact qj6_ w1 s t5 t6 t18
  have e3 : (fun s => (jfn Tryz.prog q27_ 6 18446744073709551616 (Ev.get q26_) 155 q1p_) 3 [] (q8i_ s)) = q65_ := funext fun s => qjj_ s
  refine (qjh_ _ w1 s.1 s.2.1 s.2.2).trans ?_
  rw [e2, e3]
theorem qjs_ (x : As [.str]) : evT Tryz.prog q27_ 6 18446744073709551616 (Ev.get q26_) 155 q1p_ x = q2l_ x := by
  have e1 : (fun s t5 t6 => (jfn Tryz.prog q27_ 6 18446744073709551616 (Ev.get q26_) 155 q1p_) 26 [] (q31_ s t5 t6)) = qbh_ := by funext s t5 t6; exact qjd_ s t5 t6
  rw [q1v_, qjf_, e1]
  rfl
theorem qja_ : CtOk Tryz.prog I0 155 ⟨q1p_, q2l_⟩ := qu_ qa_ qjs_
@[reducible] def strings_trimRightByte_s : Sh := ⟨[.d (.str), .d (.int .u8)], [], [.str, .int .u8], [.d (.str)], [], 0, [.str]⟩
def q24_ : Env := (cts [])
def q25_ : List (Nat × Hint) := [(12, ⟨[], [0, 1, 9, 10, 11, 12, 13, 14, 15]⟩), (48, ⟨[.agd 9 .str, .agd 10 .str, .agd 11 (.int .i64), .agd 12 (.int .i64), .agd 13 (.int .u8), .agd 14 (.int .u8), .agd 15 .bool], [0, 1, 16]⟩)]
def q1n_ (s : List UInt8) (c : Int) : St := { fr := [(0, .d .str s), (1, .d (.int .u8) c)], nt := 23, up := [], own := [], nx := 0, log := [], ln := 0 }
def q5g_ (s : List UInt8) (c : Int) (t16 : Bool) : St := { fr := [(0, .d .str s), (1, .d (.int .u8) c), (16, .d .bool t16)], nt := 23, up := [], own := [], nx := 0, log := [], ln := 0 }
def q5h_ (j2 : List UInt8 -> Int -> Bool -> Option (As [.str])) (self1 : List UInt8 -> Int -> Option (As [.str])) (s : List UInt8) (c : Int) : Option (As [.str]) :=
  if gt (Int.ofNat (List.length s)) 0 = true then Option.bind (at? s (Sx.sub .i64 (Int.ofNat (List.length s)) 1)) fun (c_1 : UInt8) => j2 s c (eqi (Int.ofNat (UInt8.toNat c_1)) c) else j2 s c false
def q7y_ (self1 : List UInt8 -> Int -> Option (As [.str])) (s : List UInt8) (c : Int) (t16 : Bool) : Option (As [.str]) :=
  if t16 = true then Option.bind (cut s 0 (Sx.sub .i64 (Int.ofNat (List.length s)) 1)) fun (y : List UInt8) => self1 y c else some (s, ())
def strings_trimRightByte_m0 (j1 : List UInt8 -> Int -> Option (As [.str])) (s : List UInt8) (c : Int) : Option (As [.str]) :=
  j1 s c
def q4b_ (u1 : List UInt8 -> Int -> Option (As [.str])) (s : List UInt8) (c : Int) (t16 : Bool) : Option (As [.str]) := q7y_ u1 s c t16
def q7z_ (s : List UInt8) (c : Int) : Option (As [.str]) :=
  loopF (fun (self : (List UInt8) × (Int) -> Option (As [.str])) (s : (List UInt8) × (Int)) => q5h_ (q4b_ (fun s c => self (s, c))) (fun s c => self (s, c)) s.1 s.2) 18446744073709551616 (s, c)
def q58_ (x : As [.str, .int .u8]) : Option (As [.str]) := strings_trimRightByte_m0 q7z_ x.1 x.2.1
theorem strings_trimRightByte_c2  (J w1 s c t16) : pfn Tryz.prog q24_ 6 18446744073709551616 (Ev.get q25_) 177 strings_trimRightByte_s J 48 [w1] (q5g_ s c t16) = q7y_ (fun s c => w1 (q1n_ s c)) s c t16 := by kernel_rfl
theorem strings_trimRightByte_c1  (J w1 s c) : pfn Tryz.prog q24_ 6 18446744073709551616 (Ev.get q25_) 177 strings_trimRightByte_s J 12 [w1] (q1n_ s c) = q5h_ (fun s c t16 => J 48 [w1] (q5g_ s c t16)) (fun s c => w1 (q1n_ s c)) s c := by kernel_rfl
theorem strings_trimRightByte_c0 (J : Orc (As [.str])) (x : As [.str, .int .u8]) : rfn Tryz.prog q24_ 6 18446744073709551616 (Ev.get q25_) 177 strings_trimRightByte_s J x = strings_trimRightByte_m0 (fun s c => J 12 [] (q1n_ s c)) x.1 x.2.1 := by kernel_rfl
theorem strings_trimRightByte_g2  (w1 s c t16) : jfn Tryz.prog q24_ 6 18446744073709551616 (Ev.get q25_) 177 strings_trimRightByte_s 48 [w1] (q5g_ s c t16) = q4b_ (fun s c => w1 (q1n_ s c)) s c t16 := by
  rw [q2_ (by decide)]
  rw [strings_trimRightByte_c2]
  rfl
theorem strings_trimRightByte_g1  (s c) : jfn Tryz.prog q24_ 6 18446744073709551616 (Ev.get q25_) 177 strings_trimRightByte_s 12 [] (q1n_ s c) = q7z_ s c := by
  rw [q2_ (by decide)]
  rw [qm_ (by kernel_rfl)]
  refine qj_ (σ := (List UInt8) × (Int)) (mk := fun s => q1n_ s.1 s.2) (fun w1 s => ?_) 18446744073709551616 (s, c)
  have e2 : (fun s c t16 => (jfn Tryz.prog q24_ 6 18446744073709551616 (Ev.get q25_) 177 strings_trimRightByte_s) 48 [w1] (q5g_ s c t16)) = q4b_ (fun s c => w1 (q1n_ s c)) := by funext s c t16; exact strings_trimRightByte_g2 w1 s c t16
  refine (strings_trimRightByte_c1 _ w1 s.1 s.2).trans ?_
  rw [e2]
theorem strings_trimRightByte_t (x : As [.str, .int .u8]) : evT Tryz.prog q24_ 6 18446744073709551616 (Ev.get q25_) 177 strings_trimRightByte_s x = q58_ x := by
  have e1 : (fun s c => (jfn Tryz.prog q24_ 6 18446744073709551616 (Ev.get q25_) 177 strings_trimRightByte_s) 12 [] (q1n_ s c)) = q7z_ := by funext s c; exact strings_trimRightByte_g1 s c
  rw [q1v_, strings_trimRightByte_c0, e1]
  rfl
theorem strings_trimRightByte_ok : CtOk Tryz.prog I0 177 ⟨strings_trimRightByte_s, q58_⟩ := qu_ qa_ strings_trimRightByte_t
@[reducible] def q14_ : Sh := ⟨[.d (.str)], [], [.str], [.d (.pr (.int .i64) (.int .u8)), .d (.bool)], [], 0, [.pr (.int .i64) (.int .u8), .bool]⟩
def q19_ : Env := (cts [(134, (⟨strings_makeASCIISet_s, q3q_⟩ : Ct)), (154, (⟨strings_CutPrefix_s, q92_⟩ : Ct)), (155, (⟨q1p_, q2l_⟩ : Ct)), (177, (⟨strings_trimRightByte_s, q58_⟩ : Ct))])
def q16_ : List (Nat × Hint) := [(255, ⟨[], [2, 5, 7, 9]⟩), (511, ⟨[], [2, 7, 9]⟩), (2042, ⟨[], [2, 5, 7, 9, 54, 55]⟩), (522854, ⟨[], [2, 5, 7, 9, 11, 54, 55, 59, 60]⟩), (62, ⟨[], [2, 5, 6, 7, 48]⟩), (30, ⟨[], [2, 5, 6, 7, 8, 36, 40, 41, 42, 43, 44, 45, 46, 47]⟩)]
def qd2_ (negative : Bool) (whole rest : List UInt8) (point t36 : Bool) (t2 t2_2 : Int) : St := { fr := [(2, .pb 0 0), (5, .d .bool negative), (6, .d .str whole), (7, .d .str rest), (8, .d .bool point), (36, .d .bool t36)], nt := 84, up := [], own := [(0, .box 45 [.d (.int .i64) t2, .d (.int .u8) t2_2])], nx := 1, log := [], ln := 0 }
def qbx_ (negative : Bool) (whole rest : List UInt8) (t48 : Bool) (t2 t2_2 : Int) : St := { fr := [(2, .pb 0 0), (5, .d .bool negative), (6, .d .str whole), (7, .d .str rest), (48, .d .bool t48)], nt := 84, up := [], own := [(0, .box 45 [.d (.int .i64) t2, .d (.int .u8) t2_2])], nx := 1, log := [], ln := 0 }
def q4f_ (negative : Bool) (rest : List UInt8) (n : Int) (t54 t54_2 : List UInt8) (t55 t2 t2_2 : Int) : St := { fr := [(2, .pb 0 0), (5, .d .bool negative), (7, .d .str rest), (9, .d (.int .i64) n), (54, .agg [.d .str t54, .d .str t54_2]), (55, .d (.int .i64) t55)], nt := 84, up := [], own := [(0, .box 45 [.d (.int .i64) t2, .d (.int .u8) t2_2])], nx := 1, log := [], ln := 0 }
def q73_ (negative : Bool) (rest : List UInt8) (n : Int) (part t54 t54_2 : List UInt8) (t55 t59 t60 t2 t2_2 : Int) : St := { fr := [(2, .pb 0 0), (5, .d .bool negative), (7, .d .str rest), (9, .d (.int .i64) n), (11, .d .str part), (54, .agg [.d .str t54, .d .str t54_2]), (55, .d (.int .i64) t55), (59, .d (.int .i64) t59), (60, .d (.int .i64) t60)], nt := 84, up := [], own := [(0, .box 45 [.d (.int .i64) t2, .d (.int .u8) t2_2])], nx := 1, log := [], ln := 0 }
def qcy_ (negative : Bool) (rest : List UInt8) (n t2 t2_2 : Int) : St := { fr := [(2, .pb 0 0), (5, .d .bool negative), (7, .d .str rest), (9, .d (.int .i64) n)], nt := 84, up := [], own := [(0, .box 45 [.d (.int .i64) t2, .d (.int .u8) t2_2])], nx := 1, log := [], ln := 0 }
def qbu_ (rest : List UInt8) (n t2 t2_2 : Int) : St := { fr := [(2, .pb 0 0), (7, .d .str rest), (9, .d (.int .i64) n)], nt := 84, up := [], own := [(0, .box 45 [.d (.int .i64) t2, .d (.int .u8) t2_2])], nx := 1, log := [], ln := 0 }
def qgd_ (j2 : Bool -> List UInt8 -> List UInt8 -> Bool -> Int -> Int -> Option (As [.pr (.int .i64) (.int .u8), .bool])) (negative : Bool) (whole rest : List UInt8) (point t36 : Bool) (t2 t2_2 : Int) : Option (As [.pr (.int .i64) (.int .u8), .bool]) :=
  if t36 = true then some ((0, 0), false, ()) else if point = true then Option.bind (q2l_ (rest, ())) fun (y : Bool × Unit) => if (!y.1) = true then j2 negative whole rest true t2 t2_2 else j2 negative whole rest (gt (Int.ofNat (List.length rest)) 6) t2 t2_2 else j2 negative whole rest false t2 t2_2
def qft_ (j3 : Bool -> List UInt8 -> Int -> List UInt8 -> List UInt8 -> Int -> Int -> Int -> Option (As [.pr (.int .i64) (.int .u8), .bool])) (negative : Bool) (whole rest : List UInt8) (t48 : Bool) (t2 t2_2 : Int) : Option (As [.pr (.int .i64) (.int .u8), .bool]) :=
  if t48 = true then some ((0, 0), false, ()) else if eqs rest [] = true then j3 negative rest 0 whole rest 0 t2 t2_2 else Option.bind (q58_ (rest, 48, ())) fun (y : List UInt8 × Unit) => j3 negative y.1 0 whole y.1 0 t2 t2_2
def q9h_ (j4 : Bool -> List UInt8 -> Int -> List UInt8 -> List UInt8 -> List UInt8 -> Int -> Int -> Int -> Int -> Int -> Option (As [.pr (.int .i64) (.int .u8), .bool])) (j5 : Bool -> List UInt8 -> Int -> Int -> Int -> Option (As [.pr (.int .i64) (.int .u8), .bool])) (self3 : Bool -> List UInt8 -> Int -> List UInt8 -> List UInt8 -> Int -> Int -> Int -> Option (As [.pr (.int .i64) (.int .u8), .bool])) (negative : Bool) (rest : List UInt8) (n : Int) (t54 t54_2 : List UInt8) (t55 t2 t2_2 : Int) : Option (As [.pr (.int .i64) (.int .u8), .bool]) :=
  if lt t55 2 = true then if eqi t55 1 = true then j4 negative rest n t54_2 t54 t54_2 t55 (Int.ofNat (List.length t54_2)) 0 t2 t2_2 else if eqi t55 0 = true then j4 negative rest n t54 t54 t54_2 t55 (Int.ofNat (List.length t54)) 0 t2 t2_2 else Option.none else j5 negative rest n t2 t2_2
def qbz_ (self3 : Bool -> List UInt8 -> Int -> List UInt8 -> List UInt8 -> Int -> Int -> Int -> Option (As [.pr (.int .i64) (.int .u8), .bool])) (self4 : Bool -> List UInt8 -> Int -> List UInt8 -> List UInt8 -> List UInt8 -> Int -> Int -> Int -> Int -> Int -> Option (As [.pr (.int .i64) (.int .u8), .bool])) (negative : Bool) (rest : List UInt8) (n : Int) (part t54 t54_2 : List UInt8) (t55 t59 t60 t2 t2_2 : Int) : Option (As [.pr (.int .i64) (.int .u8), .bool]) :=
  if lt t60 t59 = true then Option.bind (at? part t60) fun (c : UInt8) => if gt (add .i64 (mul .i64 10 n) (cvt .i64 (Sx.sub .u8 (Int.ofNat (UInt8.toNat c)) 48))) 1000000000000 = true then some ((0, 0), false, ()) else self4 negative rest (add .i64 (mul .i64 10 n) (cvt .i64 (Sx.sub .u8 (Int.ofNat (UInt8.toNat c)) 48))) part t54 t54_2 t55 t59 (add .i64 t60 1) t2 t2_2 else self3 negative rest n t54 t54_2 (add .i64 t55 1) t2 t2_2
def qfy_ (j6 : List UInt8 -> Int -> Int -> Int -> Option (As [.pr (.int .i64) (.int .u8), .bool])) (negative : Bool) (rest : List UInt8) (n t2 t2_2 : Int) : Option (As [.pr (.int .i64) (.int .u8), .bool]) :=
  if negative = true then j6 rest (Sx.neg .i64 n) t2 t2_2 else j6 rest n t2 t2_2
def qfw_ (rest : List UInt8) (n t2 t2_2 : Int) : Option (As [.pr (.int .i64) (.int .u8), .bool]) :=
  some ((n, cvt .u8 (Int.ofNat (List.length rest))), true, ())
def qdc_ (j1 : Bool -> List UInt8 -> List UInt8 -> Bool -> Bool -> Int -> Int -> Option (As [.pr (.int .i64) (.int .u8), .bool])) (s : List UInt8) : Option (As [.pr (.int .i64) (.int .u8), .bool]) :=
  Option.bind (q92_ (s, [45], ())) fun (y : List UInt8 × Bool × Unit) => if eqs [46] y.1 = true then Option.bind (cut y.1 1 (Int.ofNat (List.length y.1))) fun (y_1 : List UInt8) => Option.bind (q2l_ ([], ())) fun (y_2 : Bool × Unit) => if (!y_2.1) = true then j1 y.2.1 [] y_1 true true 0 0 else j1 y.2.1 [] y_1 true false 0 0 else if ge (Go.Lib.indexByte y.1 46) 0 = true then Option.bind (cut y.1 0 (Go.Lib.indexByte y.1 46)) fun (y_1 : List UInt8) => Option.bind (cut y.1 (add .i64 (Go.Lib.indexByte y.1 46) 1) (Int.ofNat (List.length y.1))) fun (y_2 : List UInt8) => Option.bind (q2l_ (y_1, ())) fun (y_3 : Bool × Unit) => if (!y_3.1) = true then j1 y.2.1 y_1 y_2 true true 0 0 else if gt (Int.ofNat (List.length y_1)) 1 = true then Option.bind (at? y_1 0) fun (c : UInt8) => j1 y.2.1 y_1 y_2 true (eqi (Int.ofNat (UInt8.toNat c)) 48) 0 0 else j1 y.2.1 y_1 y_2 true false 0 0 else Option.bind (q2l_ (y.1, ())) fun (y_1 : Bool × Unit) => if (!y_1.1) = true then j1 y.2.1 y.1 [] false true 0 0 else if gt (Int.ofNat (List.length y.1)) 1 = true then Option.bind (at? y.1 0) fun (c : UInt8) => j1 y.2.1 y.1 [] false (eqi (Int.ofNat (UInt8.toNat c)) 48) 0 0 else j1 y.2.1 y.1 [] false false 0 0
def q4e_ (u3 : Bool -> List UInt8 -> Int -> List UInt8 -> List UInt8 -> Int -> Int -> Int -> Option (As [.pr (.int .i64) (.int .u8), .bool])) (negative : Bool) (rest : List UInt8) (n : Int) (part t54 t54_2 : List UInt8) (t55 t59 t60 t2 t2_2 : Int) : Option (As [.pr (.int .i64) (.int .u8), .bool]) :=
  loopF (fun (self : (Bool) × (List UInt8) × (Int) × (List UInt8) × (List UInt8) × (List UInt8) × (Int) × (Int) × (Int) × (Int) × (Int) -> Option (As [.pr (.int .i64) (.int .u8), .bool])) (s : (Bool) × (List UInt8) × (Int) × (List UInt8) × (List UInt8) × (List UInt8) × (Int) × (Int) × (Int) × (Int) × (Int)) => qbz_ u3 (fun negative rest n part t54 t54_2 t55 t59 t60 t2 t2_2 => self (negative, rest, n, part, t54, t54_2, t55, t59, t60, t2, t2_2)) s.1 s.2.1 s.2.2.1 s.2.2.2.1 s.2.2.2.2.1 s.2.2.2.2.2.1 s.2.2.2.2.2.2.1 s.2.2.2.2.2.2.2.1 s.2.2.2.2.2.2.2.2.1 s.2.2.2.2.2.2.2.2.2.1 s.2.2.2.2.2.2.2.2.2.2) 18446744073709551616 (negative, rest, n, part, t54, t54_2, t55, t59, t60, t2, t2_2)
def qcg_ (rest : List UInt8) (n t2 t2_2 : Int) : Option (As [.pr (.int .i64) (.int .u8), .bool]) := qfw_ rest n t2 t2_2
def q55_ (negative : Bool) (rest : List UInt8) (n t2 t2_2 : Int) : Option (As [.pr (.int .i64) (.int .u8), .bool]) := qfy_ (qcg_) negative rest n t2 t2_2
def q9p_ (negative : Bool) (rest : List UInt8) (n : Int) (t54 t54_2 : List UInt8) (t55 t2 t2_2 : Int) : Option (As [.pr (.int .i64) (.int .u8), .bool]) :=
  loopF (fun (self : (Bool) × (List UInt8) × (Int) × (List UInt8) × (List UInt8) × (Int) × (Int) × (Int) -> Option (As [.pr (.int .i64) (.int .u8), .bool])) (s : (Bool) × (List UInt8) × (Int) × (List UInt8) × (List UInt8) × (Int) × (Int) × (Int)) => q9h_ (q4e_ (fun negative rest n t54 t54_2 t55 t2 t2_2 => self (negative, rest, n, t54, t54_2, t55, t2, t2_2))) (q55_) (fun negative rest n t54 t54_2 t55 t2 t2_2 => self (negative, rest, n, t54, t54_2, t55, t2, t2_2)) s.1 s.2.1 s.2.2.1 s.2.2.2.1 s.2.2.2.2.1 s.2.2.2.2.2.1 s.2.2.2.2.2.2.1 s.2.2.2.2.2.2.2) 18446744073709551616 (negative, rest, n, t54, t54_2, t55, t2, t2_2)
def q9m_ (negative : Bool) (whole rest : List UInt8) (t48 : Bool) (t2 t2_2 : Int) : Option (As [.pr (.int .i64) (.int .u8), .bool]) := qft_ (q9p_) negative whole rest t48 t2 t2_2
def q1g_ (negative : Bool) (whole rest : List UInt8) (point t36 : Bool) (t2 t2_2 : Int) : Option (As [.pr (.int .i64) (.int .u8), .bool]) := qgd_ (q9m_) negative whole rest point t36 t2 t2_2
def qgo_ (x : As [.str]) : Option (As [.pr (.int .i64) (.int .u8), .bool]) := qdc_ q1g_ x.1
theorem qmr_  (J w3 w4 negative rest n part t54 t54_2 t55 t59 t60 t2 t2_2) : pfn Tryz.prog q19_ 6 18446744073709551616 (Ev.get q16_) 132 q14_ J 522854 [w3, w4] (q73_ negative rest n part t54 t54_2 t55 t59 t60 t2 t2_2) = qbz_ (fun negative rest n t54 t54_2 t55 t2 t2_2 => w3 (q4f_ negative rest n t54 t54_2 t55 t2 t2_2)) (fun negative rest n part t54 t54_2 t55 t59 t60 t2 t2_2 => w4 (q73_ negative rest n part t54 t54_2 t55 t59 t60 t2 t2_2)) negative rest n part t54 t54_2 t55 t59 t60 t2 t2_2 := by kernel_rfl
theorem qnj_  (J rest n t2 t2_2) : pfn Tryz.prog q19_ 6 18446744073709551616 (Ev.get q16_) 132 q14_ J 511 [] (qbu_ rest n t2 t2_2) = qfw_ rest n t2 t2_2 := by kernel_rfl
theorem qlr_  (J negative rest n t2 t2_2) : pfn Tryz.prog q19_ 6 18446744073709551616 (Ev.get q16_) 132 q14_ J 255 [] (qcy_ negative rest n t2 t2_2) = qfy_ (fun rest n t2 t2_2 => J 511 [] (qbu_ rest n t2 t2_2)) negative rest n t2 t2_2 := by kernel_rfl
theorem qlm_  (J w3 negative rest n t54 t54_2 t55 t2 t2_2) : pfn Tryz.prog q19_ 6 18446744073709551616 (Ev.get q16_) 132 q14_ J 2042 [w3] (q4f_ negative rest n t54 t54_2 t55 t2 t2_2) = q9h_ (fun negative rest n part t54 t54_2 t55 t59 t60 t2 t2_2 => J 522854 [w3] (q73_ negative rest n part t54 t54_2 t55 t59 t60 t2 t2_2)) (fun negative rest n t2 t2_2 => J 255 [] (qcy_ negative rest n t2 t2_2)) (fun negative rest n t54 t54_2 t55 t2 t2_2 => w3 (q4f_ negative rest n t54 t54_2 t55 t2 t2_2)) negative rest n t54 t54_2 t55 t2 t2_2 := by kernel_rfl
theorem qof_  (J negative whole rest t48 t2 t2_2) : pfn Tryz.prog q19_ 6 18446744073709551616 (Ev.get q16_) 132 q14_ J 62 [] (qbx_ negative whole rest t48 t2 t2_2) = qft_ (fun negative rest n t54 t54_2 t55 t2 t2_2 => J 2042 [] (q4f_ negative rest n t54 t54_2 t55 t2 t2_2)) negative whole rest t48 t2 t2_2 := by kernel_rfl
theorem qoa_  (J negative whole rest point t36 t2 t2_2) : pfn Tryz.prog q19_ 6 18446744073709551616 (Ev.get q16_) 132 q14_ J 30 [] (qd2_ negative whole rest point t36 t2 t2_2) = qgd_ (fun negative whole rest t48 t2 t2_2 => J 62 [] (qbx_ negative whole rest t48 t2 t2_2)) negative whole rest point t36 t2 t2_2 := by kernel_rfl
theorem qnh_ (J : Orc (As [.pr (.int .i64) (.int .u8), .bool])) (x : As [.str]) : rfn Tryz.prog q19_ 6 18446744073709551616 (Ev.get q16_) 132 q14_ J x = qdc_ (fun negative whole rest point t36 t2 t2_2 => J 30 [] (qd2_ negative whole rest point t36 t2 t2_2)) x.1 := by kernel_rfl
theorem qmf_  (w3 negative rest n part t54 t54_2 t55 t59 t60 t2 t2_2) : jfn Tryz.prog q19_ 6 18446744073709551616 (Ev.get q16_) 132 q14_ 522854 [w3] (q73_ negative rest n part t54 t54_2 t55 t59 t60 t2 t2_2) = q4e_ (fun negative rest n t54 t54_2 t55 t2 t2_2 => w3 (q4f_ negative rest n t54 t54_2 t55 t2 t2_2)) negative rest n part t54 t54_2 t55 t59 t60 t2 t2_2 := by
  rw [q2_ (by decide)]
  rw [qm_ (by kernel_rfl)]
  refine qj_ (σ := (Bool) × (List UInt8) × (Int) × (List UInt8) × (List UInt8) × (List UInt8) × (Int) × (Int) × (Int) × (Int) × (Int)) (mk := fun s => q73_ s.1 s.2.1 s.2.2.1 s.2.2.2.1 s.2.2.2.2.1 s.2.2.2.2.2.1 s.2.2.2.2.2.2.1 s.2.2.2.2.2.2.2.1 s.2.2.2.2.2.2.2.2.1 s.2.2.2.2.2.2.2.2.2.1 s.2.2.2.2.2.2.2.2.2.2) (fun w4 s => ?_) 18446744073709551616 (negative, rest, n, part, t54, t54_2, t55, t59, t60, t2, t2_2)
  refine (qmr_ _ w3 w4 s.1 s.2.1 s.2.2.1 s.2.2.2.1 s.2.2.2.2.1 s.2.2.2.2.2.1 s.2.2.2.2.2.2.1 s.2.2.2.2.2.2.2.1 s.2.2.2.2.2.2.2.2.1 s.2.2.2.2.2.2.2.2.2.1 s.2.2.2.2.2.2.2.2.2.2).trans ?_
  rfl
theorem qoe_  (rest n t2 t2_2) : jfn Tryz.prog q19_ 6 18446744073709551616 (Ev.get q16_) 132 q14_ 511 [] (qbu_ rest n t2 t2_2) = qcg_ rest n t2 t2_2 := by
  rw [q2_ (by decide)]
  rw [qnj_]
  rfl
theorem qoh_  (negative rest n t2 t2_2) : jfn Tryz.prog q19_ 6 18446744073709551616 (Ev.get q16_) 132 q14_ 255 [] (qcy_ negative rest n t2 t2_2) = q55_ negative rest n t2 t2_2 := by
  rw [q2_ (by decide)]
  have e6 : (fun rest n t2 t2_2 => (jfn Tryz.prog q19_ 6 18446744073709551616 (Ev.get q16_) 132 q14_) 511 [] (qbu_ rest n t2 t2_2)) = qcg_ := by funext rest n t2 t2_2; exact qoe_ rest n t2 t2_2
  rw [qlr_, e6]
  rfl
theorem qnv_  (negative rest n t54 t54_2 t55 t2 t2_2) : jfn Tryz.prog q19_ 6 18446744073709551616 (Ev.get q16_) 132 q14_ 2042 [] (q4f_ negative rest n t54 t54_2 t55 t2 t2_2) = q9p_ negative rest n t54 t54_2 t55 t2 t2_2 := by
  rw [q2_ (by decide)]
  rw [qm_ (by kernel_rfl)]
  refine qj_ (σ := (Bool) × (List UInt8) × (Int) × (List UInt8) × (List UInt8) × (Int) × (Int) × (Int)) (mk := fun s => q4f_ s.1 s.2.1 s.2.2.1 s.2.2.2.1 s.2.2.2.2.1 s.2.2.2.2.2.1 s.2.2.2.2.2.2.1 s.2.2.2.2.2.2.2) (fun w3 s => ?_) 18446744073709551616 (negative, rest, n, t54, t54_2, t55, t2, t2_2)
  have e4 : (fun negative rest n part t54 t54_2 t55 t59 t60 t2 t2_2 => (jfn Tryz.prog q19_ 6 18446744073709551616 (Ev.get q16_) 132 q14_) 522854 [w3] (q73_ negative rest n part t54 t54_2 t55 t59 t60 t2 t2_2)) = q4e_ (fun negative rest n t54 t54_2 t55 t2 t2_2 => w3 (q4f_ negative rest n t54 t54_2 t55 t2 t2_2)) := by funext negative rest n part t54 t54_2 t55 t59 t60 t2 t2_2; exact qmf_ w3 negative rest n part t54 t54_2 t55 t59 t60 t2 t2_2
  have e5 : (fun negative rest n t2 t2_2 => (jfn Tryz.prog q19_ 6 18446744073709551616 (Ev.get q16_) 132 q14_) 255 [] (qcy_ negative rest n t2 t2_2)) = q55_ := by funext negative rest n t2 t2_2; exact qoh_ negative rest n t2 t2_2
  refine (qlm_ _ w3 s.1 s.2.1 s.2.2.1 s.2.2.2.1 s.2.2.2.2.1 s.2.2.2.2.2.1 s.2.2.2.2.2.2.1 s.2.2.2.2.2.2.2).trans ?_
  rw [e4, e5]
theorem qo4_  (negative whole rest t48 t2 t2_2) : jfn Tryz.prog q19_ 6 18446744073709551616 (Ev.get q16_) 132 q14_ 62 [] (qbx_ negative whole rest t48 t2 t2_2) = q9m_ negative whole rest t48 t2 t2_2 := by
  rw [q2_ (by decide)]
  have e3 : (fun negative rest n t54 t54_2 t55 t2 t2_2 => (jfn Tryz.prog q19_ 6 18446744073709551616 (Ev.get q16_) 132 q14_) 2042 [] (q4f_ negative rest n t54 t54_2 t55 t2 t2_2)) = q9p_ := by funext negative rest n t54 t54_2 t55 t2 t2_2; exact qnv_ negative rest n t54 t54_2 t55 t2 t2_2
  rw [qof_, e3]
  rfl
theorem qme_  (negative whole rest point t36 t2 t2_2) : jfn Tryz.prog q19_ 6 18446744073709551616 (Ev.get q16_) 132 q14_ 30 [] (qd2_ negative whole rest point t36 t2 t2_2) = q1g_ negative whole rest point t36 t2 t2_2 := by
  rw [q2_ (by decide)]
  have e2 : (fun negative whole rest t48 t2 t2_2 => (jfn Tryz.prog q19_ 6 18446744073709551616 (Ev.get q16_) 132 q14_) 62 [] (qbx_ negative whole rest t48 t2 t2_2)) = q9m_ := by funext negative whole rest t48 t2 t2_2; exact qo4_ negative whole rest t48 t2 t2_2
  rw [qoa_, e2]
  rfl
theorem qou_ (x : As [.str]) : evT Tryz.prog q19_ 6 18446744073709551616 (Ev.get q16_) 132 q14_ x = qgo_ x := by
  have e1 : (fun negative whole rest point t36 t2 t2_2 => (jfn Tryz.prog q19_ 6 18446744073709551616 (Ev.get q16_) 132 q14_) 30 [] (qd2_ negative whole rest point t36 t2 t2_2)) = q1g_ := by funext negative whole rest point t36 t2 t2_2; exact qme_ negative whole rest point t36 t2 t2_2
  rw [q1v_, qnh_, e1]
  rfl
theorem qnc_ : CtOk Tryz.prog I0 132 ⟨q14_, qgo_⟩ := qu_ (q1_ strings_makeASCIISet_ok (q1_ strings_CutPrefix_ok (q1_ qja_ (q1_ strings_trimRightByte_ok qa_)))) qou_
@[reducible] def qhh_ : Sh := ⟨[.pb 0 0], [.box 106 [.d (.int .u8), .d .str, .d (.int .i64), .d (.int .u8), .d (.int .i64)]], [.int .u8, .str, .int .i64, .int .u8, .int .i64], [.d (.int .i64)], [(0, .box 106 [.d (.int .u8), .d .str, .d (.int .i64), .d (.int .u8), .d (.int .i64)])], 0, [.int .i64, .int .u8, .str, .int .i64, .int .u8, .int .i64]⟩
def qis_ (t : Int) (t_2 : List UInt8) (v d ok : Int) : Option (As [.int .i64, .int .u8, .str, .int .i64, .int .u8, .int .i64]) :=
  Option.bind (qgo_ (t_2, ())) fun (y : (Int × Int) × Bool × Unit) => if (!y.2.1) = true then some (132, t, t_2, v, d, ok, ()) else some (0, t, t_2, y.1.1, y.1.2, ok, ())
def qf6_ (x : As [.int .u8, .str, .int .i64, .int .u8, .int .i64]) : Option (As [.int .i64, .int .u8, .str, .int .i64, .int .u8, .int .i64]) := qis_ x.1 x.2.1 x.2.2.1 x.2.2.2.1 x.2.2.2.2.1
theorem qix_ : CtOk Tryz.prog I0 107 ⟨qhh_, qf6_⟩ := ctn (q1_ qnc_ qa_) 6 fun J x => by kernel_rfl
@[reducible] def qej_ : Sh := ⟨[.d (.int .u8)], [], [.int .u8], [.d (.bool)], [], 0, [.bool]⟩
def qjl_ (c : Int) : Option (As [.bool]) :=
  some (eqi c 61, ())
def q12_ (x : As [.int .u8]) : Option (As [.bool]) := qjl_ x.1
theorem qh8_ : CtOk Tryz.prog I0 108 ⟨qej_, q12_⟩ := ctn qa_ 6 fun J x => by kernel_rfl
@[reducible] def q5u_ : Sh := ⟨[.d (.int .u8)], [], [.int .u8], [.d (.bool)], [], 0, [.bool]⟩
def qjk_ (c : Int) : Option (As [.bool]) :=
  some (false, ())
def q54_ (x : As [.int .u8]) : Option (As [.bool]) := qjk_ x.1
theorem q6r_ : CtOk Tryz.prog I0 109 ⟨q5u_, q54_⟩ := ctn qa_ 6 fun J x => by kernel_rfl
@[reducible] def qen_ : Sh := ⟨[.pb 0 0], [.box 106 [.d (.int .u8), .d .str, .d (.int .i64), .d (.int .u8), .d (.int .i64)]], [.int .u8, .str, .int .i64, .int .u8, .int .i64], [.d (.int .i64)], [(0, .box 106 [.d (.int .u8), .d .str, .d (.int .i64), .d (.int .u8), .d (.int .i64)])], 0, [.int .i64, .int .u8, .str, .int .i64, .int .u8, .int .i64]⟩
def qhc_ (v : Int) (v_2 : List UInt8) (v_3 x x_2 : Int) : Option (As [.int .i64, .int .u8, .str, .int .i64, .int .u8, .int .i64]) :=
  some (0, v, v_2, v_3, x, x_2, ())
def q9i_ (x : As [.int .u8, .str, .int .i64, .int .u8, .int .i64]) : Option (As [.int .i64, .int .u8, .str, .int .i64, .int .u8, .int .i64]) := qhc_ x.1 x.2.1 x.2.2.1 x.2.2.2.1 x.2.2.2.2.1
theorem qh6_ : CtOk Tryz.prog I0 110 ⟨qen_, q9i_⟩ := ctn qa_ 6 fun J x => by kernel_rfl
@[reducible] def q22_ : Sh := ⟨[.fn (.func 102) [] [], .pb 0 0], [.box 9 [.d .str]], [.str], [.d .str], [(0, .box 9 [.d .str])], 0, [.str, .str]⟩
def q32_ : Env := (cts [(102, (⟨q5s_, q3v_⟩ : Ct)), (106, (⟨q5z_, q3t_⟩ : Ct)), (109, (⟨q5u_, q54_⟩ : Ct))])
def q2w_ : List (Nat × Hint) := [(7, ⟨[], [1, 4]⟩), (28, ⟨[], [0, 1, 4, 11, 12, 13, 14, 15]⟩), (112, ⟨[.agd 12 .str, .agd 13 (.int .i64), .agd 14 (.int .u8), .agd 15 .bool], [0, 1, 4, 16]⟩)]
def q3o_ (n : Int) (t1 : List UInt8) : St := { fr := [(0, .fn (.func 102) [] []), (1, .pb 0 0), (4, .d (.int .i64) n)], nt := 26, up := [], own := [(0, .box 9 [.d .str t1])], nx := 1, log := [], ln := 1 }
def qad_ (n : Int) (t16 : Bool) (t1 : List UInt8) : St := { fr := [(0, .fn (.func 102) [] []), (1, .pb 0 0), (4, .d (.int .i64) n), (16, .d .bool t16)], nt := 26, up := [], own := [(0, .box 9 [.d .str t1])], nx := 1, log := [], ln := 1 }
def qa9_ (n : Int) (t1 : List UInt8) : St := { fr := [(1, .pb 0 0), (4, .d (.int .i64) n)], nt := 26, up := [], own := [(0, .box 9 [.d .str t1])], nx := 1, log := [], ln := 1 }
def qa5_ (j2 : Int -> Bool -> List UInt8 -> Option (As [.str, .str])) (self1 : Int -> List UInt8 -> Option (As [.str, .str])) (n : Int) (t1 : List UInt8) : Option (As [.str, .str]) :=
  if lt n (Int.ofNat (List.length t1)) = true then Option.bind (at? t1 n) fun (c : UInt8) => Option.bind (q3v_ (Int.ofNat (UInt8.toNat c), ())) fun (y : Bool × Unit) => j2 n y.1 t1 else j2 n false t1
def qhu_ (j3 self1 : Int -> List UInt8 -> Option (As [.str, .str])) (n : Int) (t16 : Bool) (t1 : List UInt8) : Option (As [.str, .str]) :=
  if t16 = true then self1 (add .i64 n 1) t1 else j3 n t1
def q5v_ (n : Int) (t1 : List UInt8) : Option (As [.str, .str]) :=
  Option.bind (cut t1 0 n) fun (y : List UInt8) => Option.bind (cut t1 n (Int.ofNat (List.length t1))) fun (y_1 : List UInt8) => some (y, y_1, ())
def qhs_ (j1 : Int -> List UInt8 -> Option (As [.str, .str])) (more : List UInt8) : Option (As [.str, .str]) :=
  j1 1 more
def qek_ (n : Int) (t1 : List UInt8) : Option (As [.str, .str]) := q5v_ n t1
def q7v_ (u1 : Int -> List UInt8 -> Option (As [.str, .str])) (n : Int) (t16 : Bool) (t1 : List UInt8) : Option (As [.str, .str]) := qhu_ (qek_) u1 n t16 t1
def qel_ (n : Int) (t1 : List UInt8) : Option (As [.str, .str]) :=
  loopF (fun (self : (Int) × (List UInt8) -> Option (As [.str, .str])) (s : (Int) × (List UInt8)) => qa5_ (q7v_ (fun n t1 => self (n, t1))) (fun n t1 => self (n, t1)) s.1 s.2) 18446744073709551616 (n, t1)
def qak_ (x : As [.str]) : Option (As [.str, .str]) := qhs_ qel_ x.1
theorem qki_  (J n t1) : pfn Tryz.prog q32_ 6 18446744073709551616 (Ev.get q2w_) 112 q22_ J 7 [] (qa9_ n t1) = q5v_ n t1 := by kernel_rfl
theorem qke_  (J w1 n t16 t1) : pfn Tryz.prog q32_ 6 18446744073709551616 (Ev.get q2w_) 112 q22_ J 112 [w1] (qad_ n t16 t1) = qhu_ (fun n t1 => J 7 [] (qa9_ n t1)) (fun n t1 => w1 (q3o_ n t1)) n t16 t1 := by kernel_rfl
theorem qkh_  (J w1 n t1) : pfn Tryz.prog q32_ 6 18446744073709551616 (Ev.get q2w_) 112 q22_ J 28 [w1] (q3o_ n t1) = qa5_ (fun n t16 t1 => J 112 [w1] (qad_ n t16 t1)) (fun n t1 => w1 (q3o_ n t1)) n t1 := by kernel_rfl
theorem qkf_ (J : Orc (As [.str, .str])) (x : As [.str]) : rfn Tryz.prog q32_ 6 18446744073709551616 (Ev.get q2w_) 112 q22_ J x = qhs_ (fun n t1 => J 28 [] (q3o_ n t1)) x.1 := by kernel_rfl
theorem qk9_  (n t1) : jfn Tryz.prog q32_ 6 18446744073709551616 (Ev.get q2w_) 112 q22_ 7 [] (qa9_ n t1) = qek_ n t1 := by
  rw [q2_ (by decide)]
  rw [qki_]
  rfl
theorem qk1_  (w1 n t16 t1) : jfn Tryz.prog q32_ 6 18446744073709551616 (Ev.get q2w_) 112 q22_ 112 [w1] (qad_ n t16 t1) = q7v_ (fun n t1 => w1 (q3o_ n t1)) n t16 t1 := by
  rw [q2_ (by decide)]
  have e3 : (fun n t1 => (jfn Tryz.prog q32_ 6 18446744073709551616 (Ev.get q2w_) 112 q22_) 7 [] (qa9_ n t1)) = qek_ := by funext n t1; exact qk9_ n t1
  rw [qke_, e3]
  rfl
theorem qk7_  (n t1) : jfn Tryz.prog q32_ 6 18446744073709551616 (Ev.get q2w_) 112 q22_ 28 [] (q3o_ n t1) = qel_ n t1 := by
  rw [q2_ (by decide)]
  rw [qm_ (by kernel_rfl)]
  refine qj_ (σ := (Int) × (List UInt8)) (mk := fun s => q3o_ s.1 s.2) (fun w1 s => ?_) 18446744073709551616 (n, t1)
  have e2 : (fun n t16 t1 => (jfn Tryz.prog q32_ 6 18446744073709551616 (Ev.get q2w_) 112 q22_) 112 [w1] (qad_ n t16 t1)) = q7v_ (fun n t1 => w1 (q3o_ n t1)) := by funext n t16 t1; exact qk1_ w1 n t16 t1
  refine (qkh_ _ w1 s.1 s.2).trans ?_
  rw [e2]
theorem qku_ (x : As [.str]) : evT Tryz.prog q32_ 6 18446744073709551616 (Ev.get q2w_) 112 q22_ x = qak_ x := by
  have e1 : (fun n t1 => (jfn Tryz.prog q32_ 6 18446744073709551616 (Ev.get q2w_) 112 q22_) 28 [] (q3o_ n t1)) = qel_ := by funext n t1; exact qk7_ n t1
  rw [q1v_, qkf_, e1]
  rfl
theorem qkd_ : CtOk Tryz.prog I0 112 ⟨q22_, qak_⟩ := qu_ (q1_ q6s_ (q1_ q6t_ (q1_ q6r_ qa_))) qku_
@[reducible] def q20_ : Sh := ⟨[.fn (.func 106) [] [], .pb 0 0], [.box 9 [.d .str]], [.str], [.d .str], [(0, .box 9 [.d .str])], 0, [.str, .str]⟩
def q2z_ : Env := (cts [(102, (⟨q5s_, q3v_⟩ : Ct)), (106, (⟨q5z_, q3t_⟩ : Ct)), (109, (⟨q5u_, q54_⟩ : Ct))])
def q30_ : List (Nat × Hint) := [(7, ⟨[], [1, 4]⟩), (28, ⟨[], [0, 1, 4, 11, 12, 13, 14, 15]⟩), (112, ⟨[.agd 12 .str, .agd 13 (.int .i64), .agd 14 (.int .u8), .agd 15 .bool], [0, 1, 4, 16]⟩)]
def q3p_ (n : Int) (t1 : List UInt8) : St := { fr := [(0, .fn (.func 106) [] []), (1, .pb 0 0), (4, .d (.int .i64) n)], nt := 26, up := [], own := [(0, .box 9 [.d .str t1])], nx := 1, log := [], ln := 1 }
def qaa_ (n : Int) (t16 : Bool) (t1 : List UInt8) : St := { fr := [(0, .fn (.func 106) [] []), (1, .pb 0 0), (4, .d (.int .i64) n), (16, .d .bool t16)], nt := 26, up := [], own := [(0, .box 9 [.d .str t1])], nx := 1, log := [], ln := 1 }
def qa6_ (n : Int) (t1 : List UInt8) : St := { fr := [(1, .pb 0 0), (4, .d (.int .i64) n)], nt := 26, up := [], own := [(0, .box 9 [.d .str t1])], nx := 1, log := [], ln := 1 }
def qag_ (j2 : Int -> Bool -> List UInt8 -> Option (As [.str, .str])) (self1 : Int -> List UInt8 -> Option (As [.str, .str])) (n : Int) (t1 : List UInt8) : Option (As [.str, .str]) :=
  if lt n (Int.ofNat (List.length t1)) = true then Option.bind (at? t1 n) fun (c : UInt8) => Option.bind (q3t_ (Int.ofNat (UInt8.toNat c), ())) fun (y : Bool × Unit) => j2 n y.1 t1 else j2 n false t1
def qhn_ (j3 self1 : Int -> List UInt8 -> Option (As [.str, .str])) (n : Int) (t16 : Bool) (t1 : List UInt8) : Option (As [.str, .str]) :=
  if t16 = true then self1 (add .i64 n 1) t1 else j3 n t1
def q60_ (n : Int) (t1 : List UInt8) : Option (As [.str, .str]) :=
  Option.bind (cut t1 0 n) fun (y : List UInt8) => Option.bind (cut t1 n (Int.ofNat (List.length t1))) fun (y_1 : List UInt8) => some (y, y_1, ())
def qhl_ (j1 : Int -> List UInt8 -> Option (As [.str, .str])) (more : List UInt8) : Option (As [.str, .str]) :=
  j1 1 more
def qes_ (n : Int) (t1 : List UInt8) : Option (As [.str, .str]) := q60_ n t1
def q7s_ (u1 : Int -> List UInt8 -> Option (As [.str, .str])) (n : Int) (t16 : Bool) (t1 : List UInt8) : Option (As [.str, .str]) := qhn_ (qes_) u1 n t16 t1
def qem_ (n : Int) (t1 : List UInt8) : Option (As [.str, .str]) :=
  loopF (fun (self : (Int) × (List UInt8) -> Option (As [.str, .str])) (s : (Int) × (List UInt8)) => qag_ (q7s_ (fun n t1 => self (n, t1))) (fun n t1 => self (n, t1)) s.1 s.2) 18446744073709551616 (n, t1)
def qar_ (x : As [.str]) : Option (As [.str, .str]) := qhl_ qem_ x.1
theorem qkc_  (J n t1) : pfn Tryz.prog q2z_ 6 18446744073709551616 (Ev.get q30_) 112 q20_ J 7 [] (qa6_ n t1) = q60_ n t1 := by kernel_rfl
theorem qjz_  (J w1 n t16 t1) : pfn Tryz.prog q2z_ 6 18446744073709551616 (Ev.get q30_) 112 q20_ J 112 [w1] (qaa_ n t16 t1) = qhn_ (fun n t1 => J 7 [] (qa6_ n t1)) (fun n t1 => w1 (q3p_ n t1)) n t16 t1 := by kernel_rfl
theorem qk2_  (J w1 n t1) : pfn Tryz.prog q2z_ 6 18446744073709551616 (Ev.get q30_) 112 q20_ J 28 [w1] (q3p_ n t1) = qag_ (fun n t16 t1 => J 112 [w1] (qaa_ n t16 t1)) (fun n t1 => w1 (q3p_ n t1)) n t1 := by kernel_rfl
theorem qk5_ (J : Orc (As [.str, .str])) (x : As [.str]) : rfn Tryz.prog q2z_ 6 18446744073709551616 (Ev.get q30_) 112 q20_ J x = qhl_ (fun n t1 => J 28 [] (q3p_ n t1)) x.1 := by kernel_rfl
theorem qk3_  (n t1) : jfn Tryz.prog q2z_ 6 18446744073709551616 (Ev.get q30_) 112 q20_ 7 [] (qa6_ n t1) = qes_ n t1 := by
  rw [q2_ (by decide)]
  rw [qkc_]
  rfl
theorem qk6_  (w1 n t16 t1) : jfn Tryz.prog q2z_ 6 18446744073709551616 (Ev.get q30_) 112 q20_ 112 [w1] (qaa_ n t16 t1) = q7s_ (fun n t1 => w1 (q3p_ n t1)) n t16 t1 := by
  rw [q2_ (by decide)]
  have e3 : (fun n t1 => (jfn Tryz.prog q2z_ 6 18446744073709551616 (Ev.get q30_) 112 q20_) 7 [] (qa6_ n t1)) = qes_ := by funext n t1; exact qk3_ n t1
  rw [qjz_, e3]
  rfl
theorem qka_  (n t1) : jfn Tryz.prog q2z_ 6 18446744073709551616 (Ev.get q30_) 112 q20_ 28 [] (q3p_ n t1) = qem_ n t1 := by
  rw [q2_ (by decide)]
  rw [qm_ (by kernel_rfl)]
  refine qj_ (σ := (Int) × (List UInt8)) (mk := fun s => q3p_ s.1 s.2) (fun w1 s => ?_) 18446744073709551616 (n, t1)
  have e2 : (fun n t16 t1 => (jfn Tryz.prog q2z_ 6 18446744073709551616 (Ev.get q30_) 112 q20_) 112 [w1] (qaa_ n t16 t1)) = q7s_ (fun n t1 => w1 (q3p_ n t1)) := by funext n t16 t1; exact qk6_ w1 n t16 t1
  refine (qk2_ _ w1 s.1 s.2).trans ?_
  rw [e2]
theorem qle_ (x : As [.str]) : evT Tryz.prog q2z_ 6 18446744073709551616 (Ev.get q30_) 112 q20_ x = qar_ x := by
  have e1 : (fun n t1 => (jfn Tryz.prog q2z_ 6 18446744073709551616 (Ev.get q30_) 112 q20_) 28 [] (q3p_ n t1)) = qem_ := by funext n t1; exact qka_ n t1
  rw [q1v_, qk5_, e1]
  rfl
theorem qkj_ : CtOk Tryz.prog I0 112 ⟨q20_, qar_⟩ := qu_ (q1_ q6s_ (q1_ q6t_ (q1_ q6r_ qa_))) qle_
@[reducible] def q21_ : Sh := ⟨[.fn (.func 109) [] [], .pb 0 0], [.box 9 [.d .str]], [.str], [.d .str], [(0, .box 9 [.d .str])], 0, [.str, .str]⟩
def q2x_ : Env := (cts [(102, (⟨q5s_, q3v_⟩ : Ct)), (106, (⟨q5z_, q3t_⟩ : Ct)), (109, (⟨q5u_, q54_⟩ : Ct))])
def q2v_ : List (Nat × Hint) := [(7, ⟨[], [1, 4]⟩), (28, ⟨[], [0, 1, 4, 11, 12, 13, 14, 15]⟩), (112, ⟨[.agd 12 .str, .agd 13 (.int .i64), .agd 14 (.int .u8), .agd 15 .bool], [0, 1, 4, 16]⟩)]
def q3n_ (n : Int) (t1 : List UInt8) : St := { fr := [(0, .fn (.func 109) [] []), (1, .pb 0 0), (4, .d (.int .i64) n)], nt := 26, up := [], own := [(0, .box 9 [.d .str t1])], nx := 1, log := [], ln := 1 }
def qa7_ (n : Int) (t16 : Bool) (t1 : List UInt8) : St := { fr := [(0, .fn (.func 109) [] []), (1, .pb 0 0), (4, .d (.int .i64) n), (16, .d .bool t16)], nt := 26, up := [], own := [(0, .box 9 [.d .str t1])], nx := 1, log := [], ln := 1 }
def qac_ (n : Int) (t1 : List UInt8) : St := { fr := [(1, .pb 0 0), (4, .d (.int .i64) n)], nt := 26, up := [], own := [(0, .box 9 [.d .str t1])], nx := 1, log := [], ln := 1 }
def qah_ (j2 : Int -> Bool -> List UInt8 -> Option (As [.str, .str])) (self1 : Int -> List UInt8 -> Option (As [.str, .str])) (n : Int) (t1 : List UInt8) : Option (As [.str, .str]) :=
  if lt n (Int.ofNat (List.length t1)) = true then Option.bind (at? t1 n) fun (c : UInt8) => Option.bind (q54_ (Int.ofNat (UInt8.toNat c), ())) fun (y : Bool × Unit) => j2 n y.1 t1 else j2 n false t1
def qeo_ (j3 self1 : Int -> List UInt8 -> Option (As [.str, .str])) (n : Int) (t16 : Bool) (t1 : List UInt8) : Option (As [.str, .str]) :=
  if t16 = true then self1 (add .i64 n 1) t1 else j3 n t1
def qaf_ (n : Int) (t1 : List UInt8) : Option (As [.str, .str]) :=
  Option.bind (cut t1 0 n) fun (y : List UInt8) => Option.bind (cut t1 n (Int.ofNat (List.length t1))) fun (y_1 : List UInt8) => some (y, y_1, ())
def qhp_ (j1 : Int -> List UInt8 -> Option (As [.str, .str])) (more : List UInt8) : Option (As [.str, .str]) :=
  j1 1 more
def qer_ (n : Int) (t1 : List UInt8) : Option (As [.str, .str]) := qaf_ n t1
def q5r_ (u1 : Int -> List UInt8 -> Option (As [.str, .str])) (n : Int) (t16 : Bool) (t1 : List UInt8) : Option (As [.str, .str]) := qeo_ (qer_) u1 n t16 t1
def qet_ (n : Int) (t1 : List UInt8) : Option (As [.str, .str]) :=
  loopF (fun (self : (Int) × (List UInt8) -> Option (As [.str, .str])) (s : (Int) × (List UInt8)) => qah_ (q5r_ (fun n t1 => self (n, t1))) (fun n t1 => self (n, t1)) s.1 s.2) 18446744073709551616 (n, t1)
def qat_ (x : As [.str]) : Option (As [.str, .str]) := qhp_ qet_ x.1
theorem qkg_  (J n t1) : pfn Tryz.prog q2x_ 6 18446744073709551616 (Ev.get q2v_) 112 q21_ J 7 [] (qac_ n t1) = qaf_ n t1 := by kernel_rfl
theorem qkb_  (J w1 n t16 t1) : pfn Tryz.prog q2x_ 6 18446744073709551616 (Ev.get q2v_) 112 q21_ J 112 [w1] (qa7_ n t16 t1) = qeo_ (fun n t1 => J 7 [] (qac_ n t1)) (fun n t1 => w1 (q3n_ n t1)) n t16 t1 := by kernel_rfl
theorem qjx_  (J w1 n t1) : pfn Tryz.prog q2x_ 6 18446744073709551616 (Ev.get q2v_) 112 q21_ J 28 [w1] (q3n_ n t1) = qah_ (fun n t16 t1 => J 112 [w1] (qa7_ n t16 t1)) (fun n t1 => w1 (q3n_ n t1)) n t1 := by kernel_rfl
theorem qk0_ (J : Orc (As [.str, .str])) (x : As [.str]) : rfn Tryz.prog q2x_ 6 18446744073709551616 (Ev.get q2v_) 112 q21_ J x = qhp_ (fun n t1 => J 28 [] (q3n_ n t1)) x.1 := by kernel_rfl
theorem qk4_  (n t1) : jfn Tryz.prog q2x_ 6 18446744073709551616 (Ev.get q2v_) 112 q21_ 7 [] (qac_ n t1) = qer_ n t1 := by
  rw [q2_ (by decide)]
  rw [qkg_]
  rfl
theorem qjw_  (w1 n t16 t1) : jfn Tryz.prog q2x_ 6 18446744073709551616 (Ev.get q2v_) 112 q21_ 112 [w1] (qa7_ n t16 t1) = q5r_ (fun n t1 => w1 (q3n_ n t1)) n t16 t1 := by
  rw [q2_ (by decide)]
  have e3 : (fun n t1 => (jfn Tryz.prog q2x_ 6 18446744073709551616 (Ev.get q2v_) 112 q21_) 7 [] (qac_ n t1)) = qer_ := by funext n t1; exact qk4_ n t1
  rw [qkb_, e3]
  rfl
theorem qk8_  (n t1) : jfn Tryz.prog q2x_ 6 18446744073709551616 (Ev.get q2v_) 112 q21_ 28 [] (q3n_ n t1) = qet_ n t1 := by
  rw [q2_ (by decide)]
  rw [qm_ (by kernel_rfl)]
  refine qj_ (σ := (Int) × (List UInt8)) (mk := fun s => q3n_ s.1 s.2) (fun w1 s => ?_) 18446744073709551616 (n, t1)
  have e2 : (fun n t16 t1 => (jfn Tryz.prog q2x_ 6 18446744073709551616 (Ev.get q2v_) 112 q21_) 112 [w1] (qa7_ n t16 t1)) = q5r_ (fun n t1 => w1 (q3n_ n t1)) := by funext n t16 t1; exact qjw_ w1 n t16 t1
  refine (qjx_ _ w1 s.1 s.2).trans ?_
  rw [e2]
theorem qkz_ (x : As [.str]) : evT Tryz.prog q2x_ 6 18446744073709551616 (Ev.get q2v_) 112 q21_ x = qat_ x := by
  have e1 : (fun n t1 => (jfn Tryz.prog q2x_ 6 18446744073709551616 (Ev.get q2v_) 112 q21_) 28 [] (q3n_ n t1)) = qet_ := by funext n t1; exact qk8_ n t1
  rw [q1v_, qk0_, e1]
  rfl
theorem qkk_ : CtOk Tryz.prog I0 112 ⟨q21_, qat_⟩ := qu_ (q1_ q6s_ (q1_ q6t_ (q1_ q6r_ qa_))) qkz_
@[reducible] def strings_trimLeftByte_s : Sh := ⟨[.d (.str), .d (.int .u8)], [], [.str, .int .u8], [.d (.str)], [], 0, [.str]⟩
def q2f_ : Env := (cts [])
def q2g_ : List (Nat × Hint) := [(12, ⟨[], [0, 1, 9, 10, 11, 12]⟩), (48, ⟨[.agd 9 .str, .agd 10 (.int .u8), .agd 11 (.int .u8), .agd 12 .bool], [0, 1, 13]⟩)]
def q1u_ (s : List UInt8) (c : Int) : St := { fr := [(0, .d .str s), (1, .d (.int .u8) c)], nt := 17, up := [], own := [], nx := 0, log := [], ln := 0 }
def q5p_ (s : List UInt8) (c : Int) (t13 : Bool) : St := { fr := [(0, .d .str s), (1, .d (.int .u8) c), (13, .d .bool t13)], nt := 17, up := [], own := [], nx := 0, log := [], ln := 0 }
def strings_trimLeftByte_m1 (j2 : List UInt8 -> Int -> Bool -> Option (As [.str])) (self1 : List UInt8 -> Int -> Option (As [.str])) (s : List UInt8) (c : Int) : Option (As [.str]) :=
  if gt (Int.ofNat (List.length s)) 0 = true then Option.bind (at? s 0) fun (c_1 : UInt8) => j2 s c (eqi (Int.ofNat (UInt8.toNat c_1)) c) else j2 s c false
def strings_trimLeftByte_m2 (self1 : List UInt8 -> Int -> Option (As [.str])) (s : List UInt8) (c : Int) (t13 : Bool) : Option (As [.str]) :=
  if t13 = true then Option.bind (cut s 1 (Int.ofNat (List.length s))) fun (y : List UInt8) => self1 y c else some (s, ())
def strings_trimLeftByte_m0 (j1 : List UInt8 -> Int -> Option (As [.str])) (s : List UInt8) (c : Int) : Option (As [.str]) :=
  j1 s c
def q85_ (u1 : List UInt8 -> Int -> Option (As [.str])) (s : List UInt8) (c : Int) (t13 : Bool) : Option (As [.str]) := strings_trimLeftByte_m2 u1 s c t13
def q86_ (s : List UInt8) (c : Int) : Option (As [.str]) :=
  loopF (fun (self : (List UInt8) × (Int) -> Option (As [.str])) (s : (List UInt8) × (Int)) => strings_trimLeftByte_m1 (q85_ (fun s c => self (s, c))) (fun s c => self (s, c)) s.1 s.2) 18446744073709551616 (s, c)
def q70_ (x : As [.str, .int .u8]) : Option (As [.str]) := strings_trimLeftByte_m0 q86_ x.1 x.2.1
theorem strings_trimLeftByte_c2  (J w1 s c t13) : pfn Tryz.prog q2f_ 6 18446744073709551616 (Ev.get q2g_) 133 strings_trimLeftByte_s J 48 [w1] (q5p_ s c t13) = strings_trimLeftByte_m2 (fun s c => w1 (q1u_ s c)) s c t13 := by kernel_rfl
theorem strings_trimLeftByte_c1  (J w1 s c) : pfn Tryz.prog q2f_ 6 18446744073709551616 (Ev.get q2g_) 133 strings_trimLeftByte_s J 12 [w1] (q1u_ s c) = strings_trimLeftByte_m1 (fun s c t13 => J 48 [w1] (q5p_ s c t13)) (fun s c => w1 (q1u_ s c)) s c := by kernel_rfl
theorem strings_trimLeftByte_c0 (J : Orc (As [.str])) (x : As [.str, .int .u8]) : rfn Tryz.prog q2f_ 6 18446744073709551616 (Ev.get q2g_) 133 strings_trimLeftByte_s J x = strings_trimLeftByte_m0 (fun s c => J 12 [] (q1u_ s c)) x.1 x.2.1 := by kernel_rfl
theorem strings_trimLeftByte_g2  (w1 s c t13) : jfn Tryz.prog q2f_ 6 18446744073709551616 (Ev.get q2g_) 133 strings_trimLeftByte_s 48 [w1] (q5p_ s c t13) = q85_ (fun s c => w1 (q1u_ s c)) s c t13 := by
  rw [q2_ (by decide)]
  rw [strings_trimLeftByte_c2]
  rfl
theorem strings_trimLeftByte_g1  (s c) : jfn Tryz.prog q2f_ 6 18446744073709551616 (Ev.get q2g_) 133 strings_trimLeftByte_s 12 [] (q1u_ s c) = q86_ s c := by
  rw [q2_ (by decide)]
  rw [qm_ (by kernel_rfl)]
  refine qj_ (σ := (List UInt8) × (Int)) (mk := fun s => q1u_ s.1 s.2) (fun w1 s => ?_) 18446744073709551616 (s, c)
  have e2 : (fun s c t13 => (jfn Tryz.prog q2f_ 6 18446744073709551616 (Ev.get q2g_) 133 strings_trimLeftByte_s) 48 [w1] (q5p_ s c t13)) = q85_ (fun s c => w1 (q1u_ s c)) := by funext s c t13; exact strings_trimLeftByte_g2 w1 s c t13
  refine (strings_trimLeftByte_c1 _ w1 s.1 s.2).trans ?_
  rw [e2]
theorem strings_trimLeftByte_t (x : As [.str, .int .u8]) : evT Tryz.prog q2f_ 6 18446744073709551616 (Ev.get q2g_) 133 strings_trimLeftByte_s x = q70_ x := by
  have e1 : (fun s c => (jfn Tryz.prog q2f_ 6 18446744073709551616 (Ev.get q2g_) 133 strings_trimLeftByte_s) 12 [] (q1u_ s c)) = q86_ := by funext s c; exact strings_trimLeftByte_g1 s c
  rw [q1v_, strings_trimLeftByte_c0, e1]
  rfl
theorem strings_trimLeftByte_ok : CtOk Tryz.prog I0 133 ⟨strings_trimLeftByte_s, q70_⟩ := qu_ qa_ strings_trimLeftByte_t
@[reducible] def strings_trimLeftASCII_s : Sh := ⟨[.d .str, .pb 0 0], [.row .bool 197], [.str, .sl .bool], [.d .str], [(0, .row .bool 197)], 0, [.str, .sl .bool]⟩
def q4n_ : Env := (cts [])
def q4o_ : List (Nat × Hint) := [(12, ⟨[], [0, 1]⟩)]
def q3f_ (s : List UInt8) (as' : List Bool) : St := { fr := [(0, .d .str s), (1, .pb 0 0)], nt := 16, up := [], own := [(0, .row .bool 197 as')], nx := 1, log := [], ln := 1 }
def q5i_ (self1 : List UInt8 -> List Bool -> Option (As [.str, .sl .bool])) (s : List UInt8) (as' : List Bool) : Option (As [.str, .sl .bool]) :=
  if gt (Int.ofNat (List.length s)) 0 = true then Option.bind (at? s 0) fun (c : UInt8) => need (lt (Int.ofNat (UInt8.toNat c)) 256) (Option.bind (at? as' (Int.ofNat (UInt8.toNat c))) fun (x : Bool) => Option.bind (at? as' (Int.ofNat (UInt8.toNat c))) fun (y : Bool) => if (!y) = true then some (s, as', ()) else Option.bind (cut s 1 (Int.ofNat (List.length s))) fun (y : List UInt8) => self1 y as') else some (s, as', ())
def strings_trimLeftASCII_m0 (j1 : List UInt8 -> List Bool -> Option (As [.str, .sl .bool])) (s : List UInt8) (as' : List Bool) : Option (As [.str, .sl .bool]) :=
  j1 s as'
def q80_ (s : List UInt8) (as' : List Bool) : Option (As [.str, .sl .bool]) :=
  loopF (fun (self : (List UInt8) × (List Bool) -> Option (As [.str, .sl .bool])) (s : (List UInt8) × (List Bool)) => q5i_ (fun s as' => self (s, as')) s.1 s.2) 18446744073709551616 (s, as')
def q45_ (x : As [.str, .sl .bool]) : Option (As [.str, .sl .bool]) := strings_trimLeftASCII_m0 q80_ x.1 x.2.1
theorem strings_trimLeftASCII_c1  (J w1 s as') : pfn Tryz.prog q4n_ 6 18446744073709551616 (Ev.get q4o_) 135 strings_trimLeftASCII_s J 12 [w1] (q3f_ s as') = q5i_ (fun s as' => w1 (q3f_ s as')) s as' := by kernel_rfl
theorem strings_trimLeftASCII_c0 (J : Orc (As [.str, .sl .bool])) (x : As [.str, .sl .bool]) : rfn Tryz.prog q4n_ 6 18446744073709551616 (Ev.get q4o_) 135 strings_trimLeftASCII_s J x = strings_trimLeftASCII_m0 (fun s as' => J 12 [] (q3f_ s as')) x.1 x.2.1 := by kernel_rfl
theorem strings_trimLeftASCII_g1  (s as') : jfn Tryz.prog q4n_ 6 18446744073709551616 (Ev.get q4o_) 135 strings_trimLeftASCII_s 12 [] (q3f_ s as') = q80_ s as' := by
  rw [q2_ (by decide)]
  rw [qm_ (by kernel_rfl)]
  refine qj_ (σ := (List UInt8) × (List Bool)) (mk := fun s => q3f_ s.1 s.2) (fun w1 s => ?_) 18446744073709551616 (s, as')
  refine (strings_trimLeftASCII_c1 _ w1 s.1 s.2).trans ?_
  rfl
theorem strings_trimLeftASCII_t (x : As [.str, .sl .bool]) : evT Tryz.prog q4n_ 6 18446744073709551616 (Ev.get q4o_) 135 strings_trimLeftASCII_s x = q45_ x := by
  have e1 : (fun s as' => (jfn Tryz.prog q4n_ 6 18446744073709551616 (Ev.get q4o_) 135 strings_trimLeftASCII_s) 12 [] (q3f_ s as')) = q80_ := by funext s as'; exact strings_trimLeftASCII_g1 s as'
  rw [q1v_, strings_trimLeftASCII_c0, e1]
  rfl
theorem strings_trimLeftASCII_ok : CtOk Tryz.prog I0 135 ⟨strings_trimLeftASCII_s, q45_⟩ := qu_ qa_ strings_trimLeftASCII_t
@[reducible] def strings_trimLeftUnicode_s : Sh := ⟨[.d (.str), .d (.str)], [], [.str, .str], [.d (.str)], [], 0, [.str]⟩
def q5q_ (_ : As strings_trimLeftUnicode_s.ps) : Option (As strings_trimLeftUnicode_s.rs) := none
theorem strings_trimLeftUnicode_ok : CtOk Tryz.prog I0 136 ⟨strings_trimLeftUnicode_s, q5q_⟩ := fun _ _ _ _ _ _ _ _ h => by cases h
@[reducible] def strings_TrimLeft_s : Sh := ⟨[.d (.str), .d (.str)], [], [.str, .str], [.d (.str)], [], 0, [.str]⟩
def q3k_ : Env := (cts [(133, (⟨strings_trimLeftByte_s, q70_⟩ : Ct)), (134, (⟨strings_makeASCIISet_s, q3q_⟩ : Ct)), (135, (⟨strings_trimLeftASCII_s, q45_⟩ : Ct)), (136, (⟨strings_trimLeftUnicode_s, q5q_⟩ : Ct))])
def q3l_ : List (Nat × Hint) := [(14, ⟨[], [0, 1, 21]⟩), (6, ⟨[], [0, 1, 12, 18, 19, 20]⟩)]
def q81_ (s cutset : List UInt8) (t12 : Bool) : St := { fr := [(0, .d .str s), (1, .d .str cutset), (12, .d .bool t12)], nt := 37, up := [], own := [], nx := 0, log := [], ln := 0 }
def q82_ (s cutset : List UInt8) (t21 : Bool) : St := { fr := [(0, .d .str s), (1, .d .str cutset), (21, .d .bool t21)], nt := 37, up := [], own := [], nx := 0, log := [], ln := 0 }
def strings_TrimLeft_m1 (j2 : List UInt8 -> List UInt8 -> Bool -> Option (As [.str])) (s cutset : List UInt8) (t12 : Bool) : Option (As [.str]) :=
  if t12 = true then some (s, ()) else if eqi (Int.ofNat (List.length cutset)) 1 = true then Option.bind (at? cutset 0) fun (c : UInt8) => j2 s cutset (lt (Int.ofNat (UInt8.toNat c)) 128) else j2 s cutset false
def strings_TrimLeft_m2 (s cutset : List UInt8) (t21 : Bool) : Option (As [.str]) :=
  if t21 = true then Option.bind (at? cutset 0) fun (c : UInt8) => Option.bind (q70_ (s, Int.ofNat (UInt8.toNat c), ())) fun (y : List UInt8 × Unit) => some (y.1, ()) else Option.bind (q3q_ (cutset, ())) fun (y : List Bool × Bool × Unit) => need (eqi 256 (Int.ofNat (List.length y.1))) (need (eqi 256 (Int.ofNat (List.length y.1 * 1))) (if y.2.1 = true then Option.bind (q45_ (s, y.1, ())) fun (y : List UInt8 × List Bool × Unit) => some (y.1, ()) else Option.bind (q5q_ (s, cutset, ())) fun (y : List UInt8 × Unit) => some (y.1, ())))
def strings_TrimLeft_m0 (j1 : List UInt8 -> List UInt8 -> Bool -> Option (As [.str])) (s cutset : List UInt8) : Option (As [.str]) :=
  if eqs s [] = true then j1 s cutset true else j1 s cutset (eqs cutset [])
def strings_TrimLeft_K2 (s cutset : List UInt8) (t21 : Bool) : Option (As [.str]) := strings_TrimLeft_m2 s cutset t21
def strings_TrimLeft_K1 (s cutset : List UInt8) (t12 : Bool) : Option (As [.str]) := strings_TrimLeft_m1 (strings_TrimLeft_K2) s cutset t12
def strings_TrimLeft (x : As [.str, .str]) : Option (As [.str]) := strings_TrimLeft_m0 strings_TrimLeft_K1 x.1 x.2.1
theorem strings_TrimLeft_c2  (J s cutset t21) : pfn Tryz.prog q3k_ 6 18446744073709551616 (Ev.get q3l_) 113 strings_TrimLeft_s J 14 [] (q82_ s cutset t21) = strings_TrimLeft_m2 s cutset t21 := by kernel_rfl
theorem strings_TrimLeft_c1  (J s cutset t12) : pfn Tryz.prog q3k_ 6 18446744073709551616 (Ev.get q3l_) 113 strings_TrimLeft_s J 6 [] (q81_ s cutset t12) = strings_TrimLeft_m1 (fun s cutset t21 => J 14 [] (q82_ s cutset t21)) s cutset t12 := by kernel_rfl
theorem strings_TrimLeft_c0 (J : Orc (As [.str])) (x : As [.str, .str]) : rfn Tryz.prog q3k_ 6 18446744073709551616 (Ev.get q3l_) 113 strings_TrimLeft_s J x = strings_TrimLeft_m0 (fun s cutset t12 => J 6 [] (q81_ s cutset t12)) x.1 x.2.1 := by kernel_rfl
theorem strings_TrimLeft_g2  (s cutset t21) : jfn Tryz.prog q3k_ 6 18446744073709551616 (Ev.get q3l_) 113 strings_TrimLeft_s 14 [] (q82_ s cutset t21) = strings_TrimLeft_K2 s cutset t21 := by
  rw [q2_ (by decide)]
  rw [strings_TrimLeft_c2]
  rfl
theorem strings_TrimLeft_g1  (s cutset t12) : jfn Tryz.prog q3k_ 6 18446744073709551616 (Ev.get q3l_) 113 strings_TrimLeft_s 6 [] (q81_ s cutset t12) = strings_TrimLeft_K1 s cutset t12 := by
  rw [q2_ (by decide)]
  have e2 : (fun s cutset t21 => (jfn Tryz.prog q3k_ 6 18446744073709551616 (Ev.get q3l_) 113 strings_TrimLeft_s) 14 [] (q82_ s cutset t21)) = strings_TrimLeft_K2 := by funext s cutset t21; exact strings_TrimLeft_g2 s cutset t21
  rw [strings_TrimLeft_c1, e2]
  rfl
theorem strings_TrimLeft_t (x : As [.str, .str]) : evT Tryz.prog q3k_ 6 18446744073709551616 (Ev.get q3l_) 113 strings_TrimLeft_s x = strings_TrimLeft x := by
  have e1 : (fun s cutset t12 => (jfn Tryz.prog q3k_ 6 18446744073709551616 (Ev.get q3l_) 113 strings_TrimLeft_s) 6 [] (q81_ s cutset t12)) = strings_TrimLeft_K1 := by funext s cutset t12; exact strings_TrimLeft_g1 s cutset t12
  rw [q1v_, strings_TrimLeft_c0, e1]
  rfl
theorem strings_TrimLeft_ok : CtOk Tryz.prog I0 113 ⟨strings_TrimLeft_s, strings_TrimLeft⟩ := qu_ (q1_ strings_trimLeftByte_ok (q1_ strings_makeASCIISet_ok (q1_ strings_trimLeftASCII_ok (q1_ strings_trimLeftUnicode_ok qa_)))) strings_TrimLeft_t
@[reducible] def q1e_ : Sh := ⟨[.d .str, .d (.int .i64), .mp 0], [.sm (.int .u8) 3 [(0, (1 : Int), .agg [.fn (.func 100) [] [], .fn (.func 102) [] [], .fn (.func 104) [] []]), (1, (2 : Int), .agg [.fn (.func 105) [] [], .fn (.func 106) [] [], .fn (.func 107) [] []]), (2, (3 : Int), .agg [.fn (.func 108) [] [], .fn (.func 109) [] [], .fn (.func 110) [] []])]], [.str, .int .i64], [.d (.sl QAT1), .d (.int .i64)], [(0, .sm (.int .u8) 3 [(0, (1 : Int), .agg [.fn (.func 100) [] [], .fn (.func 102) [] [], .fn (.func 104) [] []]), (1, (2 : Int), .agg [.fn (.func 105) [] [], .fn (.func 106) [] [], .fn (.func 107) [] []]), (2, (3 : Int), .agg [.fn (.func 108) [] [], .fn (.func 109) [] [], .fn (.func 110) [] []])])], 0, [.sl QAT1, .int .i64]⟩
def q43_ : Env := (cts [(100, (⟨qep_, q13_⟩ : Ct)), (102, (⟨q5s_, q3v_⟩ : Ct)), (104, (⟨qiq_, qg2_⟩ : Ct)), (105, (⟨qeq_, qz_⟩ : Ct)), (106, (⟨q5z_, q3t_⟩ : Ct)), (107, (⟨qhh_, qf6_⟩ : Ct)), (108, (⟨qej_, q12_⟩ : Ct)), (109, (⟨q5u_, q54_⟩ : Ct)), (110, (⟨qen_, q9i_⟩ : Ct)), (112, (⟨q22_, qak_⟩ : Ct)), (112, (⟨q20_, qar_⟩ : Ct)), (112, (⟨q21_, qat_⟩ : Ct)), (113, (⟨strings_TrimLeft_s, strings_TrimLeft⟩ : Ct))])
def q40_ : List (Nat × Hint) := [(31, ⟨[], [1, 9]⟩), (63, ⟨[], [9]⟩), (124, ⟨[.row 9 106], [1, 2, 3, 8, 9]⟩), (3975, ⟨[], [1, 2, 3, 8, 9, 10]⟩)]
def q63_ (at' : Int) (text : List UInt8) (l : List QAT4) : St := { fr := [(1, .d (.int .i64) at'), (2, .mp 0), (3, .pb 1 0), (8, .fn (.func 112) [] [.pb 1 0]), (9, .row 2)], nt := 76, up := [], own := [(0, .sm (.int .u8) 3 [(0, 1, .agg [.fn (.func 100) [] [], .fn (.func 102) [] [], .fn (.func 104) [] []]), (1, 2, .agg [.fn (.func 105) [] [], .fn (.func 106) [] [], .fn (.func 107) [] []]), (2, 3, .agg [.fn (.func 108) [] [], .fn (.func 109) [] [], .fn (.func 110) [] []])]), (1, .box 9 [.d .str text]), (2, .row QAT1 106 l)], nx := 3, log := [], ln := 1 }
def qgq_ (at' : Int) (l : List QAT4) : St := { fr := [(1, .d (.int .i64) at'), (9, .row 1)], nt := 76, up := [], own := [(0, .sm (.int .u8) 3 [(0, 1, .agg [.fn (.func 100) [] [], .fn (.func 102) [] [], .fn (.func 104) [] []]), (1, 2, .agg [.fn (.func 105) [] [], .fn (.func 106) [] [], .fn (.func 107) [] []]), (2, 3, .agg [.fn (.func 108) [] [], .fn (.func 109) [] [], .fn (.func 110) [] []])]), (1, .row QAT1 106 l)], nx := 2, log := [], ln := 1 }
def qgk_ (at' : Int) (text : List UInt8) (l : List QAT4) (t : Int) (t_2 : List UInt8) (t_3 t_4 t_5 : Int) : St := { fr := [(1, .d (.int .i64) at'), (2, .mp 0), (3, .pb 1 0), (8, .fn (.func 112) [] [.pb 1 0]), (9, .row 2), (10, .pb 3 0)], nt := 76, up := [], own := [(0, .sm (.int .u8) 3 [(0, 1, .agg [.fn (.func 100) [] [], .fn (.func 102) [] [], .fn (.func 104) [] []]), (1, 2, .agg [.fn (.func 105) [] [], .fn (.func 106) [] [], .fn (.func 107) [] []]), (2, 3, .agg [.fn (.func 108) [] [], .fn (.func 109) [] [], .fn (.func 110) [] []])]), (1, .box 9 [.d .str text]), (2, .row QAT1 106 l), (3, .box 106 [.d (.int .u8) t, .d .str t_2, .d (.int .i64) t_3, .d (.int .u8) t_4, .d (.int .i64) t_5])], nx := 4, log := [], ln := 1 }
def qgh_ (l : List QAT4) : St := { fr := [(9, .row 1)], nt := 76, up := [], own := [(0, .sm (.int .u8) 3 [(0, 1, .agg [.fn (.func 100) [] [], .fn (.func 102) [] [], .fn (.func 104) [] []]), (1, 2, .agg [.fn (.func 105) [] [], .fn (.func 106) [] [], .fn (.func 107) [] []]), (2, 3, .agg [.fn (.func 108) [] [], .fn (.func 109) [] [], .fn (.func 110) [] []])]), (1, .row QAT1 106 l)], nx := 2, log := [], ln := 1 }
def q4s_ (j2 : Int -> List QAT4 -> Option (As [.sl QAT1, .int .i64])) (j3 : Int -> List UInt8 -> List QAT4 -> Int -> List UInt8 -> Int -> Int -> Int -> Option (As [.sl QAT1, .int .i64])) (self1 : Int -> List UInt8 -> List QAT4 -> Option (As [.sl QAT1, .int .i64])) (at' : Int) (text : List UInt8) (l : List QAT4) : Option (As [.sl QAT1, .int .i64]) :=
  Option.bind (strings_TrimLeft (text, [9, 13, 32], ())) fun (y : List UInt8 × Unit) => if eqs y.1 [] = true then j2 at' l else amb (eqAs q1e_.rs) [Option.bind (at? y.1 0) fun (c : UInt8) => Option.bind (q13_ (Int.ofNat (UInt8.toNat c), ())) fun (y_1 : Bool × Unit) => if y_1.1 = true then amb (eqAs q1e_.rs) [Option.bind (at? y.1 0) fun (c : UInt8) => Option.bind (qz_ (Int.ofNat (UInt8.toNat c), ())) fun (y_2 : Bool × Unit) => if y_2.1 = true then Option.bind (at? y.1 0) fun (c : UInt8) => Option.bind (q12_ (Int.ofNat (UInt8.toNat c), ())) fun (y_3 : Bool × Unit) => if y_3.1 = true then j3 at' y.1 l 3 [] 0 0 at' else j3 at' y.1 l 2 [] 0 0 at' else Option.bind (at? y.1 0) fun (c : UInt8) => Option.bind (q12_ (Int.ofNat (UInt8.toNat c), ())) fun (y_3 : Bool × Unit) => if y_3.1 = true then j3 at' y.1 l 3 [] 0 0 at' else j3 at' y.1 l 1 [] 0 0 at', Option.bind (at? y.1 0) fun (c : UInt8) => Option.bind (q12_ (Int.ofNat (UInt8.toNat c), ())) fun (y_2 : Bool × Unit) => if y_2.1 = true then Option.bind (at? y.1 0) fun (c : UInt8) => Option.bind (qz_ (Int.ofNat (UInt8.toNat c), ())) fun (y_3 : Bool × Unit) => if y_3.1 = true then j3 at' y.1 l 2 [] 0 0 at' else j3 at' y.1 l 3 [] 0 0 at' else Option.bind (at? y.1 0) fun (c : UInt8) => Option.bind (qz_ (Int.ofNat (UInt8.toNat c), ())) fun (y_3 : Bool × Unit) => if y_3.1 = true then j3 at' y.1 l 2 [] 0 0 at' else j3 at' y.1 l 1 [] 0 0 at'] else amb (eqAs q1e_.rs) [Option.bind (at? y.1 0) fun (c : UInt8) => Option.bind (qz_ (Int.ofNat (UInt8.toNat c), ())) fun (y_2 : Bool × Unit) => if y_2.1 = true then Option.bind (at? y.1 0) fun (c : UInt8) => Option.bind (q12_ (Int.ofNat (UInt8.toNat c), ())) fun (y_3 : Bool × Unit) => if y_3.1 = true then j3 at' y.1 l 3 [] 0 0 at' else j3 at' y.1 l 2 [] 0 0 at' else Option.bind (at? y.1 0) fun (c : UInt8) => Option.bind (q12_ (Int.ofNat (UInt8.toNat c), ())) fun (y_3 : Bool × Unit) => if y_3.1 = true then j3 at' y.1 l 3 [] 0 0 at' else j3 at' y.1 l 0 [] 0 0 at', Option.bind (at? y.1 0) fun (c : UInt8) => Option.bind (q12_ (Int.ofNat (UInt8.toNat c), ())) fun (y_2 : Bool × Unit) => if y_2.1 = true then Option.bind (at? y.1 0) fun (c : UInt8) => Option.bind (qz_ (Int.ofNat (UInt8.toNat c), ())) fun (y_3 : Bool × Unit) => if y_3.1 = true then j3 at' y.1 l 2 [] 0 0 at' else j3 at' y.1 l 3 [] 0 0 at' else Option.bind (at? y.1 0) fun (c : UInt8) => Option.bind (qz_ (Int.ofNat (UInt8.toNat c), ())) fun (y_3 : Bool × Unit) => if y_3.1 = true then j3 at' y.1 l 2 [] 0 0 at' else j3 at' y.1 l 0 [] 0 0 at'], Option.bind (at? y.1 0) fun (c : UInt8) => Option.bind (qz_ (Int.ofNat (UInt8.toNat c), ())) fun (y_1 : Bool × Unit) => if y_1.1 = true then amb (eqAs q1e_.rs) [Option.bind (at? y.1 0) fun (c : UInt8) => Option.bind (q13_ (Int.ofNat (UInt8.toNat c), ())) fun (y_2 : Bool × Unit) => if y_2.1 = true then Option.bind (at? y.1 0) fun (c : UInt8) => Option.bind (q12_ (Int.ofNat (UInt8.toNat c), ())) fun (y_3 : Bool × Unit) => if y_3.1 = true then j3 at' y.1 l 3 [] 0 0 at' else j3 at' y.1 l 1 [] 0 0 at' else Option.bind (at? y.1 0) fun (c : UInt8) => Option.bind (q12_ (Int.ofNat (UInt8.toNat c), ())) fun (y_3 : Bool × Unit) => if y_3.1 = true then j3 at' y.1 l 3 [] 0 0 at' else j3 at' y.1 l 2 [] 0 0 at', Option.bind (at? y.1 0) fun (c : UInt8) => Option.bind (q12_ (Int.ofNat (UInt8.toNat c), ())) fun (y_2 : Bool × Unit) => if y_2.1 = true then Option.bind (at? y.1 0) fun (c : UInt8) => Option.bind (q13_ (Int.ofNat (UInt8.toNat c), ())) fun (y_3 : Bool × Unit) => if y_3.1 = true then j3 at' y.1 l 1 [] 0 0 at' else j3 at' y.1 l 3 [] 0 0 at' else Option.bind (at? y.1 0) fun (c : UInt8) => Option.bind (q13_ (Int.ofNat (UInt8.toNat c), ())) fun (y_3 : Bool × Unit) => if y_3.1 = true then j3 at' y.1 l 1 [] 0 0 at' else j3 at' y.1 l 2 [] 0 0 at'] else amb (eqAs q1e_.rs) [Option.bind (at? y.1 0) fun (c : UInt8) => Option.bind (q13_ (Int.ofNat (UInt8.toNat c), ())) fun (y_2 : Bool × Unit) => if y_2.1 = true then Option.bind (at? y.1 0) fun (c : UInt8) => Option.bind (q12_ (Int.ofNat (UInt8.toNat c), ())) fun (y_3 : Bool × Unit) => if y_3.1 = true then j3 at' y.1 l 3 [] 0 0 at' else j3 at' y.1 l 1 [] 0 0 at' else Option.bind (at? y.1 0) fun (c : UInt8) => Option.bind (q12_ (Int.ofNat (UInt8.toNat c), ())) fun (y_3 : Bool × Unit) => if y_3.1 = true then j3 at' y.1 l 3 [] 0 0 at' else j3 at' y.1 l 0 [] 0 0 at', Option.bind (at? y.1 0) fun (c : UInt8) => Option.bind (q12_ (Int.ofNat (UInt8.toNat c), ())) fun (y_2 : Bool × Unit) => if y_2.1 = true then Option.bind (at? y.1 0) fun (c : UInt8) => Option.bind (q13_ (Int.ofNat (UInt8.toNat c), ())) fun (y_3 : Bool × Unit) => if y_3.1 = true then j3 at' y.1 l 1 [] 0 0 at' else j3 at' y.1 l 3 [] 0 0 at' else Option.bind (at? y.1 0) fun (c : UInt8) => Option.bind (q13_ (Int.ofNat (UInt8.toNat c), ())) fun (y_3 : Bool × Unit) => if y_3.1 = true then j3 at' y.1 l 1 [] 0 0 at' else j3 at' y.1 l 0 [] 0 0 at'], Option.bind (at? y.1 0) fun (c : UInt8) => Option.bind (q12_ (Int.ofNat (UInt8.toNat c), ())) fun (y_1 : Bool × Unit) => if y_1.1 = true then amb (eqAs q1e_.rs) [Option.bind (at? y.1 0) fun (c : UInt8) => Option.bind (q13_ (Int.ofNat (UInt8.toNat c), ())) fun (y_2 : Bool × Unit) => if y_2.1 = true then Option.bind (at? y.1 0) fun (c : UInt8) => Option.bind (qz_ (Int.ofNat (UInt8.toNat c), ())) fun (y_3 : Bool × Unit) => if y_3.1 = true then j3 at' y.1 l 2 [] 0 0 at' else j3 at' y.1 l 1 [] 0 0 at' else Option.bind (at? y.1 0) fun (c : UInt8) => Option.bind (qz_ (Int.ofNat (UInt8.toNat c), ())) fun (y_3 : Bool × Unit) => if y_3.1 = true then j3 at' y.1 l 2 [] 0 0 at' else j3 at' y.1 l 3 [] 0 0 at', Option.bind (at? y.1 0) fun (c : UInt8) => Option.bind (qz_ (Int.ofNat (UInt8.toNat c), ())) fun (y_2 : Bool × Unit) => if y_2.1 = true then Option.bind (at? y.1 0) fun (c : UInt8) => Option.bind (q13_ (Int.ofNat (UInt8.toNat c), ())) fun (y_3 : Bool × Unit) => if y_3.1 = true then j3 at' y.1 l 1 [] 0 0 at' else j3 at' y.1 l 2 [] 0 0 at' else Option.bind (at? y.1 0) fun (c : UInt8) => Option.bind (q13_ (Int.ofNat (UInt8.toNat c), ())) fun (y_3 : Bool × Unit) => if y_3.1 = true then j3 at' y.1 l 1 [] 0 0 at' else j3 at' y.1 l 3 [] 0 0 at'] else amb (eqAs q1e_.rs) [Option.bind (at? y.1 0) fun (c : UInt8) => Option.bind (q13_ (Int.ofNat (UInt8.toNat c), ())) fun (y_2 : Bool × Unit) => if y_2.1 = true then Option.bind (at? y.1 0) fun (c : UInt8) => Option.bind (qz_ (Int.ofNat (UInt8.toNat c), ())) fun (y_3 : Bool × Unit) => if y_3.1 = true then j3 at' y.1 l 2 [] 0 0 at' else j3 at' y.1 l 1 [] 0 0 at' else Option.bind (at? y.1 0) fun (c : UInt8) => Option.bind (qz_ (Int.ofNat (UInt8.toNat c), ())) fun (y_3 : Bool × Unit) => if y_3.1 = true then j3 at' y.1 l 2 [] 0 0 at' else j3 at' y.1 l 0 [] 0 0 at', Option.bind (at? y.1 0) fun (c : UInt8) => Option.bind (qz_ (Int.ofNat (UInt8.toNat c), ())) fun (y_2 : Bool × Unit) => if y_2.1 = true then Option.bind (at? y.1 0) fun (c : UInt8) => Option.bind (q13_ (Int.ofNat (UInt8.toNat c), ())) fun (y_3 : Bool × Unit) => if y_3.1 = true then j3 at' y.1 l 1 [] 0 0 at' else j3 at' y.1 l 2 [] 0 0 at' else Option.bind (at? y.1 0) fun (c : UInt8) => Option.bind (q13_ (Int.ofNat (UInt8.toNat c), ())) fun (y_3 : Bool × Unit) => if y_3.1 = true then j3 at' y.1 l 1 [] 0 0 at' else j3 at' y.1 l 0 [] 0 0 at']]
def qgt_ (j4 : List QAT4 -> Option (As [.sl QAT1, .int .i64])) (at' : Int) (l : List QAT4) : Option (As [.sl QAT1, .int .i64]) :=
  if gt (Int.ofNat (List.length l)) 0 = true then need (small (List.length l + Nat.succ 0)) (j4 (l ++ [(4, [], (0, 0), at')])) else j4 l
def qgl_ (self1 : Int -> List UInt8 -> List QAT4 -> Option (As [.sl QAT1, .int .i64])) (at' : Int) (text : List UInt8) (l : List QAT4) (t : Int) (t_2 : List UInt8) (t_3 t_4 t_5 : Int) : Option (As [.sl QAT1, .int .i64]) :=
  if eqi 1 t = true then Option.bind (qak_ (text, ())) fun (y : List UInt8 × List UInt8 × Unit) => Option.bind (qg2_ (t, y.1, t_3, t_4, t_5, ())) fun (y_1 : Int × Int × List UInt8 × Int × Int × Int × Unit) => if nei y_1.1 0 = true then some ([], y_1.1, ()) else need (small (List.length l + Nat.succ 0)) (self1 at' y.2.1 (l ++ [(y_1.2.1, y_1.2.2.1, (y_1.2.2.2.1, y_1.2.2.2.2.1), y_1.2.2.2.2.2.1)])) else if eqi 2 t = true then Option.bind (qar_ (text, ())) fun (y : List UInt8 × List UInt8 × Unit) => Option.bind (qf6_ (t, y.1, t_3, t_4, t_5, ())) fun (y_1 : Int × Int × List UInt8 × Int × Int × Int × Unit) => if nei y_1.1 0 = true then some ([], y_1.1, ()) else need (small (List.length l + Nat.succ 0)) (self1 at' y.2.1 (l ++ [(y_1.2.1, y_1.2.2.1, (y_1.2.2.2.1, y_1.2.2.2.2.1), y_1.2.2.2.2.2.1)])) else if eqi 3 t = true then Option.bind (qat_ (text, ())) fun (y : List UInt8 × List UInt8 × Unit) => Option.bind (q9i_ (t, y.1, t_3, t_4, t_5, ())) fun (y_1 : Int × Int × List UInt8 × Int × Int × Int × Unit) => if nei y_1.1 0 = true then some ([], y_1.1, ()) else need (small (List.length l + Nat.succ 0)) (self1 at' y.2.1 (l ++ [(y_1.2.1, y_1.2.2.1, (y_1.2.2.2.1, y_1.2.2.2.2.1), y_1.2.2.2.2.2.1)])) else some ([], 131, ())
def qjt_ (l : List QAT4) : Option (As [.sl QAT1, .int .i64]) :=
  some (l, 0, ())
def qb1_ (j1 : Int -> List UInt8 -> List QAT4 -> Option (As [.sl QAT1, .int .i64])) (text : List UInt8) (at' : Int) : Option (As [.sl QAT1, .int .i64]) :=
  if eqs [35] text = true then Option.bind (cut text 1 (Int.ofNat (List.length text))) fun (y : List UInt8) => j1 at' [] [] else if ge (Go.Lib.indexByte text 35) 0 = true then Option.bind (cut text 0 (Go.Lib.indexByte text 35)) fun (y : List UInt8) => Option.bind (cut text (add .i64 (Go.Lib.indexByte text 35) 1) (Int.ofNat (List.length text))) fun (y_1 : List UInt8) => j1 at' y [] else j1 at' text []
def qi7_ (l : List QAT4) : Option (As [.sl QAT1, .int .i64]) := qjt_ l
def qb0_ (at' : Int) (l : List QAT4) : Option (As [.sl QAT1, .int .i64]) := qgt_ (qi7_) at' l
def q8z_ (u1 : Int -> List UInt8 -> List QAT4 -> Option (As [.sl QAT1, .int .i64])) (at' : Int) (text : List UInt8) (l : List QAT4) (t : Int) (t_2 : List UInt8) (t_3 t_4 t_5 : Int) : Option (As [.sl QAT1, .int .i64]) := qgl_ u1 at' text l t t_2 t_3 t_4 t_5
def qb2_ (at' : Int) (text : List UInt8) (l : List QAT4) : Option (As [.sl QAT1, .int .i64]) :=
  loopF (fun (self : (Int) × (List UInt8) × (List QAT4) -> Option (As [.sl QAT1, .int .i64])) (s : (Int) × (List UInt8) × (List QAT4)) => q4s_ (qb0_) (q8z_ (fun at' text l => self (at', text, l))) (fun at' text l => self (at', text, l)) s.1 s.2.1 s.2.2) 18446744073709551616 (at', text, l)
def q6n_ (x : As [.str, .int .i64]) : Option (As [.sl QAT1, .int .i64]) := qb1_ qb2_ x.1 x.2.1
theorem qro_  (J l) : pfn Tryz.prog q43_ 6 18446744073709551616 (Ev.get q40_) 72 q1e_ J 63 [] (qgh_ l) = qjt_ l := by kernel_rfl
theorem qs1_  (J at' l) : pfn Tryz.prog q43_ 6 18446744073709551616 (Ev.get q40_) 72 q1e_ J 31 [] (qgq_ at' l) = qgt_ (fun l => J 63 [] (qgh_ l)) at' l := by kernel_rfl
theorem qrp_  (J w1 at' text l t t_2 t_3 t_4 t_5) : pfn Tryz.prog q43_ 6 18446744073709551616 (Ev.get q40_) 72 q1e_ J 3975 [w1] (qgk_ at' text l t t_2 t_3 t_4 t_5) = qgl_ (fun at' text l => w1 (q63_ at' text l)) at' text l t t_2 t_3 t_4 t_5 := by kernel_rfl
theorem qry_  (J w1 at' text l) : pfn Tryz.prog q43_ 6 18446744073709551616 (Ev.get q40_) 72 q1e_ J 124 [w1] (q63_ at' text l) = q4s_ (fun at' l => J 31 [] (qgq_ at' l)) (fun at' text l t t_2 t_3 t_4 t_5 => J 3975 [w1] (qgk_ at' text l t t_2 t_3 t_4 t_5)) (fun at' text l => w1 (q63_ at' text l)) at' text l := by kernel_rfl
theorem qrn_ (J : Orc (As [.sl QAT1, .int .i64])) (x : As [.str, .int .i64]) : rfn Tryz.prog q43_ 6 18446744073709551616 (Ev.get q40_) 72 q1e_ J x = qb1_ (fun at' text l => J 124 [] (q63_ at' text l)) x.1 x.2.1 := by kernel_rfl
theorem qs6_  (l) : jfn Tryz.prog q43_ 6 18446744073709551616 (Ev.get q40_) 72 q1e_ 63 [] (qgh_ l) = qi7_ l := by
  rw [q2_ (by decide)]
  rw [qro_]
  rfl
theorem qrr_  (at' l) : jfn Tryz.prog q43_ 6 18446744073709551616 (Ev.get q40_) 72 q1e_ 31 [] (qgq_ at' l) = qb0_ at' l := by
  rw [q2_ (by decide)]
  have e4 : (fun l => (jfn Tryz.prog q43_ 6 18446744073709551616 (Ev.get q40_) 72 q1e_) 63 [] (qgh_ l)) = qi7_ := funext fun l => qs6_ l
  rw [qs1_, e4]
  rfl
theorem qrw_  (w1 at' text l t t_2 t_3 t_4 t_5) : jfn Tryz.prog q43_ 6 18446744073709551616 (Ev.get q40_) 72 q1e_ 3975 [w1] (qgk_ at' text l t t_2 t_3 t_4 t_5) = q8z_ (fun at' text l => w1 (q63_ at' text l)) at' text l t t_2 t_3 t_4 t_5 := by
  rw [q2_ (by decide)]
  rw [qrp_]
  rfl
theorem qrs_  (at' text l) : jfn Tryz.prog q43_ 6 18446744073709551616 (Ev.get q40_) 72 q1e_ 124 [] (q63_ at' text l) = qb2_ at' text l := by
  rw [q2_ (by decide)]
  rw [qm_ (by kernel_rfl)]
  refine qj_ (σ := (Int) × (List UInt8) × (List QAT4)) (mk := fun s => q63_ s.1 s.2.1 s.2.2) (fun w1 s => ?_) 18446744073709551616 (at', text, l)
  have e2 : (fun at' l => (jfn Tryz.prog q43_ 6 18446744073709551616 (Ev.get q40_) 72 q1e_) 31 [] (qgq_ at' l)) = qb0_ := by funext at' l; exact qrr_ at' l
  have e3 : (fun at' text l t t_2 t_3 t_4 t_5 => (jfn Tryz.prog q43_ 6 18446744073709551616 (Ev.get q40_) 72 q1e_) 3975 [w1] (qgk_ at' text l t t_2 t_3 t_4 t_5)) = q8z_ (fun at' text l => w1 (q63_ at' text l)) := by funext at' text l t t_2 t_3 t_4 t_5; exact qrw_ w1 at' text l t t_2 t_3 t_4 t_5
  refine (qry_ _ w1 s.1 s.2.1 s.2.2).trans ?_
  rw [e2, e3]
theorem qsf_ (x : As [.str, .int .i64]) : evT Tryz.prog q43_ 6 18446744073709551616 (Ev.get q40_) 72 q1e_ x = q6n_ x := by
  have e1 : (fun at' text l => (jfn Tryz.prog q43_ 6 18446744073709551616 (Ev.get q40_) 72 q1e_) 124 [] (q63_ at' text l)) = qb2_ := by funext at' text l; exact qrs_ at' text l
  rw [q1v_, qrn_, e1]
  rfl
theorem qs5_ : CtOk Tryz.prog I0 72 ⟨q1e_, q6n_⟩ := qu_ (q1_ qh7_ (q1_ q6s_ (q1_ qju_ (q1_ qh9_ (q1_ q6t_ (q1_ qix_ (q1_ qh8_ (q1_ q6r_ (q1_ qh6_ (q1_ qkd_ (q1_ qkj_ (q1_ qkk_ (q1_ strings_TrimLeft_ok qa_))))))))))))) qsf_
@[reducible] def q72_ : Sh := ⟨[.d (.str)], [], [.str], [.d (.sl QAT1), .d (.pr (.int .i64) (.int .i64))], [], 0, [.sl QAT1, .pr (.int .i64) (.int .i64)]⟩
def qa3_ : Env := (cts [(72, (⟨q1e_, q6n_⟩ : Ct)), (100, (⟨qep_, q13_⟩ : Ct)), (102, (⟨q5s_, q3v_⟩ : Ct)), (104, (⟨qiq_, qg2_⟩ : Ct)), (105, (⟨qeq_, qz_⟩ : Ct)), (106, (⟨q5z_, q3t_⟩ : Ct)), (107, (⟨qhh_, qf6_⟩ : Ct)), (108, (⟨qej_, q12_⟩ : Ct)), (109, (⟨q5u_, q54_⟩ : Ct)), (110, (⟨qen_, q9i_⟩ : Ct))])
def qa4_ : List (Nat × Hint) := [(31, ⟨[], [3, 5]⟩), (250, ⟨[.row 5 106], [0, 3, 4, 5, 6]⟩)]
def qc0_ (text : List UInt8) (n t3 t3_2 : Int) (l : List QAT4) : St := { fr := [(0, .d .str text), (3, .pb 0 0), (4, .mp 1), (5, .row 2), (6, .d (.int .i64) n)], nt := 45, up := [], own := [(0, .box 33 [.d (.int .i64) t3, .d (.int .i64) t3_2]), (1, .sm (.int .u8) 3 [(0, 1, .agg [.fn (.func 100) [] [], .fn (.func 102) [] [], .fn (.func 104) [] []]), (1, 2, .agg [.fn (.func 105) [] [], .fn (.func 106) [] [], .fn (.func 107) [] []]), (2, 3, .agg [.fn (.func 108) [] [], .fn (.func 109) [] [], .fn (.func 110) [] []])]), (2, .row QAT1 106 l)], nx := 3, log := [], ln := 0 }
def qhe_ (t3 t3_2 : Int) (l : List QAT4) : St := { fr := [(3, .pb 0 0), (5, .row 1)], nt := 45, up := [], own := [(0, .box 33 [.d (.int .i64) t3, .d (.int .i64) t3_2]), (1, .row QAT1 106 l)], nx := 2, log := [], ln := 0 }
def qai_ (j2 : Int -> Int -> List QAT4 -> Option (As [.sl QAT1, .pr (.int .i64) (.int .i64)])) (self1 : List UInt8 -> Int -> Int -> Int -> List QAT4 -> Option (As [.sl QAT1, .pr (.int .i64) (.int .i64)])) (text : List UInt8) (n t3 t3_2 : Int) (l : List QAT4) : Option (As [.sl QAT1, .pr (.int .i64) (.int .i64)]) :=
  if nes text [] = true then if eqs [10] text = true then Option.bind (cut text 1 (Int.ofNat (List.length text))) fun (y : List UInt8) => Option.bind (q6n_ ([], n, ())) fun (y_1 : List QAT4 × Int × Unit) => if nei y_1.2.1 0 = true then some ([], (y_1.2.1, n), ()) else need (small (List.length l + List.length y_1.1)) (self1 y (add .i64 n 1) t3 t3_2 (l ++ y_1.1)) else if ge (Go.Lib.indexByte text 10) 0 = true then Option.bind (cut text 0 (Go.Lib.indexByte text 10)) fun (y : List UInt8) => Option.bind (cut text (add .i64 (Go.Lib.indexByte text 10) 1) (Int.ofNat (List.length text))) fun (y_1 : List UInt8) => Option.bind (q6n_ (y, n, ())) fun (y : List QAT4 × Int × Unit) => if nei y.2.1 0 = true then some ([], (y.2.1, n), ()) else need (small (List.length l + List.length y.1)) (self1 y_1 (add .i64 n 1) t3 t3_2 (l ++ y.1)) else Option.bind (q6n_ (text, n, ())) fun (y : List QAT4 × Int × Unit) => if nei y.2.1 0 = true then some ([], (y.2.1, n), ()) else need (small (List.length l + List.length y.1)) (self1 [] (add .i64 n 1) t3 t3_2 (l ++ y.1)) else j2 t3 t3_2 l
def qlc_ (t3 t3_2 : Int) (l : List QAT4) : Option (As [.sl QAT1, .pr (.int .i64) (.int .i64)]) :=
  some (l, (0, 0), ())
def qby_ (j1 : List UInt8 -> Int -> Int -> Int -> List QAT4 -> Option (As [.sl QAT1, .pr (.int .i64) (.int .i64)])) (text : List UInt8) : Option (As [.sl QAT1, .pr (.int .i64) (.int .i64)]) :=
  if gt (Int.ofNat (List.length text)) 8192 = true then some ([], (130, 0), ()) else j1 text 1 0 0 []
def qhf_ (t3 t3_2 : Int) (l : List QAT4) : Option (As [.sl QAT1, .pr (.int .i64) (.int .i64)]) := qlc_ t3 t3_2 l
def qd4_ (text : List UInt8) (n t3 t3_2 : Int) (l : List QAT4) : Option (As [.sl QAT1, .pr (.int .i64) (.int .i64)]) :=
  loopF (fun (self : (List UInt8) × (Int) × (Int) × (Int) × (List QAT4) -> Option (As [.sl QAT1, .pr (.int .i64) (.int .i64)])) (s : (List UInt8) × (Int) × (Int) × (Int) × (List QAT4)) => qai_ (qhf_) (fun text n t3 t3_2 l => self (text, n, t3, t3_2, l)) s.1 s.2.1 s.2.2.1 s.2.2.2.1 s.2.2.2.2) 18446744073709551616 (text, n, t3, t3_2, l)
def qga_ (x : As [.str]) : Option (As [.sl QAT1, .pr (.int .i64) (.int .i64)]) := qby_ qd4_ x.1
theorem qsa_  (J t3 t3_2 l) : pfn Tryz.prog qa3_ 6 18446744073709551616 (Ev.get qa4_) 39 q72_ J 31 [] (qhe_ t3 t3_2 l) = qlc_ t3 t3_2 l := by kernel_rfl
theorem qse_  (J w1 text n t3 t3_2 l) : pfn Tryz.prog qa3_ 6 18446744073709551616 (Ev.get qa4_) 39 q72_ J 250 [w1] (qc0_ text n t3 t3_2 l) = qai_ (fun t3 t3_2 l => J 31 [] (qhe_ t3 t3_2 l)) (fun text n t3 t3_2 l => w1 (qc0_ text n t3 t3_2 l)) text n t3 t3_2 l := by kernel_rfl
theorem qsc_ (J : Orc (As [.sl QAT1, .pr (.int .i64) (.int .i64)])) (x : As [.str]) : rfn Tryz.prog qa3_ 6 18446744073709551616 (Ev.get qa4_) 39 q72_ J x = qby_ (fun text n t3 t3_2 l => J 250 [] (qc0_ text n t3 t3_2 l)) x.1 := by kernel_rfl
theorem qsb_  (t3 t3_2 l) : jfn Tryz.prog qa3_ 6 18446744073709551616 (Ev.get qa4_) 39 q72_ 31 [] (qhe_ t3 t3_2 l) = qhf_ t3 t3_2 l := by
  rw [q2_ (by decide)]
  rw [qsa_]
  rfl
theorem qsh_  (text n t3 t3_2 l) : jfn Tryz.prog qa3_ 6 18446744073709551616 (Ev.get qa4_) 39 q72_ 250 [] (qc0_ text n t3 t3_2 l) = qd4_ text n t3 t3_2 l := by
  rw [q2_ (by decide)]
  rw [qm_ (by kernel_rfl)]
  refine qj_ (σ := (List UInt8) × (Int) × (Int) × (Int) × (List QAT4)) (mk := fun s => qc0_ s.1 s.2.1 s.2.2.1 s.2.2.2.1 s.2.2.2.2) (fun w1 s => ?_) 18446744073709551616 (text, n, t3, t3_2, l)
  have e2 : (fun t3 t3_2 l => (jfn Tryz.prog qa3_ 6 18446744073709551616 (Ev.get qa4_) 39 q72_) 31 [] (qhe_ t3 t3_2 l)) = qhf_ := by funext t3 t3_2 l; exact qsb_ t3 t3_2 l
  refine (qse_ _ w1 s.1 s.2.1 s.2.2.1 s.2.2.2.1 s.2.2.2.2).trans ?_
  rw [e2]
theorem qsi_ (x : As [.str]) : evT Tryz.prog qa3_ 6 18446744073709551616 (Ev.get qa4_) 39 q72_ x = qga_ x := by
  have e1 : (fun text n t3 t3_2 l => (jfn Tryz.prog qa3_ 6 18446744073709551616 (Ev.get qa4_) 39 q72_) 250 [] (qc0_ text n t3 t3_2 l)) = qd4_ := by funext text n t3 t3_2 l; exact qsh_ text n t3 t3_2 l
  rw [q1v_, qsc_, e1]
  rfl
theorem qsg_ : CtOk Tryz.prog I0 39 ⟨q72_, qga_⟩ := qu_ (q1_ qs5_ (q1_ qh7_ (q1_ q6s_ (q1_ qju_ (q1_ qh9_ (q1_ q6t_ (q1_ qix_ (q1_ qh8_ (q1_ q6r_ (q1_ qh6_ qa_)))))))))) qsi_
@[reducible] def qig_ : Sh := ⟨[.d (.int .u8)], [], [.int .u8], [.d (.bool)], [], 0, [.bool]⟩
def qld_ (c : Int) : Option (As [.bool]) :=
  if ge c 97 = true then if le c 122 = true then some (true, ()) else if ge c 65 = true then if le c 90 = true then some (true, ()) else some (eqi c 37, ()) else some (eqi c 37, ()) else if ge c 65 = true then if le c 90 = true then some (true, ()) else some (eqi c 37, ()) else some (eqi c 37, ())
def q9y_ (x : As [.int .u8]) : Option (As [.bool]) := qld_ x.1
theorem qi0_ : CtOk Tryz.prog I0 74 ⟨qig_, q9y_⟩ := ctn qa_ 6 fun J x => by kernel_rfl
@[reducible] def qj3_ : Sh := ⟨[.d (.int .u8)], [], [.int .u8], [.d (.bool)], [], 0, [.bool]⟩
def qm3_ (c : Int) : Option (As [.bool]) :=
  if ge c 48 = true then some (le c 57, ()) else some (false, ())
def q90_ (x : As [.int .u8]) : Option (As [.bool]) := qm3_ x.1
theorem qij_ : CtOk Tryz.prog I0 75 ⟨qj3_, q90_⟩ := ctn qa_ 6 fun J x => by kernel_rfl
@[reducible] def qjg_ : Sh := ⟨[.d (.int .u8), .d (.int .u8)], [], [.int .u8, .int .u8], [.d (.bool)], [], 0, [.bool]⟩
def qqc_ (kind c : Int) : Option (As [.bool]) :=
  if eqi kind 1 = true then Option.bind (q9y_ (c, ())) fun (y : Bool × Unit) => if y.1 = true then some (true, ()) else Option.bind (q90_ (c, ())) fun (y : Bool × Unit) => if y.1 = true then some (true, ()) else some (eqi c 95, ()) else Option.bind (q90_ (c, ())) fun (y : Bool × Unit) => if y.1 = true then some (true, ()) else if eqi c 46 = true then some (true, ()) else some (eqi c 45, ())
def q8k_ (x : As [.int .u8, .int .u8]) : Option (As [.bool]) := qqc_ x.1 x.2.1
theorem qos_ : CtOk Tryz.prog I0 76 ⟨qjg_, q8k_⟩ := ctn (q1_ qi0_ (q1_ qij_ qa_)) 6 fun J x => by kernel_rfl
@[reducible] def q38_ : Sh := ⟨[.d (.int .i64), .d (.int .i64)], [], [.int .i64, .int .i64], [.d (.pr (.int .i64) (.int .u8)), .d (.bool)], [], 0, [.pr (.int .i64) (.int .u8), .bool]⟩
def q42_ : Env := (cts [])
def q41_ : List (Nat × Hint) := [(3, ⟨[], [0, 1, 4, 20, 21, 24, 25]⟩), (14, ⟨[], [0, 1, 4, 26]⟩), (12, ⟨[], [0, 1, 4, 9, 10, 11, 20, 21, 24, 25]⟩), (48, ⟨[.agd 9 (.int .i64), .agd 10 (.int .i64), .agd 11 .bool], [0, 1, 4, 12]⟩)]
def q62_ (n digits t4 t4_2 : Int) : St := { fr := [(0, .d (.int .i64) n), (1, .d (.int .i64) digits), (4, .pb 0 0)], nt := 32, up := [], own := [(0, .box 45 [.d (.int .i64) t4, .d (.int .u8) t4_2])], nx := 1, log := [], ln := 0 }
def qgj_ (n digits : Int) (t12 : Bool) (t4 t4_2 : Int) : St := { fr := [(0, .d (.int .i64) n), (1, .d (.int .i64) digits), (4, .pb 0 0), (12, .d .bool t12)], nt := 32, up := [], own := [(0, .box 45 [.d (.int .i64) t4, .d (.int .u8) t4_2])], nx := 1, log := [], ln := 0 }
def qgm_ (n digits t4 t4_2 : Int) : St := { fr := [(0, .d (.int .i64) n), (1, .d (.int .i64) digits), (4, .pb 0 0)], nt := 32, up := [], own := [(0, .box 45 [.d (.int .i64) t4, .d (.int .u8) t4_2])], nx := 1, log := [], ln := 0 }
def qgf_ (n digits : Int) (t26 : Bool) (t4 t4_2 : Int) : St := { fr := [(0, .d (.int .i64) n), (1, .d (.int .i64) digits), (4, .pb 0 0), (26, .d .bool t26)], nt := 32, up := [], own := [(0, .box 45 [.d (.int .i64) t4, .d (.int .u8) t4_2])], nx := 1, log := [], ln := 0 }
def qgg_ (j2 : Int -> Int -> Bool -> Int -> Int -> Option (As [.pr (.int .i64) (.int .u8), .bool])) (self1 : Int -> Int -> Int -> Int -> Option (As [.pr (.int .i64) (.int .u8), .bool])) (n digits t4 t4_2 : Int) : Option (As [.pr (.int .i64) (.int .u8), .bool]) :=
  if gt digits 0 = true then j2 n digits (eqi (rem n 10) 0) t4 t4_2 else j2 n digits false t4 t4_2
def qgr_ (j3 self1 : Int -> Int -> Int -> Int -> Option (As [.pr (.int .i64) (.int .u8), .bool])) (n digits : Int) (t12 : Bool) (t4 t4_2 : Int) : Option (As [.pr (.int .i64) (.int .u8), .bool]) :=
  if t12 = true then self1 (quo .i64 n 10) (Sx.sub .i64 digits 1) t4 t4_2 else j3 n digits t4 t4_2
def qi5_ (j4 : Int -> Int -> Bool -> Int -> Int -> Option (As [.pr (.int .i64) (.int .u8), .bool])) (n digits t4 t4_2 : Int) : Option (As [.pr (.int .i64) (.int .u8), .bool]) :=
  if gt digits 6 = true then j4 n digits true t4 t4_2 else if gt n 1000000000000 = true then j4 n digits true t4 t4_2 else j4 n digits (lt n (-1000000000000)) t4 t4_2
def qi6_ (n digits : Int) (t26 : Bool) (t4 t4_2 : Int) : Option (As [.pr (.int .i64) (.int .u8), .bool]) :=
  if t26 = true then some ((0, 0), false, ()) else some ((n, cvt .u8 digits), true, ())
def qjv_ (j1 : Int -> Int -> Int -> Int -> Option (As [.pr (.int .i64) (.int .u8), .bool])) (n digits : Int) : Option (As [.pr (.int .i64) (.int .u8), .bool]) :=
  j1 n digits 0 0
def qdi_ (n digits : Int) (t26 : Bool) (t4 t4_2 : Int) : Option (As [.pr (.int .i64) (.int .u8), .bool]) := qi6_ n digits t26 t4 t4_2
def qgi_ (n digits t4 t4_2 : Int) : Option (As [.pr (.int .i64) (.int .u8), .bool]) := qi5_ (qdi_) n digits t4 t4_2
def q8x_ (u1 : Int -> Int -> Int -> Int -> Option (As [.pr (.int .i64) (.int .u8), .bool])) (n digits : Int) (t12 : Bool) (t4 t4_2 : Int) : Option (As [.pr (.int .i64) (.int .u8), .bool]) := qgr_ (qgi_) u1 n digits t12 t4 t4_2
def qi3_ (n digits t4 t4_2 : Int) : Option (As [.pr (.int .i64) (.int .u8), .bool]) :=
  loopF (fun (self : (Int) × (Int) × (Int) × (Int) -> Option (As [.pr (.int .i64) (.int .u8), .bool])) (s : (Int) × (Int) × (Int) × (Int)) => qgg_ (q8x_ (fun n digits t4 t4_2 => self (n, digits, t4, t4_2))) (fun n digits t4 t4_2 => self (n, digits, t4, t4_2)) s.1 s.2.1 s.2.2.1 s.2.2.2) 18446744073709551616 (n, digits, t4, t4_2)
def qht_ (x : As [.int .i64, .int .i64]) : Option (As [.pr (.int .i64) (.int .u8), .bool]) := qjv_ qi3_ x.1 x.2.1
theorem qs7_  (J n digits t26 t4 t4_2) : pfn Tryz.prog q42_ 6 18446744073709551616 (Ev.get q41_) 114 q38_ J 14 [] (qgf_ n digits t26 t4 t4_2) = qi6_ n digits t26 t4 t4_2 := by kernel_rfl
theorem qrz_  (J n digits t4 t4_2) : pfn Tryz.prog q42_ 6 18446744073709551616 (Ev.get q41_) 114 q38_ J 3 [] (qgm_ n digits t4 t4_2) = qi5_ (fun n digits t26 t4 t4_2 => J 14 [] (qgf_ n digits t26 t4 t4_2)) n digits t4 t4_2 := by kernel_rfl
theorem qs3_  (J w1 n digits t12 t4 t4_2) : pfn Tryz.prog q42_ 6 18446744073709551616 (Ev.get q41_) 114 q38_ J 48 [w1] (qgj_ n digits t12 t4 t4_2) = qgr_ (fun n digits t4 t4_2 => J 3 [] (qgm_ n digits t4 t4_2)) (fun n digits t4 t4_2 => w1 (q62_ n digits t4 t4_2)) n digits t12 t4 t4_2 := by kernel_rfl
theorem qs4_  (J w1 n digits t4 t4_2) : pfn Tryz.prog q42_ 6 18446744073709551616 (Ev.get q41_) 114 q38_ J 12 [w1] (q62_ n digits t4 t4_2) = qgg_ (fun n digits t12 t4 t4_2 => J 48 [w1] (qgj_ n digits t12 t4 t4_2)) (fun n digits t4 t4_2 => w1 (q62_ n digits t4 t4_2)) n digits t4 t4_2 := by kernel_rfl
theorem qrx_ (J : Orc (As [.pr (.int .i64) (.int .u8), .bool])) (x : As [.int .i64, .int .i64]) : rfn Tryz.prog q42_ 6 18446744073709551616 (Ev.get q41_) 114 q38_ J x = qjv_ (fun n digits t4 t4_2 => J 12 [] (q62_ n digits t4 t4_2)) x.1 x.2.1 := by kernel_rfl
theorem qs2_  (n digits t26 t4 t4_2) : jfn Tryz.prog q42_ 6 18446744073709551616 (Ev.get q41_) 114 q38_ 14 [] (qgf_ n digits t26 t4 t4_2) = qdi_ n digits t26 t4 t4_2 := by
  rw [q2_ (by decide)]
  rw [qs7_]
  rfl
theorem qrq_  (n digits t4 t4_2) : jfn Tryz.prog q42_ 6 18446744073709551616 (Ev.get q41_) 114 q38_ 3 [] (qgm_ n digits t4 t4_2) = qgi_ n digits t4 t4_2 := by
  rw [q2_ (by decide)]
  have e4 : (fun n digits t26 t4 t4_2 => (jfn Tryz.prog q42_ 6 18446744073709551616 (Ev.get q41_) 114 q38_) 14 [] (qgf_ n digits t26 t4 t4_2)) = qdi_ := by funext n digits t26 t4 t4_2; exact qs2_ n digits t26 t4 t4_2
  rw [qrz_, e4]
  rfl
theorem qs8_  (w1 n digits t12 t4 t4_2) : jfn Tryz.prog q42_ 6 18446744073709551616 (Ev.get q41_) 114 q38_ 48 [w1] (qgj_ n digits t12 t4 t4_2) = q8x_ (fun n digits t4 t4_2 => w1 (q62_ n digits t4 t4_2)) n digits t12 t4 t4_2 := by
  rw [q2_ (by decide)]
  have e3 : (fun n digits t4 t4_2 => (jfn Tryz.prog q42_ 6 18446744073709551616 (Ev.get q41_) 114 q38_) 3 [] (qgm_ n digits t4 t4_2)) = qgi_ := by funext n digits t4 t4_2; exact qrq_ n digits t4 t4_2
  rw [qs3_, e3]
  rfl
theorem qrt_  (n digits t4 t4_2) : jfn Tryz.prog q42_ 6 18446744073709551616 (Ev.get q41_) 114 q38_ 12 [] (q62_ n digits t4 t4_2) = qi3_ n digits t4 t4_2 := by
  rw [q2_ (by decide)]
  rw [qm_ (by kernel_rfl)]
  refine qj_ (σ := (Int) × (Int) × (Int) × (Int)) (mk := fun s => q62_ s.1 s.2.1 s.2.2.1 s.2.2.2) (fun w1 s => ?_) 18446744073709551616 (n, digits, t4, t4_2)
  have e2 : (fun n digits t12 t4 t4_2 => (jfn Tryz.prog q42_ 6 18446744073709551616 (Ev.get q41_) 114 q38_) 48 [w1] (qgj_ n digits t12 t4 t4_2)) = q8x_ (fun n digits t4 t4_2 => w1 (q62_ n digits t4 t4_2)) := by funext n digits t12 t4 t4_2; exact qs8_ w1 n digits t12 t4 t4_2
  refine (qs4_ _ w1 s.1 s.2.1 s.2.2.1 s.2.2.2).trans ?_
  rw [e2]
theorem qsd_ (x : As [.int .i64, .int .i64]) : evT Tryz.prog q42_ 6 18446744073709551616 (Ev.get q41_) 114 q38_ x = qht_ x := by
  have e1 : (fun n digits t4 t4_2 => (jfn Tryz.prog q42_ 6 18446744073709551616 (Ev.get q41_) 114 q38_) 12 [] (q62_ n digits t4 t4_2)) = qi3_ := by funext n digits t4 t4_2; exact qrt_ n digits t4 t4_2
  rw [q1v_, qrx_, e1]
  rfl
theorem qru_ : CtOk Tryz.prog I0 114 ⟨q38_, qht_⟩ := qu_ qa_ qsd_
end Go.Proofs.Lx
end
