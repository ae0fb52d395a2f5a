/- Proved in the last of these 10 parts (this is part 6): the law RecipeWrong of chapter 14 returns true at every recipe, every place and every line. Conditions: those of the given statement, and no others. -/
import Derived.Test.YtnamnibaedolaaaGreatDoorParte
import Derived.Test.YtnamnibaedolaaaGreatDoorProg
set_option linter.unusedVariables false
set_option linter.unusedSimpArgs false
set_option linter.unusedSectionVars false
section
open Go Go.Proofs Ev Sx
set_option maxRecDepth 100000
namespace Go.Proofs.Lx
abbrev QAT3 : Type := (List UInt8 × (Int × Int) × List UInt8 × Int)
abbrev QAT0 : Type := (List UInt8 × Int × List QAT3)
abbrev QAT1 : Ty := (.pr (.int .u8) (.pr .str (.pr (.pr (.int .i64) (.int .u8)) (.int .i64))))
abbrev QAT5 : Ty := (.pr .str (.pr (.pr (.int .i64) (.int .u8)) (.pr .str (.int .i64))))
abbrev QAT2 : Ty := (.pr .str (.pr (.int .i64) (.sl QAT5)))
abbrev QAT4 : Type := (Int × List UInt8 × (Int × Int) × Int)
@[reducible] def qma_ : Sh := ⟨[.d (.int .u8)], [], [.int .u8], [.d (.bool)], [], 0, [.bool]⟩
def qkd_ (c : Int) : Option (As [.bool]) :=
  if ge c 97 = true then if le c 122 = true then some (true, ()) else if ge c 65 = true then some (le c 90, ()) else some (false, ()) else if ge c 65 = true then some (le c 90, ()) else some (false, ())
def qdq_ (x : As [.int .u8]) : Option (As [.bool]) := qkd_ x.1
theorem qe9_ : CtOk Tryz.prog I0 101 ⟨qma_, qdq_⟩ := ctn q7_ 6 fun J x => by kernel_rfl
@[reducible] def qaa_ : Sh := ⟨[.d (.int .u8)], [], [.int .u8], [.d (.bool)], [], 0, [.bool]⟩
def qfa_ (c : Int) : Option (As [.bool]) :=
  Option.bind (qdq_ (c, ())) fun (y : Bool × Unit) => if y.1 = true then some (true, ()) else some (eqi c 37, ())
def qq_ (x : As [.int .u8]) : Option (As [.bool]) := qfa_ x.1
theorem qbw_ : CtOk Tryz.prog I0 100 ⟨qaa_, qq_⟩ := ctn (q0_ qe9_ q7_) 6 fun J x => by kernel_rfl
@[reducible] def qn4_ : Sh := ⟨[.d (.int .u8)], [], [.int .u8], [.d (.bool)], [], 0, [.bool]⟩
def qly_ (c : Int) : Option (As [.bool]) :=
  if ge c 48 = true then some (le c 57, ()) else some (false, ())
def qce_ (x : As [.int .u8]) : Option (As [.bool]) := qly_ x.1
theorem qc7_ : CtOk Tryz.prog I0 103 ⟨qn4_, qce_⟩ := ctn q7_ 6 fun J x => by kernel_rfl
@[reducible] def q4x_ : Sh := ⟨[.d (.int .u8)], [], [.int .u8], [.d (.bool)], [], 0, [.bool]⟩
def qf1_ (c : Int) : Option (As [.bool]) :=
  Option.bind (qdq_ (c, ())) fun (y : Bool × Unit) => if y.1 = true then some (true, ()) else Option.bind (qce_ (c, ())) fun (y : Bool × Unit) => if y.1 = true then some (true, ()) else if eqi c 95 = true then some (true, ()) else some (eqi c 37, ())
def q2z_ (x : As [.int .u8]) : Option (As [.bool]) := qf1_ x.1
theorem q5d_ : CtOk Tryz.prog I0 102 ⟨q4x_, q2z_⟩ := ctn (q0_ qe9_ (q0_ qc7_ q7_)) 6 fun J x => by kernel_rfl
@[reducible] def qd5_ : Sh := ⟨[.pb 0 0], [.box 106 [.d (.int .u8), .d .str, .d (.int .i64), .d (.int .u8), .d (.int .i64)]], [.int .u8, .str, .int .i64, .int .u8, .int .i64], [.d (.int .i64)], [(0, .box 106 [.d (.int .u8), .d .str, .d (.int .i64), .d (.int .u8), .d (.int .i64)])], 0, [.int .i64, .int .u8, .str, .int .i64, .int .u8, .int .i64]⟩
def qff_ (t : Int) (t_2 : List UInt8) (v v_2 v_3 : Int) : Option (As [.int .i64, .int .u8, .str, .int .i64, .int .u8, .int .i64]) :=
  if gt (Int.ofNat (List.length t_2)) 20 = true then some (133, t, t_2, v, v_2, v_3, ()) else some (0, t, t_2, v, v_2, v_3, ())
def qc8_ (x : As [.int .u8, .str, .int .i64, .int .u8, .int .i64]) : Option (As [.int .i64, .int .u8, .str, .int .i64, .int .u8, .int .i64]) := qff_ x.1 x.2.1 x.2.2.1 x.2.2.2.1 x.2.2.2.2.1
theorem qfd_ : CtOk Tryz.prog I0 104 ⟨qd5_, qc8_⟩ := ctn q7_ 6 fun J x => by kernel_rfl
@[reducible] def qa1_ : Sh := ⟨[.d (.int .u8)], [], [.int .u8], [.d (.bool)], [], 0, [.bool]⟩
def qf3_ (c : Int) : Option (As [.bool]) :=
  Option.bind (qce_ (c, ())) fun (y : Bool × Unit) => if y.1 = true then some (true, ()) else some (eqi c 45, ())
def qo_ (x : As [.int .u8]) : Option (As [.bool]) := qf3_ x.1
theorem qbt_ : CtOk Tryz.prog I0 105 ⟨qa1_, qo_⟩ := ctn (q0_ qc7_ q7_) 6 fun J x => by kernel_rfl
@[reducible] def q4u_ : Sh := ⟨[.d (.int .u8)], [], [.int .u8], [.d (.bool)], [], 0, [.bool]⟩
def qfb_ (c : Int) : Option (As [.bool]) :=
  Option.bind (qce_ (c, ())) fun (y : Bool × Unit) => if y.1 = true then some (true, ()) else if eqi c 46 = true then some (true, ()) else some (eqi c 45, ())
def q30_ (x : As [.int .u8]) : Option (As [.bool]) := qfb_ x.1
theorem q5e_ : CtOk Tryz.prog I0 106 ⟨q4u_, q30_⟩ := ctn (q0_ qc7_ q7_) 6 fun J x => by kernel_rfl
@[reducible] def strings_makeASCIISet_s : Sh := ⟨[.d (.str)], [], [.str], [.d (.ar 256 .bool), .d (.bool)], [], 0, [.ar 256 .bool, .bool]⟩
def q1u_ : Env := (cts [])
def q1v_ : List (Nat × Hint) := [(3, ⟨[], [2]⟩), (26, ⟨[], [0, 2, 4]⟩)]
def q2q_ (chars : List UInt8) (i : Int) (as' : List Bool) : St := { fr := [(0, .d .str chars), (2, .pb 0 0), (4, .d (.int .i64) i)], nt := 21, up := [], own := [(0, .row .bool 197 as')], nx := 1, log := [], ln := 0 }
def q4m_ (as' : List Bool) : St := { fr := [(2, .pb 0 0)], nt := 21, up := [], own := [(0, .row .bool 197 as')], nx := 1, log := [], ln := 0 }
def strings_makeASCIISet_m1 (j2 : List Bool -> Option (As [.ar 256 .bool, .bool])) (self1 : List UInt8 -> Int -> List Bool -> Option (As [.ar 256 .bool, .bool])) (chars : List UInt8) (i : Int) (as' : List Bool) : Option (As [.ar 256 .bool, .bool]) :=
  if lt i (Int.ofNat (List.length chars)) = true then Option.bind (at? chars i) fun (c : UInt8) => if ge (Int.ofNat (UInt8.toNat c)) 128 = true then need (eqi (Int.ofNat (List.length as')) 256) (need (eqi (Int.ofNat (List.length as')) (Int.ofNat (List.length as'))) (need (eqi 256 (Int.ofNat (List.length as' * 1))) (need (eqi (Int.ofNat (List.length as')) 256) (need (eqi (Int.ofNat (List.length as')) 256) (some (as', false, ())))))) else need (lt (Int.ofNat (UInt8.toNat c)) 256) (Option.bind (at? as' (Int.ofNat (UInt8.toNat c))) fun (x : Bool) => Option.bind (at? as' (Int.ofNat (UInt8.toNat c))) fun (x : Bool) => self1 chars (add .i64 i 1) (List.set as' (Int.toNat (Int.ofNat (UInt8.toNat c))) true)) else j2 as'
def strings_makeASCIISet_m2 (as' : List Bool) : Option (As [.ar 256 .bool, .bool]) :=
  need (eqi (Int.ofNat (List.length as')) 256) (need (eqi (Int.ofNat (List.length as')) (Int.ofNat (List.length as'))) (need (eqi 256 (Int.ofNat (List.length as' * 1))) (need (eqi (Int.ofNat (List.length as')) 256) (need (eqi (Int.ofNat (List.length as')) 256) (some (as', true, ()))))))
def strings_makeASCIISet_m0 (j1 : List UInt8 -> Int -> List Bool -> Option (As [.ar 256 .bool, .bool])) (chars : List UInt8) : Option (As [.ar 256 .bool, .bool]) :=
  j1 chars 0 (List.replicate 256 false)
def q6d_ (as' : List Bool) : Option (As [.ar 256 .bool, .bool]) := strings_makeASCIISet_m2 as'
def q6e_ (chars : List UInt8) (i : Int) (as' : List Bool) : Option (As [.ar 256 .bool, .bool]) :=
  loopF (fun (self : (List UInt8) × (Int) × (List Bool) -> Option (As [.ar 256 .bool, .bool])) (s : (List UInt8) × (Int) × (List Bool)) => strings_makeASCIISet_m1 (q6d_) (fun chars i as' => self (chars, i, as')) s.1 s.2.1 s.2.2) 18446744073709551616 (chars, i, as')
def q2v_ (x : As [.str]) : Option (As [.ar 256 .bool, .bool]) := strings_makeASCIISet_m0 q6e_ x.1
theorem strings_makeASCIISet_c2  (J as') : pfn Tryz.prog q1u_ 6 18446744073709551616 (Ev.get q1v_) 134 strings_makeASCIISet_s J 3 [] (q4m_ as') = strings_makeASCIISet_m2 as' := by kernel_rfl
theorem strings_makeASCIISet_c1  (J w1 chars i as') : pfn Tryz.prog q1u_ 6 18446744073709551616 (Ev.get q1v_) 134 strings_makeASCIISet_s J 26 [w1] (q2q_ chars i as') = strings_makeASCIISet_m1 (fun as' => J 3 [] (q4m_ as')) (fun chars i as' => w1 (q2q_ chars i as')) chars i as' := by kernel_rfl
theorem strings_makeASCIISet_c0 (J : Orc (As [.ar 256 .bool, .bool])) (x : As [.str]) : rfn Tryz.prog q1u_ 6 18446744073709551616 (Ev.get q1v_) 134 strings_makeASCIISet_s J x = strings_makeASCIISet_m0 (fun chars i as' => J 26 [] (q2q_ chars i as')) x.1 := by kernel_rfl
theorem strings_makeASCIISet_g2  (as') : jfn Tryz.prog q1u_ 6 18446744073709551616 (Ev.get q1v_) 134 strings_makeASCIISet_s 3 [] (q4m_ as') = q6d_ as' := by
  rw [q4_ (by decide)]
  rw [strings_makeASCIISet_c2]
  rfl
theorem strings_makeASCIISet_g1  (chars i as') : jfn Tryz.prog q1u_ 6 18446744073709551616 (Ev.get q1v_) 134 strings_makeASCIISet_s 26 [] (q2q_ chars i as') = q6e_ chars i as' := by
  rw [q4_ (by decide)]
  rw [q16_ (by kernel_rfl)]
  refine qk_ (σ := (List UInt8) × (Int) × (List Bool)) (mk := fun s => q2q_ s.1 s.2.1 s.2.2) (fun w1 s => ?_) 18446744073709551616 (chars, i, as')
  have e2 : (fun as' => (jfn Tryz.prog q1u_ 6 18446744073709551616 (Ev.get q1v_) 134 strings_makeASCIISet_s) 3 [] (q4m_ as')) = q6d_ := funext fun as' => strings_makeASCIISet_g2 as'
  refine (strings_makeASCIISet_c1 _ w1 s.1 s.2.1 s.2.2).trans ?_
  rw [e2]
theorem strings_makeASCIISet_t (x : As [.str]) : evT Tryz.prog q1u_ 6 18446744073709551616 (Ev.get q1v_) 134 strings_makeASCIISet_s x = q2v_ x := by
  have e1 : (fun chars i as' => (jfn Tryz.prog q1u_ 6 18446744073709551616 (Ev.get q1v_) 134 strings_makeASCIISet_s) 26 [] (q2q_ chars i as')) = q6e_ := by funext chars i as'; exact strings_makeASCIISet_g1 chars i as'
  rw [q27_, strings_makeASCIISet_c0, e1]
  rfl
theorem strings_makeASCIISet_ok : CtOk Tryz.prog I0 134 ⟨strings_makeASCIISet_s, q2v_⟩ := qx_ q7_ strings_makeASCIISet_t
@[reducible] def istringslite_HasPrefix_s : Sh := ⟨[.d (.str), .d (.str)], [], [.str, .str], [.d (.bool)], [], 0, [.bool]⟩
def istringslite_HasPrefix_m0 (s prefixV : List UInt8) : Option (As [.bool]) :=
  if ge (Int.ofNat (List.length s)) (Int.ofNat (List.length prefixV)) = true then Option.bind (cut s 0 (Int.ofNat (List.length prefixV))) fun (y : List UInt8) => some (eqs y prefixV, ()) else some (false, ())
def q3v_ (x : As [.str, .str]) : Option (As [.bool]) := istringslite_HasPrefix_m0 x.1 x.2.1
theorem q8s_ : CtOk Tryz.prog I0 87 ⟨istringslite_HasPrefix_s, q3v_⟩ := ctn q7_ 6 fun J x => by kernel_rfl
@[reducible] def istringslite_CutPrefix_s : Sh := ⟨[.d (.str), .d (.str)], [], [.str, .str], [.d (.str), .d (.bool)], [], 0, [.str, .bool]⟩
def istringslite_CutPrefix_m0 (s prefixV : List UInt8) : Option (As [.str, .bool]) :=
  Option.bind (q3v_ (s, prefixV, ())) fun (y : Bool × Unit) => if (!y.1) = true then some (s, false, ()) else Option.bind (cut s (Int.ofNat (List.length prefixV)) (Int.ofNat (List.length s))) fun (y : List UInt8) => some (y, true, ())
def q50_ (x : As [.str, .str]) : Option (As [.str, .bool]) := istringslite_CutPrefix_m0 x.1 x.2.1
theorem istringslite_CutPrefix_ok : CtOk Tryz.prog I0 176 ⟨istringslite_CutPrefix_s, q50_⟩ := ctn (q0_ q8s_ q7_) 6 fun J x => by kernel_rfl
@[reducible] def strings_CutPrefix_s : Sh := ⟨[.d (.str), .d (.str)], [], [.str, .str], [.d (.str), .d (.bool)], [], 0, [.str, .bool]⟩
def strings_CutPrefix_m0 (s prefixV : List UInt8) : Option (As [.str, .bool]) :=
  Option.bind (q50_ (s, prefixV, ())) fun (y : List UInt8 × Bool × Unit) => some (y.1, y.2.1, ())
def q78_ (x : As [.str, .str]) : Option (As [.str, .bool]) := strings_CutPrefix_m0 x.1 x.2.1
theorem strings_CutPrefix_ok : CtOk Tryz.prog I0 154 ⟨strings_CutPrefix_s, q78_⟩ := ctn (q0_ istringslite_CutPrefix_ok q7_) 6 fun J x => by kernel_rfl
@[reducible] def q1a_ : Sh := ⟨[.d (.str)], [], [.str], [.d (.bool)], [], 0, [.bool]⟩
def q1q_ : Env := (cts [])
def q1p_ : List (Nat × Hint) := [(3, ⟨[], [0]⟩), (26, ⟨[], [0, 5, 6, 14, 15, 16, 17]⟩), (1689, ⟨[.agd 14 .str, .agd 15 (.int .i64), .agd 16 (.int .u8), .agd 17 .bool], [0, 5, 6, 18]⟩)]
def q2g_ (s : List UInt8) (t5 t6 : Int) : St := { fr := [(0, .d .str s), (5, .d (.int .i64) t5), (6, .d (.int .i64) t6)], nt := 22, up := [], own := [], nx := 0, log := [], ln := 0 }
def q6m_ (s : List UInt8) (t5 t6 : Int) (t18 : Bool) : St := { fr := [(0, .d .str s), (5, .d (.int .i64) t5), (6, .d (.int .i64) t6), (18, .d .bool t18)], nt := 22, up := [], own := [], nx := 0, log := [], ln := 0 }
def q6p_ (s : List UInt8) : St := { fr := [(0, .d .str s)], nt := 22, up := [], own := [], nx := 0, log := [], ln := 0 }
def q6r_ (j2 : List UInt8 -> Int -> Int -> Bool -> Option (As [.bool])) (j3 : List UInt8 -> Option (As [.bool])) (self1 : List UInt8 -> Int -> Int -> Option (As [.bool])) (s : List UInt8) (t5 t6 : Int) : Option (As [.bool]) :=
  if lt t6 t5 = true then Option.bind (at? s t6) fun (c : UInt8) => if lt (Int.ofNat (UInt8.toNat c)) 48 = true then j2 s t5 t6 true else Option.bind (at? s t6) fun (c : UInt8) => j2 s t5 t6 (gt (Int.ofNat (UInt8.toNat c)) 57) else j3 s
def q6o_ (self1 : List UInt8 -> Int -> Int -> Option (As [.bool])) (s : List UInt8) (t5 t6 : Int) (t18 : Bool) : Option (As [.bool]) :=
  if t18 = true then some (false, ()) else self1 s t5 (add .i64 t6 1)
def q93_ (s : List UInt8) : Option (As [.bool]) :=
  some (nes s [], ())
def qbh_ (j1 : List UInt8 -> Int -> Int -> Option (As [.bool])) (s : List UInt8) : Option (As [.bool]) :=
  j1 s (Int.ofNat (List.length s)) 0
def q2n_ (u1 : List UInt8 -> Int -> Int -> Option (As [.bool])) (s : List UInt8) (t5 t6 : Int) (t18 : Bool) : Option (As [.bool]) := q6o_ u1 s t5 t6 t18
def q52_ (s : List UInt8) : Option (As [.bool]) := q93_ s
def q8y_ (s : List UInt8) (t5 t6 : Int) : Option (As [.bool]) :=
  loopF (fun (self : (List UInt8) × (Int) × (Int) -> Option (As [.bool])) (s : (List UInt8) × (Int) × (Int)) => q6r_ (q2n_ (fun s t5 t6 => self (s, t5, t6))) (q52_) (fun s t5 t6 => self (s, t5, t6)) s.1 s.2.1 s.2.2) 18446744073709551616 (s, t5, t6)
def q20_ (x : As [.str]) : Option (As [.bool]) := qbh_ q8y_ x.1
theorem qes_  (J w1 s t5 t6 t18) : pfn Tryz.prog q1q_ 6 18446744073709551616 (Ev.get q1p_) 155 q1a_ J 1689 [w1] (q6m_ s t5 t6 t18) = q6o_ (fun s t5 t6 => w1 (q2g_ s t5 t6)) s t5 t6 t18 := by kernel_rfl
theorem qey_  (J s) : pfn Tryz.prog q1q_ 6 18446744073709551616 (Ev.get q1p_) 155 q1a_ J 3 [] (q6p_ s) = q93_ s := by kernel_rfl
theorem qex_  (J w1 s t5 t6) : pfn Tryz.prog q1q_ 6 18446744073709551616 (Ev.get q1p_) 155 q1a_ J 26 [w1] (q2g_ s t5 t6) = q6r_ (fun s t5 t6 t18 => J 1689 [w1] (q6m_ s t5 t6 t18)) (fun s => J 3 [] (q6p_ s)) (fun s t5 t6 => w1 (q2g_ s t5 t6)) s t5 t6 := by kernel_rfl
theorem qep_ (J : Orc (As [.bool])) (x : As [.str]) : rfn Tryz.prog q1q_ 6 18446744073709551616 (Ev.get q1p_) 155 q1a_ J x = qbh_ (fun s t5 t6 => J 26 [] (q2g_ s t5 t6)) x.1 := by kernel_rfl
theorem qeq_  (w1 s t5 t6 t18) : jfn Tryz.prog q1q_ 6 18446744073709551616 (Ev.get q1p_) 155 q1a_ 1689 [w1] (q6m_ s t5 t6 t18) = q2n_ (fun s t5 t6 => w1 (q2g_ s t5 t6)) s t5 t6 t18 := by
  rw [q4_ (by decide)]
  rw [qes_]
  rfl
theorem qev_  (s) : jfn Tryz.prog q1q_ 6 18446744073709551616 (Ev.get q1p_) 155 q1a_ 3 [] (q6p_ s) = q52_ s := by
  rw [q4_ (by decide)]
  rw [qey_]
  rfl
theorem qer_  (s t5 t6) : jfn Tryz.prog q1q_ 6 18446744073709551616 (Ev.get q1p_) 155 q1a_ 26 [] (q2g_ s t5 t6) = q8y_ s t5 t6 := by
  rw [q4_ (by decide)]
  rw [q16_ (by kernel_rfl)]
  refine qk_ (σ := (List UInt8) × (Int) × (Int)) (mk := fun s => q2g_ s.1 s.2.1 s.2.2) (fun w1 s => ?_) 18446744073709551616 (s, t5, t6)
  have e2 : (fun s t5 t6 t18 => (jfn Tryz.prog q1q_ 6 18446744073709551616 (Ev.get q1p_) 155 q1a_) 1689 [w1] (q6m_ s t5 t6 t18)) = q2n_ (fun s t5 t6 => w1 (q2g_ s t5 t6)) := by funext s t5 t6 t18; exact qeq_ w1 s t5 t6 t18
  have e3 : (fun s => (jfn Tryz.prog q1q_ 6 18446744073709551616 (Ev.get q1p_) 155 q1a_) 3 [] (q6p_ s)) = q52_ := funext fun s => qev_ s
  refine (qex_ _ w1 s.1 s.2.1 s.2.2).trans ?_
  rw [e2, e3]
theorem qf7_ (x : As [.str]) : evT Tryz.prog q1q_ 6 18446744073709551616 (Ev.get q1p_) 155 q1a_ x = q20_ x := by
  have e1 : (fun s t5 t6 => (jfn Tryz.prog q1q_ 6 18446744073709551616 (Ev.get q1p_) 155 q1a_) 26 [] (q2g_ s t5 t6)) = q8y_ := by funext s t5 t6; exact qer_ s t5 t6
  rw [q27_, qep_, e1]
  rfl
theorem qet_ : CtOk Tryz.prog I0 155 ⟨q1a_, q20_⟩ := qx_ q7_ qf7_
@[reducible] def strings_trimRightByte_s : Sh := ⟨[.d (.str), .d (.int .u8)], [], [.str, .int .u8], [.d (.str)], [], 0, [.str]⟩
def q1n_ : Env := (cts [])
def q1o_ : List (Nat × Hint) := [(12, ⟨[], [0, 1, 9, 10, 11, 12, 13, 14, 15]⟩), (48, ⟨[.agd 9 .str, .agd 10 .str, .agd 11 (.int .i64), .agd 12 (.int .i64), .agd 13 (.int .u8), .agd 14 (.int .u8), .agd 15 .bool], [0, 1, 16]⟩)]
def q19_ (s : List UInt8) (c : Int) : St := { fr := [(0, .d .str s), (1, .d (.int .u8) c)], nt := 23, up := [], own := [], nx := 0, log := [], ln := 0 }
def q4f_ (s : List UInt8) (c : Int) (t16 : Bool) : St := { fr := [(0, .d .str s), (1, .d (.int .u8) c), (16, .d .bool t16)], nt := 23, up := [], own := [], nx := 0, log := [], ln := 0 }
def q4g_ (j2 : List UInt8 -> Int -> Bool -> Option (As [.str])) (self1 : List UInt8 -> Int -> Option (As [.str])) (s : List UInt8) (c : Int) : Option (As [.str]) :=
  if gt (Int.ofNat (List.length s)) 0 = true then Option.bind (at? s (Sx.sub .i64 (Int.ofNat (List.length s)) 1)) fun (c_1 : UInt8) => j2 s c (eqi (Int.ofNat (UInt8.toNat c_1)) c) else j2 s c false
def q62_ (self1 : List UInt8 -> Int -> Option (As [.str])) (s : List UInt8) (c : Int) (t16 : Bool) : Option (As [.str]) :=
  if t16 = true then Option.bind (cut s 0 (Sx.sub .i64 (Int.ofNat (List.length s)) 1)) fun (y : List UInt8) => self1 y c else some (s, ())
def strings_trimRightByte_m0 (j1 : List UInt8 -> Int -> Option (As [.str])) (s : List UInt8) (c : Int) : Option (As [.str]) :=
  j1 s c
def q3g_ (u1 : List UInt8 -> Int -> Option (As [.str])) (s : List UInt8) (c : Int) (t16 : Bool) : Option (As [.str]) := q62_ u1 s c t16
def q63_ (s : List UInt8) (c : Int) : Option (As [.str]) :=
  loopF (fun (self : (List UInt8) × (Int) -> Option (As [.str])) (s : (List UInt8) × (Int)) => q4g_ (q3g_ (fun s c => self (s, c))) (fun s c => self (s, c)) s.1 s.2) 18446744073709551616 (s, c)
def q43_ (x : As [.str, .int .u8]) : Option (As [.str]) := strings_trimRightByte_m0 q63_ x.1 x.2.1
theorem strings_trimRightByte_c2  (J w1 s c t16) : pfn Tryz.prog q1n_ 6 18446744073709551616 (Ev.get q1o_) 177 strings_trimRightByte_s J 48 [w1] (q4f_ s c t16) = q62_ (fun s c => w1 (q19_ s c)) s c t16 := by kernel_rfl
theorem strings_trimRightByte_c1  (J w1 s c) : pfn Tryz.prog q1n_ 6 18446744073709551616 (Ev.get q1o_) 177 strings_trimRightByte_s J 12 [w1] (q19_ s c) = q4g_ (fun s c t16 => J 48 [w1] (q4f_ s c t16)) (fun s c => w1 (q19_ s c)) s c := by kernel_rfl
theorem strings_trimRightByte_c0 (J : Orc (As [.str])) (x : As [.str, .int .u8]) : rfn Tryz.prog q1n_ 6 18446744073709551616 (Ev.get q1o_) 177 strings_trimRightByte_s J x = strings_trimRightByte_m0 (fun s c => J 12 [] (q19_ s c)) x.1 x.2.1 := by kernel_rfl
theorem strings_trimRightByte_g2  (w1 s c t16) : jfn Tryz.prog q1n_ 6 18446744073709551616 (Ev.get q1o_) 177 strings_trimRightByte_s 48 [w1] (q4f_ s c t16) = q3g_ (fun s c => w1 (q19_ s c)) s c t16 := by
  rw [q4_ (by decide)]
  rw [strings_trimRightByte_c2]
  rfl
theorem strings_trimRightByte_g1  (s c) : jfn Tryz.prog q1n_ 6 18446744073709551616 (Ev.get q1o_) 177 strings_trimRightByte_s 12 [] (q19_ s c) = q63_ s c := by
  rw [q4_ (by decide)]
  rw [q16_ (by kernel_rfl)]
  refine qk_ (σ := (List UInt8) × (Int)) (mk := fun s => q19_ s.1 s.2) (fun w1 s => ?_) 18446744073709551616 (s, c)
  have e2 : (fun s c t16 => (jfn Tryz.prog q1n_ 6 18446744073709551616 (Ev.get q1o_) 177 strings_trimRightByte_s) 48 [w1] (q4f_ s c t16)) = q3g_ (fun s c => w1 (q19_ s c)) := by funext s c t16; exact strings_trimRightByte_g2 w1 s c t16
  refine (strings_trimRightByte_c1 _ w1 s.1 s.2).trans ?_
  rw [e2]
theorem strings_trimRightByte_t (x : As [.str, .int .u8]) : evT Tryz.prog q1n_ 6 18446744073709551616 (Ev.get q1o_) 177 strings_trimRightByte_s x = q43_ x := by
  have e1 : (fun s c => (jfn Tryz.prog q1n_ 6 18446744073709551616 (Ev.get q1o_) 177 strings_trimRightByte_s) 12 [] (q19_ s c)) = q63_ := by funext s c; exact strings_trimRightByte_g1 s c
  rw [q27_, strings_trimRightByte_c0, e1]
  rfl
theorem strings_trimRightByte_ok : CtOk Tryz.prog I0 177 ⟨strings_trimRightByte_s, q43_⟩ := qx_ q7_ strings_trimRightByte_t
@[reducible] def ql_ : Sh := ⟨[.d (.str)], [], [.str], [.d (.pr (.int .i64) (.int .u8)), .d (.bool)], [], 0, [.pr (.int .i64) (.int .u8), .bool]⟩
def qs_ : Env := (cts [(134, (⟨strings_makeASCIISet_s, q2v_⟩ : Ct)), (154, (⟨strings_CutPrefix_s, q78_⟩ : Ct)), (155, (⟨q1a_, q20_⟩ : Ct)), (177, (⟨strings_trimRightByte_s, q43_⟩ : Ct))])
def qt_ : List (Nat × Hint) := [(255, ⟨[], [2, 5, 7, 9]⟩), (511, ⟨[], [2, 7, 9]⟩), (2042, ⟨[], [2, 5, 7, 9, 54, 55]⟩), (522854, ⟨[], [2, 5, 7, 9, 11, 54, 55, 59, 60]⟩), (62, ⟨[], [2, 5, 6, 7, 48]⟩), (30, ⟨[], [2, 5, 6, 7, 8, 36, 40, 41, 42, 43, 44, 45, 46, 47]⟩)]
def q9h_ (negative : Bool) (whole rest : List UInt8) (point t36 : Bool) (t2 t2_2 : Int) : St := { fr := [(2, .pb 0 0), (5, .d .bool negative), (6, .d .str whole), (7, .d .str rest), (8, .d .bool point), (36, .d .bool t36)], nt := 84, up := [], own := [(0, .box 45 [.d (.int .i64) t2, .d (.int .u8) t2_2])], nx := 1, log := [], ln := 0 }
def q9b_ (negative : Bool) (whole rest : List UInt8) (t48 : Bool) (t2 t2_2 : Int) : St := { fr := [(2, .pb 0 0), (5, .d .bool negative), (6, .d .str whole), (7, .d .str rest), (48, .d .bool t48)], nt := 84, up := [], own := [(0, .box 45 [.d (.int .i64) t2, .d (.int .u8) t2_2])], nx := 1, log := [], ln := 0 }
def q3n_ (negative : Bool) (rest : List UInt8) (n : Int) (t54 t54_2 : List UInt8) (t55 t2 t2_2 : Int) : St := { fr := [(2, .pb 0 0), (5, .d .bool negative), (7, .d .str rest), (9, .d (.int .i64) n), (54, .agg [.d .str t54, .d .str t54_2]), (55, .d (.int .i64) t55)], nt := 84, up := [], own := [(0, .box 45 [.d (.int .i64) t2, .d (.int .u8) t2_2])], nx := 1, log := [], ln := 0 }
def q5p_ (negative : Bool) (rest : List UInt8) (n : Int) (part t54 t54_2 : List UInt8) (t55 t59 t60 t2 t2_2 : Int) : St := { fr := [(2, .pb 0 0), (5, .d .bool negative), (7, .d .str rest), (9, .d (.int .i64) n), (11, .d .str part), (54, .agg [.d .str t54, .d .str t54_2]), (55, .d (.int .i64) t55), (59, .d (.int .i64) t59), (60, .d (.int .i64) t60)], nt := 84, up := [], own := [(0, .box 45 [.d (.int .i64) t2, .d (.int .u8) t2_2])], nx := 1, log := [], ln := 0 }
def q9j_ (negative : Bool) (rest : List UInt8) (n t2 t2_2 : Int) : St := { fr := [(2, .pb 0 0), (5, .d .bool negative), (7, .d .str rest), (9, .d (.int .i64) n)], nt := 84, up := [], own := [(0, .box 45 [.d (.int .i64) t2, .d (.int .u8) t2_2])], nx := 1, log := [], ln := 0 }
def q97_ (rest : List UInt8) (n t2 t2_2 : Int) : St := { fr := [(2, .pb 0 0), (7, .d .str rest), (9, .d (.int .i64) n)], nt := 84, up := [], own := [(0, .box 45 [.d (.int .i64) t2, .d (.int .u8) t2_2])], nx := 1, log := [], ln := 0 }
def qb3_ (j2 : Bool -> List UInt8 -> List UInt8 -> Bool -> Int -> Int -> Option (As [.pr (.int .i64) (.int .u8), .bool])) (negative : Bool) (whole rest : List UInt8) (point t36 : Bool) (t2 t2_2 : Int) : Option (As [.pr (.int .i64) (.int .u8), .bool]) :=
  if t36 = true then some ((0, 0), false, ()) else if point = true then Option.bind (q20_ (rest, ())) fun (y : Bool × Unit) => if (!y.1) = true then j2 negative whole rest true t2 t2_2 else j2 negative whole rest (gt (Int.ofNat (List.length rest)) 6) t2 t2_2 else j2 negative whole rest false t2 t2_2
def qb0_ (j3 : Bool -> List UInt8 -> Int -> List UInt8 -> List UInt8 -> Int -> Int -> Int -> Option (As [.pr (.int .i64) (.int .u8), .bool])) (negative : Bool) (whole rest : List UInt8) (t48 : Bool) (t2 t2_2 : Int) : Option (As [.pr (.int .i64) (.int .u8), .bool]) :=
  if t48 = true then some ((0, 0), false, ()) else if eqs rest [] = true then j3 negative rest 0 whole rest 0 t2 t2_2 else Option.bind (q43_ (rest, 48, ())) fun (y : List UInt8 × Unit) => j3 negative y.1 0 whole y.1 0 t2 t2_2
def q7k_ (j4 : Bool -> List UInt8 -> Int -> List UInt8 -> List UInt8 -> List UInt8 -> Int -> Int -> Int -> Int -> Int -> Option (As [.pr (.int .i64) (.int .u8), .bool])) (j5 : Bool -> List UInt8 -> Int -> Int -> Int -> Option (As [.pr (.int .i64) (.int .u8), .bool])) (self3 : Bool -> List UInt8 -> Int -> List UInt8 -> List UInt8 -> Int -> Int -> Int -> Option (As [.pr (.int .i64) (.int .u8), .bool])) (negative : Bool) (rest : List UInt8) (n : Int) (t54 t54_2 : List UInt8) (t55 t2 t2_2 : Int) : Option (As [.pr (.int .i64) (.int .u8), .bool]) :=
  if lt t55 2 = true then if eqi t55 1 = true then j4 negative rest n t54_2 t54 t54_2 t55 (Int.ofNat (List.length t54_2)) 0 t2 t2_2 else if eqi t55 0 = true then j4 negative rest n t54 t54 t54_2 t55 (Int.ofNat (List.length t54)) 0 t2 t2_2 else Option.none else j5 negative rest n t2 t2_2
def q9m_ (self3 : Bool -> List UInt8 -> Int -> List UInt8 -> List UInt8 -> Int -> Int -> Int -> Option (As [.pr (.int .i64) (.int .u8), .bool])) (self4 : Bool -> List UInt8 -> Int -> List UInt8 -> List UInt8 -> List UInt8 -> Int -> Int -> Int -> Int -> Int -> Option (As [.pr (.int .i64) (.int .u8), .bool])) (negative : Bool) (rest : List UInt8) (n : Int) (part t54 t54_2 : List UInt8) (t55 t59 t60 t2 t2_2 : Int) : Option (As [.pr (.int .i64) (.int .u8), .bool]) :=
  if lt t60 t59 = true then Option.bind (at? part t60) fun (c : UInt8) => if gt (add .i64 (mul .i64 10 n) (cvt .i64 (Sx.sub .u8 (Int.ofNat (UInt8.toNat c)) 48))) 1000000000000 = true then some ((0, 0), false, ()) else self4 negative rest (add .i64 (mul .i64 10 n) (cvt .i64 (Sx.sub .u8 (Int.ofNat (UInt8.toNat c)) 48))) part t54 t54_2 t55 t59 (add .i64 t60 1) t2 t2_2 else self3 negative rest n t54 t54_2 (add .i64 t55 1) t2 t2_2
def qb6_ (j6 : List UInt8 -> Int -> Int -> Int -> Option (As [.pr (.int .i64) (.int .u8), .bool])) (negative : Bool) (rest : List UInt8) (n t2 t2_2 : Int) : Option (As [.pr (.int .i64) (.int .u8), .bool]) :=
  if negative = true then j6 rest (Sx.neg .i64 n) t2 t2_2 else j6 rest n t2 t2_2
def qb9_ (rest : List UInt8) (n t2 t2_2 : Int) : Option (As [.pr (.int .i64) (.int .u8), .bool]) :=
  some ((n, cvt .u8 (Int.ofNat (List.length rest))), true, ())
def q94_ (j1 : Bool -> List UInt8 -> List UInt8 -> Bool -> Bool -> Int -> Int -> Option (As [.pr (.int .i64) (.int .u8), .bool])) (s : List UInt8) : Option (As [.pr (.int .i64) (.int .u8), .bool]) :=
  Option.bind (q78_ (s, [45], ())) fun (y : List UInt8 × Bool × Unit) => if eqs [46] y.1 = true then Option.bind (cut y.1 1 (Int.ofNat (List.length y.1))) fun (y_1 : List UInt8) => Option.bind (q20_ ([], ())) fun (y_2 : Bool × Unit) => if (!y_2.1) = true then j1 y.2.1 [] y_1 true true 0 0 else j1 y.2.1 [] y_1 true false 0 0 else if ge (Go.Lib.indexByte y.1 46) 0 = true then Option.bind (cut y.1 0 (Go.Lib.indexByte y.1 46)) fun (y_1 : List UInt8) => Option.bind (cut y.1 (add .i64 (Go.Lib.indexByte y.1 46) 1) (Int.ofNat (List.length y.1))) fun (y_2 : List UInt8) => Option.bind (q20_ (y_1, ())) fun (y_3 : Bool × Unit) => if (!y_3.1) = true then j1 y.2.1 y_1 y_2 true true 0 0 else if gt (Int.ofNat (List.length y_1)) 1 = true then Option.bind (at? y_1 0) fun (c : UInt8) => j1 y.2.1 y_1 y_2 true (eqi (Int.ofNat (UInt8.toNat c)) 48) 0 0 else j1 y.2.1 y_1 y_2 true false 0 0 else Option.bind (q20_ (y.1, ())) fun (y_1 : Bool × Unit) => if (!y_1.1) = true then j1 y.2.1 y.1 [] false true 0 0 else if gt (Int.ofNat (List.length y.1)) 1 = true then Option.bind (at? y.1 0) fun (c : UInt8) => j1 y.2.1 y.1 [] false (eqi (Int.ofNat (UInt8.toNat c)) 48) 0 0 else j1 y.2.1 y.1 [] false false 0 0
def q3j_ (u3 : Bool -> List UInt8 -> Int -> List UInt8 -> List UInt8 -> Int -> Int -> Int -> Option (As [.pr (.int .i64) (.int .u8), .bool])) (negative : Bool) (rest : List UInt8) (n : Int) (part t54 t54_2 : List UInt8) (t55 t59 t60 t2 t2_2 : Int) : Option (As [.pr (.int .i64) (.int .u8), .bool]) :=
  loopF (fun (self : (Bool) × (List UInt8) × (Int) × (List UInt8) × (List UInt8) × (List UInt8) × (Int) × (Int) × (Int) × (Int) × (Int) -> Option (As [.pr (.int .i64) (.int .u8), .bool])) (s : (Bool) × (List UInt8) × (Int) × (List UInt8) × (List UInt8) × (List UInt8) × (Int) × (Int) × (Int) × (Int) × (Int)) => q9m_ u3 (fun negative rest n part t54 t54_2 t55 t59 t60 t2 t2_2 => self (negative, rest, n, part, t54, t54_2, t55, t59, t60, t2, t2_2)) s.1 s.2.1 s.2.2.1 s.2.2.2.1 s.2.2.2.2.1 s.2.2.2.2.2.1 s.2.2.2.2.2.2.1 s.2.2.2.2.2.2.2.1 s.2.2.2.2.2.2.2.2.1 s.2.2.2.2.2.2.2.2.2.1 s.2.2.2.2.2.2.2.2.2.2) 18446744073709551616 (negative, rest, n, part, t54, t54_2, t55, t59, t60, t2, t2_2)
def q9g_ (rest : List UInt8) (n t2 t2_2 : Int) : Option (As [.pr (.int .i64) (.int .u8), .bool]) := qb9_ rest n t2 t2_2
def q40_ (negative : Bool) (rest : List UInt8) (n t2 t2_2 : Int) : Option (As [.pr (.int .i64) (.int .u8), .bool]) := qb6_ (q9g_) negative rest n t2 t2_2
def q7n_ (negative : Bool) (rest : List UInt8) (n : Int) (t54 t54_2 : List UInt8) (t55 t2 t2_2 : Int) : Option (As [.pr (.int .i64) (.int .u8), .bool]) :=
  loopF (fun (self : (Bool) × (List UInt8) × (Int) × (List UInt8) × (List UInt8) × (Int) × (Int) × (Int) -> Option (As [.pr (.int .i64) (.int .u8), .bool])) (s : (Bool) × (List UInt8) × (Int) × (List UInt8) × (List UInt8) × (Int) × (Int) × (Int)) => q7k_ (q3j_ (fun negative rest n t54 t54_2 t55 t2 t2_2 => self (negative, rest, n, t54, t54_2, t55, t2, t2_2))) (q40_) (fun negative rest n t54 t54_2 t55 t2 t2_2 => self (negative, rest, n, t54, t54_2, t55, t2, t2_2)) s.1 s.2.1 s.2.2.1 s.2.2.2.1 s.2.2.2.2.1 s.2.2.2.2.2.1 s.2.2.2.2.2.2.1 s.2.2.2.2.2.2.2) 18446744073709551616 (negative, rest, n, t54, t54_2, t55, t2, t2_2)
def q7l_ (negative : Bool) (whole rest : List UInt8) (t48 : Bool) (t2 t2_2 : Int) : Option (As [.pr (.int .i64) (.int .u8), .bool]) := qb0_ (q7n_) negative whole rest t48 t2 t2_2
def q11_ (negative : Bool) (whole rest : List UInt8) (point t36 : Bool) (t2 t2_2 : Int) : Option (As [.pr (.int .i64) (.int .u8), .bool]) := qb3_ (q7l_) negative whole rest point t36 t2 t2_2
def qbe_ (x : As [.str]) : Option (As [.pr (.int .i64) (.int .u8), .bool]) := q94_ q11_ x.1
theorem qhq_  (J w3 w4 negative rest n part t54 t54_2 t55 t59 t60 t2 t2_2) : pfn Tryz.prog qs_ 6 18446744073709551616 (Ev.get qt_) 132 ql_ J 522854 [w3, w4] (q5p_ negative rest n part t54 t54_2 t55 t59 t60 t2 t2_2) = q9m_ (fun negative rest n t54 t54_2 t55 t2 t2_2 => w3 (q3n_ negative rest n t54 t54_2 t55 t2 t2_2)) (fun negative rest n part t54 t54_2 t55 t59 t60 t2 t2_2 => w4 (q5p_ negative rest n part t54 t54_2 t55 t59 t60 t2 t2_2)) negative rest n part t54 t54_2 t55 t59 t60 t2 t2_2 := by kernel_rfl
theorem qhz_  (J rest n t2 t2_2) : pfn Tryz.prog qs_ 6 18446744073709551616 (Ev.get qt_) 132 ql_ J 511 [] (q97_ rest n t2 t2_2) = qb9_ rest n t2 t2_2 := by kernel_rfl
theorem qi8_  (J negative rest n t2 t2_2) : pfn Tryz.prog qs_ 6 18446744073709551616 (Ev.get qt_) 132 ql_ J 255 [] (q9j_ negative rest n t2 t2_2) = qb6_ (fun rest n t2 t2_2 => J 511 [] (q97_ rest n t2 t2_2)) negative rest n t2 t2_2 := by kernel_rfl
theorem qk2_  (J w3 negative rest n t54 t54_2 t55 t2 t2_2) : pfn Tryz.prog qs_ 6 18446744073709551616 (Ev.get qt_) 132 ql_ J 2042 [w3] (q3n_ negative rest n t54 t54_2 t55 t2 t2_2) = q7k_ (fun negative rest n part t54 t54_2 t55 t59 t60 t2 t2_2 => J 522854 [w3] (q5p_ negative rest n part t54 t54_2 t55 t59 t60 t2 t2_2)) (fun negative rest n t2 t2_2 => J 255 [] (q9j_ negative rest n t2 t2_2)) (fun negative rest n t54 t54_2 t55 t2 t2_2 => w3 (q3n_ negative rest n t54 t54_2 t55 t2 t2_2)) negative rest n t54 t54_2 t55 t2 t2_2 := by kernel_rfl
theorem qj0_  (J negative whole rest t48 t2 t2_2) : pfn Tryz.prog qs_ 6 18446744073709551616 (Ev.get qt_) 132 ql_ J 62 [] (q9b_ negative whole rest t48 t2 t2_2) = qb0_ (fun negative rest n t54 t54_2 t55 t2 t2_2 => J 2042 [] (q3n_ negative rest n t54 t54_2 t55 t2 t2_2)) negative whole rest t48 t2 t2_2 := by kernel_rfl
theorem qjv_  (J negative whole rest point t36 t2 t2_2) : pfn Tryz.prog qs_ 6 18446744073709551616 (Ev.get qt_) 132 ql_ J 30 [] (q9h_ negative whole rest point t36 t2 t2_2) = qb3_ (fun negative whole rest t48 t2 t2_2 => J 62 [] (q9b_ negative whole rest t48 t2 t2_2)) negative whole rest point t36 t2 t2_2 := by kernel_rfl
theorem qiz_ (J : Orc (As [.pr (.int .i64) (.int .u8), .bool])) (x : As [.str]) : rfn Tryz.prog qs_ 6 18446744073709551616 (Ev.get qt_) 132 ql_ J x = q94_ (fun negative whole rest point t36 t2 t2_2 => J 30 [] (q9h_ negative whole rest point t36 t2 t2_2)) x.1 := by kernel_rfl
theorem qis_  (w3 negative rest n part t54 t54_2 t55 t59 t60 t2 t2_2) : jfn Tryz.prog qs_ 6 18446744073709551616 (Ev.get qt_) 132 ql_ 522854 [w3] (q5p_ negative rest n part t54 t54_2 t55 t59 t60 t2 t2_2) = q3j_ (fun negative rest n t54 t54_2 t55 t2 t2_2 => w3 (q3n_ negative rest n t54 t54_2 t55 t2 t2_2)) negative rest n part t54 t54_2 t55 t59 t60 t2 t2_2 := by
  rw [q4_ (by decide)]
  rw [q16_ (by kernel_rfl)]
  refine qk_ (σ := (Bool) × (List UInt8) × (Int) × (List UInt8) × (List UInt8) × (List UInt8) × (Int) × (Int) × (Int) × (Int) × (Int)) (mk := fun s => q5p_ s.1 s.2.1 s.2.2.1 s.2.2.2.1 s.2.2.2.2.1 s.2.2.2.2.2.1 s.2.2.2.2.2.2.1 s.2.2.2.2.2.2.2.1 s.2.2.2.2.2.2.2.2.1 s.2.2.2.2.2.2.2.2.2.1 s.2.2.2.2.2.2.2.2.2.2) (fun w4 s => ?_) 18446744073709551616 (negative, rest, n, part, t54, t54_2, t55, t59, t60, t2, t2_2)
  refine (qhq_ _ w3 w4 s.1 s.2.1 s.2.2.1 s.2.2.2.1 s.2.2.2.2.1 s.2.2.2.2.2.1 s.2.2.2.2.2.2.1 s.2.2.2.2.2.2.2.1 s.2.2.2.2.2.2.2.2.1 s.2.2.2.2.2.2.2.2.2.1 s.2.2.2.2.2.2.2.2.2.2).trans ?_
  rfl
theorem qi2_  (rest n t2 t2_2) : jfn Tryz.prog qs_ 6 18446744073709551616 (Ev.get qt_) 132 ql_ 511 [] (q97_ rest n t2 t2_2) = q9g_ rest n t2 t2_2 := by
  rw [q4_ (by decide)]
  rw [qhz_]
  rfl
theorem qj6_  (negative rest n t2 t2_2) : jfn Tryz.prog qs_ 6 18446744073709551616 (Ev.get qt_) 132 ql_ 255 [] (q9j_ negative rest n t2 t2_2) = q40_ negative rest n t2 t2_2 := by
  rw [q4_ (by decide)]
  have e6 : (fun rest n t2 t2_2 => (jfn Tryz.prog qs_ 6 18446744073709551616 (Ev.get qt_) 132 ql_) 511 [] (q97_ rest n t2 t2_2)) = q9g_ := by funext rest n t2 t2_2; exact qi2_ rest n t2 t2_2
  rw [qi8_, e6]
  rfl
theorem qiu_  (negative rest n t54 t54_2 t55 t2 t2_2) : jfn Tryz.prog qs_ 6 18446744073709551616 (Ev.get qt_) 132 ql_ 2042 [] (q3n_ negative rest n t54 t54_2 t55 t2 t2_2) = q7n_ negative rest n t54 t54_2 t55 t2 t2_2 := by
  rw [q4_ (by decide)]
  rw [q16_ (by kernel_rfl)]
  refine qk_ (σ := (Bool) × (List UInt8) × (Int) × (List UInt8) × (List UInt8) × (Int) × (Int) × (Int)) (mk := fun s => q3n_ s.1 s.2.1 s.2.2.1 s.2.2.2.1 s.2.2.2.2.1 s.2.2.2.2.2.1 s.2.2.2.2.2.2.1 s.2.2.2.2.2.2.2) (fun w3 s => ?_) 18446744073709551616 (negative, rest, n, t54, t54_2, t55, t2, t2_2)
  have e4 : (fun negative rest n part t54 t54_2 t55 t59 t60 t2 t2_2 => (jfn Tryz.prog qs_ 6 18446744073709551616 (Ev.get qt_) 132 ql_) 522854 [w3] (q5p_ negative rest n part t54 t54_2 t55 t59 t60 t2 t2_2)) = q3j_ (fun negative rest n t54 t54_2 t55 t2 t2_2 => w3 (q3n_ negative rest n t54 t54_2 t55 t2 t2_2)) := by funext negative rest n part t54 t54_2 t55 t59 t60 t2 t2_2; exact qis_ w3 negative rest n part t54 t54_2 t55 t59 t60 t2 t2_2
  have e5 : (fun negative rest n t2 t2_2 => (jfn Tryz.prog qs_ 6 18446744073709551616 (Ev.get qt_) 132 ql_) 255 [] (q9j_ negative rest n t2 t2_2)) = q40_ := by funext negative rest n t2 t2_2; exact qj6_ negative rest n t2 t2_2
  refine (qk2_ _ w3 s.1 s.2.1 s.2.2.1 s.2.2.2.1 s.2.2.2.2.1 s.2.2.2.2.2.1 s.2.2.2.2.2.2.1 s.2.2.2.2.2.2.2).trans ?_
  rw [e4, e5]
theorem qjc_  (negative whole rest t48 t2 t2_2) : jfn Tryz.prog qs_ 6 18446744073709551616 (Ev.get qt_) 132 ql_ 62 [] (q9b_ negative whole rest t48 t2 t2_2) = q7l_ negative whole rest t48 t2 t2_2 := by
  rw [q4_ (by decide)]
  have e3 : (fun negative rest n t54 t54_2 t55 t2 t2_2 => (jfn Tryz.prog qs_ 6 18446744073709551616 (Ev.get qt_) 132 ql_) 2042 [] (q3n_ negative rest n t54 t54_2 t55 t2 t2_2)) = q7n_ := by funext negative rest n t54 t54_2 t55 t2 t2_2; exact qiu_ negative rest n t54 t54_2 t55 t2 t2_2
  rw [qj0_, e3]
  rfl
theorem qjt_  (negative whole rest point t36 t2 t2_2) : jfn Tryz.prog qs_ 6 18446744073709551616 (Ev.get qt_) 132 ql_ 30 [] (q9h_ negative whole rest point t36 t2 t2_2) = q11_ negative whole rest point t36 t2 t2_2 := by
  rw [q4_ (by decide)]
  have e2 : (fun negative whole rest t48 t2 t2_2 => (jfn Tryz.prog qs_ 6 18446744073709551616 (Ev.get qt_) 132 ql_) 62 [] (q9b_ negative whole rest t48 t2 t2_2)) = q7l_ := by funext negative whole rest t48 t2 t2_2; exact qjc_ negative whole rest t48 t2 t2_2
  rw [qjv_, e2]
  rfl
theorem qkx_ (x : As [.str]) : evT Tryz.prog qs_ 6 18446744073709551616 (Ev.get qt_) 132 ql_ x = qbe_ x := by
  have e1 : (fun negative whole rest point t36 t2 t2_2 => (jfn Tryz.prog qs_ 6 18446744073709551616 (Ev.get qt_) 132 ql_) 30 [] (q9h_ negative whole rest point t36 t2 t2_2)) = q11_ := by funext negative whole rest point t36 t2 t2_2; exact qjt_ negative whole rest point t36 t2 t2_2
  rw [q27_, qiz_, e1]
  rfl
theorem qip_ : CtOk Tryz.prog I0 132 ⟨ql_, qbe_⟩ := qx_ (q0_ strings_makeASCIISet_ok (q0_ strings_CutPrefix_ok (q0_ qet_ (q0_ strings_trimRightByte_ok q7_)))) qkx_
@[reducible] def qcc_ : Sh := ⟨[.pb 0 0], [.box 106 [.d (.int .u8), .d .str, .d (.int .i64), .d (.int .u8), .d (.int .i64)]], [.int .u8, .str, .int .i64, .int .u8, .int .i64], [.d (.int .i64)], [(0, .box 106 [.d (.int .u8), .d .str, .d (.int .i64), .d (.int .u8), .d (.int .i64)])], 0, [.int .i64, .int .u8, .str, .int .i64, .int .u8, .int .i64]⟩
def qee_ (t : Int) (t_2 : List UInt8) (v d ok : Int) : Option (As [.int .i64, .int .u8, .str, .int .i64, .int .u8, .int .i64]) :=
  Option.bind (qbe_ (t_2, ())) fun (y : (Int × Int) × Bool × Unit) => if (!y.2.1) = true then some (132, t, t_2, v, d, ok, ()) else some (0, t, t_2, y.1.1, y.1.2, ok, ())
def qai_ (x : As [.int .u8, .str, .int .i64, .int .u8, .int .i64]) : Option (As [.int .i64, .int .u8, .str, .int .i64, .int .u8, .int .i64]) := qee_ x.1 x.2.1 x.2.2.1 x.2.2.2.1 x.2.2.2.2.1
theorem qe7_ : CtOk Tryz.prog I0 107 ⟨qcc_, qai_⟩ := ctn (q0_ qip_ q7_) 6 fun J x => by kernel_rfl
@[reducible] def qa4_ : Sh := ⟨[.d (.int .u8)], [], [.int .u8], [.d (.bool)], [], 0, [.bool]⟩
def qf2_ (c : Int) : Option (As [.bool]) :=
  some (eqi c 61, ())
def qp_ (x : As [.int .u8]) : Option (As [.bool]) := qf2_ x.1
theorem qbu_ : CtOk Tryz.prog I0 108 ⟨qa4_, qp_⟩ := ctn q7_ 6 fun J x => by kernel_rfl
@[reducible] def q4w_ : Sh := ⟨[.d (.int .u8)], [], [.int .u8], [.d (.bool)], [], 0, [.bool]⟩
def qf6_ (c : Int) : Option (As [.bool]) :=
  some (false, ())
def q41_ (x : As [.int .u8]) : Option (As [.bool]) := qf6_ x.1
theorem q5c_ : CtOk Tryz.prog I0 109 ⟨q4w_, q41_⟩ := ctn q7_ 6 fun J x => by kernel_rfl
@[reducible] def qa8_ : Sh := ⟨[.pb 0 0], [.box 106 [.d (.int .u8), .d .str, .d (.int .i64), .d (.int .u8), .d (.int .i64)]], [.int .u8, .str, .int .i64, .int .u8, .int .i64], [.d (.int .i64)], [(0, .box 106 [.d (.int .u8), .d .str, .d (.int .i64), .d (.int .u8), .d (.int .i64)])], 0, [.int .i64, .int .u8, .str, .int .i64, .int .u8, .int .i64]⟩
def qbv_ (v : Int) (v_2 : List UInt8) (v_3 x x_2 : Int) : Option (As [.int .i64, .int .u8, .str, .int .i64, .int .u8, .int .i64]) :=
  some (0, v, v_2, v_3, x, x_2, ())
def q7m_ (x : As [.int .u8, .str, .int .i64, .int .u8, .int .i64]) : Option (As [.int .i64, .int .u8, .str, .int .i64, .int .u8, .int .i64]) := qbv_ x.1 x.2.1 x.2.2.1 x.2.2.2.1 x.2.2.2.2.1
theorem qbx_ : CtOk Tryz.prog I0 110 ⟨qa8_, q7m_⟩ := ctn q7_ 6 fun J x => by kernel_rfl
@[reducible] def q1k_ : Sh := ⟨[.fn (.func 102) [] [], .pb 0 0], [.box 9 [.d .str]], [.str], [.d .str], [(0, .box 9 [.d .str])], 0, [.str, .str]⟩
def q2e_ : Env := (cts [(102, (⟨q4x_, q2z_⟩ : Ct)), (106, (⟨q4u_, q30_⟩ : Ct)), (109, (⟨q4w_, q41_⟩ : Ct))])
def q2d_ : List (Nat × Hint) := [(7, ⟨[], [1, 4]⟩), (28, ⟨[], [0, 1, 4, 11, 12, 13, 14, 15]⟩), (112, ⟨[.agd 12 .str, .agd 13 (.int .i64), .agd 14 (.int .u8), .agd 15 .bool], [0, 1, 4, 16]⟩)]
def q2u_ (n : Int) (t1 : List UInt8) : St := { fr := [(0, .fn (.func 102) [] []), (1, .pb 0 0), (4, .d (.int .i64) n)], nt := 26, up := [], own := [(0, .box 9 [.d .str t1])], nx := 1, log := [], ln := 1 }
def q82_ (n : Int) (t16 : Bool) (t1 : List UInt8) : St := { fr := [(0, .fn (.func 102) [] []), (1, .pb 0 0), (4, .d (.int .i64) n), (16, .d .bool t16)], nt := 26, up := [], own := [(0, .box 9 [.d .str t1])], nx := 1, log := [], ln := 1 }
def q7z_ (n : Int) (t1 : List UInt8) : St := { fr := [(1, .pb 0 0), (4, .d (.int .i64) n)], nt := 26, up := [], own := [(0, .box 9 [.d .str t1])], nx := 1, log := [], ln := 1 }
def q7x_ (j2 : Int -> Bool -> List UInt8 -> Option (As [.str, .str])) (self1 : Int -> List UInt8 -> Option (As [.str, .str])) (n : Int) (t1 : List UInt8) : Option (As [.str, .str]) :=
  if lt n (Int.ofNat (List.length t1)) = true then Option.bind (at? t1 n) fun (c : UInt8) => Option.bind (q2z_ (Int.ofNat (UInt8.toNat c), ())) fun (y : Bool × Unit) => j2 n y.1 t1 else j2 n false t1
def qcb_ (j3 self1 : Int -> List UInt8 -> Option (As [.str, .str])) (n : Int) (t16 : Bool) (t1 : List UInt8) : Option (As [.str, .str]) :=
  if t16 = true then self1 (add .i64 n 1) t1 else j3 n t1
def q4t_ (n : Int) (t1 : List UInt8) : Option (As [.str, .str]) :=
  Option.bind (cut t1 0 n) fun (y : List UInt8) => Option.bind (cut t1 n (Int.ofNat (List.length t1))) fun (y_1 : List UInt8) => some (y, y_1, ())
def qcd_ (j1 : Int -> List UInt8 -> Option (As [.str, .str])) (more : List UInt8) : Option (As [.str, .str]) :=
  j1 1 more
def qa5_ (n : Int) (t1 : List UInt8) : Option (As [.str, .str]) := q4t_ n t1
def q5z_ (u1 : Int -> List UInt8 -> Option (As [.str, .str])) (n : Int) (t16 : Bool) (t1 : List UInt8) : Option (As [.str, .str]) := qcb_ (qa5_) u1 n t16 t1
def qa9_ (n : Int) (t1 : List UInt8) : Option (As [.str, .str]) :=
  loopF (fun (self : (Int) × (List UInt8) -> Option (As [.str, .str])) (s : (Int) × (List UInt8)) => q7x_ (q5z_ (fun n t1 => self (n, t1))) (fun n t1 => self (n, t1)) s.1 s.2) 18446744073709551616 (n, t1)
def q8b_ (x : As [.str]) : Option (As [.str, .str]) := qcd_ qa9_ x.1
theorem qfv_  (J n t1) : pfn Tryz.prog q2e_ 6 18446744073709551616 (Ev.get q2d_) 112 q1k_ J 7 [] (q7z_ n t1) = q4t_ n t1 := by kernel_rfl
theorem qfx_  (J w1 n t16 t1) : pfn Tryz.prog q2e_ 6 18446744073709551616 (Ev.get q2d_) 112 q1k_ J 112 [w1] (q82_ n t16 t1) = qcb_ (fun n t1 => J 7 [] (q7z_ n t1)) (fun n t1 => w1 (q2u_ n t1)) n t16 t1 := by kernel_rfl
theorem qfr_  (J w1 n t1) : pfn Tryz.prog q2e_ 6 18446744073709551616 (Ev.get q2d_) 112 q1k_ J 28 [w1] (q2u_ n t1) = q7x_ (fun n t16 t1 => J 112 [w1] (q82_ n t16 t1)) (fun n t1 => w1 (q2u_ n t1)) n t1 := by kernel_rfl
theorem qfp_ (J : Orc (As [.str, .str])) (x : As [.str]) : rfn Tryz.prog q2e_ 6 18446744073709551616 (Ev.get q2d_) 112 q1k_ J x = qcd_ (fun n t1 => J 28 [] (q2u_ n t1)) x.1 := by kernel_rfl
theorem qfu_  (n t1) : jfn Tryz.prog q2e_ 6 18446744073709551616 (Ev.get q2d_) 112 q1k_ 7 [] (q7z_ n t1) = qa5_ n t1 := by
  rw [q4_ (by decide)]
  rw [qfv_]
  rfl
theorem qfw_  (w1 n t16 t1) : jfn Tryz.prog q2e_ 6 18446744073709551616 (Ev.get q2d_) 112 q1k_ 112 [w1] (q82_ n t16 t1) = q5z_ (fun n t1 => w1 (q2u_ n t1)) n t16 t1 := by
  rw [q4_ (by decide)]
  have e3 : (fun n t1 => (jfn Tryz.prog q2e_ 6 18446744073709551616 (Ev.get q2d_) 112 q1k_) 7 [] (q7z_ n t1)) = qa5_ := by funext n t1; exact qfu_ n t1
  rw [qfx_, e3]
  rfl
theorem qfz_  (n t1) : jfn Tryz.prog q2e_ 6 18446744073709551616 (Ev.get q2d_) 112 q1k_ 28 [] (q2u_ n t1) = qa9_ n t1 := by
  rw [q4_ (by decide)]
  rw [q16_ (by kernel_rfl)]
  refine qk_ (σ := (Int) × (List UInt8)) (mk := fun s => q2u_ s.1 s.2) (fun w1 s => ?_) 18446744073709551616 (n, t1)
  have e2 : (fun n t16 t1 => (jfn Tryz.prog q2e_ 6 18446744073709551616 (Ev.get q2d_) 112 q1k_) 112 [w1] (q82_ n t16 t1)) = q5z_ (fun n t1 => w1 (q2u_ n t1)) := by funext n t16 t1; exact qfw_ w1 n t16 t1
  refine (qfr_ _ w1 s.1 s.2).trans ?_
  rw [e2]
theorem qgi_ (x : As [.str]) : evT Tryz.prog q2e_ 6 18446744073709551616 (Ev.get q2d_) 112 q1k_ x = q8b_ x := by
  have e1 : (fun n t1 => (jfn Tryz.prog q2e_ 6 18446744073709551616 (Ev.get q2d_) 112 q1k_) 28 [] (q2u_ n t1)) = qa9_ := by funext n t1; exact qfz_ n t1
  rw [q27_, qfp_, e1]
  rfl
theorem qg3_ : CtOk Tryz.prog I0 112 ⟨q1k_, q8b_⟩ := qx_ (q0_ q5d_ (q0_ q5e_ (q0_ q5c_ q7_))) qgi_
@[reducible] def q1l_ : Sh := ⟨[.fn (.func 106) [] [], .pb 0 0], [.box 9 [.d .str]], [.str], [.d .str], [(0, .box 9 [.d .str])], 0, [.str, .str]⟩
def q2c_ : Env := (cts [(102, (⟨q4x_, q2z_⟩ : Ct)), (106, (⟨q4u_, q30_⟩ : Ct)), (109, (⟨q4w_, q41_⟩ : Ct))])
def q2f_ : List (Nat × Hint) := [(7, ⟨[], [1, 4]⟩), (28, ⟨[], [0, 1, 4, 11, 12, 13, 14, 15]⟩), (112, ⟨[.agd 12 .str, .agd 13 (.int .i64), .agd 14 (.int .u8), .agd 15 .bool], [0, 1, 4, 16]⟩)]
def q2r_ (n : Int) (t1 : List UInt8) : St := { fr := [(0, .fn (.func 106) [] []), (1, .pb 0 0), (4, .d (.int .i64) n)], nt := 26, up := [], own := [(0, .box 9 [.d .str t1])], nx := 1, log := [], ln := 1 }
def q7y_ (n : Int) (t16 : Bool) (t1 : List UInt8) : St := { fr := [(0, .fn (.func 106) [] []), (1, .pb 0 0), (4, .d (.int .i64) n), (16, .d .bool t16)], nt := 26, up := [], own := [(0, .box 9 [.d .str t1])], nx := 1, log := [], ln := 1 }
def q84_ (n : Int) (t1 : List UInt8) : St := { fr := [(1, .pb 0 0), (4, .d (.int .i64) n)], nt := 26, up := [], own := [(0, .box 9 [.d .str t1])], nx := 1, log := [], ln := 1 }
def q83_ (j2 : Int -> Bool -> List UInt8 -> Option (As [.str, .str])) (self1 : Int -> List UInt8 -> Option (As [.str, .str])) (n : Int) (t1 : List UInt8) : Option (As [.str, .str]) :=
  if lt n (Int.ofNat (List.length t1)) = true then Option.bind (at? t1 n) fun (c : UInt8) => Option.bind (q30_ (Int.ofNat (UInt8.toNat c), ())) fun (y : Bool × Unit) => j2 n y.1 t1 else j2 n false t1
def qc5_ (j3 self1 : Int -> List UInt8 -> Option (As [.str, .str])) (n : Int) (t16 : Bool) (t1 : List UInt8) : Option (As [.str, .str]) :=
  if t16 = true then self1 (add .i64 n 1) t1 else j3 n t1
def q4v_ (n : Int) (t1 : List UInt8) : Option (As [.str, .str]) :=
  Option.bind (cut t1 0 n) fun (y : List UInt8) => Option.bind (cut t1 n (Int.ofNat (List.length t1))) fun (y_1 : List UInt8) => some (y, y_1, ())
def qc4_ (j1 : Int -> List UInt8 -> Option (As [.str, .str])) (more : List UInt8) : Option (As [.str, .str]) :=
  j1 1 more
def qa7_ (n : Int) (t1 : List UInt8) : Option (As [.str, .str]) := q4v_ n t1
def q60_ (u1 : Int -> List UInt8 -> Option (As [.str, .str])) (n : Int) (t16 : Bool) (t1 : List UInt8) : Option (As [.str, .str]) := qc5_ (qa7_) u1 n t16 t1
def qa3_ (n : Int) (t1 : List UInt8) : Option (As [.str, .str]) :=
  loopF (fun (self : (Int) × (List UInt8) -> Option (As [.str, .str])) (s : (Int) × (List UInt8)) => q83_ (q60_ (fun n t1 => self (n, t1))) (fun n t1 => self (n, t1)) s.1 s.2) 18446744073709551616 (n, t1)
def q8a_ (x : As [.str]) : Option (As [.str, .str]) := qc4_ qa3_ x.1
theorem qfh_  (J n t1) : pfn Tryz.prog q2c_ 6 18446744073709551616 (Ev.get q2f_) 112 q1l_ J 7 [] (q84_ n t1) = q4v_ n t1 := by kernel_rfl
theorem qfl_  (J w1 n t16 t1) : pfn Tryz.prog q2c_ 6 18446744073709551616 (Ev.get q2f_) 112 q1l_ J 112 [w1] (q7y_ n t16 t1) = qc5_ (fun n t1 => J 7 [] (q84_ n t1)) (fun n t1 => w1 (q2r_ n t1)) n t16 t1 := by kernel_rfl
theorem qg0_  (J w1 n t1) : pfn Tryz.prog q2c_ 6 18446744073709551616 (Ev.get q2f_) 112 q1l_ J 28 [w1] (q2r_ n t1) = q83_ (fun n t16 t1 => J 112 [w1] (q7y_ n t16 t1)) (fun n t1 => w1 (q2r_ n t1)) n t1 := by kernel_rfl
theorem qg4_ (J : Orc (As [.str, .str])) (x : As [.str]) : rfn Tryz.prog q2c_ 6 18446744073709551616 (Ev.get q2f_) 112 q1l_ J x = qc4_ (fun n t1 => J 28 [] (q2r_ n t1)) x.1 := by kernel_rfl
theorem qfi_  (n t1) : jfn Tryz.prog q2c_ 6 18446744073709551616 (Ev.get q2f_) 112 q1l_ 7 [] (q84_ n t1) = qa7_ n t1 := by
  rw [q4_ (by decide)]
  rw [qfh_]
  rfl
theorem qfn_  (w1 n t16 t1) : jfn Tryz.prog q2c_ 6 18446744073709551616 (Ev.get q2f_) 112 q1l_ 112 [w1] (q7y_ n t16 t1) = q60_ (fun n t1 => w1 (q2r_ n t1)) n t16 t1 := by
  rw [q4_ (by decide)]
  have e3 : (fun n t1 => (jfn Tryz.prog q2c_ 6 18446744073709551616 (Ev.get q2f_) 112 q1l_) 7 [] (q84_ n t1)) = qa7_ := by funext n t1; exact qfi_ n t1
  rw [qfl_, e3]
  rfl
theorem qfk_  (n t1) : jfn Tryz.prog q2c_ 6 18446744073709551616 (Ev.get q2f_) 112 q1l_ 28 [] (q2r_ n t1) = qa3_ n t1 := by
  rw [q4_ (by decide)]
  rw [q16_ (by kernel_rfl)]
  refine qk_ (σ := (Int) × (List UInt8)) (mk := fun s => q2r_ s.1 s.2) (fun w1 s => ?_) 18446744073709551616 (n, t1)
  have e2 : (fun n t16 t1 => (jfn Tryz.prog q2c_ 6 18446744073709551616 (Ev.get q2f_) 112 q1l_) 112 [w1] (q7y_ n t16 t1)) = q60_ (fun n t1 => w1 (q2r_ n t1)) := by funext n t16 t1; exact qfn_ w1 n t16 t1
  refine (qg0_ _ w1 s.1 s.2).trans ?_
  rw [e2]
theorem qh0_ (x : As [.str]) : evT Tryz.prog q2c_ 6 18446744073709551616 (Ev.get q2f_) 112 q1l_ x = q8a_ x := by
  have e1 : (fun n t1 => (jfn Tryz.prog q2c_ 6 18446744073709551616 (Ev.get q2f_) 112 q1l_) 28 [] (q2r_ n t1)) = qa3_ := by funext n t1; exact qfk_ n t1
  rw [q27_, qg4_, e1]
  rfl
theorem qfm_ : CtOk Tryz.prog I0 112 ⟨q1l_, q8a_⟩ := qx_ (q0_ q5d_ (q0_ q5e_ (q0_ q5c_ q7_))) qh0_
@[reducible] def q1i_ : Sh := ⟨[.fn (.func 109) [] [], .pb 0 0], [.box 9 [.d .str]], [.str], [.d .str], [(0, .box 9 [.d .str])], 0, [.str, .str]⟩
def q2a_ : Env := (cts [(102, (⟨q4x_, q2z_⟩ : Ct)), (106, (⟨q4u_, q30_⟩ : Ct)), (109, (⟨q4w_, q41_⟩ : Ct))])
def q2b_ : List (Nat × Hint) := [(7, ⟨[], [1, 4]⟩), (28, ⟨[], [0, 1, 4, 11, 12, 13, 14, 15]⟩), (112, ⟨[.agd 12 .str, .agd 13 (.int .i64), .agd 14 (.int .u8), .agd 15 .bool], [0, 1, 4, 16]⟩)]
def q2s_ (n : Int) (t1 : List UInt8) : St := { fr := [(0, .fn (.func 109) [] []), (1, .pb 0 0), (4, .d (.int .i64) n)], nt := 26, up := [], own := [(0, .box 9 [.d .str t1])], nx := 1, log := [], ln := 1 }
def q87_ (n : Int) (t16 : Bool) (t1 : List UInt8) : St := { fr := [(0, .fn (.func 109) [] []), (1, .pb 0 0), (4, .d (.int .i64) n), (16, .d .bool t16)], nt := 26, up := [], own := [(0, .box 9 [.d .str t1])], nx := 1, log := [], ln := 1 }
def q86_ (n : Int) (t1 : List UInt8) : St := { fr := [(1, .pb 0 0), (4, .d (.int .i64) n)], nt := 26, up := [], own := [(0, .box 9 [.d .str t1])], nx := 1, log := [], ln := 1 }
def q7v_ (j2 : Int -> Bool -> List UInt8 -> Option (As [.str, .str])) (self1 : Int -> List UInt8 -> Option (As [.str, .str])) (n : Int) (t1 : List UInt8) : Option (As [.str, .str]) :=
  if lt n (Int.ofNat (List.length t1)) = true then Option.bind (at? t1 n) fun (c : UInt8) => Option.bind (q41_ (Int.ofNat (UInt8.toNat c), ())) fun (y : Bool × Unit) => j2 n y.1 t1 else j2 n false t1
def qab_ (j3 self1 : Int -> List UInt8 -> Option (As [.str, .str])) (n : Int) (t16 : Bool) (t1 : List UInt8) : Option (As [.str, .str]) :=
  if t16 = true then self1 (add .i64 n 1) t1 else j3 n t1
def q81_ (n : Int) (t1 : List UInt8) : Option (As [.str, .str]) :=
  Option.bind (cut t1 0 n) fun (y : List UInt8) => Option.bind (cut t1 n (Int.ofNat (List.length t1))) fun (y_1 : List UInt8) => some (y, y_1, ())
def qc3_ (j1 : Int -> List UInt8 -> Option (As [.str, .str])) (more : List UInt8) : Option (As [.str, .str]) :=
  j1 1 more
def qa2_ (n : Int) (t1 : List UInt8) : Option (As [.str, .str]) := q81_ n t1
def q4s_ (u1 : Int -> List UInt8 -> Option (As [.str, .str])) (n : Int) (t16 : Bool) (t1 : List UInt8) : Option (As [.str, .str]) := qab_ (qa2_) u1 n t16 t1
def qa6_ (n : Int) (t1 : List UInt8) : Option (As [.str, .str]) :=
  loopF (fun (self : (Int) × (List UInt8) -> Option (As [.str, .str])) (s : (Int) × (List UInt8)) => q7v_ (q4s_ (fun n t1 => self (n, t1))) (fun n t1 => self (n, t1)) s.1 s.2) 18446744073709551616 (n, t1)
def q8c_ (x : As [.str]) : Option (As [.str, .str]) := qc3_ qa6_ x.1
theorem qg2_  (J n t1) : pfn Tryz.prog q2a_ 6 18446744073709551616 (Ev.get q2b_) 112 q1i_ J 7 [] (q86_ n t1) = q81_ n t1 := by kernel_rfl
theorem qfo_  (J w1 n t16 t1) : pfn Tryz.prog q2a_ 6 18446744073709551616 (Ev.get q2b_) 112 q1i_ J 112 [w1] (q87_ n t16 t1) = qab_ (fun n t1 => J 7 [] (q86_ n t1)) (fun n t1 => w1 (q2s_ n t1)) n t16 t1 := by kernel_rfl
theorem qfs_  (J w1 n t1) : pfn Tryz.prog q2a_ 6 18446744073709551616 (Ev.get q2b_) 112 q1i_ J 28 [w1] (q2s_ n t1) = q7v_ (fun n t16 t1 => J 112 [w1] (q87_ n t16 t1)) (fun n t1 => w1 (q2s_ n t1)) n t1 := by kernel_rfl
theorem qg5_ (J : Orc (As [.str, .str])) (x : As [.str]) : rfn Tryz.prog q2a_ 6 18446744073709551616 (Ev.get q2b_) 112 q1i_ J x = qc3_ (fun n t1 => J 28 [] (q2s_ n t1)) x.1 := by kernel_rfl
theorem qfy_  (n t1) : jfn Tryz.prog q2a_ 6 18446744073709551616 (Ev.get q2b_) 112 q1i_ 7 [] (q86_ n t1) = qa2_ n t1 := by
  rw [q4_ (by decide)]
  rw [qg2_]
  rfl
theorem qg1_  (w1 n t16 t1) : jfn Tryz.prog q2a_ 6 18446744073709551616 (Ev.get q2b_) 112 q1i_ 112 [w1] (q87_ n t16 t1) = q4s_ (fun n t1 => w1 (q2s_ n t1)) n t16 t1 := by
  rw [q4_ (by decide)]
  have e3 : (fun n t1 => (jfn Tryz.prog q2a_ 6 18446744073709551616 (Ev.get q2b_) 112 q1i_) 7 [] (q86_ n t1)) = qa2_ := by funext n t1; exact qfy_ n t1
  rw [qfo_, e3]
  rfl
theorem qft_  (n t1) : jfn Tryz.prog q2a_ 6 18446744073709551616 (Ev.get q2b_) 112 q1i_ 28 [] (q2s_ n t1) = qa6_ n t1 := by
  rw [q4_ (by decide)]
  rw [q16_ (by kernel_rfl)]
  refine qk_ (σ := (Int) × (List UInt8)) (mk := fun s => q2s_ s.1 s.2) (fun w1 s => ?_) 18446744073709551616 (n, t1)
  have e2 : (fun n t16 t1 => (jfn Tryz.prog q2a_ 6 18446744073709551616 (Ev.get q2b_) 112 q1i_) 112 [w1] (q87_ n t16 t1)) = q4s_ (fun n t1 => w1 (q2s_ n t1)) := by funext n t16 t1; exact qg1_ w1 n t16 t1
  refine (qfs_ _ w1 s.1 s.2).trans ?_
  rw [e2]
theorem qgf_ (x : As [.str]) : evT Tryz.prog q2a_ 6 18446744073709551616 (Ev.get q2b_) 112 q1i_ x = q8c_ x := by
  have e1 : (fun n t1 => (jfn Tryz.prog q2a_ 6 18446744073709551616 (Ev.get q2b_) 112 q1i_) 28 [] (q2s_ n t1)) = qa6_ := by funext n t1; exact qft_ n t1
  rw [q27_, qg5_, e1]
  rfl
theorem qfq_ : CtOk Tryz.prog I0 112 ⟨q1i_, q8c_⟩ := qx_ (q0_ q5d_ (q0_ q5e_ (q0_ q5c_ q7_))) qgf_
@[reducible] def strings_trimLeftByte_s : Sh := ⟨[.d (.str), .d (.int .u8)], [], [.str, .int .u8], [.d (.str)], [], 0, [.str]⟩
def q1w_ : Env := (cts [])
def q1x_ : List (Nat × Hint) := [(12, ⟨[], [0, 1, 9, 10, 11, 12]⟩), (48, ⟨[.agd 9 .str, .agd 10 (.int .u8), .agd 11 (.int .u8), .agd 12 .bool], [0, 1, 13]⟩)]
def q1d_ (s : List UInt8) (c : Int) : St := { fr := [(0, .d .str s), (1, .d (.int .u8) c)], nt := 17, up := [], own := [], nx := 0, log := [], ln := 0 }
def q4n_ (s : List UInt8) (c : Int) (t13 : Bool) : St := { fr := [(0, .d .str s), (1, .d (.int .u8) c), (13, .d .bool t13)], nt := 17, up := [], own := [], nx := 0, log := [], ln := 0 }
def strings_trimLeftByte_m1 (j2 : List UInt8 -> Int -> Bool -> Option (As [.str])) (self1 : List UInt8 -> Int -> Option (As [.str])) (s : List UInt8) (c : Int) : Option (As [.str]) :=
  if gt (Int.ofNat (List.length s)) 0 = true then Option.bind (at? s 0) fun (c_1 : UInt8) => j2 s c (eqi (Int.ofNat (UInt8.toNat c_1)) c) else j2 s c false
def strings_trimLeftByte_m2 (self1 : List UInt8 -> Int -> Option (As [.str])) (s : List UInt8) (c : Int) (t13 : Bool) : Option (As [.str]) :=
  if t13 = true then Option.bind (cut s 1 (Int.ofNat (List.length s))) fun (y : List UInt8) => self1 y c else some (s, ())
def strings_trimLeftByte_m0 (j1 : List UInt8 -> Int -> Option (As [.str])) (s : List UInt8) (c : Int) : Option (As [.str]) :=
  j1 s c
def q6f_ (u1 : List UInt8 -> Int -> Option (As [.str])) (s : List UInt8) (c : Int) (t13 : Bool) : Option (As [.str]) := strings_trimLeftByte_m2 u1 s c t13
def q6g_ (s : List UInt8) (c : Int) : Option (As [.str]) :=
  loopF (fun (self : (List UInt8) × (Int) -> Option (As [.str])) (s : (List UInt8) × (Int)) => strings_trimLeftByte_m1 (q6f_ (fun s c => self (s, c))) (fun s c => self (s, c)) s.1 s.2) 18446744073709551616 (s, c)
def q5n_ (x : As [.str, .int .u8]) : Option (As [.str]) := strings_trimLeftByte_m0 q6g_ x.1 x.2.1
theorem strings_trimLeftByte_c2  (J w1 s c t13) : pfn Tryz.prog q1w_ 6 18446744073709551616 (Ev.get q1x_) 133 strings_trimLeftByte_s J 48 [w1] (q4n_ s c t13) = strings_trimLeftByte_m2 (fun s c => w1 (q1d_ s c)) s c t13 := by kernel_rfl
theorem strings_trimLeftByte_c1  (J w1 s c) : pfn Tryz.prog q1w_ 6 18446744073709551616 (Ev.get q1x_) 133 strings_trimLeftByte_s J 12 [w1] (q1d_ s c) = strings_trimLeftByte_m1 (fun s c t13 => J 48 [w1] (q4n_ s c t13)) (fun s c => w1 (q1d_ s c)) s c := by kernel_rfl
theorem strings_trimLeftByte_c0 (J : Orc (As [.str])) (x : As [.str, .int .u8]) : rfn Tryz.prog q1w_ 6 18446744073709551616 (Ev.get q1x_) 133 strings_trimLeftByte_s J x = strings_trimLeftByte_m0 (fun s c => J 12 [] (q1d_ s c)) x.1 x.2.1 := by kernel_rfl
theorem strings_trimLeftByte_g2  (w1 s c t13) : jfn Tryz.prog q1w_ 6 18446744073709551616 (Ev.get q1x_) 133 strings_trimLeftByte_s 48 [w1] (q4n_ s c t13) = q6f_ (fun s c => w1 (q1d_ s c)) s c t13 := by
  rw [q4_ (by decide)]
  rw [strings_trimLeftByte_c2]
  rfl
theorem strings_trimLeftByte_g1  (s c) : jfn Tryz.prog q1w_ 6 18446744073709551616 (Ev.get q1x_) 133 strings_trimLeftByte_s 12 [] (q1d_ s c) = q6g_ s c := by
  rw [q4_ (by decide)]
  rw [q16_ (by kernel_rfl)]
  refine qk_ (σ := (List UInt8) × (Int)) (mk := fun s => q1d_ s.1 s.2) (fun w1 s => ?_) 18446744073709551616 (s, c)
  have e2 : (fun s c t13 => (jfn Tryz.prog q1w_ 6 18446744073709551616 (Ev.get q1x_) 133 strings_trimLeftByte_s) 48 [w1] (q4n_ s c t13)) = q6f_ (fun s c => w1 (q1d_ s c)) := by funext s c t13; exact strings_trimLeftByte_g2 w1 s c t13
  refine (strings_trimLeftByte_c1 _ w1 s.1 s.2).trans ?_
  rw [e2]
theorem strings_trimLeftByte_t (x : As [.str, .int .u8]) : evT Tryz.prog q1w_ 6 18446744073709551616 (Ev.get q1x_) 133 strings_trimLeftByte_s x = q5n_ x := by
  have e1 : (fun s c => (jfn Tryz.prog q1w_ 6 18446744073709551616 (Ev.get q1x_) 133 strings_trimLeftByte_s) 12 [] (q1d_ s c)) = q6g_ := by funext s c; exact strings_trimLeftByte_g1 s c
  rw [q27_, strings_trimLeftByte_c0, e1]
  rfl
theorem strings_trimLeftByte_ok : CtOk Tryz.prog I0 133 ⟨strings_trimLeftByte_s, q5n_⟩ := qx_ q7_ strings_trimLeftByte_t
@[reducible] def strings_trimLeftASCII_s : Sh := ⟨[.d .str, .pb 0 0], [.row .bool 197], [.str, .sl .bool], [.d .str], [(0, .row .bool 197)], 0, [.str, .sl .bool]⟩
def q3p_ : Env := (cts [])
def q3q_ : List (Nat × Hint) := [(12, ⟨[], [0, 1]⟩)]
def q2j_ (s : List UInt8) (as' : List Bool) : St := { fr := [(0, .d .str s), (1, .pb 0 0)], nt := 16, up := [], own := [(0, .row .bool 197 as')], nx := 1, log := [], ln := 1 }
def q4h_ (self1 : List UInt8 -> List Bool -> Option (As [.str, .sl .bool])) (s : List UInt8) (as' : List Bool) : Option (As [.str, .sl .bool]) :=
  if gt (Int.ofNat (List.length s)) 0 = true then Option.bind (at? s 0) fun (c : UInt8) => need (lt (Int.ofNat (UInt8.toNat c)) 256) (Option.bind (at? as' (Int.ofNat (UInt8.toNat c))) fun (x : Bool) => Option.bind (at? as' (Int.ofNat (UInt8.toNat c))) fun (y : Bool) => if (!y) = true then some (s, as', ()) else Option.bind (cut s 1 (Int.ofNat (List.length s))) fun (y : List UInt8) => self1 y as') else some (s, as', ())
def strings_trimLeftASCII_m0 (j1 : List UInt8 -> List Bool -> Option (As [.str, .sl .bool])) (s : List UInt8) (as' : List Bool) : Option (As [.str, .sl .bool]) :=
  j1 s as'
def q64_ (s : List UInt8) (as' : List Bool) : Option (As [.str, .sl .bool]) :=
  loopF (fun (self : (List UInt8) × (List Bool) -> Option (As [.str, .sl .bool])) (s : (List UInt8) × (List Bool)) => q4h_ (fun s as' => self (s, as')) s.1 s.2) 18446744073709551616 (s, as')
def q3e_ (x : As [.str, .sl .bool]) : Option (As [.str, .sl .bool]) := strings_trimLeftASCII_m0 q64_ x.1 x.2.1
theorem strings_trimLeftASCII_c1  (J w1 s as') : pfn Tryz.prog q3p_ 6 18446744073709551616 (Ev.get q3q_) 135 strings_trimLeftASCII_s J 12 [w1] (q2j_ s as') = q4h_ (fun s as' => w1 (q2j_ s as')) s as' := by kernel_rfl
theorem strings_trimLeftASCII_c0 (J : Orc (As [.str, .sl .bool])) (x : As [.str, .sl .bool]) : rfn Tryz.prog q3p_ 6 18446744073709551616 (Ev.get q3q_) 135 strings_trimLeftASCII_s J x = strings_trimLeftASCII_m0 (fun s as' => J 12 [] (q2j_ s as')) x.1 x.2.1 := by kernel_rfl
theorem strings_trimLeftASCII_g1  (s as') : jfn Tryz.prog q3p_ 6 18446744073709551616 (Ev.get q3q_) 135 strings_trimLeftASCII_s 12 [] (q2j_ s as') = q64_ s as' := by
  rw [q4_ (by decide)]
  rw [q16_ (by kernel_rfl)]
  refine qk_ (σ := (List UInt8) × (List Bool)) (mk := fun s => q2j_ s.1 s.2) (fun w1 s => ?_) 18446744073709551616 (s, as')
  refine (strings_trimLeftASCII_c1 _ w1 s.1 s.2).trans ?_
  rfl
theorem strings_trimLeftASCII_t (x : As [.str, .sl .bool]) : evT Tryz.prog q3p_ 6 18446744073709551616 (Ev.get q3q_) 135 strings_trimLeftASCII_s x = q3e_ x := by
  have e1 : (fun s as' => (jfn Tryz.prog q3p_ 6 18446744073709551616 (Ev.get q3q_) 135 strings_trimLeftASCII_s) 12 [] (q2j_ s as')) = q64_ := by funext s as'; exact strings_trimLeftASCII_g1 s as'
  rw [q27_, strings_trimLeftASCII_c0, e1]
  rfl
theorem strings_trimLeftASCII_ok : CtOk Tryz.prog I0 135 ⟨strings_trimLeftASCII_s, q3e_⟩ := qx_ q7_ strings_trimLeftASCII_t
@[reducible] def strings_trimLeftUnicode_s : Sh := ⟨[.d (.str), .d (.str)], [], [.str, .str], [.d (.str)], [], 0, [.str]⟩
def q4o_ (_ : As strings_trimLeftUnicode_s.ps) : Option (As strings_trimLeftUnicode_s.rs) := none
theorem strings_trimLeftUnicode_ok : CtOk Tryz.prog I0 136 ⟨strings_trimLeftUnicode_s, q4o_⟩ := fun _ _ _ _ _ _ _ _ h => by cases h
@[reducible] def strings_TrimLeft_s : Sh := ⟨[.d (.str), .d (.str)], [], [.str, .str], [.d (.str)], [], 0, [.str]⟩
def q2o_ : Env := (cts [(133, (⟨strings_trimLeftByte_s, q5n_⟩ : Ct)), (134, (⟨strings_makeASCIISet_s, q2v_⟩ : Ct)), (135, (⟨strings_trimLeftASCII_s, q3e_⟩ : Ct)), (136, (⟨strings_trimLeftUnicode_s, q4o_⟩ : Ct))])
def q2p_ : List (Nat × Hint) := [(14, ⟨[], [0, 1, 21]⟩), (6, ⟨[], [0, 1, 12, 18, 19, 20]⟩)]
def q67_ (s cutset : List UInt8) (t12 : Bool) : St := { fr := [(0, .d .str s), (1, .d .str cutset), (12, .d .bool t12)], nt := 37, up := [], own := [], nx := 0, log := [], ln := 0 }
def q68_ (s cutset : List UInt8) (t21 : Bool) : St := { fr := [(0, .d .str s), (1, .d .str cutset), (21, .d .bool t21)], nt := 37, up := [], own := [], nx := 0, log := [], ln := 0 }
def strings_TrimLeft_m1 (j2 : List UInt8 -> List UInt8 -> Bool -> Option (As [.str])) (s cutset : List UInt8) (t12 : Bool) : Option (As [.str]) :=
  if t12 = true then some (s, ()) else if eqi (Int.ofNat (List.length cutset)) 1 = true then Option.bind (at? cutset 0) fun (c : UInt8) => j2 s cutset (lt (Int.ofNat (UInt8.toNat c)) 128) else j2 s cutset false
def strings_TrimLeft_m2 (s cutset : List UInt8) (t21 : Bool) : Option (As [.str]) :=
  if t21 = true then Option.bind (at? cutset 0) fun (c : UInt8) => Option.bind (q5n_ (s, Int.ofNat (UInt8.toNat c), ())) fun (y : List UInt8 × Unit) => some (y.1, ()) else Option.bind (q2v_ (cutset, ())) fun (y : List Bool × Bool × Unit) => need (eqi 256 (Int.ofNat (List.length y.1))) (need (eqi 256 (Int.ofNat (List.length y.1 * 1))) (if y.2.1 = true then Option.bind (q3e_ (s, y.1, ())) fun (y : List UInt8 × List Bool × Unit) => some (y.1, ()) else Option.bind (q4o_ (s, cutset, ())) fun (y : List UInt8 × Unit) => some (y.1, ())))
def strings_TrimLeft_m0 (j1 : List UInt8 -> List UInt8 -> Bool -> Option (As [.str])) (s cutset : List UInt8) : Option (As [.str]) :=
  if eqs s [] = true then j1 s cutset true else j1 s cutset (eqs cutset [])
def strings_TrimLeft_K2 (s cutset : List UInt8) (t21 : Bool) : Option (As [.str]) := strings_TrimLeft_m2 s cutset t21
def strings_TrimLeft_K1 (s cutset : List UInt8) (t12 : Bool) : Option (As [.str]) := strings_TrimLeft_m1 (strings_TrimLeft_K2) s cutset t12
def strings_TrimLeft (x : As [.str, .str]) : Option (As [.str]) := strings_TrimLeft_m0 strings_TrimLeft_K1 x.1 x.2.1
theorem strings_TrimLeft_c2  (J s cutset t21) : pfn Tryz.prog q2o_ 6 18446744073709551616 (Ev.get q2p_) 113 strings_TrimLeft_s J 14 [] (q68_ s cutset t21) = strings_TrimLeft_m2 s cutset t21 := by kernel_rfl
theorem strings_TrimLeft_c1  (J s cutset t12) : pfn Tryz.prog q2o_ 6 18446744073709551616 (Ev.get q2p_) 113 strings_TrimLeft_s J 6 [] (q67_ s cutset t12) = strings_TrimLeft_m1 (fun s cutset t21 => J 14 [] (q68_ s cutset t21)) s cutset t12 := by kernel_rfl
theorem strings_TrimLeft_c0 (J : Orc (As [.str])) (x : As [.str, .str]) : rfn Tryz.prog q2o_ 6 18446744073709551616 (Ev.get q2p_) 113 strings_TrimLeft_s J x = strings_TrimLeft_m0 (fun s cutset t12 => J 6 [] (q67_ s cutset t12)) x.1 x.2.1 := by kernel_rfl
theorem strings_TrimLeft_g2  (s cutset t21) : jfn Tryz.prog q2o_ 6 18446744073709551616 (Ev.get q2p_) 113 strings_TrimLeft_s 14 [] (q68_ s cutset t21) = strings_TrimLeft_K2 s cutset t21 := by
  rw [q4_ (by decide)]
  rw [strings_TrimLeft_c2]
  rfl
theorem strings_TrimLeft_g1  (s cutset t12) : jfn Tryz.prog q2o_ 6 18446744073709551616 (Ev.get q2p_) 113 strings_TrimLeft_s 6 [] (q67_ s cutset t12) = strings_TrimLeft_K1 s cutset t12 := by
  rw [q4_ (by decide)]
  have e2 : (fun s cutset t21 => (jfn Tryz.prog q2o_ 6 18446744073709551616 (Ev.get q2p_) 113 strings_TrimLeft_s) 14 [] (q68_ s cutset t21)) = strings_TrimLeft_K2 := by funext s cutset t21; exact strings_TrimLeft_g2 s cutset t21
  rw [strings_TrimLeft_c1, e2]
  rfl
theorem strings_TrimLeft_t (x : As [.str, .str]) : evT Tryz.prog q2o_ 6 18446744073709551616 (Ev.get q2p_) 113 strings_TrimLeft_s x = strings_TrimLeft x := by
  have e1 : (fun s cutset t12 => (jfn Tryz.prog q2o_ 6 18446744073709551616 (Ev.get q2p_) 113 strings_TrimLeft_s) 6 [] (q67_ s cutset t12)) = strings_TrimLeft_K1 := by funext s cutset t12; exact strings_TrimLeft_g1 s cutset t12
  rw [q27_, strings_TrimLeft_c0, e1]
  rfl
theorem strings_TrimLeft_ok : CtOk Tryz.prog I0 113 ⟨strings_TrimLeft_s, strings_TrimLeft⟩ := qx_ (q0_ strings_trimLeftByte_ok (q0_ strings_makeASCIISet_ok (q0_ strings_trimLeftASCII_ok (q0_ strings_trimLeftUnicode_ok q7_)))) strings_TrimLeft_t
@[reducible] def q15_ : Sh := ⟨[.d .str, .d (.int .i64), .mp 0], [.sm (.int .u8) 3 [(0, (1 : Int), .agg [.fn (.func 100) [] [], .fn (.func 102) [] [], .fn (.func 104) [] []]), (1, (2 : Int), .agg [.fn (.func 105) [] [], .fn (.func 106) [] [], .fn (.func 107) [] []]), (2, (3 : Int), .agg [.fn (.func 108) [] [], .fn (.func 109) [] [], .fn (.func 110) [] []])]], [.str, .int .i64], [.d (.sl QAT1), .d (.int .i64)], [(0, .sm (.int .u8) 3 [(0, (1 : Int), .agg [.fn (.func 100) [] [], .fn (.func 102) [] [], .fn (.func 104) [] []]), (1, (2 : Int), .agg [.fn (.func 105) [] [], .fn (.func 106) [] [], .fn (.func 107) [] []]), (2, (3 : Int), .agg [.fn (.func 108) [] [], .fn (.func 109) [] [], .fn (.func 110) [] []])])], 0, [.sl QAT1, .int .i64]⟩
def q36_ : Env := (cts [(100, (⟨qaa_, qq_⟩ : Ct)), (102, (⟨q4x_, q2z_⟩ : Ct)), (104, (⟨qd5_, qc8_⟩ : Ct)), (105, (⟨qa1_, qo_⟩ : Ct)), (106, (⟨q4u_, q30_⟩ : Ct)), (107, (⟨qcc_, qai_⟩ : Ct)), (108, (⟨qa4_, qp_⟩ : Ct)), (109, (⟨q4w_, q41_⟩ : Ct)), (110, (⟨qa8_, q7m_⟩ : Ct)), (112, (⟨q1k_, q8b_⟩ : Ct)), (112, (⟨q1l_, q8a_⟩ : Ct)), (112, (⟨q1i_, q8c_⟩ : Ct)), (113, (⟨strings_TrimLeft_s, strings_TrimLeft⟩ : Ct))])
def q39_ : List (Nat × Hint) := [(31, ⟨[], [1, 9]⟩), (63, ⟨[], [9]⟩), (124, ⟨[.row 9 106], [1, 2, 3, 8, 9]⟩), (3975, ⟨[], [1, 2, 3, 8, 9, 10]⟩)]
def q4z_ (at' : Int) (text : List UInt8) (l : List QAT4) : St := { fr := [(1, .d (.int .i64) at'), (2, .mp 0), (3, .pb 1 0), (8, .fn (.func 112) [] [.pb 1 0]), (9, .row 2)], nt := 76, up := [], own := [(0, .sm (.int .u8) 3 [(0, 1, .agg [.fn (.func 100) [] [], .fn (.func 102) [] [], .fn (.func 104) [] []]), (1, 2, .agg [.fn (.func 105) [] [], .fn (.func 106) [] [], .fn (.func 107) [] []]), (2, 3, .agg [.fn (.func 108) [] [], .fn (.func 109) [] [], .fn (.func 110) [] []])]), (1, .box 9 [.d .str text]), (2, .row QAT1 106 l)], nx := 3, log := [], ln := 1 }
def qbc_ (at' : Int) (l : List QAT4) : St := { fr := [(1, .d (.int .i64) at'), (9, .row 1)], nt := 76, up := [], own := [(0, .sm (.int .u8) 3 [(0, 1, .agg [.fn (.func 100) [] [], .fn (.func 102) [] [], .fn (.func 104) [] []]), (1, 2, .agg [.fn (.func 105) [] [], .fn (.func 106) [] [], .fn (.func 107) [] []]), (2, 3, .agg [.fn (.func 108) [] [], .fn (.func 109) [] [], .fn (.func 110) [] []])]), (1, .row QAT1 106 l)], nx := 2, log := [], ln := 1 }
def qbg_ (at' : Int) (text : List UInt8) (l : List QAT4) (t : Int) (t_2 : List UInt8) (t_3 t_4 t_5 : Int) : St := { fr := [(1, .d (.int .i64) at'), (2, .mp 0), (3, .pb 1 0), (8, .fn (.func 112) [] [.pb 1 0]), (9, .row 2), (10, .pb 3 0)], nt := 76, up := [], own := [(0, .sm (.int .u8) 3 [(0, 1, .agg [.fn (.func 100) [] [], .fn (.func 102) [] [], .fn (.func 104) [] []]), (1, 2, .agg [.fn (.func 105) [] [], .fn (.func 106) [] [], .fn (.func 107) [] []]), (2, 3, .agg [.fn (.func 108) [] [], .fn (.func 109) [] [], .fn (.func 110) [] []])]), (1, .box 9 [.d .str text]), (2, .row QAT1 106 l), (3, .box 106 [.d (.int .u8) t, .d .str t_2, .d (.int .i64) t_3, .d (.int .u8) t_4, .d (.int .i64) t_5])], nx := 4, log := [], ln := 1 }
def qbb_ (l : List QAT4) : St := { fr := [(9, .row 1)], nt := 76, up := [], own := [(0, .sm (.int .u8) 3 [(0, 1, .agg [.fn (.func 100) [] [], .fn (.func 102) [] [], .fn (.func 104) [] []]), (1, 2, .agg [.fn (.func 105) [] [], .fn (.func 106) [] [], .fn (.func 107) [] []]), (2, 3, .agg [.fn (.func 108) [] [], .fn (.func 109) [] [], .fn (.func 110) [] []])]), (1, .row QAT1 106 l)], nx := 2, log := [], ln := 1 }
def q74_ (j2 : Int -> List QAT4 -> Option (As [.sl QAT1, .int .i64])) (j3 : Int -> List UInt8 -> List QAT4 -> Int -> List UInt8 -> Int -> Int -> Int -> Option (As [.sl QAT1, .int .i64])) (self1 : Int -> List UInt8 -> List QAT4 -> Option (As [.sl QAT1, .int .i64])) (at' : Int) (text : List UInt8) (l : List QAT4) : Option (As [.sl QAT1, .int .i64]) :=
  Option.bind (strings_TrimLeft (text, [9, 13, 32], ())) fun (y : List UInt8 × Unit) => if eqs y.1 [] = true then j2 at' l else amb (eqAs q15_.rs) [Option.bind (at? y.1 0) fun (c : UInt8) => Option.bind (qq_ (Int.ofNat (UInt8.toNat c), ())) fun (y_1 : Bool × Unit) => if y_1.1 = true then amb (eqAs q15_.rs) [Option.bind (at? y.1 0) fun (c : UInt8) => Option.bind (qo_ (Int.ofNat (UInt8.toNat c), ())) fun (y_2 : Bool × Unit) => if y_2.1 = true then Option.bind (at? y.1 0) fun (c : UInt8) => Option.bind (qp_ (Int.ofNat (UInt8.toNat c), ())) fun (y_3 : Bool × Unit) => if y_3.1 = true then j3 at' y.1 l 3 [] 0 0 at' else j3 at' y.1 l 2 [] 0 0 at' else Option.bind (at? y.1 0) fun (c : UInt8) => Option.bind (qp_ (Int.ofNat (UInt8.toNat c), ())) fun (y_3 : Bool × Unit) => if y_3.1 = true then j3 at' y.1 l 3 [] 0 0 at' else j3 at' y.1 l 1 [] 0 0 at', Option.bind (at? y.1 0) fun (c : UInt8) => Option.bind (qp_ (Int.ofNat (UInt8.toNat c), ())) fun (y_2 : Bool × Unit) => if y_2.1 = true then Option.bind (at? y.1 0) fun (c : UInt8) => Option.bind (qo_ (Int.ofNat (UInt8.toNat c), ())) fun (y_3 : Bool × Unit) => if y_3.1 = true then j3 at' y.1 l 2 [] 0 0 at' else j3 at' y.1 l 3 [] 0 0 at' else Option.bind (at? y.1 0) fun (c : UInt8) => Option.bind (qo_ (Int.ofNat (UInt8.toNat c), ())) fun (y_3 : Bool × Unit) => if y_3.1 = true then j3 at' y.1 l 2 [] 0 0 at' else j3 at' y.1 l 1 [] 0 0 at'] else amb (eqAs q15_.rs) [Option.bind (at? y.1 0) fun (c : UInt8) => Option.bind (qo_ (Int.ofNat (UInt8.toNat c), ())) fun (y_2 : Bool × Unit) => if y_2.1 = true then Option.bind (at? y.1 0) fun (c : UInt8) => Option.bind (qp_ (Int.ofNat (UInt8.toNat c), ())) fun (y_3 : Bool × Unit) => if y_3.1 = true then j3 at' y.1 l 3 [] 0 0 at' else j3 at' y.1 l 2 [] 0 0 at' else Option.bind (at? y.1 0) fun (c : UInt8) => Option.bind (qp_ (Int.ofNat (UInt8.toNat c), ())) fun (y_3 : Bool × Unit) => if y_3.1 = true then j3 at' y.1 l 3 [] 0 0 at' else j3 at' y.1 l 0 [] 0 0 at', Option.bind (at? y.1 0) fun (c : UInt8) => Option.bind (qp_ (Int.ofNat (UInt8.toNat c), ())) fun (y_2 : Bool × Unit) => if y_2.1 = true then Option.bind (at? y.1 0) fun (c : UInt8) => Option.bind (qo_ (Int.ofNat (UInt8.toNat c), ())) fun (y_3 : Bool × Unit) => if y_3.1 = true then j3 at' y.1 l 2 [] 0 0 at' else j3 at' y.1 l 3 [] 0 0 at' else Option.bind (at? y.1 0) fun (c : UInt8) => Option.bind (qo_ (Int.ofNat (UInt8.toNat c), ())) fun (y_3 : Bool × Unit) => if y_3.1 = true then j3 at' y.1 l 2 [] 0 0 at' else j3 at' y.1 l 0 [] 0 0 at'], Option.bind (at? y.1 0) fun (c : UInt8) => Option.bind (qo_ (Int.ofNat (UInt8.toNat c), ())) fun (y_1 : Bool × Unit) => if y_1.1 = true then amb (eqAs q15_.rs) [Option.bind (at? y.1 0) fun (c : UInt8) => Option.bind (qq_ (Int.ofNat (UInt8.toNat c), ())) fun (y_2 : Bool × Unit) => if y_2.1 = true then Option.bind (at? y.1 0) fun (c : UInt8) => Option.bind (qp_ (Int.ofNat (UInt8.toNat c), ())) fun (y_3 : Bool × Unit) => if y_3.1 = true then j3 at' y.1 l 3 [] 0 0 at' else j3 at' y.1 l 1 [] 0 0 at' else Option.bind (at? y.1 0) fun (c : UInt8) => Option.bind (qp_ (Int.ofNat (UInt8.toNat c), ())) fun (y_3 : Bool × Unit) => if y_3.1 = true then j3 at' y.1 l 3 [] 0 0 at' else j3 at' y.1 l 2 [] 0 0 at', Option.bind (at? y.1 0) fun (c : UInt8) => Option.bind (qp_ (Int.ofNat (UInt8.toNat c), ())) fun (y_2 : Bool × Unit) => if y_2.1 = true then Option.bind (at? y.1 0) fun (c : UInt8) => Option.bind (qq_ (Int.ofNat (UInt8.toNat c), ())) fun (y_3 : Bool × Unit) => if y_3.1 = true then j3 at' y.1 l 1 [] 0 0 at' else j3 at' y.1 l 3 [] 0 0 at' else Option.bind (at? y.1 0) fun (c : UInt8) => Option.bind (qq_ (Int.ofNat (UInt8.toNat c), ())) fun (y_3 : Bool × Unit) => if y_3.1 = true then j3 at' y.1 l 1 [] 0 0 at' else j3 at' y.1 l 2 [] 0 0 at'] else amb (eqAs q15_.rs) [Option.bind (at? y.1 0) fun (c : UInt8) => Option.bind (qq_ (Int.ofNat (UInt8.toNat c), ())) fun (y_2 : Bool × Unit) => if y_2.1 = true then Option.bind (at? y.1 0) fun (c : UInt8) => Option.bind (qp_ (Int.ofNat (UInt8.toNat c), ())) fun (y_3 : Bool × Unit) => if y_3.1 = true then j3 at' y.1 l 3 [] 0 0 at' else j3 at' y.1 l 1 [] 0 0 at' else Option.bind (at? y.1 0) fun (c : UInt8) => Option.bind (qp_ (Int.ofNat (UInt8.toNat c), ())) fun (y_3 : Bool × Unit) => if y_3.1 = true then j3 at' y.1 l 3 [] 0 0 at' else j3 at' y.1 l 0 [] 0 0 at', Option.bind (at? y.1 0) fun (c : UInt8) => Option.bind (qp_ (Int.ofNat (UInt8.toNat c), ())) fun (y_2 : Bool × Unit) => if y_2.1 = true then Option.bind (at? y.1 0) fun (c : UInt8) => Option.bind (qq_ (Int.ofNat (UInt8.toNat c), ())) fun (y_3 : Bool × Unit) => if y_3.1 = true then j3 at' y.1 l 1 [] 0 0 at' else j3 at' y.1 l 3 [] 0 0 at' else Option.bind (at? y.1 0) fun (c : UInt8) => Option.bind (qq_ (Int.ofNat (UInt8.toNat c), ())) fun (y_3 : Bool × Unit) => if y_3.1 = true then j3 at' y.1 l 1 [] 0 0 at' else j3 at' y.1 l 0 [] 0 0 at'], Option.bind (at? y.1 0) fun (c : UInt8) => Option.bind (qp_ (Int.ofNat (UInt8.toNat c), ())) fun (y_1 : Bool × Unit) => if y_1.1 = true then amb (eqAs q15_.rs) [Option.bind (at? y.1 0) fun (c : UInt8) => Option.bind (qq_ (Int.ofNat (UInt8.toNat c), ())) fun (y_2 : Bool × Unit) => if y_2.1 = true then Option.bind (at? y.1 0) fun (c : UInt8) => Option.bind (qo_ (Int.ofNat (UInt8.toNat c), ())) fun (y_3 : Bool × Unit) => if y_3.1 = true then j3 at' y.1 l 2 [] 0 0 at' else j3 at' y.1 l 1 [] 0 0 at' else Option.bind (at? y.1 0) fun (c : UInt8) => Option.bind (qo_ (Int.ofNat (UInt8.toNat c), ())) fun (y_3 : Bool × Unit) => if y_3.1 = true then j3 at' y.1 l 2 [] 0 0 at' else j3 at' y.1 l 3 [] 0 0 at', Option.bind (at? y.1 0) fun (c : UInt8) => Option.bind (qo_ (Int.ofNat (UInt8.toNat c), ())) fun (y_2 : Bool × Unit) => if y_2.1 = true then Option.bind (at? y.1 0) fun (c : UInt8) => Option.bind (qq_ (Int.ofNat (UInt8.toNat c), ())) fun (y_3 : Bool × Unit) => if y_3.1 = true then j3 at' y.1 l 1 [] 0 0 at' else j3 at' y.1 l 2 [] 0 0 at' else Option.bind (at? y.1 0) fun (c : UInt8) => Option.bind (qq_ (Int.ofNat (UInt8.toNat c), ())) fun (y_3 : Bool × Unit) => if y_3.1 = true then j3 at' y.1 l 1 [] 0 0 at' else j3 at' y.1 l 3 [] 0 0 at'] else amb (eqAs q15_.rs) [Option.bind (at? y.1 0) fun (c : UInt8) => Option.bind (qq_ (Int.ofNat (UInt8.toNat c), ())) fun (y_2 : Bool × Unit) => if y_2.1 = true then Option.bind (at? y.1 0) fun (c : UInt8) => Option.bind (qo_ (Int.ofNat (UInt8.toNat c), ())) fun (y_3 : Bool × Unit) => if y_3.1 = true then j3 at' y.1 l 2 [] 0 0 at' else j3 at' y.1 l 1 [] 0 0 at' else Option.bind (at? y.1 0) fun (c : UInt8) => Option.bind (qo_ (Int.ofNat (UInt8.toNat c), ())) fun (y_3 : Bool × Unit) => if y_3.1 = true then j3 at' y.1 l 2 [] 0 0 at' else j3 at' y.1 l 0 [] 0 0 at', Option.bind (at? y.1 0) fun (c : UInt8) => Option.bind (qo_ (Int.ofNat (UInt8.toNat c), ())) fun (y_2 : Bool × Unit) => if y_2.1 = true then Option.bind (at? y.1 0) fun (c : UInt8) => Option.bind (qq_ (Int.ofNat (UInt8.toNat c), ())) fun (y_3 : Bool × Unit) => if y_3.1 = true then j3 at' y.1 l 1 [] 0 0 at' else j3 at' y.1 l 2 [] 0 0 at' else Option.bind (at? y.1 0) fun (c : UInt8) => Option.bind (qq_ (Int.ofNat (UInt8.toNat c), ())) fun (y_3 : Bool × Unit) => if y_3.1 = true then j3 at' y.1 l 1 [] 0 0 at' else j3 at' y.1 l 0 [] 0 0 at']]
def qco_ (j4 : List QAT4 -> Option (As [.sl QAT1, .int .i64])) (at' : Int) (l : List QAT4) : Option (As [.sl QAT1, .int .i64]) :=
  if gt (Int.ofNat (List.length l)) 0 = true then need (small (List.length l + Nat.succ 0)) (j4 (l ++ [(4, [], (0, 0), at')])) else j4 l
def qcn_ (self1 : Int -> List UInt8 -> List QAT4 -> Option (As [.sl QAT1, .int .i64])) (at' : Int) (text : List UInt8) (l : List QAT4) (t : Int) (t_2 : List UInt8) (t_3 t_4 t_5 : Int) : Option (As [.sl QAT1, .int .i64]) :=
  if eqi 1 t = true then Option.bind (q8b_ (text, ())) fun (y : List UInt8 × List UInt8 × Unit) => Option.bind (qc8_ (t, y.1, t_3, t_4, t_5, ())) fun (y_1 : Int × Int × List UInt8 × Int × Int × Int × Unit) => if nei y_1.1 0 = true then some ([], y_1.1, ()) else need (small (List.length l + Nat.succ 0)) (self1 at' y.2.1 (l ++ [(y_1.2.1, y_1.2.2.1, (y_1.2.2.2.1, y_1.2.2.2.2.1), y_1.2.2.2.2.2.1)])) else if eqi 2 t = true then Option.bind (q8a_ (text, ())) fun (y : List UInt8 × List UInt8 × Unit) => Option.bind (qai_ (t, y.1, t_3, t_4, t_5, ())) fun (y_1 : Int × Int × List UInt8 × Int × Int × Int × Unit) => if nei y_1.1 0 = true then some ([], y_1.1, ()) else need (small (List.length l + Nat.succ 0)) (self1 at' y.2.1 (l ++ [(y_1.2.1, y_1.2.2.1, (y_1.2.2.2.1, y_1.2.2.2.2.1), y_1.2.2.2.2.2.1)])) else if eqi 3 t = true then Option.bind (q8c_ (text, ())) fun (y : List UInt8 × List UInt8 × Unit) => Option.bind (q7m_ (t, y.1, t_3, t_4, t_5, ())) fun (y_1 : Int × Int × List UInt8 × Int × Int × Int × Unit) => if nei y_1.1 0 = true then some ([], y_1.1, ()) else need (small (List.length l + Nat.succ 0)) (self1 at' y.2.1 (l ++ [(y_1.2.1, y_1.2.2.1, (y_1.2.2.2.1, y_1.2.2.2.2.1), y_1.2.2.2.2.2.1)])) else some ([], 131, ())
def qfg_ (l : List QAT4) : Option (As [.sl QAT1, .int .i64]) :=
  some (l, 0, ())
def qbd_ (j1 : Int -> List UInt8 -> List QAT4 -> Option (As [.sl QAT1, .int .i64])) (text : List UInt8) (at' : Int) : Option (As [.sl QAT1, .int .i64]) :=
  if eqs [35] text = true then Option.bind (cut text 1 (Int.ofNat (List.length text))) fun (y : List UInt8) => j1 at' [] [] else if ge (Go.Lib.indexByte text 35) 0 = true then Option.bind (cut text 0 (Go.Lib.indexByte text 35)) fun (y : List UInt8) => Option.bind (cut text (add .i64 (Go.Lib.indexByte text 35) 1) (Int.ofNat (List.length text))) fun (y_1 : List UInt8) => j1 at' y [] else j1 at' text []
def qcm_ (l : List QAT4) : Option (As [.sl QAT1, .int .i64]) := qfg_ l
def q9o_ (at' : Int) (l : List QAT4) : Option (As [.sl QAT1, .int .i64]) := qco_ (qcm_) at' l
def q9n_ (u1 : Int -> List UInt8 -> List QAT4 -> Option (As [.sl QAT1, .int .i64])) (at' : Int) (text : List UInt8) (l : List QAT4) (t : Int) (t_2 : List UInt8) (t_3 t_4 t_5 : Int) : Option (As [.sl QAT1, .int .i64]) := qcn_ u1 at' text l t t_2 t_3 t_4 t_5
def q9r_ (at' : Int) (text : List UInt8) (l : List QAT4) : Option (As [.sl QAT1, .int .i64]) :=
  loopF (fun (self : (Int) × (List UInt8) × (List QAT4) -> Option (As [.sl QAT1, .int .i64])) (s : (Int) × (List UInt8) × (List QAT4)) => q74_ (q9o_) (q9n_ (fun at' text l => self (at', text, l))) (fun at' text l => self (at', text, l)) s.1 s.2.1 s.2.2) 18446744073709551616 (at', text, l)
def q92_ (x : As [.str, .int .i64]) : Option (As [.sl QAT1, .int .i64]) := qbd_ q9r_ x.1 x.2.1
theorem qn7_  (J l) : pfn Tryz.prog q36_ 6 18446744073709551616 (Ev.get q39_) 72 q15_ J 63 [] (qbb_ l) = qfg_ l := by kernel_rfl
theorem qmw_  (J at' l) : pfn Tryz.prog q36_ 6 18446744073709551616 (Ev.get q39_) 72 q15_ J 31 [] (qbc_ at' l) = qco_ (fun l => J 63 [] (qbb_ l)) at' l := by kernel_rfl
theorem qmv_  (J w1 at' text l t t_2 t_3 t_4 t_5) : pfn Tryz.prog q36_ 6 18446744073709551616 (Ev.get q39_) 72 q15_ J 3975 [w1] (qbg_ at' text l t t_2 t_3 t_4 t_5) = qcn_ (fun at' text l => w1 (q4z_ at' text l)) at' text l t t_2 t_3 t_4 t_5 := by kernel_rfl
theorem qmm_  (J w1 at' text l) : pfn Tryz.prog q36_ 6 18446744073709551616 (Ev.get q39_) 72 q15_ J 124 [w1] (q4z_ at' text l) = q74_ (fun at' l => J 31 [] (qbc_ at' l)) (fun at' text l t t_2 t_3 t_4 t_5 => J 3975 [w1] (qbg_ at' text l t t_2 t_3 t_4 t_5)) (fun at' text l => w1 (q4z_ at' text l)) at' text l := by kernel_rfl
theorem qmn_ (J : Orc (As [.sl QAT1, .int .i64])) (x : As [.str, .int .i64]) : rfn Tryz.prog q36_ 6 18446744073709551616 (Ev.get q39_) 72 q15_ J x = qbd_ (fun at' text l => J 124 [] (q4z_ at' text l)) x.1 x.2.1 := by kernel_rfl
theorem qn2_  (l) : jfn Tryz.prog q36_ 6 18446744073709551616 (Ev.get q39_) 72 q15_ 63 [] (qbb_ l) = qcm_ l := by
  rw [q4_ (by decide)]
  rw [qn7_]
  rfl
theorem qmz_  (at' l) : jfn Tryz.prog q36_ 6 18446744073709551616 (Ev.get q39_) 72 q15_ 31 [] (qbc_ at' l) = q9o_ at' l := by
  rw [q4_ (by decide)]
  have e4 : (fun l => (jfn Tryz.prog q36_ 6 18446744073709551616 (Ev.get q39_) 72 q15_) 63 [] (qbb_ l)) = qcm_ := funext fun l => qn2_ l
  rw [qmw_, e4]
  rfl
theorem qmy_  (w1 at' text l t t_2 t_3 t_4 t_5) : jfn Tryz.prog q36_ 6 18446744073709551616 (Ev.get q39_) 72 q15_ 3975 [w1] (qbg_ at' text l t t_2 t_3 t_4 t_5) = q9n_ (fun at' text l => w1 (q4z_ at' text l)) at' text l t t_2 t_3 t_4 t_5 := by
  rw [q4_ (by decide)]
  rw [qmv_]
  rfl
theorem qn3_  (at' text l) : jfn Tryz.prog q36_ 6 18446744073709551616 (Ev.get q39_) 72 q15_ 124 [] (q4z_ at' text l) = q9r_ at' text l := by
  rw [q4_ (by decide)]
  rw [q16_ (by kernel_rfl)]
  refine qk_ (σ := (Int) × (List UInt8) × (List QAT4)) (mk := fun s => q4z_ s.1 s.2.1 s.2.2) (fun w1 s => ?_) 18446744073709551616 (at', text, l)
  have e2 : (fun at' l => (jfn Tryz.prog q36_ 6 18446744073709551616 (Ev.get q39_) 72 q15_) 31 [] (qbc_ at' l)) = q9o_ := by funext at' l; exact qmz_ at' l
  have e3 : (fun at' text l t t_2 t_3 t_4 t_5 => (jfn Tryz.prog q36_ 6 18446744073709551616 (Ev.get q39_) 72 q15_) 3975 [w1] (qbg_ at' text l t t_2 t_3 t_4 t_5)) = q9n_ (fun at' text l => w1 (q4z_ at' text l)) := by funext at' text l t t_2 t_3 t_4 t_5; exact qmy_ w1 at' text l t t_2 t_3 t_4 t_5
  refine (qmm_ _ w1 s.1 s.2.1 s.2.2).trans ?_
  rw [e2, e3]
theorem qnd_ (x : As [.str, .int .i64]) : evT Tryz.prog q36_ 6 18446744073709551616 (Ev.get q39_) 72 q15_ x = q92_ x := by
  have e1 : (fun at' text l => (jfn Tryz.prog q36_ 6 18446744073709551616 (Ev.get q39_) 72 q15_) 124 [] (q4z_ at' text l)) = q9r_ := by funext at' text l; exact qn3_ at' text l
  rw [q27_, qmn_, e1]
  rfl
theorem qmr_ : CtOk Tryz.prog I0 72 ⟨q15_, q92_⟩ := qx_ (q0_ qbw_ (q0_ q5d_ (q0_ qfd_ (q0_ qbt_ (q0_ q5e_ (q0_ qe7_ (q0_ qbu_ (q0_ q5c_ (q0_ qbx_ (q0_ qg3_ (q0_ qfm_ (q0_ qfq_ (q0_ strings_TrimLeft_ok q7_))))))))))))) qnd_
@[reducible] def q5o_ : Sh := ⟨[.d (.str)], [], [.str], [.d (.sl QAT1), .d (.pr (.int .i64) (.int .i64))], [], 0, [.sl QAT1, .pr (.int .i64) (.int .i64)]⟩
def q7t_ : Env := (cts [(72, (⟨q15_, q92_⟩ : Ct)), (100, (⟨qaa_, qq_⟩ : Ct)), (102, (⟨q4x_, q2z_⟩ : Ct)), (104, (⟨qd5_, qc8_⟩ : Ct)), (105, (⟨qa1_, qo_⟩ : Ct)), (106, (⟨q4u_, q30_⟩ : Ct)), (107, (⟨qcc_, qai_⟩ : Ct)), (108, (⟨qa4_, qp_⟩ : Ct)), (109, (⟨q4w_, q41_⟩ : Ct)), (110, (⟨qa8_, q7m_⟩ : Ct))])
def q7u_ : List (Nat × Hint) := [(31, ⟨[], [3, 5]⟩), (250, ⟨[.row 5 106], [0, 3, 4, 5, 6]⟩)]
def q9c_ (text : List UInt8) (n t3 t3_2 : Int) (l : List QAT4) : St := { fr := [(0, .d .str text), (3, .pb 0 0), (4, .mp 1), (5, .row 2), (6, .d (.int .i64) n)], nt := 45, up := [], own := [(0, .box 33 [.d (.int .i64) t3, .d (.int .i64) t3_2]), (1, .sm (.int .u8) 3 [(0, 1, .agg [.fn (.func 100) [] [], .fn (.func 102) [] [], .fn (.func 104) [] []]), (1, 2, .agg [.fn (.func 105) [] [], .fn (.func 106) [] [], .fn (.func 107) [] []]), (2, 3, .agg [.fn (.func 108) [] [], .fn (.func 109) [] [], .fn (.func 110) [] []])]), (2, .row QAT1 106 l)], nx := 3, log := [], ln := 0 }
def qc0_ (t3 t3_2 : Int) (l : List QAT4) : St := { fr := [(3, .pb 0 0), (5, .row 1)], nt := 45, up := [], own := [(0, .box 33 [.d (.int .i64) t3, .d (.int .i64) t3_2]), (1, .row QAT1 106 l)], nx := 2, log := [], ln := 0 }
def qah_ (j2 : Int -> Int -> List QAT4 -> Option (As [.sl QAT1, .pr (.int .i64) (.int .i64)])) (self1 : List UInt8 -> Int -> Int -> Int -> List QAT4 -> Option (As [.sl QAT1, .pr (.int .i64) (.int .i64)])) (text : List UInt8) (n t3 t3_2 : Int) (l : List QAT4) : Option (As [.sl QAT1, .pr (.int .i64) (.int .i64)]) :=
  if nes text [] = true then if eqs [10] text = true then Option.bind (cut text 1 (Int.ofNat (List.length text))) fun (y : List UInt8) => Option.bind (q92_ ([], n, ())) fun (y_1 : List QAT4 × Int × Unit) => if nei y_1.2.1 0 = true then some ([], (y_1.2.1, n), ()) else need (small (List.length l + List.length y_1.1)) (self1 y (add .i64 n 1) t3 t3_2 (l ++ y_1.1)) else if ge (Go.Lib.indexByte text 10) 0 = true then Option.bind (cut text 0 (Go.Lib.indexByte text 10)) fun (y : List UInt8) => Option.bind (cut text (add .i64 (Go.Lib.indexByte text 10) 1) (Int.ofNat (List.length text))) fun (y_1 : List UInt8) => Option.bind (q92_ (y, n, ())) fun (y : List QAT4 × Int × Unit) => if nei y.2.1 0 = true then some ([], (y.2.1, n), ()) else need (small (List.length l + List.length y.1)) (self1 y_1 (add .i64 n 1) t3 t3_2 (l ++ y.1)) else Option.bind (q92_ (text, n, ())) fun (y : List QAT4 × Int × Unit) => if nei y.2.1 0 = true then some ([], (y.2.1, n), ()) else need (small (List.length l + List.length y.1)) (self1 [] (add .i64 n 1) t3 t3_2 (l ++ y.1)) else j2 t3 t3_2 l
def qgn_ (t3 t3_2 : Int) (l : List QAT4) : Option (As [.sl QAT1, .pr (.int .i64) (.int .i64)]) :=
  some (l, (0, 0), ())
def qby_ (j1 : List UInt8 -> Int -> Int -> Int -> List QAT4 -> Option (As [.sl QAT1, .pr (.int .i64) (.int .i64)])) (text : List UInt8) : Option (As [.sl QAT1, .pr (.int .i64) (.int .i64)]) :=
  if gt (Int.ofNat (List.length text)) 8192 = true then some ([], (130, 0), ()) else j1 text 1 0 0 []
def qc1_ (t3 t3_2 : Int) (l : List QAT4) : Option (As [.sl QAT1, .pr (.int .i64) (.int .i64)]) := qgn_ t3 t3_2 l
def qc2_ (text : List UInt8) (n t3 t3_2 : Int) (l : List QAT4) : Option (As [.sl QAT1, .pr (.int .i64) (.int .i64)]) :=
  loopF (fun (self : (List UInt8) × (Int) × (Int) × (Int) × (List QAT4) -> Option (As [.sl QAT1, .pr (.int .i64) (.int .i64)])) (s : (List UInt8) × (Int) × (Int) × (Int) × (List QAT4)) => qah_ (qc1_) (fun text n t3 t3_2 l => self (text, n, t3, t3_2, l)) s.1 s.2.1 s.2.2.1 s.2.2.2.1 s.2.2.2.2) 18446744073709551616 (text, n, t3, t3_2, l)
def qcq_ (x : As [.str]) : Option (As [.sl QAT1, .pr (.int .i64) (.int .i64)]) := qby_ qc2_ x.1
theorem qne_  (J t3 t3_2 l) : pfn Tryz.prog q7t_ 6 18446744073709551616 (Ev.get q7u_) 39 q5o_ J 31 [] (qc0_ t3 t3_2 l) = qgn_ t3 t3_2 l := by kernel_rfl
theorem qnf_  (J w1 text n t3 t3_2 l) : pfn Tryz.prog q7t_ 6 18446744073709551616 (Ev.get q7u_) 39 q5o_ J 250 [w1] (q9c_ text n t3 t3_2 l) = qah_ (fun t3 t3_2 l => J 31 [] (qc0_ t3 t3_2 l)) (fun text n t3 t3_2 l => w1 (q9c_ text n t3 t3_2 l)) text n t3 t3_2 l := by kernel_rfl
theorem qnc_ (J : Orc (As [.sl QAT1, .pr (.int .i64) (.int .i64)])) (x : As [.str]) : rfn Tryz.prog q7t_ 6 18446744073709551616 (Ev.get q7u_) 39 q5o_ J x = qby_ (fun text n t3 t3_2 l => J 250 [] (q9c_ text n t3 t3_2 l)) x.1 := by kernel_rfl
theorem qnh_  (t3 t3_2 l) : jfn Tryz.prog q7t_ 6 18446744073709551616 (Ev.get q7u_) 39 q5o_ 31 [] (qc0_ t3 t3_2 l) = qc1_ t3 t3_2 l := by
  rw [q4_ (by decide)]
  rw [qne_]
  rfl
theorem qnk_  (text n t3 t3_2 l) : jfn Tryz.prog q7t_ 6 18446744073709551616 (Ev.get q7u_) 39 q5o_ 250 [] (q9c_ text n t3 t3_2 l) = qc2_ text n t3 t3_2 l := by
  rw [q4_ (by decide)]
  rw [q16_ (by kernel_rfl)]
  refine qk_ (σ := (List UInt8) × (Int) × (Int) × (Int) × (List QAT4)) (mk := fun s => q9c_ s.1 s.2.1 s.2.2.1 s.2.2.2.1 s.2.2.2.2) (fun w1 s => ?_) 18446744073709551616 (text, n, t3, t3_2, l)
  have e2 : (fun t3 t3_2 l => (jfn Tryz.prog q7t_ 6 18446744073709551616 (Ev.get q7u_) 39 q5o_) 31 [] (qc0_ t3 t3_2 l)) = qc1_ := by funext t3 t3_2 l; exact qnh_ t3 t3_2 l
  refine (qnf_ _ w1 s.1 s.2.1 s.2.2.1 s.2.2.2.1 s.2.2.2.2).trans ?_
  rw [e2]
theorem qnl_ (x : As [.str]) : evT Tryz.prog q7t_ 6 18446744073709551616 (Ev.get q7u_) 39 q5o_ x = qcq_ x := by
  have e1 : (fun text n t3 t3_2 l => (jfn Tryz.prog q7t_ 6 18446744073709551616 (Ev.get q7u_) 39 q5o_) 250 [] (q9c_ text n t3 t3_2 l)) = qc2_ := by funext text n t3 t3_2 l; exact qnk_ text n t3 t3_2 l
  rw [q27_, qnc_, e1]
  rfl
theorem qni_ : CtOk Tryz.prog I0 39 ⟨q5o_, qcq_⟩ := qx_ (q0_ qmr_ (q0_ qbw_ (q0_ q5d_ (q0_ qfd_ (q0_ qbt_ (q0_ q5e_ (q0_ qe7_ (q0_ qbu_ (q0_ q5c_ (q0_ qbx_ q7_)))))))))) qnl_
def qgw_ (c : Int) : Option (As [.bool]) :=
  if ge c 97 = true then if le c 122 = true then some (true, ()) else if ge c 65 = true then if le c 90 = true then some (true, ()) else some (eqi c 37, ()) else some (eqi c 37, ()) else if ge c 65 = true then if le c 90 = true then some (true, ()) else some (eqi c 37, ()) else some (eqi c 37, ())
def qeu_ (x : As [.int .u8]) : Option (As [.bool]) := qgw_ x.1
def qir_ (c : Int) : Option (As [.bool]) :=
  if ge c 48 = true then some (le c 57, ()) else some (false, ())
def qcp_ (x : As [.int .u8]) : Option (As [.bool]) := qir_ x.1
def qkq_ (kind c : Int) : Option (As [.bool]) :=
  if eqi kind 1 = true then Option.bind (qeu_ (c, ())) fun (y : Bool × Unit) => if y.1 = true then some (true, ()) else Option.bind (qcp_ (c, ())) fun (y : Bool × Unit) => if y.1 = true then some (true, ()) else some (eqi c 95, ()) else Option.bind (qcp_ (c, ())) fun (y : Bool × Unit) => if y.1 = true then some (true, ()) else if eqi c 46 = true then some (true, ()) else some (eqi c 45, ())
def qnj_ (x : As [.int .u8, .int .u8]) : Option (As [.bool]) := qkq_ x.1 x.2.1
def qn9_ (j2 : Int -> Int -> Bool -> Int -> Int -> Option (As [.pr (.int .i64) (.int .u8), .bool])) (self1 : Int -> Int -> Int -> Int -> Option (As [.pr (.int .i64) (.int .u8), .bool])) (n digits t4 t4_2 : Int) : Option (As [.pr (.int .i64) (.int .u8), .bool]) :=
  if gt digits 0 = true then j2 n digits (eqi (rem n 10) 0) t4 t4_2 else j2 n digits false t4 t4_2
def qmx_ (j3 self1 : Int -> Int -> Int -> Int -> Option (As [.pr (.int .i64) (.int .u8), .bool])) (n digits : Int) (t12 : Bool) (t4 t4_2 : Int) : Option (As [.pr (.int .i64) (.int .u8), .bool]) :=
  if t12 = true then self1 (quo .i64 n 10) (Sx.sub .i64 digits 1) t4 t4_2 else j3 n digits t4 t4_2
def qmo_ (j4 : Int -> Int -> Bool -> Int -> Int -> Option (As [.pr (.int .i64) (.int .u8), .bool])) (n digits t4 t4_2 : Int) : Option (As [.pr (.int .i64) (.int .u8), .bool]) :=
  if gt digits 6 = true then j4 n digits true t4 t4_2 else if gt n 1000000000000 = true then j4 n digits true t4 t4_2 else j4 n digits (lt n (-1000000000000)) t4 t4_2
def qms_ (n digits : Int) (t26 : Bool) (t4 t4_2 : Int) : Option (As [.pr (.int .i64) (.int .u8), .bool]) :=
  if t26 = true then some ((0, 0), false, ()) else some ((n, cvt .u8 digits), true, ())
def qn5_ (j1 : Int -> Int -> Int -> Int -> Option (As [.pr (.int .i64) (.int .u8), .bool])) (n digits : Int) : Option (As [.pr (.int .i64) (.int .u8), .bool]) :=
  j1 n digits 0 0
def qn1_ (n digits : Int) (t26 : Bool) (t4 t4_2 : Int) : Option (As [.pr (.int .i64) (.int .u8), .bool]) := qms_ n digits t26 t4 t4_2
def qna_ (n digits t4 t4_2 : Int) : Option (As [.pr (.int .i64) (.int .u8), .bool]) := qmo_ (qn1_) n digits t4 t4_2
def qn8_ (u1 : Int -> Int -> Int -> Int -> Option (As [.pr (.int .i64) (.int .u8), .bool])) (n digits : Int) (t12 : Bool) (t4 t4_2 : Int) : Option (As [.pr (.int .i64) (.int .u8), .bool]) := qmx_ (qna_) u1 n digits t12 t4 t4_2
def qmp_ (n digits t4 t4_2 : Int) : Option (As [.pr (.int .i64) (.int .u8), .bool]) :=
  loopF (fun (self : (Int) × (Int) × (Int) × (Int) -> Option (As [.pr (.int .i64) (.int .u8), .bool])) (s : (Int) × (Int) × (Int) × (Int)) => qn9_ (qn8_ (fun n digits t4 t4_2 => self (n, digits, t4, t4_2))) (fun n digits t4 t4_2 => self (n, digits, t4, t4_2)) s.1 s.2.1 s.2.2.1 s.2.2.2) 18446744073709551616 (n, digits, t4, t4_2)
def qnp_ (x : As [.int .i64, .int .i64]) : Option (As [.pr (.int .i64) (.int .u8), .bool]) := qn5_ qmp_ x.1 x.2.1
end Go.Proofs.Lx
end
