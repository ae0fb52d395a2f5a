/- Proved in the last of these 12 parts (this is part 6): the law RecipeLines of chapter 14 returns true at every recipe and every number of lines ahead. Conditions: those of the given statement, and no others. -/
import Derived.Test.YtnamnibaedolaaaGreatDoorParte
import Derived.Test.YtnamnibaedolaaaGreatDoorProg
set_option linter.unusedVariables false
set_option linter.unusedSimpArgs false
set_option linter.unusedSectionVars false
section
open Go Go.Proofs Ev Sx
set_option maxRecDepth 100000
namespace Go.Proofs.Lx
abbrev QAT3 : Type := (List UInt8 × (Int × Int) × List UInt8 × Int)
abbrev QAT0 : Type := (List UInt8 × Int × List QAT3)
abbrev QAT1 : Ty := (.pr (.int .u8) (.pr .str (.pr (.pr (.int .i64) (.int .u8)) (.int .i64))))
abbrev QAT5 : Ty := (.pr .str (.pr (.pr (.int .i64) (.int .u8)) (.pr .str (.int .i64))))
abbrev QAT2 : Ty := (.pr .str (.pr (.int .i64) (.sl QAT5)))
abbrev QAT4 : Type := (Int × List UInt8 × (Int × Int) × Int)
@[reducible] def qmz_ : Sh := ⟨[.d (.int .u8)], [], [.int .u8], [.d (.bool)], [], 0, [.bool]⟩
def qlt_ (c : Int) : Option (As [.bool]) :=
  if ge c 97 = true then if le c 122 = true then some (true, ()) else if ge c 65 = true then some (le c 90, ()) else some (false, ()) else if ge c 65 = true then some (le c 90, ()) else some (false, ())
def qdx_ (x : As [.int .u8]) : Option (As [.bool]) := qlt_ x.1
theorem qem_ : CtOk Tryz.prog I0 101 ⟨qmz_, qdx_⟩ := ctn q9_ 6 fun J x => by kernel_rfl
@[reducible] def qaz_ : Sh := ⟨[.d (.int .u8)], [], [.int .u8], [.d (.bool)], [], 0, [.bool]⟩
def qfv_ (c : Int) : Option (As [.bool]) :=
  Option.bind (qdx_ (c, ())) fun (y : Bool × Unit) => if y.1 = true then some (true, ()) else some (eqi c 37, ())
def qp_ (x : As [.int .u8]) : Option (As [.bool]) := qfv_ x.1
theorem qcs_ : CtOk Tryz.prog I0 100 ⟨qaz_, qp_⟩ := ctn (q0_ qem_ q9_) 6 fun J x => by kernel_rfl
@[reducible] def qne_ : Sh := ⟨[.d (.int .u8)], [], [.int .u8], [.d (.bool)], [], 0, [.bool]⟩
def qmt_ (c : Int) : Option (As [.bool]) :=
  if ge c 48 = true then some (le c 57, ()) else some (false, ())
def qdh_ (x : As [.int .u8]) : Option (As [.bool]) := qmt_ x.1
theorem qd6_ : CtOk Tryz.prog I0 103 ⟨qne_, qdh_⟩ := ctn q9_ 6 fun J x => by kernel_rfl
@[reducible] def q5a_ : Sh := ⟨[.d (.int .u8)], [], [.int .u8], [.d (.bool)], [], 0, [.bool]⟩
def qfo_ (c : Int) : Option (As [.bool]) :=
  Option.bind (qdx_ (c, ())) fun (y : Bool × Unit) => if y.1 = true then some (true, ()) else Option.bind (qdh_ (c, ())) fun (y : Bool × Unit) => if y.1 = true then some (true, ()) else if eqi c 95 = true then some (true, ()) else some (eqi c 37, ())
def q3k_ (x : As [.int .u8]) : Option (As [.bool]) := qfo_ x.1
theorem q5v_ : CtOk Tryz.prog I0 102 ⟨q5a_, q3k_⟩ := ctn (q0_ qem_ (q0_ qd6_ q9_)) 6 fun J x => by kernel_rfl
@[reducible] def qe2_ : Sh := ⟨[.pb 0 0], [.box 106 [.d (.int .u8), .d .str, .d (.int .i64), .d (.int .u8), .d (.int .i64)]], [.int .u8, .str, .int .i64, .int .u8, .int .i64], [.d (.int .i64)], [(0, .box 106 [.d (.int .u8), .d .str, .d (.int .i64), .d (.int .u8), .d (.int .i64)])], 0, [.int .i64, .int .u8, .str, .int .i64, .int .u8, .int .i64]⟩
def qg2_ (t : Int) (t_2 : List UInt8) (v v_2 v_3 : Int) : Option (As [.int .i64, .int .u8, .str, .int .i64, .int .u8, .int .i64]) :=
  if gt (Int.ofNat (List.length t_2)) 20 = true then some (133, t, t_2, v, v_2, v_3, ()) else some (0, t, t_2, v, v_2, v_3, ())
def qd4_ (x : As [.int .u8, .str, .int .i64, .int .u8, .int .i64]) : Option (As [.int .i64, .int .u8, .str, .int .i64, .int .u8, .int .i64]) := qg2_ x.1 x.2.1 x.2.2.1 x.2.2.2.1 x.2.2.2.2.1
theorem qg1_ : CtOk Tryz.prog I0 104 ⟨qe2_, qd4_⟩ := ctn q9_ 6 fun J x => by kernel_rfl
@[reducible] def qb7_ : Sh := ⟨[.d (.int .u8)], [], [.int .u8], [.d (.bool)], [], 0, [.bool]⟩
def qfy_ (c : Int) : Option (As [.bool]) :=
  Option.bind (qdh_ (c, ())) fun (y : Bool × Unit) => if y.1 = true then some (true, ()) else some (eqi c 45, ())
def qr_ (x : As [.int .u8]) : Option (As [.bool]) := qfy_ x.1
theorem qct_ : CtOk Tryz.prog I0 105 ⟨qb7_, qr_⟩ := ctn (q0_ qd6_ q9_) 6 fun J x => by kernel_rfl
@[reducible] def q5b_ : Sh := ⟨[.d (.int .u8)], [], [.int .u8], [.d (.bool)], [], 0, [.bool]⟩
def qfn_ (c : Int) : Option (As [.bool]) :=
  Option.bind (qdh_ (c, ())) fun (y : Bool × Unit) => if y.1 = true then some (true, ()) else if eqi c 46 = true then some (true, ()) else some (eqi c 45, ())
def q3i_ (x : As [.int .u8]) : Option (As [.bool]) := qfn_ x.1
theorem q5x_ : CtOk Tryz.prog I0 106 ⟨q5b_, q3i_⟩ := ctn (q0_ qd6_ q9_) 6 fun J x => by kernel_rfl
@[reducible] def strings_makeASCIISet_s : Sh := ⟨[.d (.str)], [], [.str], [.d (.ar 256 .bool), .d (.bool)], [], 0, [.ar 256 .bool, .bool]⟩
def q23_ : Env := (cts [])
def q24_ : List (Nat × Hint) := [(3, ⟨[], [2]⟩), (26, ⟨[], [0, 2, 4]⟩)]
def q36_ (chars : List UInt8) (i : Int) (as' : List Bool) : St := { fr := [(0, .d .str chars), (2, .pb 0 0), (4, .d (.int .i64) i)], nt := 21, up := [], own := [(0, .row .bool 197 as')], nx := 1, log := [], ln := 0 }
def q54_ (as' : List Bool) : St := { fr := [(2, .pb 0 0)], nt := 21, up := [], own := [(0, .row .bool 197 as')], nx := 1, log := [], ln := 0 }
def strings_makeASCIISet_m1 (j2 : List Bool -> Option (As [.ar 256 .bool, .bool])) (self1 : List UInt8 -> Int -> List Bool -> Option (As [.ar 256 .bool, .bool])) (chars : List UInt8) (i : Int) (as' : List Bool) : Option (As [.ar 256 .bool, .bool]) :=
  if lt i (Int.ofNat (List.length chars)) = true then Option.bind (at? chars i) fun (c : UInt8) => if ge (Int.ofNat (UInt8.toNat c)) 128 = true then need (eqi (Int.ofNat (List.length as')) 256) (need (eqi (Int.ofNat (List.length as')) (Int.ofNat (List.length as'))) (need (eqi 256 (Int.ofNat (List.length as' * 1))) (need (eqi (Int.ofNat (List.length as')) 256) (need (eqi (Int.ofNat (List.length as')) 256) (some (as', false, ())))))) else need (lt (Int.ofNat (UInt8.toNat c)) 256) (Option.bind (at? as' (Int.ofNat (UInt8.toNat c))) fun (x : Bool) => Option.bind (at? as' (Int.ofNat (UInt8.toNat c))) fun (x : Bool) => self1 chars (add .i64 i 1) (List.set as' (Int.toNat (Int.ofNat (UInt8.toNat c))) true)) else j2 as'
def strings_makeASCIISet_m2 (as' : List Bool) : Option (As [.ar 256 .bool, .bool]) :=
  need (eqi (Int.ofNat (List.length as')) 256) (need (eqi (Int.ofNat (List.length as')) (Int.ofNat (List.length as'))) (need (eqi 256 (Int.ofNat (List.length as' * 1))) (need (eqi (Int.ofNat (List.length as')) 256) (need (eqi (Int.ofNat (List.length as')) 256) (some (as', true, ()))))))
def strings_makeASCIISet_m0 (j1 : List UInt8 -> Int -> List Bool -> Option (As [.ar 256 .bool, .bool])) (chars : List UInt8) : Option (As [.ar 256 .bool, .bool]) :=
  j1 chars 0 (List.replicate 256 false)
def q71_ (as' : List Bool) : Option (As [.ar 256 .bool, .bool]) := strings_makeASCIISet_m2 as'
def q72_ (chars : List UInt8) (i : Int) (as' : List Bool) : Option (As [.ar 256 .bool, .bool]) :=
  loopF (fun (self : (List UInt8) × (Int) × (List Bool) -> Option (As [.ar 256 .bool, .bool])) (s : (List UInt8) × (Int) × (List Bool)) => strings_makeASCIISet_m1 (q71_) (fun chars i as' => self (chars, i, as')) s.1 s.2.1 s.2.2) 18446744073709551616 (chars, i, as')
def q3e_ (x : As [.str]) : Option (As [.ar 256 .bool, .bool]) := strings_makeASCIISet_m0 q72_ x.1
theorem strings_makeASCIISet_c2  (J as') : pfn Tryz.prog q23_ 6 18446744073709551616 (Ev.get q24_) 134 strings_makeASCIISet_s J 3 [] (q54_ as') = strings_makeASCIISet_m2 as' := by kernel_rfl
theorem strings_makeASCIISet_c1  (J w1 chars i as') : pfn Tryz.prog q23_ 6 18446744073709551616 (Ev.get q24_) 134 strings_makeASCIISet_s J 26 [w1] (q36_ chars i as') = strings_makeASCIISet_m1 (fun as' => J 3 [] (q54_ as')) (fun chars i as' => w1 (q36_ chars i as')) chars i as' := by kernel_rfl
theorem strings_makeASCIISet_c0 (J : Orc (As [.ar 256 .bool, .bool])) (x : As [.str]) : rfn Tryz.prog q23_ 6 18446744073709551616 (Ev.get q24_) 134 strings_makeASCIISet_s J x = strings_makeASCIISet_m0 (fun chars i as' => J 26 [] (q36_ chars i as')) x.1 := by kernel_rfl
theorem strings_makeASCIISet_g2  (as') : jfn Tryz.prog q23_ 6 18446744073709551616 (Ev.get q24_) 134 strings_makeASCIISet_s 3 [] (q54_ as') = q71_ as' := by
  rw [q2_ (by decide)]
  rw [strings_makeASCIISet_c2]
  rfl
theorem strings_makeASCIISet_g1  (chars i as') : jfn Tryz.prog q23_ 6 18446744073709551616 (Ev.get q24_) 134 strings_makeASCIISet_s 26 [] (q36_ chars i as') = q72_ chars i as' := by
  rw [q2_ (by decide)]
  rw [qv_ (by kernel_rfl)]
  refine qi_ (σ := (List UInt8) × (Int) × (List Bool)) (mk := fun s => q36_ s.1 s.2.1 s.2.2) (fun w1 s => ?_) 18446744073709551616 (chars, i, as')
  have e2 : (fun as' => (jfn Tryz.prog q23_ 6 18446744073709551616 (Ev.get q24_) 134 strings_makeASCIISet_s) 3 [] (q54_ as')) = q71_ := funext fun as' => strings_makeASCIISet_g2 as'
  refine (strings_makeASCIISet_c1 _ w1 s.1 s.2.1 s.2.2).trans ?_
  rw [e2]
theorem strings_makeASCIISet_t (x : As [.str]) : evT Tryz.prog q23_ 6 18446744073709551616 (Ev.get q24_) 134 strings_makeASCIISet_s x = q3e_ x := by
  have e1 : (fun chars i as' => (jfn Tryz.prog q23_ 6 18446744073709551616 (Ev.get q24_) 134 strings_makeASCIISet_s) 26 [] (q36_ chars i as')) = q72_ := by funext chars i as'; exact strings_makeASCIISet_g1 chars i as'
  rw [q1u_, strings_makeASCIISet_c0, e1]
  rfl
theorem strings_makeASCIISet_ok : CtOk Tryz.prog I0 134 ⟨strings_makeASCIISet_s, q3e_⟩ := qu_ q9_ strings_makeASCIISet_t
@[reducible] def istringslite_HasPrefix_s : Sh := ⟨[.d (.str), .d (.str)], [], [.str, .str], [.d (.bool)], [], 0, [.bool]⟩
def istringslite_HasPrefix_m0 (s prefixV : List UInt8) : Option (As [.bool]) :=
  if ge (Int.ofNat (List.length s)) (Int.ofNat (List.length prefixV)) = true then Option.bind (cut s 0 (Int.ofNat (List.length prefixV))) fun (y : List UInt8) => some (eqs y prefixV, ()) else some (false, ())
def q4e_ (x : As [.str, .str]) : Option (As [.bool]) := istringslite_HasPrefix_m0 x.1 x.2.1
theorem q9o_ : CtOk Tryz.prog I0 87 ⟨istringslite_HasPrefix_s, q4e_⟩ := ctn q9_ 6 fun J x => by kernel_rfl
@[reducible] def istringslite_CutPrefix_s : Sh := ⟨[.d (.str), .d (.str)], [], [.str, .str], [.d (.str), .d (.bool)], [], 0, [.str, .bool]⟩
def istringslite_CutPrefix_m0 (s prefixV : List UInt8) : Option (As [.str, .bool]) :=
  Option.bind (q4e_ (s, prefixV, ())) fun (y : Bool × Unit) => if (!y.1) = true then some (s, false, ()) else Option.bind (cut s (Int.ofNat (List.length prefixV)) (Int.ofNat (List.length s))) fun (y : List UInt8) => some (y, true, ())
def q5i_ (x : As [.str, .str]) : Option (As [.str, .bool]) := istringslite_CutPrefix_m0 x.1 x.2.1
theorem istringslite_CutPrefix_ok : CtOk Tryz.prog I0 176 ⟨istringslite_CutPrefix_s, q5i_⟩ := ctn (q0_ q9o_ q9_) 6 fun J x => by kernel_rfl
@[reducible] def strings_CutPrefix_s : Sh := ⟨[.d (.str), .d (.str)], [], [.str, .str], [.d (.str), .d (.bool)], [], 0, [.str, .bool]⟩
def strings_CutPrefix_m0 (s prefixV : List UInt8) : Option (As [.str, .bool]) :=
  Option.bind (q5i_ (s, prefixV, ())) fun (y : List UInt8 × Bool × Unit) => some (y.1, y.2.1, ())
def q7y_ (x : As [.str, .str]) : Option (As [.str, .bool]) := strings_CutPrefix_m0 x.1 x.2.1
theorem strings_CutPrefix_ok : CtOk Tryz.prog I0 154 ⟨strings_CutPrefix_s, q7y_⟩ := ctn (q0_ istringslite_CutPrefix_ok q9_) 6 fun J x => by kernel_rfl
@[reducible] def q1b_ : Sh := ⟨[.d (.str)], [], [.str], [.d (.bool)], [], 0, [.bool]⟩
def q1t_ : Env := (cts [])
def q1s_ : List (Nat × Hint) := [(3, ⟨[], [0]⟩), (26, ⟨[], [0, 5, 6, 14, 15, 16, 17]⟩), (1689, ⟨[.agd 14 .str, .agd 15 (.int .i64), .agd 16 (.int .u8), .agd 17 .bool], [0, 5, 6, 18]⟩)]
def q2o_ (s : List UInt8) (t5 t6 : Int) : St := { fr := [(0, .d .str s), (5, .d (.int .i64) t5), (6, .d (.int .i64) t6)], nt := 22, up := [], own := [], nx := 0, log := [], ln := 0 }
def q7d_ (s : List UInt8) (t5 t6 : Int) (t18 : Bool) : St := { fr := [(0, .d .str s), (5, .d (.int .i64) t5), (6, .d (.int .i64) t6), (18, .d .bool t18)], nt := 22, up := [], own := [], nx := 0, log := [], ln := 0 }
def q7g_ (s : List UInt8) : St := { fr := [(0, .d .str s)], nt := 22, up := [], own := [], nx := 0, log := [], ln := 0 }
def q7c_ (j2 : List UInt8 -> Int -> Int -> Bool -> Option (As [.bool])) (j3 : List UInt8 -> Option (As [.bool])) (self1 : List UInt8 -> Int -> Int -> Option (As [.bool])) (s : List UInt8) (t5 t6 : Int) : Option (As [.bool]) :=
  if lt t6 t5 = true then Option.bind (at? s t6) fun (c : UInt8) => if lt (Int.ofNat (UInt8.toNat c)) 48 = true then j2 s t5 t6 true else Option.bind (at? s t6) fun (c : UInt8) => j2 s t5 t6 (gt (Int.ofNat (UInt8.toNat c)) 57) else j3 s
def q7b_ (self1 : List UInt8 -> Int -> Int -> Option (As [.bool])) (s : List UInt8) (t5 t6 : Int) (t18 : Bool) : Option (As [.bool]) :=
  if t18 = true then some (false, ()) else self1 s t5 (add .i64 t6 1)
def q9u_ (s : List UInt8) : Option (As [.bool]) :=
  some (nes s [], ())
def qcg_ (j1 : List UInt8 -> Int -> Int -> Option (As [.bool])) (s : List UInt8) : Option (As [.bool]) :=
  j1 s (Int.ofNat (List.length s)) 0
def q33_ (u1 : List UInt8 -> Int -> Int -> Option (As [.bool])) (s : List UInt8) (t5 t6 : Int) (t18 : Bool) : Option (As [.bool]) := q7b_ u1 s t5 t6 t18
def q5j_ (s : List UInt8) : Option (As [.bool]) := q9u_ s
def q9y_ (s : List UInt8) (t5 t6 : Int) : Option (As [.bool]) :=
  loopF (fun (self : (List UInt8) × (Int) × (Int) -> Option (As [.bool])) (s : (List UInt8) × (Int) × (Int)) => q7c_ (q33_ (fun s t5 t6 => self (s, t5, t6))) (q5j_) (fun s t5 t6 => self (s, t5, t6)) s.1 s.2.1 s.2.2) 18446744073709551616 (s, t5, t6)
def q2b_ (x : As [.str]) : Option (As [.bool]) := qcg_ q9y_ x.1
theorem qfe_  (J w1 s t5 t6 t18) : pfn Tryz.prog q1t_ 6 18446744073709551616 (Ev.get q1s_) 155 q1b_ J 1689 [w1] (q7d_ s t5 t6 t18) = q7b_ (fun s t5 t6 => w1 (q2o_ s t5 t6)) s t5 t6 t18 := by kernel_rfl
theorem qfc_  (J s) : pfn Tryz.prog q1t_ 6 18446744073709551616 (Ev.get q1s_) 155 q1b_ J 3 [] (q7g_ s) = q9u_ s := by kernel_rfl
theorem qfi_  (J w1 s t5 t6) : pfn Tryz.prog q1t_ 6 18446744073709551616 (Ev.get q1s_) 155 q1b_ J 26 [w1] (q2o_ s t5 t6) = q7c_ (fun s t5 t6 t18 => J 1689 [w1] (q7d_ s t5 t6 t18)) (fun s => J 3 [] (q7g_ s)) (fun s t5 t6 => w1 (q2o_ s t5 t6)) s t5 t6 := by kernel_rfl
theorem qfm_ (J : Orc (As [.bool])) (x : As [.str]) : rfn Tryz.prog q1t_ 6 18446744073709551616 (Ev.get q1s_) 155 q1b_ J x = qcg_ (fun s t5 t6 => J 26 [] (q2o_ s t5 t6)) x.1 := by kernel_rfl
theorem qfl_  (w1 s t5 t6 t18) : jfn Tryz.prog q1t_ 6 18446744073709551616 (Ev.get q1s_) 155 q1b_ 1689 [w1] (q7d_ s t5 t6 t18) = q33_ (fun s t5 t6 => w1 (q2o_ s t5 t6)) s t5 t6 t18 := by
  rw [q2_ (by decide)]
  rw [qfe_]
  rfl
theorem qff_  (s) : jfn Tryz.prog q1t_ 6 18446744073709551616 (Ev.get q1s_) 155 q1b_ 3 [] (q7g_ s) = q5j_ s := by
  rw [q2_ (by decide)]
  rw [qfc_]
  rfl
theorem qfk_  (s t5 t6) : jfn Tryz.prog q1t_ 6 18446744073709551616 (Ev.get q1s_) 155 q1b_ 26 [] (q2o_ s t5 t6) = q9y_ s t5 t6 := by
  rw [q2_ (by decide)]
  rw [qv_ (by kernel_rfl)]
  refine qi_ (σ := (List UInt8) × (Int) × (Int)) (mk := fun s => q2o_ s.1 s.2.1 s.2.2) (fun w1 s => ?_) 18446744073709551616 (s, t5, t6)
  have e2 : (fun s t5 t6 t18 => (jfn Tryz.prog q1t_ 6 18446744073709551616 (Ev.get q1s_) 155 q1b_) 1689 [w1] (q7d_ s t5 t6 t18)) = q33_ (fun s t5 t6 => w1 (q2o_ s t5 t6)) := by funext s t5 t6 t18; exact qfl_ w1 s t5 t6 t18
  have e3 : (fun s => (jfn Tryz.prog q1t_ 6 18446744073709551616 (Ev.get q1s_) 155 q1b_) 3 [] (q7g_ s)) = q5j_ := funext fun s => qff_ s
  refine (qfi_ _ w1 s.1 s.2.1 s.2.2).trans ?_
  rw [e2, e3]
theorem qfq_ (x : As [.str]) : evT Tryz.prog q1t_ 6 18446744073709551616 (Ev.get q1s_) 155 q1b_ x = q2b_ x := by
  have e1 : (fun s t5 t6 => (jfn Tryz.prog q1t_ 6 18446744073709551616 (Ev.get q1s_) 155 q1b_) 26 [] (q2o_ s t5 t6)) = q9y_ := by funext s t5 t6; exact qfk_ s t5 t6
  rw [q1u_, qfm_, e1]
  rfl
theorem qfb_ : CtOk Tryz.prog I0 155 ⟨q1b_, q2b_⟩ := qu_ q9_ qfq_
@[reducible] def strings_trimRightByte_s : Sh := ⟨[.d (.str), .d (.int .u8)], [], [.str, .int .u8], [.d (.str)], [], 0, [.str]⟩
def q1q_ : Env := (cts [])
def q1r_ : List (Nat × Hint) := [(12, ⟨[], [0, 1, 9, 10, 11, 12, 13, 14, 15]⟩), (48, ⟨[.agd 9 .str, .agd 10 .str, .agd 11 (.int .i64), .agd 12 (.int .i64), .agd 13 (.int .u8), .agd 14 (.int .u8), .agd 15 .bool], [0, 1, 16]⟩)]
def q1a_ (s : List UInt8) (c : Int) : St := { fr := [(0, .d .str s), (1, .d (.int .u8) c)], nt := 23, up := [], own := [], nx := 0, log := [], ln := 0 }
def q4y_ (s : List UInt8) (c : Int) (t16 : Bool) : St := { fr := [(0, .d .str s), (1, .d (.int .u8) c), (16, .d .bool t16)], nt := 23, up := [], own := [], nx := 0, log := [], ln := 0 }
def q4z_ (j2 : List UInt8 -> Int -> Bool -> Option (As [.str])) (self1 : List UInt8 -> Int -> Option (As [.str])) (s : List UInt8) (c : Int) : Option (As [.str]) :=
  if gt (Int.ofNat (List.length s)) 0 = true then Option.bind (at? s (Sx.sub .i64 (Int.ofNat (List.length s)) 1)) fun (c_1 : UInt8) => j2 s c (eqi (Int.ofNat (UInt8.toNat c_1)) c) else j2 s c false
def q6r_ (self1 : List UInt8 -> Int -> Option (As [.str])) (s : List UInt8) (c : Int) (t16 : Bool) : Option (As [.str]) :=
  if t16 = true then Option.bind (cut s 0 (Sx.sub .i64 (Int.ofNat (List.length s)) 1)) fun (y : List UInt8) => self1 y c else some (s, ())
def strings_trimRightByte_m0 (j1 : List UInt8 -> Int -> Option (As [.str])) (s : List UInt8) (c : Int) : Option (As [.str]) :=
  j1 s c
def q3y_ (u1 : List UInt8 -> Int -> Option (As [.str])) (s : List UInt8) (c : Int) (t16 : Bool) : Option (As [.str]) := q6r_ u1 s c t16
def q6s_ (s : List UInt8) (c : Int) : Option (As [.str]) :=
  loopF (fun (self : (List UInt8) × (Int) -> Option (As [.str])) (s : (List UInt8) × (Int)) => q4z_ (q3y_ (fun s c => self (s, c))) (fun s c => self (s, c)) s.1 s.2) 18446744073709551616 (s, c)
def q4n_ (x : As [.str, .int .u8]) : Option (As [.str]) := strings_trimRightByte_m0 q6s_ x.1 x.2.1
theorem strings_trimRightByte_c2  (J w1 s c t16) : pfn Tryz.prog q1q_ 6 18446744073709551616 (Ev.get q1r_) 177 strings_trimRightByte_s J 48 [w1] (q4y_ s c t16) = q6r_ (fun s c => w1 (q1a_ s c)) s c t16 := by kernel_rfl
theorem strings_trimRightByte_c1  (J w1 s c) : pfn Tryz.prog q1q_ 6 18446744073709551616 (Ev.get q1r_) 177 strings_trimRightByte_s J 12 [w1] (q1a_ s c) = q4z_ (fun s c t16 => J 48 [w1] (q4y_ s c t16)) (fun s c => w1 (q1a_ s c)) s c := by kernel_rfl
theorem strings_trimRightByte_c0 (J : Orc (As [.str])) (x : As [.str, .int .u8]) : rfn Tryz.prog q1q_ 6 18446744073709551616 (Ev.get q1r_) 177 strings_trimRightByte_s J x = strings_trimRightByte_m0 (fun s c => J 12 [] (q1a_ s c)) x.1 x.2.1 := by kernel_rfl
theorem strings_trimRightByte_g2  (w1 s c t16) : jfn Tryz.prog q1q_ 6 18446744073709551616 (Ev.get q1r_) 177 strings_trimRightByte_s 48 [w1] (q4y_ s c t16) = q3y_ (fun s c => w1 (q1a_ s c)) s c t16 := by
  rw [q2_ (by decide)]
  rw [strings_trimRightByte_c2]
  rfl
theorem strings_trimRightByte_g1  (s c) : jfn Tryz.prog q1q_ 6 18446744073709551616 (Ev.get q1r_) 177 strings_trimRightByte_s 12 [] (q1a_ s c) = q6s_ s c := by
  rw [q2_ (by decide)]
  rw [qv_ (by kernel_rfl)]
  refine qi_ (σ := (List UInt8) × (Int)) (mk := fun s => q1a_ s.1 s.2) (fun w1 s => ?_) 18446744073709551616 (s, c)
  have e2 : (fun s c t16 => (jfn Tryz.prog q1q_ 6 18446744073709551616 (Ev.get q1r_) 177 strings_trimRightByte_s) 48 [w1] (q4y_ s c t16)) = q3y_ (fun s c => w1 (q1a_ s c)) := by funext s c t16; exact strings_trimRightByte_g2 w1 s c t16
  refine (strings_trimRightByte_c1 _ w1 s.1 s.2).trans ?_
  rw [e2]
theorem strings_trimRightByte_t (x : As [.str, .int .u8]) : evT Tryz.prog q1q_ 6 18446744073709551616 (Ev.get q1r_) 177 strings_trimRightByte_s x = q4n_ x := by
  have e1 : (fun s c => (jfn Tryz.prog q1q_ 6 18446744073709551616 (Ev.get q1r_) 177 strings_trimRightByte_s) 12 [] (q1a_ s c)) = q6s_ := by funext s c; exact strings_trimRightByte_g1 s c
  rw [q1u_, strings_trimRightByte_c0, e1]
  rfl
theorem strings_trimRightByte_ok : CtOk Tryz.prog I0 177 ⟨strings_trimRightByte_s, q4n_⟩ := qu_ q9_ strings_trimRightByte_t
@[reducible] def qm_ : Sh := ⟨[.d (.str)], [], [.str], [.d (.pr (.int .i64) (.int .u8)), .d (.bool)], [], 0, [.pr (.int .i64) (.int .u8), .bool]⟩
def qt_ : Env := (cts [(134, (⟨strings_makeASCIISet_s, q3e_⟩ : Ct)), (154, (⟨strings_CutPrefix_s, q7y_⟩ : Ct)), (155, (⟨q1b_, q2b_⟩ : Ct)), (177, (⟨strings_trimRightByte_s, q4n_⟩ : Ct))])
def qs_ : List (Nat × Hint) := [(255, ⟨[], [2, 5, 7, 9]⟩), (511, ⟨[], [2, 7, 9]⟩), (2042, ⟨[], [2, 5, 7, 9, 54, 55]⟩), (522854, ⟨[], [2, 5, 7, 9, 11, 54, 55, 59, 60]⟩), (62, ⟨[], [2, 5, 6, 7, 48]⟩), (30, ⟨[], [2, 5, 6, 7, 8, 36, 40, 41, 42, 43, 44, 45, 46, 47]⟩)]
def qah_ (negative : Bool) (whole rest : List UInt8) (point t36 : Bool) (t2 t2_2 : Int) : St := { fr := [(2, .pb 0 0), (5, .d .bool negative), (6, .d .str whole), (7, .d .str rest), (8, .d .bool point), (36, .d .bool t36)], nt := 84, up := [], own := [(0, .box 45 [.d (.int .i64) t2, .d (.int .u8) t2_2])], nx := 1, log := [], ln := 0 }
def qaf_ (negative : Bool) (whole rest : List UInt8) (t48 : Bool) (t2 t2_2 : Int) : St := { fr := [(2, .pb 0 0), (5, .d .bool negative), (6, .d .str whole), (7, .d .str rest), (48, .d .bool t48)], nt := 84, up := [], own := [(0, .box 45 [.d (.int .i64) t2, .d (.int .u8) t2_2])], nx := 1, log := [], ln := 0 }
def q40_ (negative : Bool) (rest : List UInt8) (n : Int) (t54 t54_2 : List UInt8) (t55 t2 t2_2 : Int) : St := { fr := [(2, .pb 0 0), (5, .d .bool negative), (7, .d .str rest), (9, .d (.int .i64) n), (54, .agg [.d .str t54, .d .str t54_2]), (55, .d (.int .i64) t55)], nt := 84, up := [], own := [(0, .box 45 [.d (.int .i64) t2, .d (.int .u8) t2_2])], nx := 1, log := [], ln := 0 }
def q6j_ (negative : Bool) (rest : List UInt8) (n : Int) (part t54 t54_2 : List UInt8) (t55 t59 t60 t2 t2_2 : Int) : St := { fr := [(2, .pb 0 0), (5, .d .bool negative), (7, .d .str rest), (9, .d (.int .i64) n), (11, .d .str part), (54, .agg [.d .str t54, .d .str t54_2]), (55, .d (.int .i64) t55), (59, .d (.int .i64) t59), (60, .d (.int .i64) t60)], nt := 84, up := [], own := [(0, .box 45 [.d (.int .i64) t2, .d (.int .u8) t2_2])], nx := 1, log := [], ln := 0 }
def qa4_ (negative : Bool) (rest : List UInt8) (n t2 t2_2 : Int) : St := { fr := [(2, .pb 0 0), (5, .d .bool negative), (7, .d .str rest), (9, .d (.int .i64) n)], nt := 84, up := [], own := [(0, .box 45 [.d (.int .i64) t2, .d (.int .u8) t2_2])], nx := 1, log := [], ln := 0 }
def qa1_ (rest : List UInt8) (n t2 t2_2 : Int) : St := { fr := [(2, .pb 0 0), (7, .d .str rest), (9, .d (.int .i64) n)], nt := 84, up := [], own := [(0, .box 45 [.d (.int .i64) t2, .d (.int .u8) t2_2])], nx := 1, log := [], ln := 0 }
def qc8_ (j2 : Bool -> List UInt8 -> List UInt8 -> Bool -> Int -> Int -> Option (As [.pr (.int .i64) (.int .u8), .bool])) (negative : Bool) (whole rest : List UInt8) (point t36 : Bool) (t2 t2_2 : Int) : Option (As [.pr (.int .i64) (.int .u8), .bool]) :=
  if t36 = true then some ((0, 0), false, ()) else if point = true then Option.bind (q2b_ (rest, ())) fun (y : Bool × Unit) => if (!y.1) = true then j2 negative whole rest true t2 t2_2 else j2 negative whole rest (gt (Int.ofNat (List.length rest)) 6) t2 t2_2 else j2 negative whole rest false t2 t2_2
def qbz_ (j3 : Bool -> List UInt8 -> Int -> List UInt8 -> List UInt8 -> Int -> Int -> Int -> Option (As [.pr (.int .i64) (.int .u8), .bool])) (negative : Bool) (whole rest : List UInt8) (t48 : Bool) (t2 t2_2 : Int) : Option (As [.pr (.int .i64) (.int .u8), .bool]) :=
  if t48 = true then some ((0, 0), false, ()) else if eqs rest [] = true then j3 negative rest 0 whole rest 0 t2 t2_2 else Option.bind (q4n_ (rest, 48, ())) fun (y : List UInt8 × Unit) => j3 negative y.1 0 whole y.1 0 t2 t2_2
def q8b_ (j4 : Bool -> List UInt8 -> Int -> List UInt8 -> List UInt8 -> List UInt8 -> Int -> Int -> Int -> Int -> Int -> Option (As [.pr (.int .i64) (.int .u8), .bool])) (j5 : Bool -> List UInt8 -> Int -> Int -> Int -> Option (As [.pr (.int .i64) (.int .u8), .bool])) (self3 : Bool -> List UInt8 -> Int -> List UInt8 -> List UInt8 -> Int -> Int -> Int -> Option (As [.pr (.int .i64) (.int .u8), .bool])) (negative : Bool) (rest : List UInt8) (n : Int) (t54 t54_2 : List UInt8) (t55 t2 t2_2 : Int) : Option (As [.pr (.int .i64) (.int .u8), .bool]) :=
  if lt t55 2 = true then if eqi t55 1 = true then j4 negative rest n t54_2 t54 t54_2 t55 (Int.ofNat (List.length t54_2)) 0 t2 t2_2 else if eqi t55 0 = true then j4 negative rest n t54 t54 t54_2 t55 (Int.ofNat (List.length t54)) 0 t2 t2_2 else Option.none else j5 negative rest n t2 t2_2
def qag_ (self3 : Bool -> List UInt8 -> Int -> List UInt8 -> List UInt8 -> Int -> Int -> Int -> Option (As [.pr (.int .i64) (.int .u8), .bool])) (self4 : Bool -> List UInt8 -> Int -> List UInt8 -> List UInt8 -> List UInt8 -> Int -> Int -> Int -> Int -> Int -> Option (As [.pr (.int .i64) (.int .u8), .bool])) (negative : Bool) (rest : List UInt8) (n : Int) (part t54 t54_2 : List UInt8) (t55 t59 t60 t2 t2_2 : Int) : Option (As [.pr (.int .i64) (.int .u8), .bool]) :=
  if lt t60 t59 = true then Option.bind (at? part t60) fun (c : UInt8) => if gt (add .i64 (mul .i64 10 n) (cvt .i64 (Sx.sub .u8 (Int.ofNat (UInt8.toNat c)) 48))) 1000000000000 = true then some ((0, 0), false, ()) else self4 negative rest (add .i64 (mul .i64 10 n) (cvt .i64 (Sx.sub .u8 (Int.ofNat (UInt8.toNat c)) 48))) part t54 t54_2 t55 t59 (add .i64 t60 1) t2 t2_2 else self3 negative rest n t54 t54_2 (add .i64 t55 1) t2 t2_2
def qc2_ (j6 : List UInt8 -> Int -> Int -> Int -> Option (As [.pr (.int .i64) (.int .u8), .bool])) (negative : Bool) (rest : List UInt8) (n t2 t2_2 : Int) : Option (As [.pr (.int .i64) (.int .u8), .bool]) :=
  if negative = true then j6 rest (Sx.neg .i64 n) t2 t2_2 else j6 rest n t2 t2_2
def qc5_ (rest : List UInt8) (n t2 t2_2 : Int) : Option (As [.pr (.int .i64) (.int .u8), .bool]) :=
  some ((n, cvt .u8 (Int.ofNat (List.length rest))), true, ())
def qad_ (j1 : Bool -> List UInt8 -> List UInt8 -> Bool -> Bool -> Int -> Int -> Option (As [.pr (.int .i64) (.int .u8), .bool])) (s : List UInt8) : Option (As [.pr (.int .i64) (.int .u8), .bool]) :=
  Option.bind (q7y_ (s, [45], ())) fun (y : List UInt8 × Bool × Unit) => if eqs [46] y.1 = true then Option.bind (cut y.1 1 (Int.ofNat (List.length y.1))) fun (y_1 : List UInt8) => Option.bind (q2b_ ([], ())) fun (y_2 : Bool × Unit) => if (!y_2.1) = true then j1 y.2.1 [] y_1 true true 0 0 else j1 y.2.1 [] y_1 true false 0 0 else if ge (Go.Lib.indexByte y.1 46) 0 = true then Option.bind (cut y.1 0 (Go.Lib.indexByte y.1 46)) fun (y_1 : List UInt8) => Option.bind (cut y.1 (add .i64 (Go.Lib.indexByte y.1 46) 1) (Int.ofNat (List.length y.1))) fun (y_2 : List UInt8) => Option.bind (q2b_ (y_1, ())) fun (y_3 : Bool × Unit) => if (!y_3.1) = true then j1 y.2.1 y_1 y_2 true true 0 0 else if gt (Int.ofNat (List.length y_1)) 1 = true then Option.bind (at? y_1 0) fun (c : UInt8) => j1 y.2.1 y_1 y_2 true (eqi (Int.ofNat (UInt8.toNat c)) 48) 0 0 else j1 y.2.1 y_1 y_2 true false 0 0 else Option.bind (q2b_ (y.1, ())) fun (y_1 : Bool × Unit) => if (!y_1.1) = true then j1 y.2.1 y.1 [] false true 0 0 else if gt (Int.ofNat (List.length y.1)) 1 = true then Option.bind (at? y.1 0) fun (c : UInt8) => j1 y.2.1 y.1 [] false (eqi (Int.ofNat (UInt8.toNat c)) 48) 0 0 else j1 y.2.1 y.1 [] false false 0 0
def q42_ (u3 : Bool -> List UInt8 -> Int -> List UInt8 -> List UInt8 -> Int -> Int -> Int -> Option (As [.pr (.int .i64) (.int .u8), .bool])) (negative : Bool) (rest : List UInt8) (n : Int) (part t54 t54_2 : List UInt8) (t55 t59 t60 t2 t2_2 : Int) : Option (As [.pr (.int .i64) (.int .u8), .bool]) :=
  loopF (fun (self : (Bool) × (List UInt8) × (Int) × (List UInt8) × (List UInt8) × (List UInt8) × (Int) × (Int) × (Int) × (Int) × (Int) -> Option (As [.pr (.int .i64) (.int .u8), .bool])) (s : (Bool) × (List UInt8) × (Int) × (List UInt8) × (List UInt8) × (List UInt8) × (Int) × (Int) × (Int) × (Int) × (Int)) => qag_ u3 (fun negative rest n part t54 t54_2 t55 t59 t60 t2 t2_2 => self (negative, rest, n, part, t54, t54_2, t55, t59, t60, t2, t2_2)) s.1 s.2.1 s.2.2.1 s.2.2.2.1 s.2.2.2.2.1 s.2.2.2.2.2.1 s.2.2.2.2.2.2.1 s.2.2.2.2.2.2.2.1 s.2.2.2.2.2.2.2.2.1 s.2.2.2.2.2.2.2.2.2.1 s.2.2.2.2.2.2.2.2.2.2) 18446744073709551616 (negative, rest, n, part, t54, t54_2, t55, t59, t60, t2, t2_2)
def qa9_ (rest : List UInt8) (n t2 t2_2 : Int) : Option (As [.pr (.int .i64) (.int .u8), .bool]) := qc5_ rest n t2 t2_2
def q4l_ (negative : Bool) (rest : List UInt8) (n t2 t2_2 : Int) : Option (As [.pr (.int .i64) (.int .u8), .bool]) := qc2_ (qa9_) negative rest n t2 t2_2
def q8d_ (negative : Bool) (rest : List UInt8) (n : Int) (t54 t54_2 : List UInt8) (t55 t2 t2_2 : Int) : Option (As [.pr (.int .i64) (.int .u8), .bool]) :=
  loopF (fun (self : (Bool) × (List UInt8) × (Int) × (List UInt8) × (List UInt8) × (Int) × (Int) × (Int) -> Option (As [.pr (.int .i64) (.int .u8), .bool])) (s : (Bool) × (List UInt8) × (Int) × (List UInt8) × (List UInt8) × (Int) × (Int) × (Int)) => q8b_ (q42_ (fun negative rest n t54 t54_2 t55 t2 t2_2 => self (negative, rest, n, t54, t54_2, t55, t2, t2_2))) (q4l_) (fun negative rest n t54 t54_2 t55 t2 t2_2 => self (negative, rest, n, t54, t54_2, t55, t2, t2_2)) s.1 s.2.1 s.2.2.1 s.2.2.2.1 s.2.2.2.2.1 s.2.2.2.2.2.1 s.2.2.2.2.2.2.1 s.2.2.2.2.2.2.2) 18446744073709551616 (negative, rest, n, t54, t54_2, t55, t2, t2_2)
def q8f_ (negative : Bool) (whole rest : List UInt8) (t48 : Bool) (t2 t2_2 : Int) : Option (As [.pr (.int .i64) (.int .u8), .bool]) := qbz_ (q8d_) negative whole rest t48 t2 t2_2
def q12_ (negative : Bool) (whole rest : List UInt8) (point t36 : Bool) (t2 t2_2 : Int) : Option (As [.pr (.int .i64) (.int .u8), .bool]) := qc8_ (q8f_) negative whole rest point t36 t2 t2_2
def qce_ (x : As [.str]) : Option (As [.pr (.int .i64) (.int .u8), .bool]) := qad_ q12_ x.1
theorem qj7_  (J w3 w4 negative rest n part t54 t54_2 t55 t59 t60 t2 t2_2) : pfn Tryz.prog qt_ 6 18446744073709551616 (Ev.get qs_) 132 qm_ J 522854 [w3, w4] (q6j_ negative rest n part t54 t54_2 t55 t59 t60 t2 t2_2) = qag_ (fun negative rest n t54 t54_2 t55 t2 t2_2 => w3 (q40_ negative rest n t54 t54_2 t55 t2 t2_2)) (fun negative rest n part t54 t54_2 t55 t59 t60 t2 t2_2 => w4 (q6j_ negative rest n part t54 t54_2 t55 t59 t60 t2 t2_2)) negative rest n part t54 t54_2 t55 t59 t60 t2 t2_2 := by kernel_rfl
theorem qk1_  (J rest n t2 t2_2) : pfn Tryz.prog qt_ 6 18446744073709551616 (Ev.get qs_) 132 qm_ J 511 [] (qa1_ rest n t2 t2_2) = qc5_ rest n t2 t2_2 := by kernel_rfl
theorem qjj_  (J negative rest n t2 t2_2) : pfn Tryz.prog qt_ 6 18446744073709551616 (Ev.get qs_) 132 qm_ J 255 [] (qa4_ negative rest n t2 t2_2) = qc2_ (fun rest n t2 t2_2 => J 511 [] (qa1_ rest n t2 t2_2)) negative rest n t2 t2_2 := by kernel_rfl
theorem qk7_  (J w3 negative rest n t54 t54_2 t55 t2 t2_2) : pfn Tryz.prog qt_ 6 18446744073709551616 (Ev.get qs_) 132 qm_ J 2042 [w3] (q40_ negative rest n t54 t54_2 t55 t2 t2_2) = q8b_ (fun negative rest n part t54 t54_2 t55 t59 t60 t2 t2_2 => J 522854 [w3] (q6j_ negative rest n part t54 t54_2 t55 t59 t60 t2 t2_2)) (fun negative rest n t2 t2_2 => J 255 [] (qa4_ negative rest n t2 t2_2)) (fun negative rest n t54 t54_2 t55 t2 t2_2 => w3 (q40_ negative rest n t54 t54_2 t55 t2 t2_2)) negative rest n t54 t54_2 t55 t2 t2_2 := by kernel_rfl
theorem qi5_  (J negative whole rest t48 t2 t2_2) : pfn Tryz.prog qt_ 6 18446744073709551616 (Ev.get qs_) 132 qm_ J 62 [] (qaf_ negative whole rest t48 t2 t2_2) = qbz_ (fun negative rest n t54 t54_2 t55 t2 t2_2 => J 2042 [] (q40_ negative rest n t54 t54_2 t55 t2 t2_2)) negative whole rest t48 t2 t2_2 := by kernel_rfl
theorem qj8_  (J negative whole rest point t36 t2 t2_2) : pfn Tryz.prog qt_ 6 18446744073709551616 (Ev.get qs_) 132 qm_ J 30 [] (qah_ negative whole rest point t36 t2 t2_2) = qc8_ (fun negative whole rest t48 t2 t2_2 => J 62 [] (qaf_ negative whole rest t48 t2 t2_2)) negative whole rest point t36 t2 t2_2 := by kernel_rfl
theorem qi6_ (J : Orc (As [.pr (.int .i64) (.int .u8), .bool])) (x : As [.str]) : rfn Tryz.prog qt_ 6 18446744073709551616 (Ev.get qs_) 132 qm_ J x = qad_ (fun negative whole rest point t36 t2 t2_2 => J 30 [] (qah_ negative whole rest point t36 t2 t2_2)) x.1 := by kernel_rfl
theorem qi1_  (w3 negative rest n part t54 t54_2 t55 t59 t60 t2 t2_2) : jfn Tryz.prog qt_ 6 18446744073709551616 (Ev.get qs_) 132 qm_ 522854 [w3] (q6j_ negative rest n part t54 t54_2 t55 t59 t60 t2 t2_2) = q42_ (fun negative rest n t54 t54_2 t55 t2 t2_2 => w3 (q40_ negative rest n t54 t54_2 t55 t2 t2_2)) negative rest n part t54 t54_2 t55 t59 t60 t2 t2_2 := by
  rw [q2_ (by decide)]
  rw [qv_ (by kernel_rfl)]
  refine qi_ (σ := (Bool) × (List UInt8) × (Int) × (List UInt8) × (List UInt8) × (List UInt8) × (Int) × (Int) × (Int) × (Int) × (Int)) (mk := fun s => q6j_ s.1 s.2.1 s.2.2.1 s.2.2.2.1 s.2.2.2.2.1 s.2.2.2.2.2.1 s.2.2.2.2.2.2.1 s.2.2.2.2.2.2.2.1 s.2.2.2.2.2.2.2.2.1 s.2.2.2.2.2.2.2.2.2.1 s.2.2.2.2.2.2.2.2.2.2) (fun w4 s => ?_) 18446744073709551616 (negative, rest, n, part, t54, t54_2, t55, t59, t60, t2, t2_2)
  refine (qj7_ _ w3 w4 s.1 s.2.1 s.2.2.1 s.2.2.2.1 s.2.2.2.2.1 s.2.2.2.2.2.1 s.2.2.2.2.2.2.1 s.2.2.2.2.2.2.2.1 s.2.2.2.2.2.2.2.2.1 s.2.2.2.2.2.2.2.2.2.1 s.2.2.2.2.2.2.2.2.2.2).trans ?_
  rfl
theorem qiw_  (rest n t2 t2_2) : jfn Tryz.prog qt_ 6 18446744073709551616 (Ev.get qs_) 132 qm_ 511 [] (qa1_ rest n t2 t2_2) = qa9_ rest n t2 t2_2 := by
  rw [q2_ (by decide)]
  rw [qk1_]
  rfl
theorem qkh_  (negative rest n t2 t2_2) : jfn Tryz.prog qt_ 6 18446744073709551616 (Ev.get qs_) 132 qm_ 255 [] (qa4_ negative rest n t2 t2_2) = q4l_ negative rest n t2 t2_2 := by
  rw [q2_ (by decide)]
  have e6 : (fun rest n t2 t2_2 => (jfn Tryz.prog qt_ 6 18446744073709551616 (Ev.get qs_) 132 qm_) 511 [] (qa1_ rest n t2 t2_2)) = qa9_ := by funext rest n t2 t2_2; exact qiw_ rest n t2 t2_2
  rw [qjj_, e6]
  rfl
theorem qiv_  (negative rest n t54 t54_2 t55 t2 t2_2) : jfn Tryz.prog qt_ 6 18446744073709551616 (Ev.get qs_) 132 qm_ 2042 [] (q40_ negative rest n t54 t54_2 t55 t2 t2_2) = q8d_ negative rest n t54 t54_2 t55 t2 t2_2 := by
  rw [q2_ (by decide)]
  rw [qv_ (by kernel_rfl)]
  refine qi_ (σ := (Bool) × (List UInt8) × (Int) × (List UInt8) × (List UInt8) × (Int) × (Int) × (Int)) (mk := fun s => q40_ s.1 s.2.1 s.2.2.1 s.2.2.2.1 s.2.2.2.2.1 s.2.2.2.2.2.1 s.2.2.2.2.2.2.1 s.2.2.2.2.2.2.2) (fun w3 s => ?_) 18446744073709551616 (negative, rest, n, t54, t54_2, t55, t2, t2_2)
  have e4 : (fun negative rest n part t54 t54_2 t55 t59 t60 t2 t2_2 => (jfn Tryz.prog qt_ 6 18446744073709551616 (Ev.get qs_) 132 qm_) 522854 [w3] (q6j_ negative rest n part t54 t54_2 t55 t59 t60 t2 t2_2)) = q42_ (fun negative rest n t54 t54_2 t55 t2 t2_2 => w3 (q40_ negative rest n t54 t54_2 t55 t2 t2_2)) := by funext negative rest n part t54 t54_2 t55 t59 t60 t2 t2_2; exact qi1_ w3 negative rest n part t54 t54_2 t55 t59 t60 t2 t2_2
  have e5 : (fun negative rest n t2 t2_2 => (jfn Tryz.prog qt_ 6 18446744073709551616 (Ev.get qs_) 132 qm_) 255 [] (qa4_ negative rest n t2 t2_2)) = q4l_ := by funext negative rest n t2 t2_2; exact qkh_ negative rest n t2 t2_2
  refine (qk7_ _ w3 s.1 s.2.1 s.2.2.1 s.2.2.2.1 s.2.2.2.2.1 s.2.2.2.2.2.1 s.2.2.2.2.2.2.1 s.2.2.2.2.2.2.2).trans ?_
  rw [e4, e5]
theorem qhu_  (negative whole rest t48 t2 t2_2) : jfn Tryz.prog qt_ 6 18446744073709551616 (Ev.get qs_) 132 qm_ 62 [] (qaf_ negative whole rest t48 t2 t2_2) = q8f_ negative whole rest t48 t2 t2_2 := by
  rw [q2_ (by decide)]
  have e3 : (fun negative rest n t54 t54_2 t55 t2 t2_2 => (jfn Tryz.prog qt_ 6 18446744073709551616 (Ev.get qs_) 132 qm_) 2042 [] (q40_ negative rest n t54 t54_2 t55 t2 t2_2)) = q8d_ := by funext negative rest n t54 t54_2 t55 t2 t2_2; exact qiv_ negative rest n t54 t54_2 t55 t2 t2_2
  rw [qi5_, e3]
  rfl
theorem qi0_  (negative whole rest point t36 t2 t2_2) : jfn Tryz.prog qt_ 6 18446744073709551616 (Ev.get qs_) 132 qm_ 30 [] (qah_ negative whole rest point t36 t2 t2_2) = q12_ negative whole rest point t36 t2 t2_2 := by
  rw [q2_ (by decide)]
  have e2 : (fun negative whole rest t48 t2 t2_2 => (jfn Tryz.prog qt_ 6 18446744073709551616 (Ev.get qs_) 132 qm_) 62 [] (qaf_ negative whole rest t48 t2 t2_2)) = q8f_ := by funext negative whole rest t48 t2 t2_2; exact qhu_ negative whole rest t48 t2 t2_2
  rw [qj8_, e2]
  rfl
theorem qm9_ (x : As [.str]) : evT Tryz.prog qt_ 6 18446744073709551616 (Ev.get qs_) 132 qm_ x = qce_ x := by
  have e1 : (fun negative whole rest point t36 t2 t2_2 => (jfn Tryz.prog qt_ 6 18446744073709551616 (Ev.get qs_) 132 qm_) 30 [] (qah_ negative whole rest point t36 t2 t2_2)) = q12_ := by funext negative whole rest point t36 t2 t2_2; exact qi0_ negative whole rest point t36 t2 t2_2
  rw [q1u_, qi6_, e1]
  rfl
theorem qka_ : CtOk Tryz.prog I0 132 ⟨qm_, qce_⟩ := qu_ (q0_ strings_makeASCIISet_ok (q0_ strings_CutPrefix_ok (q0_ qfb_ (q0_ strings_trimRightByte_ok q9_)))) qm9_
@[reducible] def qdb_ : Sh := ⟨[.pb 0 0], [.box 106 [.d (.int .u8), .d .str, .d (.int .i64), .d (.int .u8), .d (.int .i64)]], [.int .u8, .str, .int .i64, .int .u8, .int .i64], [.d (.int .i64)], [(0, .box 106 [.d (.int .u8), .d .str, .d (.int .i64), .d (.int .u8), .d (.int .i64)])], 0, [.int .i64, .int .u8, .str, .int .i64, .int .u8, .int .i64]⟩
def qes_ (t : Int) (t_2 : List UInt8) (v d ok : Int) : Option (As [.int .i64, .int .u8, .str, .int .i64, .int .u8, .int .i64]) :=
  Option.bind (qce_ (t_2, ())) fun (y : (Int × Int) × Bool × Unit) => if (!y.2.1) = true then some (132, t, t_2, v, d, ok, ()) else some (0, t, t_2, y.1.1, y.1.2, ok, ())
def qbm_ (x : As [.int .u8, .str, .int .i64, .int .u8, .int .i64]) : Option (As [.int .i64, .int .u8, .str, .int .i64, .int .u8, .int .i64]) := qes_ x.1 x.2.1 x.2.2.1 x.2.2.2.1 x.2.2.2.2.1
theorem qet_ : CtOk Tryz.prog I0 107 ⟨qdb_, qbm_⟩ := ctn (q0_ qka_ q9_) 6 fun J x => by kernel_rfl
@[reducible] def qb4_ : Sh := ⟨[.d (.int .u8)], [], [.int .u8], [.d (.bool)], [], 0, [.bool]⟩
def qfr_ (c : Int) : Option (As [.bool]) :=
  some (eqi c 61, ())
def qq_ (x : As [.int .u8]) : Option (As [.bool]) := qfr_ x.1
theorem qcv_ : CtOk Tryz.prog I0 108 ⟨qb4_, qq_⟩ := ctn q9_ 6 fun J x => by kernel_rfl
@[reducible] def q5f_ : Sh := ⟨[.d (.int .u8)], [], [.int .u8], [.d (.bool)], [], 0, [.bool]⟩
def qfu_ (c : Int) : Option (As [.bool]) :=
  some (false, ())
def q4k_ (x : As [.int .u8]) : Option (As [.bool]) := qfu_ x.1
theorem q5w_ : CtOk Tryz.prog I0 109 ⟨q5f_, q4k_⟩ := ctn q9_ 6 fun J x => by kernel_rfl
@[reducible] def qb2_ : Sh := ⟨[.pb 0 0], [.box 106 [.d (.int .u8), .d .str, .d (.int .i64), .d (.int .u8), .d (.int .i64)]], [.int .u8, .str, .int .i64, .int .u8, .int .i64], [.d (.int .i64)], [(0, .box 106 [.d (.int .u8), .d .str, .d (.int .i64), .d (.int .u8), .d (.int .i64)])], 0, [.int .i64, .int .u8, .str, .int .i64, .int .u8, .int .i64]⟩
def qcw_ (v : Int) (v_2 : List UInt8) (v_3 x x_2 : Int) : Option (As [.int .i64, .int .u8, .str, .int .i64, .int .u8, .int .i64]) :=
  some (0, v, v_2, v_3, x, x_2, ())
def q8h_ (x : As [.int .u8, .str, .int .i64, .int .u8, .int .i64]) : Option (As [.int .i64, .int .u8, .str, .int .i64, .int .u8, .int .i64]) := qcw_ x.1 x.2.1 x.2.2.1 x.2.2.2.1 x.2.2.2.2.1
theorem qcu_ : CtOk Tryz.prog I0 110 ⟨qb2_, q8h_⟩ := ctn q9_ 6 fun J x => by kernel_rfl
@[reducible] def q1o_ : Sh := ⟨[.fn (.func 102) [] [], .pb 0 0], [.box 9 [.d .str]], [.str], [.d .str], [(0, .box 9 [.d .str])], 0, [.str, .str]⟩
def q2l_ : Env := (cts [(102, (⟨q5a_, q3k_⟩ : Ct)), (106, (⟨q5b_, q3i_⟩ : Ct)), (109, (⟨q5f_, q4k_⟩ : Ct))])
def q2k_ : List (Nat × Hint) := [(7, ⟨[], [1, 4]⟩), (28, ⟨[], [0, 1, 4, 11, 12, 13, 14, 15]⟩), (112, ⟨[.agd 12 .str, .agd 13 (.int .i64), .agd 14 (.int .u8), .agd 15 .bool], [0, 1, 4, 16]⟩)]
def q38_ (n : Int) (t1 : List UInt8) : St := { fr := [(0, .fn (.func 102) [] []), (1, .pb 0 0), (4, .d (.int .i64) n)], nt := 26, up := [], own := [(0, .box 9 [.d .str t1])], nx := 1, log := [], ln := 1 }
def q8p_ (n : Int) (t16 : Bool) (t1 : List UInt8) : St := { fr := [(0, .fn (.func 102) [] []), (1, .pb 0 0), (4, .d (.int .i64) n), (16, .d .bool t16)], nt := 26, up := [], own := [(0, .box 9 [.d .str t1])], nx := 1, log := [], ln := 1 }
def q8r_ (n : Int) (t1 : List UInt8) : St := { fr := [(1, .pb 0 0), (4, .d (.int .i64) n)], nt := 26, up := [], own := [(0, .box 9 [.d .str t1])], nx := 1, log := [], ln := 1 }
def q92_ (j2 : Int -> Bool -> List UInt8 -> Option (As [.str, .str])) (self1 : Int -> List UInt8 -> Option (As [.str, .str])) (n : Int) (t1 : List UInt8) : Option (As [.str, .str]) :=
  if lt n (Int.ofNat (List.length t1)) = true then Option.bind (at? t1 n) fun (c : UInt8) => Option.bind (q3k_ (Int.ofNat (UInt8.toNat c), ())) fun (y : Bool × Unit) => j2 n y.1 t1 else j2 n false t1
def qd1_ (j3 self1 : Int -> List UInt8 -> Option (As [.str, .str])) (n : Int) (t16 : Bool) (t1 : List UInt8) : Option (As [.str, .str]) :=
  if t16 = true then self1 (add .i64 n 1) t1 else j3 n t1
def q5c_ (n : Int) (t1 : List UInt8) : Option (As [.str, .str]) :=
  Option.bind (cut t1 0 n) fun (y : List UInt8) => Option.bind (cut t1 n (Int.ofNat (List.length t1))) fun (y_1 : List UInt8) => some (y, y_1, ())
def qd5_ (j1 : Int -> List UInt8 -> Option (As [.str, .str])) (more : List UInt8) : Option (As [.str, .str]) :=
  j1 1 more
def qb0_ (n : Int) (t1 : List UInt8) : Option (As [.str, .str]) := q5c_ n t1
def q6n_ (u1 : Int -> List UInt8 -> Option (As [.str, .str])) (n : Int) (t16 : Bool) (t1 : List UInt8) : Option (As [.str, .str]) := qd1_ (qb0_) u1 n t16 t1
def qay_ (n : Int) (t1 : List UInt8) : Option (As [.str, .str]) :=
  loopF (fun (self : (Int) × (List UInt8) -> Option (As [.str, .str])) (s : (Int) × (List UInt8)) => q92_ (q6n_ (fun n t1 => self (n, t1))) (fun n t1 => self (n, t1)) s.1 s.2) 18446744073709551616 (n, t1)
def q96_ (x : As [.str]) : Option (As [.str, .str]) := qd5_ qay_ x.1
theorem qg6_  (J n t1) : pfn Tryz.prog q2l_ 6 18446744073709551616 (Ev.get q2k_) 112 q1o_ J 7 [] (q8r_ n t1) = q5c_ n t1 := by kernel_rfl
theorem qgk_  (J w1 n t16 t1) : pfn Tryz.prog q2l_ 6 18446744073709551616 (Ev.get q2k_) 112 q1o_ J 112 [w1] (q8p_ n t16 t1) = qd1_ (fun n t1 => J 7 [] (q8r_ n t1)) (fun n t1 => w1 (q38_ n t1)) n t16 t1 := by kernel_rfl
theorem qgd_  (J w1 n t1) : pfn Tryz.prog q2l_ 6 18446744073709551616 (Ev.get q2k_) 112 q1o_ J 28 [w1] (q38_ n t1) = q92_ (fun n t16 t1 => J 112 [w1] (q8p_ n t16 t1)) (fun n t1 => w1 (q38_ n t1)) n t1 := by kernel_rfl
theorem qgr_ (J : Orc (As [.str, .str])) (x : As [.str]) : rfn Tryz.prog q2l_ 6 18446744073709551616 (Ev.get q2k_) 112 q1o_ J x = qd5_ (fun n t1 => J 28 [] (q38_ n t1)) x.1 := by kernel_rfl
theorem qg9_  (n t1) : jfn Tryz.prog q2l_ 6 18446744073709551616 (Ev.get q2k_) 112 q1o_ 7 [] (q8r_ n t1) = qb0_ n t1 := by
  rw [q2_ (by decide)]
  rw [qg6_]
  rfl
theorem qgl_  (w1 n t16 t1) : jfn Tryz.prog q2l_ 6 18446744073709551616 (Ev.get q2k_) 112 q1o_ 112 [w1] (q8p_ n t16 t1) = q6n_ (fun n t1 => w1 (q38_ n t1)) n t16 t1 := by
  rw [q2_ (by decide)]
  have e3 : (fun n t1 => (jfn Tryz.prog q2l_ 6 18446744073709551616 (Ev.get q2k_) 112 q1o_) 7 [] (q8r_ n t1)) = qb0_ := by funext n t1; exact qg9_ n t1
  rw [qgk_, e3]
  rfl
theorem qgf_  (n t1) : jfn Tryz.prog q2l_ 6 18446744073709551616 (Ev.get q2k_) 112 q1o_ 28 [] (q38_ n t1) = qay_ n t1 := by
  rw [q2_ (by decide)]
  rw [qv_ (by kernel_rfl)]
  refine qi_ (σ := (Int) × (List UInt8)) (mk := fun s => q38_ s.1 s.2) (fun w1 s => ?_) 18446744073709551616 (n, t1)
  have e2 : (fun n t16 t1 => (jfn Tryz.prog q2l_ 6 18446744073709551616 (Ev.get q2k_) 112 q1o_) 112 [w1] (q8p_ n t16 t1)) = q6n_ (fun n t1 => w1 (q38_ n t1)) := by funext n t16 t1; exact qgl_ w1 n t16 t1
  refine (qgd_ _ w1 s.1 s.2).trans ?_
  rw [e2]
theorem qgy_ (x : As [.str]) : evT Tryz.prog q2l_ 6 18446744073709551616 (Ev.get q2k_) 112 q1o_ x = q96_ x := by
  have e1 : (fun n t1 => (jfn Tryz.prog q2l_ 6 18446744073709551616 (Ev.get q2k_) 112 q1o_) 28 [] (q38_ n t1)) = qay_ := by funext n t1; exact qgf_ n t1
  rw [q1u_, qgr_, e1]
  rfl
theorem qgj_ : CtOk Tryz.prog I0 112 ⟨q1o_, q96_⟩ := qu_ (q0_ q5v_ (q0_ q5x_ (q0_ q5w_ q9_))) qgy_
@[reducible] def q1p_ : Sh := ⟨[.fn (.func 106) [] [], .pb 0 0], [.box 9 [.d .str]], [.str], [.d .str], [(0, .box 9 [.d .str])], 0, [.str, .str]⟩
def q2m_ : Env := (cts [(102, (⟨q5a_, q3k_⟩ : Ct)), (106, (⟨q5b_, q3i_⟩ : Ct)), (109, (⟨q5f_, q4k_⟩ : Ct))])
def q2n_ : List (Nat × Hint) := [(7, ⟨[], [1, 4]⟩), (28, ⟨[], [0, 1, 4, 11, 12, 13, 14, 15]⟩), (112, ⟨[.agd 12 .str, .agd 13 (.int .i64), .agd 14 (.int .u8), .agd 15 .bool], [0, 1, 4, 16]⟩)]
def q3a_ (n : Int) (t1 : List UInt8) : St := { fr := [(0, .fn (.func 106) [] []), (1, .pb 0 0), (4, .d (.int .i64) n)], nt := 26, up := [], own := [(0, .box 9 [.d .str t1])], nx := 1, log := [], ln := 1 }
def q8u_ (n : Int) (t16 : Bool) (t1 : List UInt8) : St := { fr := [(0, .fn (.func 106) [] []), (1, .pb 0 0), (4, .d (.int .i64) n), (16, .d .bool t16)], nt := 26, up := [], own := [(0, .box 9 [.d .str t1])], nx := 1, log := [], ln := 1 }
def q93_ (n : Int) (t1 : List UInt8) : St := { fr := [(1, .pb 0 0), (4, .d (.int .i64) n)], nt := 26, up := [], own := [(0, .box 9 [.d .str t1])], nx := 1, log := [], ln := 1 }
def q8y_ (j2 : Int -> Bool -> List UInt8 -> Option (As [.str, .str])) (self1 : Int -> List UInt8 -> Option (As [.str, .str])) (n : Int) (t1 : List UInt8) : Option (As [.str, .str]) :=
  if lt n (Int.ofNat (List.length t1)) = true then Option.bind (at? t1 n) fun (c : UInt8) => Option.bind (q3i_ (Int.ofNat (UInt8.toNat c), ())) fun (y : Bool × Unit) => j2 n y.1 t1 else j2 n false t1
def qda_ (j3 self1 : Int -> List UInt8 -> Option (As [.str, .str])) (n : Int) (t16 : Bool) (t1 : List UInt8) : Option (As [.str, .str]) :=
  if t16 = true then self1 (add .i64 n 1) t1 else j3 n t1
def q5d_ (n : Int) (t1 : List UInt8) : Option (As [.str, .str]) :=
  Option.bind (cut t1 0 n) fun (y : List UInt8) => Option.bind (cut t1 n (Int.ofNat (List.length t1))) fun (y_1 : List UInt8) => some (y, y_1, ())
def qd7_ (j1 : Int -> List UInt8 -> Option (As [.str, .str])) (more : List UInt8) : Option (As [.str, .str]) :=
  j1 1 more
def qax_ (n : Int) (t1 : List UInt8) : Option (As [.str, .str]) := q5d_ n t1
def q6q_ (u1 : Int -> List UInt8 -> Option (As [.str, .str])) (n : Int) (t16 : Bool) (t1 : List UInt8) : Option (As [.str, .str]) := qda_ (qax_) u1 n t16 t1
def qb6_ (n : Int) (t1 : List UInt8) : Option (As [.str, .str]) :=
  loopF (fun (self : (Int) × (List UInt8) -> Option (As [.str, .str])) (s : (Int) × (List UInt8)) => q8y_ (q6q_ (fun n t1 => self (n, t1))) (fun n t1 => self (n, t1)) s.1 s.2) 18446744073709551616 (n, t1)
def q97_ (x : As [.str]) : Option (As [.str, .str]) := qd7_ qb6_ x.1
theorem qg8_  (J n t1) : pfn Tryz.prog q2m_ 6 18446744073709551616 (Ev.get q2n_) 112 q1p_ J 7 [] (q93_ n t1) = q5d_ n t1 := by kernel_rfl
theorem qgm_  (J w1 n t16 t1) : pfn Tryz.prog q2m_ 6 18446744073709551616 (Ev.get q2n_) 112 q1p_ J 112 [w1] (q8u_ n t16 t1) = qda_ (fun n t1 => J 7 [] (q93_ n t1)) (fun n t1 => w1 (q3a_ n t1)) n t16 t1 := by kernel_rfl
theorem qgg_  (J w1 n t1) : pfn Tryz.prog q2m_ 6 18446744073709551616 (Ev.get q2n_) 112 q1p_ J 28 [w1] (q3a_ n t1) = q8y_ (fun n t16 t1 => J 112 [w1] (q8u_ n t16 t1)) (fun n t1 => w1 (q3a_ n t1)) n t1 := by kernel_rfl
theorem qgc_ (J : Orc (As [.str, .str])) (x : As [.str]) : rfn Tryz.prog q2m_ 6 18446744073709551616 (Ev.get q2n_) 112 q1p_ J x = qd7_ (fun n t1 => J 28 [] (q3a_ n t1)) x.1 := by kernel_rfl
theorem qg3_  (n t1) : jfn Tryz.prog q2m_ 6 18446744073709551616 (Ev.get q2n_) 112 q1p_ 7 [] (q93_ n t1) = qax_ n t1 := by
  rw [q2_ (by decide)]
  rw [qg8_]
  rfl
theorem qgo_  (w1 n t16 t1) : jfn Tryz.prog q2m_ 6 18446744073709551616 (Ev.get q2n_) 112 q1p_ 112 [w1] (q8u_ n t16 t1) = q6q_ (fun n t1 => w1 (q3a_ n t1)) n t16 t1 := by
  rw [q2_ (by decide)]
  have e3 : (fun n t1 => (jfn Tryz.prog q2m_ 6 18446744073709551616 (Ev.get q2n_) 112 q1p_) 7 [] (q93_ n t1)) = qax_ := by funext n t1; exact qg3_ n t1
  rw [qgm_, e3]
  rfl
theorem qg5_  (n t1) : jfn Tryz.prog q2m_ 6 18446744073709551616 (Ev.get q2n_) 112 q1p_ 28 [] (q3a_ n t1) = qb6_ n t1 := by
  rw [q2_ (by decide)]
  rw [qv_ (by kernel_rfl)]
  refine qi_ (σ := (Int) × (List UInt8)) (mk := fun s => q3a_ s.1 s.2) (fun w1 s => ?_) 18446744073709551616 (n, t1)
  have e2 : (fun n t16 t1 => (jfn Tryz.prog q2m_ 6 18446744073709551616 (Ev.get q2n_) 112 q1p_) 112 [w1] (q8u_ n t16 t1)) = q6q_ (fun n t1 => w1 (q3a_ n t1)) := by funext n t16 t1; exact qgo_ w1 n t16 t1
  refine (qgg_ _ w1 s.1 s.2).trans ?_
  rw [e2]
theorem qhc_ (x : As [.str]) : evT Tryz.prog q2m_ 6 18446744073709551616 (Ev.get q2n_) 112 q1p_ x = q97_ x := by
  have e1 : (fun n t1 => (jfn Tryz.prog q2m_ 6 18446744073709551616 (Ev.get q2n_) 112 q1p_) 28 [] (q3a_ n t1)) = qb6_ := by funext n t1; exact qg5_ n t1
  rw [q1u_, qgc_, e1]
  rfl
theorem qgh_ : CtOk Tryz.prog I0 112 ⟨q1p_, q97_⟩ := qu_ (q0_ q5v_ (q0_ q5x_ (q0_ q5w_ q9_))) qhc_
@[reducible] def q1m_ : Sh := ⟨[.fn (.func 109) [] [], .pb 0 0], [.box 9 [.d .str]], [.str], [.d .str], [(0, .box 9 [.d .str])], 0, [.str, .str]⟩
def q2j_ : Env := (cts [(102, (⟨q5a_, q3k_⟩ : Ct)), (106, (⟨q5b_, q3i_⟩ : Ct)), (109, (⟨q5f_, q4k_⟩ : Ct))])
def q2i_ : List (Nat × Hint) := [(7, ⟨[], [1, 4]⟩), (28, ⟨[], [0, 1, 4, 11, 12, 13, 14, 15]⟩), (112, ⟨[.agd 12 .str, .agd 13 (.int .i64), .agd 14 (.int .u8), .agd 15 .bool], [0, 1, 4, 16]⟩)]
def q3d_ (n : Int) (t1 : List UInt8) : St := { fr := [(0, .fn (.func 109) [] []), (1, .pb 0 0), (4, .d (.int .i64) n)], nt := 26, up := [], own := [(0, .box 9 [.d .str t1])], nx := 1, log := [], ln := 1 }
def q8x_ (n : Int) (t16 : Bool) (t1 : List UInt8) : St := { fr := [(0, .fn (.func 109) [] []), (1, .pb 0 0), (4, .d (.int .i64) n), (16, .d .bool t16)], nt := 26, up := [], own := [(0, .box 9 [.d .str t1])], nx := 1, log := [], ln := 1 }
def q8s_ (n : Int) (t1 : List UInt8) : St := { fr := [(1, .pb 0 0), (4, .d (.int .i64) n)], nt := 26, up := [], own := [(0, .box 9 [.d .str t1])], nx := 1, log := [], ln := 1 }
def q8q_ (j2 : Int -> Bool -> List UInt8 -> Option (As [.str, .str])) (self1 : Int -> List UInt8 -> Option (As [.str, .str])) (n : Int) (t1 : List UInt8) : Option (As [.str, .str]) :=
  if lt n (Int.ofNat (List.length t1)) = true then Option.bind (at? t1 n) fun (c : UInt8) => Option.bind (q4k_ (Int.ofNat (UInt8.toNat c), ())) fun (y : Bool × Unit) => j2 n y.1 t1 else j2 n false t1
def qb1_ (j3 self1 : Int -> List UInt8 -> Option (As [.str, .str])) (n : Int) (t16 : Bool) (t1 : List UInt8) : Option (As [.str, .str]) :=
  if t16 = true then self1 (add .i64 n 1) t1 else j3 n t1
def q8o_ (n : Int) (t1 : List UInt8) : Option (As [.str, .str]) :=
  Option.bind (cut t1 0 n) fun (y : List UInt8) => Option.bind (cut t1 n (Int.ofNat (List.length t1))) fun (y_1 : List UInt8) => some (y, y_1, ())
def qd9_ (j1 : Int -> List UInt8 -> Option (As [.str, .str])) (more : List UInt8) : Option (As [.str, .str]) :=
  j1 1 more
def qb5_ (n : Int) (t1 : List UInt8) : Option (As [.str, .str]) := q8o_ n t1
def q5e_ (u1 : Int -> List UInt8 -> Option (As [.str, .str])) (n : Int) (t16 : Bool) (t1 : List UInt8) : Option (As [.str, .str]) := qb1_ (qb5_) u1 n t16 t1
def qb3_ (n : Int) (t1 : List UInt8) : Option (As [.str, .str]) :=
  loopF (fun (self : (Int) × (List UInt8) -> Option (As [.str, .str])) (s : (Int) × (List UInt8)) => q8q_ (q5e_ (fun n t1 => self (n, t1))) (fun n t1 => self (n, t1)) s.1 s.2) 18446744073709551616 (n, t1)
def q99_ (x : As [.str]) : Option (As [.str, .str]) := qd9_ qb3_ x.1
theorem qg4_  (J n t1) : pfn Tryz.prog q2j_ 6 18446744073709551616 (Ev.get q2i_) 112 q1m_ J 7 [] (q8s_ n t1) = q8o_ n t1 := by kernel_rfl
theorem qgq_  (J w1 n t16 t1) : pfn Tryz.prog q2j_ 6 18446744073709551616 (Ev.get q2i_) 112 q1m_ J 112 [w1] (q8x_ n t16 t1) = qb1_ (fun n t1 => J 7 [] (q8s_ n t1)) (fun n t1 => w1 (q3d_ n t1)) n t16 t1 := by kernel_rfl
theorem qgn_  (J w1 n t1) : pfn Tryz.prog q2j_ 6 18446744073709551616 (Ev.get q2i_) 112 q1m_ J 28 [w1] (q3d_ n t1) = q8q_ (fun n t16 t1 => J 112 [w1] (q8x_ n t16 t1)) (fun n t1 => w1 (q3d_ n t1)) n t1 := by kernel_rfl
theorem qgi_ (J : Orc (As [.str, .str])) (x : As [.str]) : rfn Tryz.prog q2j_ 6 18446744073709551616 (Ev.get q2i_) 112 q1m_ J x = qd9_ (fun n t1 => J 28 [] (q3d_ n t1)) x.1 := by kernel_rfl
theorem qgb_  (n t1) : jfn Tryz.prog q2j_ 6 18446744073709551616 (Ev.get q2i_) 112 q1m_ 7 [] (q8s_ n t1) = qb5_ n t1 := by
  rw [q2_ (by decide)]
  rw [qg4_]
  rfl
theorem qg7_  (w1 n t16 t1) : jfn Tryz.prog q2j_ 6 18446744073709551616 (Ev.get q2i_) 112 q1m_ 112 [w1] (q8x_ n t16 t1) = q5e_ (fun n t1 => w1 (q3d_ n t1)) n t16 t1 := by
  rw [q2_ (by decide)]
  have e3 : (fun n t1 => (jfn Tryz.prog q2j_ 6 18446744073709551616 (Ev.get q2i_) 112 q1m_) 7 [] (q8s_ n t1)) = qb5_ := by funext n t1; exact qgb_ n t1
  rw [qgq_, e3]
  rfl
theorem qge_  (n t1) : jfn Tryz.prog q2j_ 6 18446744073709551616 (Ev.get q2i_) 112 q1m_ 28 [] (q3d_ n t1) = qb3_ n t1 := by
  rw [q2_ (by decide)]
  rw [qv_ (by kernel_rfl)]
  refine qi_ (σ := (Int) × (List UInt8)) (mk := fun s => q3d_ s.1 s.2) (fun w1 s => ?_) 18446744073709551616 (n, t1)
  have e2 : (fun n t16 t1 => (jfn Tryz.prog q2j_ 6 18446744073709551616 (Ev.get q2i_) 112 q1m_) 112 [w1] (q8x_ n t16 t1)) = q5e_ (fun n t1 => w1 (q3d_ n t1)) := by funext n t16 t1; exact qg7_ w1 n t16 t1
  refine (qgn_ _ w1 s.1 s.2).trans ?_
  rw [e2]
theorem qh9_ (x : As [.str]) : evT Tryz.prog q2j_ 6 18446744073709551616 (Ev.get q2i_) 112 q1m_ x = q99_ x := by
  have e1 : (fun n t1 => (jfn Tryz.prog q2j_ 6 18446744073709551616 (Ev.get q2i_) 112 q1m_) 28 [] (q3d_ n t1)) = qb3_ := by funext n t1; exact qge_ n t1
  rw [q1u_, qgi_, e1]
  rfl
theorem qga_ : CtOk Tryz.prog I0 112 ⟨q1m_, q99_⟩ := qu_ (q0_ q5v_ (q0_ q5x_ (q0_ q5w_ q9_))) qh9_
@[reducible] def strings_trimLeftByte_s : Sh := ⟨[.d (.str), .d (.int .u8)], [], [.str, .int .u8], [.d (.str)], [], 0, [.str]⟩
def q25_ : Env := (cts [])
def q26_ : List (Nat × Hint) := [(12, ⟨[], [0, 1, 9, 10, 11, 12]⟩), (48, ⟨[.agd 9 .str, .agd 10 (.int .u8), .agd 11 (.int .u8), .agd 12 .bool], [0, 1, 13]⟩)]
def q1d_ (s : List UInt8) (c : Int) : St := { fr := [(0, .d .str s), (1, .d (.int .u8) c)], nt := 17, up := [], own := [], nx := 0, log := [], ln := 0 }
def q55_ (s : List UInt8) (c : Int) (t13 : Bool) : St := { fr := [(0, .d .str s), (1, .d (.int .u8) c), (13, .d .bool t13)], nt := 17, up := [], own := [], nx := 0, log := [], ln := 0 }
def strings_trimLeftByte_m1 (j2 : List UInt8 -> Int -> Bool -> Option (As [.str])) (self1 : List UInt8 -> Int -> Option (As [.str])) (s : List UInt8) (c : Int) : Option (As [.str]) :=
  if gt (Int.ofNat (List.length s)) 0 = true then Option.bind (at? s 0) fun (c_1 : UInt8) => j2 s c (eqi (Int.ofNat (UInt8.toNat c_1)) c) else j2 s c false
def strings_trimLeftByte_m2 (self1 : List UInt8 -> Int -> Option (As [.str])) (s : List UInt8) (c : Int) (t13 : Bool) : Option (As [.str]) :=
  if t13 = true then Option.bind (cut s 1 (Int.ofNat (List.length s))) fun (y : List UInt8) => self1 y c else some (s, ())
def strings_trimLeftByte_m0 (j1 : List UInt8 -> Int -> Option (As [.str])) (s : List UInt8) (c : Int) : Option (As [.str]) :=
  j1 s c
def q73_ (u1 : List UInt8 -> Int -> Option (As [.str])) (s : List UInt8) (c : Int) (t13 : Bool) : Option (As [.str]) := strings_trimLeftByte_m2 u1 s c t13
def q74_ (s : List UInt8) (c : Int) : Option (As [.str]) :=
  loopF (fun (self : (List UInt8) × (Int) -> Option (As [.str])) (s : (List UInt8) × (Int)) => strings_trimLeftByte_m1 (q73_ (fun s c => self (s, c))) (fun s c => self (s, c)) s.1 s.2) 18446744073709551616 (s, c)
def q6b_ (x : As [.str, .int .u8]) : Option (As [.str]) := strings_trimLeftByte_m0 q74_ x.1 x.2.1
theorem strings_trimLeftByte_c2  (J w1 s c t13) : pfn Tryz.prog q25_ 6 18446744073709551616 (Ev.get q26_) 133 strings_trimLeftByte_s J 48 [w1] (q55_ s c t13) = strings_trimLeftByte_m2 (fun s c => w1 (q1d_ s c)) s c t13 := by kernel_rfl
theorem strings_trimLeftByte_c1  (J w1 s c) : pfn Tryz.prog q25_ 6 18446744073709551616 (Ev.get q26_) 133 strings_trimLeftByte_s J 12 [w1] (q1d_ s c) = strings_trimLeftByte_m1 (fun s c t13 => J 48 [w1] (q55_ s c t13)) (fun s c => w1 (q1d_ s c)) s c := by kernel_rfl
theorem strings_trimLeftByte_c0 (J : Orc (As [.str])) (x : As [.str, .int .u8]) : rfn Tryz.prog q25_ 6 18446744073709551616 (Ev.get q26_) 133 strings_trimLeftByte_s J x = strings_trimLeftByte_m0 (fun s c => J 12 [] (q1d_ s c)) x.1 x.2.1 := by kernel_rfl
theorem strings_trimLeftByte_g2  (w1 s c t13) : jfn Tryz.prog q25_ 6 18446744073709551616 (Ev.get q26_) 133 strings_trimLeftByte_s 48 [w1] (q55_ s c t13) = q73_ (fun s c => w1 (q1d_ s c)) s c t13 := by
  rw [q2_ (by decide)]
  rw [strings_trimLeftByte_c2]
  rfl
theorem strings_trimLeftByte_g1  (s c) : jfn Tryz.prog q25_ 6 18446744073709551616 (Ev.get q26_) 133 strings_trimLeftByte_s 12 [] (q1d_ s c) = q74_ s c := by
  rw [q2_ (by decide)]
  rw [qv_ (by kernel_rfl)]
  refine qi_ (σ := (List UInt8) × (Int)) (mk := fun s => q1d_ s.1 s.2) (fun w1 s => ?_) 18446744073709551616 (s, c)
  have e2 : (fun s c t13 => (jfn Tryz.prog q25_ 6 18446744073709551616 (Ev.get q26_) 133 strings_trimLeftByte_s) 48 [w1] (q55_ s c t13)) = q73_ (fun s c => w1 (q1d_ s c)) := by funext s c t13; exact strings_trimLeftByte_g2 w1 s c t13
  refine (strings_trimLeftByte_c1 _ w1 s.1 s.2).trans ?_
  rw [e2]
theorem strings_trimLeftByte_t (x : As [.str, .int .u8]) : evT Tryz.prog q25_ 6 18446744073709551616 (Ev.get q26_) 133 strings_trimLeftByte_s x = q6b_ x := by
  have e1 : (fun s c => (jfn Tryz.prog q25_ 6 18446744073709551616 (Ev.get q26_) 133 strings_trimLeftByte_s) 12 [] (q1d_ s c)) = q74_ := by funext s c; exact strings_trimLeftByte_g1 s c
  rw [q1u_, strings_trimLeftByte_c0, e1]
  rfl
theorem strings_trimLeftByte_ok : CtOk Tryz.prog I0 133 ⟨strings_trimLeftByte_s, q6b_⟩ := qu_ q9_ strings_trimLeftByte_t
@[reducible] def strings_trimLeftASCII_s : Sh := ⟨[.d .str, .pb 0 0], [.row .bool 197], [.str, .sl .bool], [.d .str], [(0, .row .bool 197)], 0, [.str, .sl .bool]⟩
def q48_ : Env := (cts [])
def q49_ : List (Nat × Hint) := [(12, ⟨[], [0, 1]⟩)]
def q2x_ (s : List UInt8) (as' : List Bool) : St := { fr := [(0, .d .str s), (1, .pb 0 0)], nt := 16, up := [], own := [(0, .row .bool 197 as')], nx := 1, log := [], ln := 1 }
def q50_ (self1 : List UInt8 -> List Bool -> Option (As [.str, .sl .bool])) (s : List UInt8) (as' : List Bool) : Option (As [.str, .sl .bool]) :=
  if gt (Int.ofNat (List.length s)) 0 = true then Option.bind (at? s 0) fun (c : UInt8) => need (lt (Int.ofNat (UInt8.toNat c)) 256) (Option.bind (at? as' (Int.ofNat (UInt8.toNat c))) fun (x : Bool) => Option.bind (at? as' (Int.ofNat (UInt8.toNat c))) fun (y : Bool) => if (!y) = true then some (s, as', ()) else Option.bind (cut s 1 (Int.ofNat (List.length s))) fun (y : List UInt8) => self1 y as') else some (s, as', ())
def strings_trimLeftASCII_m0 (j1 : List UInt8 -> List Bool -> Option (As [.str, .sl .bool])) (s : List UInt8) (as' : List Bool) : Option (As [.str, .sl .bool]) :=
  j1 s as'
def q6t_ (s : List UInt8) (as' : List Bool) : Option (As [.str, .sl .bool]) :=
  loopF (fun (self : (List UInt8) × (List Bool) -> Option (As [.str, .sl .bool])) (s : (List UInt8) × (List Bool)) => q50_ (fun s as' => self (s, as')) s.1 s.2) 18446744073709551616 (s, as')
def q3w_ (x : As [.str, .sl .bool]) : Option (As [.str, .sl .bool]) := strings_trimLeftASCII_m0 q6t_ x.1 x.2.1
theorem strings_trimLeftASCII_c1  (J w1 s as') : pfn Tryz.prog q48_ 6 18446744073709551616 (Ev.get q49_) 135 strings_trimLeftASCII_s J 12 [w1] (q2x_ s as') = q50_ (fun s as' => w1 (q2x_ s as')) s as' := by kernel_rfl
theorem strings_trimLeftASCII_c0 (J : Orc (As [.str, .sl .bool])) (x : As [.str, .sl .bool]) : rfn Tryz.prog q48_ 6 18446744073709551616 (Ev.get q49_) 135 strings_trimLeftASCII_s J x = strings_trimLeftASCII_m0 (fun s as' => J 12 [] (q2x_ s as')) x.1 x.2.1 := by kernel_rfl
theorem strings_trimLeftASCII_g1  (s as') : jfn Tryz.prog q48_ 6 18446744073709551616 (Ev.get q49_) 135 strings_trimLeftASCII_s 12 [] (q2x_ s as') = q6t_ s as' := by
  rw [q2_ (by decide)]
  rw [qv_ (by kernel_rfl)]
  refine qi_ (σ := (List UInt8) × (List Bool)) (mk := fun s => q2x_ s.1 s.2) (fun w1 s => ?_) 18446744073709551616 (s, as')
  refine (strings_trimLeftASCII_c1 _ w1 s.1 s.2).trans ?_
  rfl
theorem strings_trimLeftASCII_t (x : As [.str, .sl .bool]) : evT Tryz.prog q48_ 6 18446744073709551616 (Ev.get q49_) 135 strings_trimLeftASCII_s x = q3w_ x := by
  have e1 : (fun s as' => (jfn Tryz.prog q48_ 6 18446744073709551616 (Ev.get q49_) 135 strings_trimLeftASCII_s) 12 [] (q2x_ s as')) = q6t_ := by funext s as'; exact strings_trimLeftASCII_g1 s as'
  rw [q1u_, strings_trimLeftASCII_c0, e1]
  rfl
theorem strings_trimLeftASCII_ok : CtOk Tryz.prog I0 135 ⟨strings_trimLeftASCII_s, q3w_⟩ := qu_ q9_ strings_trimLeftASCII_t
@[reducible] def strings_trimLeftUnicode_s : Sh := ⟨[.d (.str), .d (.str)], [], [.str, .str], [.d (.str)], [], 0, [.str]⟩
def q56_ (_ : As strings_trimLeftUnicode_s.ps) : Option (As strings_trimLeftUnicode_s.rs) := none
theorem strings_trimLeftUnicode_ok : CtOk Tryz.prog I0 136 ⟨strings_trimLeftUnicode_s, q56_⟩ := fun _ _ _ _ _ _ _ _ h => by cases h
@[reducible] def strings_TrimLeft_s : Sh := ⟨[.d (.str), .d (.str)], [], [.str, .str], [.d (.str)], [], 0, [.str]⟩
def q34_ : Env := (cts [(133, (⟨strings_trimLeftByte_s, q6b_⟩ : Ct)), (134, (⟨strings_makeASCIISet_s, q3e_⟩ : Ct)), (135, (⟨strings_trimLeftASCII_s, q3w_⟩ : Ct)), (136, (⟨strings_trimLeftUnicode_s, q56_⟩ : Ct))])
def q35_ : List (Nat × Hint) := [(14, ⟨[], [0, 1, 21]⟩), (6, ⟨[], [0, 1, 12, 18, 19, 20]⟩)]
def q6v_ (s cutset : List UInt8) (t12 : Bool) : St := { fr := [(0, .d .str s), (1, .d .str cutset), (12, .d .bool t12)], nt := 37, up := [], own := [], nx := 0, log := [], ln := 0 }
def q6w_ (s cutset : List UInt8) (t21 : Bool) : St := { fr := [(0, .d .str s), (1, .d .str cutset), (21, .d .bool t21)], nt := 37, up := [], own := [], nx := 0, log := [], ln := 0 }
def strings_TrimLeft_m1 (j2 : List UInt8 -> List UInt8 -> Bool -> Option (As [.str])) (s cutset : List UInt8) (t12 : Bool) : Option (As [.str]) :=
  if t12 = true then some (s, ()) else if eqi (Int.ofNat (List.length cutset)) 1 = true then Option.bind (at? cutset 0) fun (c : UInt8) => j2 s cutset (lt (Int.ofNat (UInt8.toNat c)) 128) else j2 s cutset false
def strings_TrimLeft_m2 (s cutset : List UInt8) (t21 : Bool) : Option (As [.str]) :=
  if t21 = true then Option.bind (at? cutset 0) fun (c : UInt8) => Option.bind (q6b_ (s, Int.ofNat (UInt8.toNat c), ())) fun (y : List UInt8 × Unit) => some (y.1, ()) else Option.bind (q3e_ (cutset, ())) fun (y : List Bool × Bool × Unit) => need (eqi 256 (Int.ofNat (List.length y.1))) (need (eqi 256 (Int.ofNat (List.length y.1 * 1))) (if y.2.1 = true then Option.bind (q3w_ (s, y.1, ())) fun (y : List UInt8 × List Bool × Unit) => some (y.1, ()) else Option.bind (q56_ (s, cutset, ())) fun (y : List UInt8 × Unit) => some (y.1, ())))
def strings_TrimLeft_m0 (j1 : List UInt8 -> List UInt8 -> Bool -> Option (As [.str])) (s cutset : List UInt8) : Option (As [.str]) :=
  if eqs s [] = true then j1 s cutset true else j1 s cutset (eqs cutset [])
def strings_TrimLeft_K2 (s cutset : List UInt8) (t21 : Bool) : Option (As [.str]) := strings_TrimLeft_m2 s cutset t21
def strings_TrimLeft_K1 (s cutset : List UInt8) (t12 : Bool) : Option (As [.str]) := strings_TrimLeft_m1 (strings_TrimLeft_K2) s cutset t12
def strings_TrimLeft (x : As [.str, .str]) : Option (As [.str]) := strings_TrimLeft_m0 strings_TrimLeft_K1 x.1 x.2.1
theorem strings_TrimLeft_c2  (J s cutset t21) : pfn Tryz.prog q34_ 6 18446744073709551616 (Ev.get q35_) 113 strings_TrimLeft_s J 14 [] (q6w_ s cutset t21) = strings_TrimLeft_m2 s cutset t21 := by kernel_rfl
theorem strings_TrimLeft_c1  (J s cutset t12) : pfn Tryz.prog q34_ 6 18446744073709551616 (Ev.get q35_) 113 strings_TrimLeft_s J 6 [] (q6v_ s cutset t12) = strings_TrimLeft_m1 (fun s cutset t21 => J 14 [] (q6w_ s cutset t21)) s cutset t12 := by kernel_rfl
theorem strings_TrimLeft_c0 (J : Orc (As [.str])) (x : As [.str, .str]) : rfn Tryz.prog q34_ 6 18446744073709551616 (Ev.get q35_) 113 strings_TrimLeft_s J x = strings_TrimLeft_m0 (fun s cutset t12 => J 6 [] (q6v_ s cutset t12)) x.1 x.2.1 := by kernel_rfl
theorem strings_TrimLeft_g2  (s cutset t21) : jfn Tryz.prog q34_ 6 18446744073709551616 (Ev.get q35_) 113 strings_TrimLeft_s 14 [] (q6w_ s cutset t21) = strings_TrimLeft_K2 s cutset t21 := by
  rw [q2_ (by decide)]
  rw [strings_TrimLeft_c2]
  rfl
theorem strings_TrimLeft_g1  (s cutset t12) : jfn Tryz.prog q34_ 6 18446744073709551616 (Ev.get q35_) 113 strings_TrimLeft_s 6 [] (q6v_ s cutset t12) = strings_TrimLeft_K1 s cutset t12 := by
  rw [q2_ (by decide)]
  have e2 : (fun s cutset t21 => (jfn Tryz.prog q34_ 6 18446744073709551616 (Ev.get q35_) 113 strings_TrimLeft_s) 14 [] (q6w_ s cutset t21)) = strings_TrimLeft_K2 := by funext s cutset t21; exact strings_TrimLeft_g2 s cutset t21
  rw [strings_TrimLeft_c1, e2]
  rfl
theorem strings_TrimLeft_t (x : As [.str, .str]) : evT Tryz.prog q34_ 6 18446744073709551616 (Ev.get q35_) 113 strings_TrimLeft_s x = strings_TrimLeft x := by
  have e1 : (fun s cutset t12 => (jfn Tryz.prog q34_ 6 18446744073709551616 (Ev.get q35_) 113 strings_TrimLeft_s) 6 [] (q6v_ s cutset t12)) = strings_TrimLeft_K1 := by funext s cutset t12; exact strings_TrimLeft_g1 s cutset t12
  rw [q1u_, strings_TrimLeft_c0, e1]
  rfl
theorem strings_TrimLeft_ok : CtOk Tryz.prog I0 113 ⟨strings_TrimLeft_s, strings_TrimLeft⟩ := qu_ (q0_ strings_trimLeftByte_ok (q0_ strings_makeASCIISet_ok (q0_ strings_trimLeftASCII_ok (q0_ strings_trimLeftUnicode_ok q9_)))) strings_TrimLeft_t
@[reducible] def q15_ : Sh := ⟨[.d .str, .d (.int .i64), .mp 0], [.sm (.int .u8) 3 [(0, (1 : Int), .agg [.fn (.func 100) [] [], .fn (.func 102) [] [], .fn (.func 104) [] []]), (1, (2 : Int), .agg [.fn (.func 105) [] [], .fn (.func 106) [] [], .fn (.func 107) [] []]), (2, (3 : Int), .agg [.fn (.func 108) [] [], .fn (.func 109) [] [], .fn (.func 110) [] []])]], [.str, .int .i64], [.d (.sl QAT1), .d (.int .i64)], [(0, .sm (.int .u8) 3 [(0, (1 : Int), .agg [.fn (.func 100) [] [], .fn (.func 102) [] [], .fn (.func 104) [] []]), (1, (2 : Int), .agg [.fn (.func 105) [] [], .fn (.func 106) [] [], .fn (.func 107) [] []]), (2, (3 : Int), .agg [.fn (.func 108) [] [], .fn (.func 109) [] [], .fn (.func 110) [] []])])], 0, [.sl QAT1, .int .i64]⟩
def q3q_ : Env := (cts [(100, (⟨qaz_, qp_⟩ : Ct)), (102, (⟨q5a_, q3k_⟩ : Ct)), (104, (⟨qe2_, qd4_⟩ : Ct)), (105, (⟨qb7_, qr_⟩ : Ct)), (106, (⟨q5b_, q3i_⟩ : Ct)), (107, (⟨qdb_, qbm_⟩ : Ct)), (108, (⟨qb4_, qq_⟩ : Ct)), (109, (⟨q5f_, q4k_⟩ : Ct)), (110, (⟨qb2_, q8h_⟩ : Ct)), (112, (⟨q1o_, q96_⟩ : Ct)), (112, (⟨q1p_, q97_⟩ : Ct)), (112, (⟨q1m_, q99_⟩ : Ct)), (113, (⟨strings_TrimLeft_s, strings_TrimLeft⟩ : Ct))])
def q3t_ : List (Nat × Hint) := [(31, ⟨[], [1, 9]⟩), (63, ⟨[], [9]⟩), (124, ⟨[.row 9 106], [1, 2, 3, 8, 9]⟩), (3975, ⟨[], [1, 2, 3, 8, 9, 10]⟩)]
def q5h_ (at' : Int) (text : List UInt8) (l : List QAT4) : St := { fr := [(1, .d (.int .i64) at'), (2, .mp 0), (3, .pb 1 0), (8, .fn (.func 112) [] [.pb 1 0]), (9, .row 2)], nt := 76, up := [], own := [(0, .sm (.int .u8) 3 [(0, 1, .agg [.fn (.func 100) [] [], .fn (.func 102) [] [], .fn (.func 104) [] []]), (1, 2, .agg [.fn (.func 105) [] [], .fn (.func 106) [] [], .fn (.func 107) [] []]), (2, 3, .agg [.fn (.func 108) [] [], .fn (.func 109) [] [], .fn (.func 110) [] []])]), (1, .box 9 [.d .str text]), (2, .row QAT1 106 l)], nx := 3, log := [], ln := 1 }
def qcf_ (at' : Int) (l : List QAT4) : St := { fr := [(1, .d (.int .i64) at'), (9, .row 1)], nt := 76, up := [], own := [(0, .sm (.int .u8) 3 [(0, 1, .agg [.fn (.func 100) [] [], .fn (.func 102) [] [], .fn (.func 104) [] []]), (1, 2, .agg [.fn (.func 105) [] [], .fn (.func 106) [] [], .fn (.func 107) [] []]), (2, 3, .agg [.fn (.func 108) [] [], .fn (.func 109) [] [], .fn (.func 110) [] []])]), (1, .row QAT1 106 l)], nx := 2, log := [], ln := 1 }
def qc9_ (at' : Int) (text : List UInt8) (l : List QAT4) (t : Int) (t_2 : List UInt8) (t_3 t_4 t_5 : Int) : St := { fr := [(1, .d (.int .i64) at'), (2, .mp 0), (3, .pb 1 0), (8, .fn (.func 112) [] [.pb 1 0]), (9, .row 2), (10, .pb 3 0)], nt := 76, up := [], own := [(0, .sm (.int .u8) 3 [(0, 1, .agg [.fn (.func 100) [] [], .fn (.func 102) [] [], .fn (.func 104) [] []]), (1, 2, .agg [.fn (.func 105) [] [], .fn (.func 106) [] [], .fn (.func 107) [] []]), (2, 3, .agg [.fn (.func 108) [] [], .fn (.func 109) [] [], .fn (.func 110) [] []])]), (1, .box 9 [.d .str text]), (2, .row QAT1 106 l), (3, .box 106 [.d (.int .u8) t, .d .str t_2, .d (.int .i64) t_3, .d (.int .u8) t_4, .d (.int .i64) t_5])], nx := 4, log := [], ln := 1 }
def qcd_ (l : List QAT4) : St := { fr := [(9, .row 1)], nt := 76, up := [], own := [(0, .sm (.int .u8) 3 [(0, 1, .agg [.fn (.func 100) [] [], .fn (.func 102) [] [], .fn (.func 104) [] []]), (1, 2, .agg [.fn (.func 105) [] [], .fn (.func 106) [] [], .fn (.func 107) [] []]), (2, 3, .agg [.fn (.func 108) [] [], .fn (.func 109) [] [], .fn (.func 110) [] []])]), (1, .row QAT1 106 l)], nx := 2, log := [], ln := 1 }
def q7s_ (j2 : Int -> List QAT4 -> Option (As [.sl QAT1, .int .i64])) (j3 : Int -> List UInt8 -> List QAT4 -> Int -> List UInt8 -> Int -> Int -> Int -> Option (As [.sl QAT1, .int .i64])) (self1 : Int -> List UInt8 -> List QAT4 -> Option (As [.sl QAT1, .int .i64])) (at' : Int) (text : List UInt8) (l : List QAT4) : Option (As [.sl QAT1, .int .i64]) :=
  Option.bind (strings_TrimLeft (text, [9, 13, 32], ())) fun (y : List UInt8 × Unit) => if eqs y.1 [] = true then j2 at' l else amb (eqAs q15_.rs) [Option.bind (at? y.1 0) fun (c : UInt8) => Option.bind (qp_ (Int.ofNat (UInt8.toNat c), ())) fun (y_1 : Bool × Unit) => if y_1.1 = true then amb (eqAs q15_.rs) [Option.bind (at? y.1 0) fun (c : UInt8) => Option.bind (qr_ (Int.ofNat (UInt8.toNat c), ())) fun (y_2 : Bool × Unit) => if y_2.1 = true then Option.bind (at? y.1 0) fun (c : UInt8) => Option.bind (qq_ (Int.ofNat (UInt8.toNat c), ())) fun (y_3 : Bool × Unit) => if y_3.1 = true then j3 at' y.1 l 3 [] 0 0 at' else j3 at' y.1 l 2 [] 0 0 at' else Option.bind (at? y.1 0) fun (c : UInt8) => Option.bind (qq_ (Int.ofNat (UInt8.toNat c), ())) fun (y_3 : Bool × Unit) => if y_3.1 = true then j3 at' y.1 l 3 [] 0 0 at' else j3 at' y.1 l 1 [] 0 0 at', Option.bind (at? y.1 0) fun (c : UInt8) => Option.bind (qq_ (Int.ofNat (UInt8.toNat c), ())) fun (y_2 : Bool × Unit) => if y_2.1 = true then Option.bind (at? y.1 0) fun (c : UInt8) => Option.bind (qr_ (Int.ofNat (UInt8.toNat c), ())) fun (y_3 : Bool × Unit) => if y_3.1 = true then j3 at' y.1 l 2 [] 0 0 at' else j3 at' y.1 l 3 [] 0 0 at' else Option.bind (at? y.1 0) fun (c : UInt8) => Option.bind (qr_ (Int.ofNat (UInt8.toNat c), ())) fun (y_3 : Bool × Unit) => if y_3.1 = true then j3 at' y.1 l 2 [] 0 0 at' else j3 at' y.1 l 1 [] 0 0 at'] else amb (eqAs q15_.rs) [Option.bind (at? y.1 0) fun (c : UInt8) => Option.bind (qr_ (Int.ofNat (UInt8.toNat c), ())) fun (y_2 : Bool × Unit) => if y_2.1 = true then Option.bind (at? y.1 0) fun (c : UInt8) => Option.bind (qq_ (Int.ofNat (UInt8.toNat c), ())) fun (y_3 : Bool × Unit) => if y_3.1 = true then j3 at' y.1 l 3 [] 0 0 at' else j3 at' y.1 l 2 [] 0 0 at' else Option.bind (at? y.1 0) fun (c : UInt8) => Option.bind (qq_ (Int.ofNat (UInt8.toNat c), ())) fun (y_3 : Bool × Unit) => if y_3.1 = true then j3 at' y.1 l 3 [] 0 0 at' else j3 at' y.1 l 0 [] 0 0 at', Option.bind (at? y.1 0) fun (c : UInt8) => Option.bind (qq_ (Int.ofNat (UInt8.toNat c), ())) fun (y_2 : Bool × Unit) => if y_2.1 = true then Option.bind (at? y.1 0) fun (c : UInt8) => Option.bind (qr_ (Int.ofNat (UInt8.toNat c), ())) fun (y_3 : Bool × Unit) => if y_3.1 = true then j3 at' y.1 l 2 [] 0 0 at' else j3 at' y.1 l 3 [] 0 0 at' else Option.bind (at? y.1 0) fun (c : UInt8) => Option.bind (qr_ (Int.ofNat (UInt8.toNat c), ())) fun (y_3 : Bool × Unit) => if y_3.1 = true then j3 at' y.1 l 2 [] 0 0 at' else j3 at' y.1 l 0 [] 0 0 at'], Option.bind (at? y.1 0) fun (c : UInt8) => Option.bind (qr_ (Int.ofNat (UInt8.toNat c), ())) fun (y_1 : Bool × Unit) => if y_1.1 = true then amb (eqAs q15_.rs) [Option.bind (at? y.1 0) fun (c : UInt8) => Option.bind (qp_ (Int.ofNat (UInt8.toNat c), ())) fun (y_2 : Bool × Unit) => if y_2.1 = true then Option.bind (at? y.1 0) fun (c : UInt8) => Option.bind (qq_ (Int.ofNat (UInt8.toNat c), ())) fun (y_3 : Bool × Unit) => if y_3.1 = true then j3 at' y.1 l 3 [] 0 0 at' else j3 at' y.1 l 1 [] 0 0 at' else Option.bind (at? y.1 0) fun (c : UInt8) => Option.bind (qq_ (Int.ofNat (UInt8.toNat c), ())) fun (y_3 : Bool × Unit) => if y_3.1 = true then j3 at' y.1 l 3 [] 0 0 at' else j3 at' y.1 l 2 [] 0 0 at', Option.bind (at? y.1 0) fun (c : UInt8) => Option.bind (qq_ (Int.ofNat (UInt8.toNat c), ())) fun (y_2 : Bool × Unit) => if y_2.1 = true then Option.bind (at? y.1 0) fun (c : UInt8) => Option.bind (qp_ (Int.ofNat (UInt8.toNat c), ())) fun (y_3 : Bool × Unit) => if y_3.1 = true then j3 at' y.1 l 1 [] 0 0 at' else j3 at' y.1 l 3 [] 0 0 at' else Option.bind (at? y.1 0) fun (c : UInt8) => Option.bind (qp_ (Int.ofNat (UInt8.toNat c), ())) fun (y_3 : Bool × Unit) => if y_3.1 = true then j3 at' y.1 l 1 [] 0 0 at' else j3 at' y.1 l 2 [] 0 0 at'] else amb (eqAs q15_.rs) [Option.bind (at? y.1 0) fun (c : UInt8) => Option.bind (qp_ (Int.ofNat (UInt8.toNat c), ())) fun (y_2 : Bool × Unit) => if y_2.1 = true then Option.bind (at? y.1 0) fun (c : UInt8) => Option.bind (qq_ (Int.ofNat (UInt8.toNat c), ())) fun (y_3 : Bool × Unit) => if y_3.1 = true then j3 at' y.1 l 3 [] 0 0 at' else j3 at' y.1 l 1 [] 0 0 at' else Option.bind (at? y.1 0) fun (c : UInt8) => Option.bind (qq_ (Int.ofNat (UInt8.toNat c), ())) fun (y_3 : Bool × Unit) => if y_3.1 = true then j3 at' y.1 l 3 [] 0 0 at' else j3 at' y.1 l 0 [] 0 0 at', Option.bind (at? y.1 0) fun (c : UInt8) => Option.bind (qq_ (Int.ofNat (UInt8.toNat c), ())) fun (y_2 : Bool × Unit) => if y_2.1 = true then Option.bind (at? y.1 0) fun (c : UInt8) => Option.bind (qp_ (Int.ofNat (UInt8.toNat c), ())) fun (y_3 : Bool × Unit) => if y_3.1 = true then j3 at' y.1 l 1 [] 0 0 at' else j3 at' y.1 l 3 [] 0 0 at' else Option.bind (at? y.1 0) fun (c : UInt8) => Option.bind (qp_ (Int.ofNat (UInt8.toNat c), ())) fun (y_3 : Bool × Unit) => if y_3.1 = true then j3 at' y.1 l 1 [] 0 0 at' else j3 at' y.1 l 0 [] 0 0 at'], Option.bind (at? y.1 0) fun (c : UInt8) => Option.bind (qq_ (Int.ofNat (UInt8.toNat c), ())) fun (y_1 : Bool × Unit) => if y_1.1 = true then amb (eqAs q15_.rs) [Option.bind (at? y.1 0) fun (c : UInt8) => Option.bind (qp_ (Int.ofNat (UInt8.toNat c), ())) fun (y_2 : Bool × Unit) => if y_2.1 = true then Option.bind (at? y.1 0) fun (c : UInt8) => Option.bind (qr_ (Int.ofNat (UInt8.toNat c), ())) fun (y_3 : Bool × Unit) => if y_3.1 = true then j3 at' y.1 l 2 [] 0 0 at' else j3 at' y.1 l 1 [] 0 0 at' else Option.bind (at? y.1 0) fun (c : UInt8) => Option.bind (qr_ (Int.ofNat (UInt8.toNat c), ())) fun (y_3 : Bool × Unit) => if y_3.1 = true then j3 at' y.1 l 2 [] 0 0 at' else j3 at' y.1 l 3 [] 0 0 at', Option.bind (at? y.1 0) fun (c : UInt8) => Option.bind (qr_ (Int.ofNat (UInt8.toNat c), ())) fun (y_2 : Bool × Unit) => if y_2.1 = true then Option.bind (at? y.1 0) fun (c : UInt8) => Option.bind (qp_ (Int.ofNat (UInt8.toNat c), ())) fun (y_3 : Bool × Unit) => if y_3.1 = true then j3 at' y.1 l 1 [] 0 0 at' else j3 at' y.1 l 2 [] 0 0 at' else Option.bind (at? y.1 0) fun (c : UInt8) => Option.bind (qp_ (Int.ofNat (UInt8.toNat c), ())) fun (y_3 : Bool × Unit) => if y_3.1 = true then j3 at' y.1 l 1 [] 0 0 at' else j3 at' y.1 l 3 [] 0 0 at'] else amb (eqAs q15_.rs) [Option.bind (at? y.1 0) fun (c : UInt8) => Option.bind (qp_ (Int.ofNat (UInt8.toNat c), ())) fun (y_2 : Bool × Unit) => if y_2.1 = true then Option.bind (at? y.1 0) fun (c : UInt8) => Option.bind (qr_ (Int.ofNat (UInt8.toNat c), ())) fun (y_3 : Bool × Unit) => if y_3.1 = true then j3 at' y.1 l 2 [] 0 0 at' else j3 at' y.1 l 1 [] 0 0 at' else Option.bind (at? y.1 0) fun (c : UInt8) => Option.bind (qr_ (Int.ofNat (UInt8.toNat c), ())) fun (y_3 : Bool × Unit) => if y_3.1 = true then j3 at' y.1 l 2 [] 0 0 at' else j3 at' y.1 l 0 [] 0 0 at', Option.bind (at? y.1 0) fun (c : UInt8) => Option.bind (qr_ (Int.ofNat (UInt8.toNat c), ())) fun (y_2 : Bool × Unit) => if y_2.1 = true then Option.bind (at? y.1 0) fun (c : UInt8) => Option.bind (qp_ (Int.ofNat (UInt8.toNat c), ())) fun (y_3 : Bool × Unit) => if y_3.1 = true then j3 at' y.1 l 1 [] 0 0 at' else j3 at' y.1 l 2 [] 0 0 at' else Option.bind (at? y.1 0) fun (c : UInt8) => Option.bind (qp_ (Int.ofNat (UInt8.toNat c), ())) fun (y_3 : Bool × Unit) => if y_3.1 = true then j3 at' y.1 l 1 [] 0 0 at' else j3 at' y.1 l 0 [] 0 0 at']]
def qdj_ (j4 : List QAT4 -> Option (As [.sl QAT1, .int .i64])) (at' : Int) (l : List QAT4) : Option (As [.sl QAT1, .int .i64]) :=
  if gt (Int.ofNat (List.length l)) 0 = true then need (small (List.length l + Nat.succ 0)) (j4 (l ++ [(4, [], (0, 0), at')])) else j4 l
def qdi_ (self1 : Int -> List UInt8 -> List QAT4 -> Option (As [.sl QAT1, .int .i64])) (at' : Int) (text : List UInt8) (l : List QAT4) (t : Int) (t_2 : List UInt8) (t_3 t_4 t_5 : Int) : Option (As [.sl QAT1, .int .i64]) :=
  if eqi 1 t = true then Option.bind (q96_ (text, ())) fun (y : List UInt8 × List UInt8 × Unit) => Option.bind (qd4_ (t, y.1, t_3, t_4, t_5, ())) fun (y_1 : Int × Int × List UInt8 × Int × Int × Int × Unit) => if nei y_1.1 0 = true then some ([], y_1.1, ()) else need (small (List.length l + Nat.succ 0)) (self1 at' y.2.1 (l ++ [(y_1.2.1, y_1.2.2.1, (y_1.2.2.2.1, y_1.2.2.2.2.1), y_1.2.2.2.2.2.1)])) else if eqi 2 t = true then Option.bind (q97_ (text, ())) fun (y : List UInt8 × List UInt8 × Unit) => Option.bind (qbm_ (t, y.1, t_3, t_4, t_5, ())) fun (y_1 : Int × Int × List UInt8 × Int × Int × Int × Unit) => if nei y_1.1 0 = true then some ([], y_1.1, ()) else need (small (List.length l + Nat.succ 0)) (self1 at' y.2.1 (l ++ [(y_1.2.1, y_1.2.2.1, (y_1.2.2.2.1, y_1.2.2.2.2.1), y_1.2.2.2.2.2.1)])) else if eqi 3 t = true then Option.bind (q99_ (text, ())) fun (y : List UInt8 × List UInt8 × Unit) => Option.bind (q8h_ (t, y.1, t_3, t_4, t_5, ())) fun (y_1 : Int × Int × List UInt8 × Int × Int × Int × Unit) => if nei y_1.1 0 = true then some ([], y_1.1, ()) else need (small (List.length l + Nat.succ 0)) (self1 at' y.2.1 (l ++ [(y_1.2.1, y_1.2.2.1, (y_1.2.2.2.1, y_1.2.2.2.2.1), y_1.2.2.2.2.2.1)])) else some ([], 131, ())
def qg0_ (l : List QAT4) : Option (As [.sl QAT1, .int .i64]) :=
  some (l, 0, ())
def qcb_ (j1 : Int -> List UInt8 -> List QAT4 -> Option (As [.sl QAT1, .int .i64])) (text : List UInt8) (at' : Int) : Option (As [.sl QAT1, .int .i64]) :=
  if eqs [35] text = true then Option.bind (cut text 1 (Int.ofNat (List.length text))) fun (y : List UInt8) => j1 at' [] [] else if ge (Go.Lib.indexByte text 35) 0 = true then Option.bind (cut text 0 (Go.Lib.indexByte text 35)) fun (y : List UInt8) => Option.bind (cut text (add .i64 (Go.Lib.indexByte text 35) 1) (Int.ofNat (List.length text))) fun (y_1 : List UInt8) => j1 at' y [] else j1 at' text []
def qdk_ (l : List QAT4) : Option (As [.sl QAT1, .int .i64]) := qg0_ l
def qal_ (at' : Int) (l : List QAT4) : Option (As [.sl QAT1, .int .i64]) := qdj_ (qdk_) at' l
def qaj_ (u1 : Int -> List UInt8 -> List QAT4 -> Option (As [.sl QAT1, .int .i64])) (at' : Int) (text : List UInt8) (l : List QAT4) (t : Int) (t_2 : List UInt8) (t_3 t_4 t_5 : Int) : Option (As [.sl QAT1, .int .i64]) := qdi_ u1 at' text l t t_2 t_3 t_4 t_5
def qak_ (at' : Int) (text : List UInt8) (l : List QAT4) : Option (As [.sl QAT1, .int .i64]) :=
  loopF (fun (self : (Int) × (List UInt8) × (List QAT4) -> Option (As [.sl QAT1, .int .i64])) (s : (Int) × (List UInt8) × (List QAT4)) => q7s_ (qal_) (qaj_ (fun at' text l => self (at', text, l))) (fun at' text l => self (at', text, l)) s.1 s.2.1 s.2.2) 18446744073709551616 (at', text, l)
def q9z_ (x : As [.str, .int .i64]) : Option (As [.sl QAT1, .int .i64]) := qcb_ qak_ x.1 x.2.1
theorem qnj_  (J l) : pfn Tryz.prog q3q_ 6 18446744073709551616 (Ev.get q3t_) 72 q15_ J 63 [] (qcd_ l) = qg0_ l := by kernel_rfl
theorem qnm_  (J at' l) : pfn Tryz.prog q3q_ 6 18446744073709551616 (Ev.get q3t_) 72 q15_ J 31 [] (qcf_ at' l) = qdj_ (fun l => J 63 [] (qcd_ l)) at' l := by kernel_rfl
theorem qnl_  (J w1 at' text l t t_2 t_3 t_4 t_5) : pfn Tryz.prog q3q_ 6 18446744073709551616 (Ev.get q3t_) 72 q15_ J 3975 [w1] (qc9_ at' text l t t_2 t_3 t_4 t_5) = qdi_ (fun at' text l => w1 (q5h_ at' text l)) at' text l t t_2 t_3 t_4 t_5 := by kernel_rfl
theorem qnw_  (J w1 at' text l) : pfn Tryz.prog q3q_ 6 18446744073709551616 (Ev.get q3t_) 72 q15_ J 124 [w1] (q5h_ at' text l) = q7s_ (fun at' l => J 31 [] (qcf_ at' l)) (fun at' text l t t_2 t_3 t_4 t_5 => J 3975 [w1] (qc9_ at' text l t t_2 t_3 t_4 t_5)) (fun at' text l => w1 (q5h_ at' text l)) at' text l := by kernel_rfl
theorem qni_ (J : Orc (As [.sl QAT1, .int .i64])) (x : As [.str, .int .i64]) : rfn Tryz.prog q3q_ 6 18446744073709551616 (Ev.get q3t_) 72 q15_ J x = qcb_ (fun at' text l => J 124 [] (q5h_ at' text l)) x.1 x.2.1 := by kernel_rfl
theorem qnp_  (l) : jfn Tryz.prog q3q_ 6 18446744073709551616 (Ev.get q3t_) 72 q15_ 63 [] (qcd_ l) = qdk_ l := by
  rw [q2_ (by decide)]
  rw [qnj_]
  rfl
theorem qnx_  (at' l) : jfn Tryz.prog q3q_ 6 18446744073709551616 (Ev.get q3t_) 72 q15_ 31 [] (qcf_ at' l) = qal_ at' l := by
  rw [q2_ (by decide)]
  have e4 : (fun l => (jfn Tryz.prog q3q_ 6 18446744073709551616 (Ev.get q3t_) 72 q15_) 63 [] (qcd_ l)) = qdk_ := funext fun l => qnp_ l
  rw [qnm_, e4]
  rfl
theorem qnc_  (w1 at' text l t t_2 t_3 t_4 t_5) : jfn Tryz.prog q3q_ 6 18446744073709551616 (Ev.get q3t_) 72 q15_ 3975 [w1] (qc9_ at' text l t t_2 t_3 t_4 t_5) = qaj_ (fun at' text l => w1 (q5h_ at' text l)) at' text l t t_2 t_3 t_4 t_5 := by
  rw [q2_ (by decide)]
  rw [qnl_]
  rfl
theorem qnu_  (at' text l) : jfn Tryz.prog q3q_ 6 18446744073709551616 (Ev.get q3t_) 72 q15_ 124 [] (q5h_ at' text l) = qak_ at' text l := by
  rw [q2_ (by decide)]
  rw [qv_ (by kernel_rfl)]
  refine qi_ (σ := (Int) × (List UInt8) × (List QAT4)) (mk := fun s => q5h_ s.1 s.2.1 s.2.2) (fun w1 s => ?_) 18446744073709551616 (at', text, l)
  have e2 : (fun at' l => (jfn Tryz.prog q3q_ 6 18446744073709551616 (Ev.get q3t_) 72 q15_) 31 [] (qcf_ at' l)) = qal_ := by funext at' l; exact qnx_ at' l
  have e3 : (fun at' text l t t_2 t_3 t_4 t_5 => (jfn Tryz.prog q3q_ 6 18446744073709551616 (Ev.get q3t_) 72 q15_) 3975 [w1] (qc9_ at' text l t t_2 t_3 t_4 t_5)) = qaj_ (fun at' text l => w1 (q5h_ at' text l)) := by funext at' text l t t_2 t_3 t_4 t_5; exact qnc_ w1 at' text l t t_2 t_3 t_4 t_5
  refine (qnw_ _ w1 s.1 s.2.1 s.2.2).trans ?_
  rw [e2, e3]
theorem qo2_ (x : As [.str, .int .i64]) : evT Tryz.prog q3q_ 6 18446744073709551616 (Ev.get q3t_) 72 q15_ x = q9z_ x := by
  have e1 : (fun at' text l => (jfn Tryz.prog q3q_ 6 18446744073709551616 (Ev.get q3t_) 72 q15_) 124 [] (q5h_ at' text l)) = qak_ := by funext at' text l; exact qnu_ at' text l
  rw [q1u_, qni_, e1]
  rfl
theorem qno_ : CtOk Tryz.prog I0 72 ⟨q15_, q9z_⟩ := qu_ (q0_ qcs_ (q0_ q5v_ (q0_ qg1_ (q0_ qct_ (q0_ q5x_ (q0_ qet_ (q0_ qcv_ (q0_ q5w_ (q0_ qcu_ (q0_ qgj_ (q0_ qgh_ (q0_ qga_ (q0_ strings_TrimLeft_ok q9_))))))))))))) qo2_
@[reducible] def q6d_ : Sh := ⟨[.d (.str)], [], [.str], [.d (.sl QAT1), .d (.pr (.int .i64) (.int .i64))], [], 0, [.sl QAT1, .pr (.int .i64) (.int .i64)]⟩
def q8n_ : Env := (cts [(72, (⟨q15_, q9z_⟩ : Ct)), (100, (⟨qaz_, qp_⟩ : Ct)), (102, (⟨q5a_, q3k_⟩ : Ct)), (104, (⟨qe2_, qd4_⟩ : Ct)), (105, (⟨qb7_, qr_⟩ : Ct)), (106, (⟨q5b_, q3i_⟩ : Ct)), (107, (⟨qdb_, qbm_⟩ : Ct)), (108, (⟨qb4_, qq_⟩ : Ct)), (109, (⟨q5f_, q4k_⟩ : Ct)), (110, (⟨qb2_, q8h_⟩ : Ct))])
def q8m_ : List (Nat × Hint) := [(31, ⟨[], [3, 5]⟩), (250, ⟨[.row 5 106], [0, 3, 4, 5, 6]⟩)]
def qa2_ (text : List UInt8) (n t3 t3_2 : Int) (l : List QAT4) : St := { fr := [(0, .d .str text), (3, .pb 0 0), (4, .mp 1), (5, .row 2), (6, .d (.int .i64) n)], nt := 45, up := [], own := [(0, .box 33 [.d (.int .i64) t3, .d (.int .i64) t3_2]), (1, .sm (.int .u8) 3 [(0, 1, .agg [.fn (.func 100) [] [], .fn (.func 102) [] [], .fn (.func 104) [] []]), (1, 2, .agg [.fn (.func 105) [] [], .fn (.func 106) [] [], .fn (.func 107) [] []]), (2, 3, .agg [.fn (.func 108) [] [], .fn (.func 109) [] [], .fn (.func 110) [] []])]), (2, .row QAT1 106 l)], nx := 3, log := [], ln := 0 }
def qcx_ (t3 t3_2 : Int) (l : List QAT4) : St := { fr := [(3, .pb 0 0), (5, .row 1)], nt := 45, up := [], own := [(0, .box 33 [.d (.int .i64) t3, .d (.int .i64) t3_2]), (1, .row QAT1 106 l)], nx := 2, log := [], ln := 0 }
def qbb_ (j2 : Int -> Int -> List QAT4 -> Option (As [.sl QAT1, .pr (.int .i64) (.int .i64)])) (self1 : List UInt8 -> Int -> Int -> Int -> List QAT4 -> Option (As [.sl QAT1, .pr (.int .i64) (.int .i64)])) (text : List UInt8) (n t3 t3_2 : Int) (l : List QAT4) : Option (As [.sl QAT1, .pr (.int .i64) (.int .i64)]) :=
  if nes text [] = true then if eqs [10] text = true then Option.bind (cut text 1 (Int.ofNat (List.length text))) fun (y : List UInt8) => Option.bind (q9z_ ([], n, ())) fun (y_1 : List QAT4 × Int × Unit) => if nei y_1.2.1 0 = true then some ([], (y_1.2.1, n), ()) else need (small (List.length l + List.length y_1.1)) (self1 y (add .i64 n 1) t3 t3_2 (l ++ y_1.1)) else if ge (Go.Lib.indexByte text 10) 0 = true then Option.bind (cut text 0 (Go.Lib.indexByte text 10)) fun (y : List UInt8) => Option.bind (cut text (add .i64 (Go.Lib.indexByte text 10) 1) (Int.ofNat (List.length text))) fun (y_1 : List UInt8) => Option.bind (q9z_ (y, n, ())) fun (y : List QAT4 × Int × Unit) => if nei y.2.1 0 = true then some ([], (y.2.1, n), ()) else need (small (List.length l + List.length y.1)) (self1 y_1 (add .i64 n 1) t3 t3_2 (l ++ y.1)) else Option.bind (q9z_ (text, n, ())) fun (y : List QAT4 × Int × Unit) => if nei y.2.1 0 = true then some ([], (y.2.1, n), ()) else need (small (List.length l + List.length y.1)) (self1 [] (add .i64 n 1) t3 t3_2 (l ++ y.1)) else j2 t3 t3_2 l
def qhs_ (t3 t3_2 : Int) (l : List QAT4) : Option (As [.sl QAT1, .pr (.int .i64) (.int .i64)]) :=
  some (l, (0, 0), ())
def qd0_ (j1 : List UInt8 -> Int -> Int -> Int -> List QAT4 -> Option (As [.sl QAT1, .pr (.int .i64) (.int .i64)])) (text : List UInt8) : Option (As [.sl QAT1, .pr (.int .i64) (.int .i64)]) :=
  if gt (Int.ofNat (List.length text)) 8192 = true then some ([], (130, 0), ()) else j1 text 1 0 0 []
def qcy_ (t3 t3_2 : Int) (l : List QAT4) : Option (As [.sl QAT1, .pr (.int .i64) (.int .i64)]) := qhs_ t3 t3_2 l
def qcz_ (text : List UInt8) (n t3 t3_2 : Int) (l : List QAT4) : Option (As [.sl QAT1, .pr (.int .i64) (.int .i64)]) :=
  loopF (fun (self : (List UInt8) × (Int) × (Int) × (Int) × (List QAT4) -> Option (As [.sl QAT1, .pr (.int .i64) (.int .i64)])) (s : (List UInt8) × (Int) × (Int) × (Int) × (List QAT4)) => qbb_ (qcy_) (fun text n t3 t3_2 l => self (text, n, t3, t3_2, l)) s.1 s.2.1 s.2.2.1 s.2.2.2.1 s.2.2.2.2) 18446744073709551616 (text, n, t3, t3_2, l)
def qdq_ (x : As [.str]) : Option (As [.sl QAT1, .pr (.int .i64) (.int .i64)]) := qd0_ qcz_ x.1
theorem qo3_  (J t3 t3_2 l) : pfn Tryz.prog q8n_ 6 18446744073709551616 (Ev.get q8m_) 39 q6d_ J 31 [] (qcx_ t3 t3_2 l) = qhs_ t3 t3_2 l := by kernel_rfl
theorem qo1_  (J w1 text n t3 t3_2 l) : pfn Tryz.prog q8n_ 6 18446744073709551616 (Ev.get q8m_) 39 q6d_ J 250 [w1] (qa2_ text n t3 t3_2 l) = qbb_ (fun t3 t3_2 l => J 31 [] (qcx_ t3 t3_2 l)) (fun text n t3 t3_2 l => w1 (qa2_ text n t3 t3_2 l)) text n t3 t3_2 l := by kernel_rfl
theorem qo5_ (J : Orc (As [.sl QAT1, .pr (.int .i64) (.int .i64)])) (x : As [.str]) : rfn Tryz.prog q8n_ 6 18446744073709551616 (Ev.get q8m_) 39 q6d_ J x = qd0_ (fun text n t3 t3_2 l => J 250 [] (qa2_ text n t3 t3_2 l)) x.1 := by kernel_rfl
theorem qo7_  (t3 t3_2 l) : jfn Tryz.prog q8n_ 6 18446744073709551616 (Ev.get q8m_) 39 q6d_ 31 [] (qcx_ t3 t3_2 l) = qcy_ t3 t3_2 l := by
  rw [q2_ (by decide)]
  rw [qo3_]
  rfl
theorem qo6_  (text n t3 t3_2 l) : jfn Tryz.prog q8n_ 6 18446744073709551616 (Ev.get q8m_) 39 q6d_ 250 [] (qa2_ text n t3 t3_2 l) = qcz_ text n t3 t3_2 l := by
  rw [q2_ (by decide)]
  rw [qv_ (by kernel_rfl)]
  refine qi_ (σ := (List UInt8) × (Int) × (Int) × (Int) × (List QAT4)) (mk := fun s => qa2_ s.1 s.2.1 s.2.2.1 s.2.2.2.1 s.2.2.2.2) (fun w1 s => ?_) 18446744073709551616 (text, n, t3, t3_2, l)
  have e2 : (fun t3 t3_2 l => (jfn Tryz.prog q8n_ 6 18446744073709551616 (Ev.get q8m_) 39 q6d_) 31 [] (qcx_ t3 t3_2 l)) = qcy_ := by funext t3 t3_2 l; exact qo7_ t3 t3_2 l
  refine (qo1_ _ w1 s.1 s.2.1 s.2.2.1 s.2.2.2.1 s.2.2.2.2).trans ?_
  rw [e2]
theorem qob_ (x : As [.str]) : evT Tryz.prog q8n_ 6 18446744073709551616 (Ev.get q8m_) 39 q6d_ x = qdq_ x := by
  have e1 : (fun text n t3 t3_2 l => (jfn Tryz.prog q8n_ 6 18446744073709551616 (Ev.get q8m_) 39 q6d_) 250 [] (qa2_ text n t3 t3_2 l)) = qcz_ := by funext text n t3 t3_2 l; exact qo6_ text n t3 t3_2 l
  rw [q1u_, qo5_, e1]
  rfl
theorem qo9_ : CtOk Tryz.prog I0 39 ⟨q6d_, qdq_⟩ := qu_ (q0_ qno_ (q0_ qcs_ (q0_ q5v_ (q0_ qg1_ (q0_ qct_ (q0_ q5x_ (q0_ qet_ (q0_ qcv_ (q0_ q5w_ (q0_ qcu_ q9_)))))))))) qob_
def qh7_ (c : Int) : Option (As [.bool]) :=
  if ge c 97 = true then if le c 122 = true then some (true, ()) else if ge c 65 = true then if le c 90 = true then some (true, ()) else some (eqi c 37, ()) else some (eqi c 37, ()) else if ge c 65 = true then if le c 90 = true then some (true, ()) else some (eqi c 37, ()) else some (eqi c 37, ())
def qfd_ (x : As [.int .u8]) : Option (As [.bool]) := qh7_ x.1
def qjf_ (c : Int) : Option (As [.bool]) :=
  if ge c 48 = true then some (le c 57, ()) else some (false, ())
def qdl_ (x : As [.int .u8]) : Option (As [.bool]) := qjf_ x.1
def qle_ (kind c : Int) : Option (As [.bool]) :=
  if eqi kind 1 = true then Option.bind (qfd_ (c, ())) fun (y : Bool × Unit) => if y.1 = true then some (true, ()) else Option.bind (qdl_ (c, ())) fun (y : Bool × Unit) => if y.1 = true then some (true, ()) else some (eqi c 95, ()) else Option.bind (qdl_ (c, ())) fun (y : Bool × Unit) => if y.1 = true then some (true, ()) else if eqi c 46 = true then some (true, ()) else some (eqi c 45, ())
def qo4_ (x : As [.int .u8, .int .u8]) : Option (As [.bool]) := qle_ x.1 x.2.1
def qnv_ (j2 : Int -> Int -> Bool -> Int -> Int -> Option (As [.pr (.int .i64) (.int .u8), .bool])) (self1 : Int -> Int -> Int -> Int -> Option (As [.pr (.int .i64) (.int .u8), .bool])) (n digits t4 t4_2 : Int) : Option (As [.pr (.int .i64) (.int .u8), .bool]) :=
  if gt digits 0 = true then j2 n digits (eqi (rem n 10) 0) t4 t4_2 else j2 n digits false t4 t4_2
def qnz_ (j3 self1 : Int -> Int -> Int -> Int -> Option (As [.pr (.int .i64) (.int .u8), .bool])) (n digits : Int) (t12 : Bool) (t4 t4_2 : Int) : Option (As [.pr (.int .i64) (.int .u8), .bool]) :=
  if t12 = true then self1 (quo .i64 n 10) (Sx.sub .i64 digits 1) t4 t4_2 else j3 n digits t4 t4_2
def qnk_ (j4 : Int -> Int -> Bool -> Int -> Int -> Option (As [.pr (.int .i64) (.int .u8), .bool])) (n digits t4 t4_2 : Int) : Option (As [.pr (.int .i64) (.int .u8), .bool]) :=
  if gt digits 6 = true then j4 n digits true t4 t4_2 else if gt n 1000000000000 = true then j4 n digits true t4 t4_2 else j4 n digits (lt n (-1000000000000)) t4 t4_2
def qnq_ (n digits : Int) (t26 : Bool) (t4 t4_2 : Int) : Option (As [.pr (.int .i64) (.int .u8), .bool]) :=
  if t26 = true then some ((0, 0), false, ()) else some ((n, cvt .u8 digits), true, ())
def qnn_ (j1 : Int -> Int -> Int -> Int -> Option (As [.pr (.int .i64) (.int .u8), .bool])) (n digits : Int) : Option (As [.pr (.int .i64) (.int .u8), .bool]) :=
  j1 n digits 0 0
def qnd_ (n digits : Int) (t26 : Bool) (t4 t4_2 : Int) : Option (As [.pr (.int .i64) (.int .u8), .bool]) := qnq_ n digits t26 t4 t4_2
def qng_ (n digits t4 t4_2 : Int) : Option (As [.pr (.int .i64) (.int .u8), .bool]) := qnk_ (qnd_) n digits t4 t4_2
def qns_ (u1 : Int -> Int -> Int -> Int -> Option (As [.pr (.int .i64) (.int .u8), .bool])) (n digits : Int) (t12 : Bool) (t4 t4_2 : Int) : Option (As [.pr (.int .i64) (.int .u8), .bool]) := qnz_ (qng_) u1 n digits t12 t4 t4_2
def qnt_ (n digits t4 t4_2 : Int) : Option (As [.pr (.int .i64) (.int .u8), .bool]) :=
  loopF (fun (self : (Int) × (Int) × (Int) × (Int) -> Option (As [.pr (.int .i64) (.int .u8), .bool])) (s : (Int) × (Int) × (Int) × (Int)) => qnv_ (qns_ (fun n digits t4 t4_2 => self (n, digits, t4, t4_2))) (fun n digits t4 t4_2 => self (n, digits, t4, t4_2)) s.1 s.2.1 s.2.2.1 s.2.2.2) 18446744073709551616 (n, digits, t4, t4_2)
def qoe_ (x : As [.int .i64, .int .i64]) : Option (As [.pr (.int .i64) (.int .u8), .bool]) := qnn_ qnt_ x.1 x.2.1
end Go.Proofs.Lx
end
