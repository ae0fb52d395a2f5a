/- Proved in the last of these 11 parts (this is part 6): the law RecipeBack of chapter 14 returns true at every recipe and every text. Conditions: those of the given statement, and no others. -/
import Derived.Test.YtnamnibaedolaaaGreatDoorParte
import Derived.Test.YtnamnibaedolaaaGreatDoorProg
set_option linter.unusedVariables false
set_option linter.unusedSimpArgs false
set_option linter.unusedSectionVars false
section
open Go Go.Proofs Ev Sx
set_option maxRecDepth 100000
namespace Go.Proofs.Lx
abbrev QAT3 : Type := (List UInt8 × (Int × Int) × List UInt8 × Int)
abbrev QAT0 : Type := (List UInt8 × Int × List QAT3)
abbrev QAT1 : Ty := (.pr (.int .u8) (.pr .str (.pr (.pr (.int .i64) (.int .u8)) (.int .i64))))
abbrev QAT5 : Ty := (.pr .str (.pr (.pr (.int .i64) (.int .u8)) (.pr .str (.int .i64))))
abbrev QAT2 : Ty := (.pr .str (.pr (.int .i64) (.sl QAT5)))
abbrev QAT4 : Type := (Int × List UInt8 × (Int × Int) × Int)
@[reducible] def qkh_ : Sh := ⟨[.d (.int .u8)], [], [.int .u8], [.d (.bool)], [], 0, [.bool]⟩
def qj0_ (c : Int) : Option (As [.bool]) :=
  if ge c 97 = true then if le c 122 = true then some (true, ()) else if ge c 65 = true then some (le c 90, ()) else some (false, ()) else if ge c 65 = true then some (le c 90, ()) else some (false, ())
def qcc_ (x : As [.int .u8]) : Option (As [.bool]) := qj0_ x.1
theorem qcv_ : CtOk Tryz.prog I0 101 ⟨qkh_, qcc_⟩ := ctn qa_ 6 fun J x => by kernel_rfl
@[reducible] def q9g_ : Sh := ⟨[.d (.int .u8)], [], [.int .u8], [.d (.bool)], [], 0, [.bool]⟩
def qdt_ (c : Int) : Option (As [.bool]) :=
  Option.bind (qcc_ (c, ())) fun (y : Bool × Unit) => if y.1 = true then some (true, ()) else some (eqi c 37, ())
def qj_ (x : As [.int .u8]) : Option (As [.bool]) := qdt_ x.1
theorem qb8_ : CtOk Tryz.prog I0 100 ⟨q9g_, qj_⟩ := ctn (q0_ qcv_ qa_) 6 fun J x => by kernel_rfl
@[reducible] def qlu_ : Sh := ⟨[.d (.int .u8)], [], [.int .u8], [.d (.bool)], [], 0, [.bool]⟩
def qku_ (c : Int) : Option (As [.bool]) :=
  if ge c 48 = true then some (le c 57, ()) else some (false, ())
def qbr_ (x : As [.int .u8]) : Option (As [.bool]) := qku_ x.1
theorem qbp_ : CtOk Tryz.prog I0 103 ⟨qlu_, qbr_⟩ := ctn qa_ 6 fun J x => by kernel_rfl
@[reducible] def q4f_ : Sh := ⟨[.d (.int .u8)], [], [.int .u8], [.d (.bool)], [], 0, [.bool]⟩
def qdm_ (c : Int) : Option (As [.bool]) :=
  Option.bind (qcc_ (c, ())) fun (y : Bool × Unit) => if y.1 = true then some (true, ()) else Option.bind (qbr_ (c, ())) fun (y : Bool × Unit) => if y.1 = true then some (true, ()) else if eqi c 95 = true then some (true, ()) else some (eqi c 37, ())
def q33_ (x : As [.int .u8]) : Option (As [.bool]) := qdm_ x.1
theorem q50_ : CtOk Tryz.prog I0 102 ⟨q4f_, q33_⟩ := ctn (q0_ qcv_ (q0_ qbp_ qa_)) 6 fun J x => by kernel_rfl
@[reducible] def qcf_ : Sh := ⟨[.pb 0 0], [.box 106 [.d (.int .u8), .d .str, .d (.int .i64), .d (.int .u8), .d (.int .i64)]], [.int .u8, .str, .int .i64, .int .u8, .int .i64], [.d (.int .i64)], [(0, .box 106 [.d (.int .u8), .d .str, .d (.int .i64), .d (.int .u8), .d (.int .i64)])], 0, [.int .i64, .int .u8, .str, .int .i64, .int .u8, .int .i64]⟩
def qe0_ (t : Int) (t_2 : List UInt8) (v v_2 v_3 : Int) : Option (As [.int .i64, .int .u8, .str, .int .i64, .int .u8, .int .i64]) :=
  if gt (Int.ofNat (List.length t_2)) 20 = true then some (133, t, t_2, v, v_2, v_3, ()) else some (0, t, t_2, v, v_2, v_3, ())
def qbi_ (x : As [.int .u8, .str, .int .i64, .int .u8, .int .i64]) : Option (As [.int .i64, .int .u8, .str, .int .i64, .int .u8, .int .i64]) := qe0_ x.1 x.2.1 x.2.2.1 x.2.2.2.1 x.2.2.2.2.1
theorem qdx_ : CtOk Tryz.prog I0 104 ⟨qcf_, qbi_⟩ := ctn qa_ 6 fun J x => by kernel_rfl
@[reducible] def q9i_ : Sh := ⟨[.d (.int .u8)], [], [.int .u8], [.d (.bool)], [], 0, [.bool]⟩
def qds_ (c : Int) : Option (As [.bool]) :=
  Option.bind (qbr_ (c, ())) fun (y : Bool × Unit) => if y.1 = true then some (true, ()) else some (eqi c 45, ())
def ql_ (x : As [.int .u8]) : Option (As [.bool]) := qds_ x.1
theorem qba_ : CtOk Tryz.prog I0 105 ⟨q9i_, ql_⟩ := ctn (q0_ qbp_ qa_) 6 fun J x => by kernel_rfl
@[reducible] def q4j_ : Sh := ⟨[.d (.int .u8)], [], [.int .u8], [.d (.bool)], [], 0, [.bool]⟩
def qdr_ (c : Int) : Option (As [.bool]) :=
  Option.bind (qbr_ (c, ())) fun (y : Bool × Unit) => if y.1 = true then some (true, ()) else if eqi c 46 = true then some (true, ()) else some (eqi c 45, ())
def q32_ (x : As [.int .u8]) : Option (As [.bool]) := qdr_ x.1
theorem q52_ : CtOk Tryz.prog I0 106 ⟨q4j_, q32_⟩ := ctn (q0_ qbp_ qa_) 6 fun J x => by kernel_rfl
@[reducible] def strings_makeASCIISet_s : Sh := ⟨[.d (.str)], [], [.str], [.d (.ar 256 .bool), .d (.bool)], [], 0, [.ar 256 .bool, .bool]⟩
def q1s_ : Env := (cts [])
def q1t_ : List (Nat × Hint) := [(3, ⟨[], [2]⟩), (26, ⟨[], [0, 2, 4]⟩)]
def q2t_ (chars : List UInt8) (i : Int) (as' : List Bool) : St := { fr := [(0, .d .str chars), (2, .pb 0 0), (4, .d (.int .i64) i)], nt := 21, up := [], own := [(0, .row .bool 197 as')], nx := 1, log := [], ln := 0 }
def q4c_ (as' : List Bool) : St := { fr := [(2, .pb 0 0)], nt := 21, up := [], own := [(0, .row .bool 197 as')], nx := 1, log := [], ln := 0 }
def strings_makeASCIISet_m1 (j2 : List Bool -> Option (As [.ar 256 .bool, .bool])) (self1 : List UInt8 -> Int -> List Bool -> Option (As [.ar 256 .bool, .bool])) (chars : List UInt8) (i : Int) (as' : List Bool) : Option (As [.ar 256 .bool, .bool]) :=
  if lt i (Int.ofNat (List.length chars)) = true then Option.bind (at? chars i) fun (c : UInt8) => if ge (Int.ofNat (UInt8.toNat c)) 128 = true then need (eqi (Int.ofNat (List.length as')) 256) (need (eqi (Int.ofNat (List.length as')) (Int.ofNat (List.length as'))) (need (eqi 256 (Int.ofNat (List.length as' * 1))) (need (eqi (Int.ofNat (List.length as')) 256) (need (eqi (Int.ofNat (List.length as')) 256) (some (as', false, ())))))) else need (lt (Int.ofNat (UInt8.toNat c)) 256) (Option.bind (at? as' (Int.ofNat (UInt8.toNat c))) fun (x : Bool) => Option.bind (at? as' (Int.ofNat (UInt8.toNat c))) fun (x : Bool) => self1 chars (add .i64 i 1) (List.set as' (Int.toNat (Int.ofNat (UInt8.toNat c))) true)) else j2 as'
def strings_makeASCIISet_m2 (as' : List Bool) : Option (As [.ar 256 .bool, .bool]) :=
  need (eqi (Int.ofNat (List.length as')) 256) (need (eqi (Int.ofNat (List.length as')) (Int.ofNat (List.length as'))) (need (eqi 256 (Int.ofNat (List.length as' * 1))) (need (eqi (Int.ofNat (List.length as')) 256) (need (eqi (Int.ofNat (List.length as')) 256) (some (as', true, ()))))))
def strings_makeASCIISet_m0 (j1 : List UInt8 -> Int -> List Bool -> Option (As [.ar 256 .bool, .bool])) (chars : List UInt8) : Option (As [.ar 256 .bool, .bool]) :=
  j1 chars 0 (List.replicate 256 false)
def q5u_ (as' : List Bool) : Option (As [.ar 256 .bool, .bool]) := strings_makeASCIISet_m2 as'
def q5v_ (chars : List UInt8) (i : Int) (as' : List Bool) : Option (As [.ar 256 .bool, .bool]) :=
  loopF (fun (self : (List UInt8) × (Int) × (List Bool) -> Option (As [.ar 256 .bool, .bool])) (s : (List UInt8) × (Int) × (List Bool)) => strings_makeASCIISet_m1 (q5u_) (fun chars i as' => self (chars, i, as')) s.1 s.2.1 s.2.2) 18446744073709551616 (chars, i, as')
def q2x_ (x : As [.str]) : Option (As [.ar 256 .bool, .bool]) := strings_makeASCIISet_m0 q5v_ x.1
theorem strings_makeASCIISet_c2  (J as') : pfn Tryz.prog q1s_ 6 18446744073709551616 (Ev.get q1t_) 134 strings_makeASCIISet_s J 3 [] (q4c_ as') = strings_makeASCIISet_m2 as' := by kernel_rfl
theorem strings_makeASCIISet_c1  (J w1 chars i as') : pfn Tryz.prog q1s_ 6 18446744073709551616 (Ev.get q1t_) 134 strings_makeASCIISet_s J 26 [w1] (q2t_ chars i as') = strings_makeASCIISet_m1 (fun as' => J 3 [] (q4c_ as')) (fun chars i as' => w1 (q2t_ chars i as')) chars i as' := by kernel_rfl
theorem strings_makeASCIISet_c0 (J : Orc (As [.ar 256 .bool, .bool])) (x : As [.str]) : rfn Tryz.prog q1s_ 6 18446744073709551616 (Ev.get q1t_) 134 strings_makeASCIISet_s J x = strings_makeASCIISet_m0 (fun chars i as' => J 26 [] (q2t_ chars i as')) x.1 := by kernel_rfl
theorem strings_makeASCIISet_g2  (as') : jfn Tryz.prog q1s_ 6 18446744073709551616 (Ev.get q1t_) 134 strings_makeASCIISet_s 3 [] (q4c_ as') = q5u_ as' := by
  rw [q5_ (by decide)]
  rw [strings_makeASCIISet_c2]
  rfl
theorem strings_makeASCIISet_g1  (chars i as') : jfn Tryz.prog q1s_ 6 18446744073709551616 (Ev.get q1t_) 134 strings_makeASCIISet_s 26 [] (q2t_ chars i as') = q5v_ chars i as' := by
  rw [q5_ (by decide)]
  rw [q16_ (by kernel_rfl)]
  refine qp_ (σ := (List UInt8) × (Int) × (List Bool)) (mk := fun s => q2t_ s.1 s.2.1 s.2.2) (fun w1 s => ?_) 18446744073709551616 (chars, i, as')
  have e2 : (fun as' => (jfn Tryz.prog q1s_ 6 18446744073709551616 (Ev.get q1t_) 134 strings_makeASCIISet_s) 3 [] (q4c_ as')) = q5u_ := funext fun as' => strings_makeASCIISet_g2 as'
  refine (strings_makeASCIISet_c1 _ w1 s.1 s.2.1 s.2.2).trans ?_
  rw [e2]
theorem strings_makeASCIISet_t (x : As [.str]) : evT Tryz.prog q1s_ 6 18446744073709551616 (Ev.get q1t_) 134 strings_makeASCIISet_s x = q2x_ x := by
  have e1 : (fun chars i as' => (jfn Tryz.prog q1s_ 6 18446744073709551616 (Ev.get q1t_) 134 strings_makeASCIISet_s) 26 [] (q2t_ chars i as')) = q5v_ := by funext chars i as'; exact strings_makeASCIISet_g1 chars i as'
  rw [rfn_eq, strings_makeASCIISet_c0, e1]
  rfl
theorem strings_makeASCIISet_ok : CtOk Tryz.prog I0 134 ⟨strings_makeASCIISet_s, q2x_⟩ := q18_ qa_ strings_makeASCIISet_t
@[reducible] def istringslite_HasPrefix_s : Sh := ⟨[.d (.str), .d (.str)], [], [.str, .str], [.d (.bool)], [], 0, [.bool]⟩
def istringslite_HasPrefix_m0 (s prefixV : List UInt8) : Option (As [.bool]) :=
  if ge (Int.ofNat (List.length s)) (Int.ofNat (List.length prefixV)) = true then Option.bind (cut s 0 (Int.ofNat (List.length prefixV))) fun (y : List UInt8) => some (eqs y prefixV, ()) else some (false, ())
def q3r_ (x : As [.str, .str]) : Option (As [.bool]) := istringslite_HasPrefix_m0 x.1 x.2.1
theorem q82_ : CtOk Tryz.prog I0 87 ⟨istringslite_HasPrefix_s, q3r_⟩ := ctn qa_ 6 fun J x => by kernel_rfl
@[reducible] def istringslite_CutPrefix_s : Sh := ⟨[.d (.str), .d (.str)], [], [.str, .str], [.d (.str), .d (.bool)], [], 0, [.str, .bool]⟩
def istringslite_CutPrefix_m0 (s prefixV : List UInt8) : Option (As [.str, .bool]) :=
  Option.bind (q3r_ (s, prefixV, ())) fun (y : Bool × Unit) => if (!y.1) = true then some (s, false, ()) else Option.bind (cut s (Int.ofNat (List.length prefixV)) (Int.ofNat (List.length s))) fun (y : List UInt8) => some (y, true, ())
def q4n_ (x : As [.str, .str]) : Option (As [.str, .bool]) := istringslite_CutPrefix_m0 x.1 x.2.1
theorem istringslite_CutPrefix_ok : CtOk Tryz.prog I0 176 ⟨istringslite_CutPrefix_s, q4n_⟩ := ctn (q0_ q82_ qa_) 6 fun J x => by kernel_rfl
@[reducible] def strings_CutPrefix_s : Sh := ⟨[.d (.str), .d (.str)], [], [.str, .str], [.d (.str), .d (.bool)], [], 0, [.str, .bool]⟩
def strings_CutPrefix_m0 (s prefixV : List UInt8) : Option (As [.str, .bool]) :=
  Option.bind (q4n_ (s, prefixV, ())) fun (y : List UInt8 × Bool × Unit) => some (y.1, y.2.1, ())
def q6g_ (x : As [.str, .str]) : Option (As [.str, .bool]) := strings_CutPrefix_m0 x.1 x.2.1
theorem strings_CutPrefix_ok : CtOk Tryz.prog I0 154 ⟨strings_CutPrefix_s, q6g_⟩ := ctn (q0_ istringslite_CutPrefix_ok qa_) 6 fun J x => by kernel_rfl
@[reducible] def q12_ : Sh := ⟨[.d (.str)], [], [.str], [.d (.bool)], [], 0, [.bool]⟩
def q1k_ : Env := (cts [])
def q1l_ : List (Nat × Hint) := [(3, ⟨[], [0]⟩), (26, ⟨[], [0, 5, 6, 14, 15, 16, 17]⟩), (1689, ⟨[.agd 14 .str, .agd 15 (.int .i64), .agd 16 (.int .u8), .agd 17 .bool], [0, 5, 6, 18]⟩)]
def q2c_ (s : List UInt8) (t5 t6 : Int) : St := { fr := [(0, .d .str s), (5, .d (.int .i64) t5), (6, .d (.int .i64) t6)], nt := 22, up := [], own := [], nx := 0, log := [], ln := 0 }
def q69_ (s : List UInt8) (t5 t6 : Int) (t18 : Bool) : St := { fr := [(0, .d .str s), (5, .d (.int .i64) t5), (6, .d (.int .i64) t6), (18, .d .bool t18)], nt := 22, up := [], own := [], nx := 0, log := [], ln := 0 }
def q68_ (s : List UInt8) : St := { fr := [(0, .d .str s)], nt := 22, up := [], own := [], nx := 0, log := [], ln := 0 }
def q60_ (j2 : List UInt8 -> Int -> Int -> Bool -> Option (As [.bool])) (j3 : List UInt8 -> Option (As [.bool])) (self1 : List UInt8 -> Int -> Int -> Option (As [.bool])) (s : List UInt8) (t5 t6 : Int) : Option (As [.bool]) :=
  if lt t6 t5 = true then Option.bind (at? s t6) fun (c : UInt8) => if lt (Int.ofNat (UInt8.toNat c)) 48 = true then j2 s t5 t6 true else Option.bind (at? s t6) fun (c : UInt8) => j2 s t5 t6 (gt (Int.ofNat (UInt8.toNat c)) 57) else j3 s
def q6a_ (self1 : List UInt8 -> Int -> Int -> Option (As [.bool])) (s : List UInt8) (t5 t6 : Int) (t18 : Bool) : Option (As [.bool]) :=
  if t18 = true then some (false, ()) else self1 s t5 (add .i64 t6 1)
def q88_ (s : List UInt8) : Option (As [.bool]) :=
  some (nes s [], ())
def qau_ (j1 : List UInt8 -> Int -> Int -> Option (As [.bool])) (s : List UInt8) : Option (As [.bool]) :=
  j1 s (Int.ofNat (List.length s)) 0
def q2p_ (u1 : List UInt8 -> Int -> Int -> Option (As [.bool])) (s : List UInt8) (t5 t6 : Int) (t18 : Bool) : Option (As [.bool]) := q6a_ u1 s t5 t6 t18
def q4o_ (s : List UInt8) : Option (As [.bool]) := q88_ s
def q87_ (s : List UInt8) (t5 t6 : Int) : Option (As [.bool]) :=
  loopF (fun (self : (List UInt8) × (Int) × (Int) -> Option (As [.bool])) (s : (List UInt8) × (Int) × (Int)) => q60_ (q2p_ (fun s t5 t6 => self (s, t5, t6))) (q4o_) (fun s t5 t6 => self (s, t5, t6)) s.1 s.2.1 s.2.2) 18446744073709551616 (s, t5, t6)
def q20_ (x : As [.str]) : Option (As [.bool]) := qau_ q87_ x.1
theorem qde_  (J w1 s t5 t6 t18) : pfn Tryz.prog q1k_ 6 18446744073709551616 (Ev.get q1l_) 155 q12_ J 1689 [w1] (q69_ s t5 t6 t18) = q6a_ (fun s t5 t6 => w1 (q2c_ s t5 t6)) s t5 t6 t18 := by kernel_rfl
theorem qd8_  (J s) : pfn Tryz.prog q1k_ 6 18446744073709551616 (Ev.get q1l_) 155 q12_ J 3 [] (q68_ s) = q88_ s := by kernel_rfl
theorem qdb_  (J w1 s t5 t6) : pfn Tryz.prog q1k_ 6 18446744073709551616 (Ev.get q1l_) 155 q12_ J 26 [w1] (q2c_ s t5 t6) = q60_ (fun s t5 t6 t18 => J 1689 [w1] (q69_ s t5 t6 t18)) (fun s => J 3 [] (q68_ s)) (fun s t5 t6 => w1 (q2c_ s t5 t6)) s t5 t6 := by kernel_rfl
theorem qda_ (J : Orc (As [.bool])) (x : As [.str]) : rfn Tryz.prog q1k_ 6 18446744073709551616 (Ev.get q1l_) 155 q12_ J x = qau_ (fun s t5 t6 => J 26 [] (q2c_ s t5 t6)) x.1 := by kernel_rfl
theorem qdc_  (w1 s t5 t6 t18) : jfn Tryz.prog q1k_ 6 18446744073709551616 (Ev.get q1l_) 155 q12_ 1689 [w1] (q69_ s t5 t6 t18) = q2p_ (fun s t5 t6 => w1 (q2c_ s t5 t6)) s t5 t6 t18 := by
  rw [q5_ (by decide)]
  rw [qde_]
  rfl
theorem qdg_  (s) : jfn Tryz.prog q1k_ 6 18446744073709551616 (Ev.get q1l_) 155 q12_ 3 [] (q68_ s) = q4o_ s := by
  rw [q5_ (by decide)]
  rw [qd8_]
  rfl
theorem qdf_  (s t5 t6) : jfn Tryz.prog q1k_ 6 18446744073709551616 (Ev.get q1l_) 155 q12_ 26 [] (q2c_ s t5 t6) = q87_ s t5 t6 := by
  rw [q5_ (by decide)]
  rw [q16_ (by kernel_rfl)]
  refine qp_ (σ := (List UInt8) × (Int) × (Int)) (mk := fun s => q2c_ s.1 s.2.1 s.2.2) (fun w1 s => ?_) 18446744073709551616 (s, t5, t6)
  have e2 : (fun s t5 t6 t18 => (jfn Tryz.prog q1k_ 6 18446744073709551616 (Ev.get q1l_) 155 q12_) 1689 [w1] (q69_ s t5 t6 t18)) = q2p_ (fun s t5 t6 => w1 (q2c_ s t5 t6)) := by funext s t5 t6 t18; exact qdc_ w1 s t5 t6 t18
  have e3 : (fun s => (jfn Tryz.prog q1k_ 6 18446744073709551616 (Ev.get q1l_) 155 q12_) 3 [] (q68_ s)) = q4o_ := funext fun s => qdg_ s
  refine (qdb_ _ w1 s.1 s.2.1 s.2.2).trans ?_
  rw [e2, e3]
theorem qdl_ (x : As [.str]) : evT Tryz.prog q1k_ 6 18446744073709551616 (Ev.get q1l_) 155 q12_ x = q20_ x := by
  have e1 : (fun s t5 t6 => (jfn Tryz.prog q1k_ 6 18446744073709551616 (Ev.get q1l_) 155 q12_) 26 [] (q2c_ s t5 t6)) = q87_ := by funext s t5 t6; exact qdf_ s t5 t6
  rw [rfn_eq, qda_, e1]
  rfl
theorem qdi_ : CtOk Tryz.prog I0 155 ⟨q12_, q20_⟩ := q18_ qa_ qdl_
@[reducible] def strings_trimRightByte_s : Sh := ⟨[.d (.str), .d (.int .u8)], [], [.str, .int .u8], [.d (.str)], [], 0, [.str]⟩
def q1i_ : Env := (cts [])
def q1j_ : List (Nat × Hint) := [(12, ⟨[], [0, 1, 9, 10, 11, 12, 13, 14, 15]⟩), (48, ⟨[.agd 9 .str, .agd 10 .str, .agd 11 (.int .i64), .agd 12 (.int .i64), .agd 13 (.int .u8), .agd 14 (.int .u8), .agd 15 .bool], [0, 1, 16]⟩)]
def q11_ (s : List UInt8) (c : Int) : St := { fr := [(0, .d .str s), (1, .d (.int .u8) c)], nt := 23, up := [], own := [], nx := 0, log := [], ln := 0 }
def q46_ (s : List UInt8) (c : Int) (t16 : Bool) : St := { fr := [(0, .d .str s), (1, .d (.int .u8) c), (16, .d .bool t16)], nt := 23, up := [], own := [], nx := 0, log := [], ln := 0 }
def q47_ (j2 : List UInt8 -> Int -> Bool -> Option (As [.str])) (self1 : List UInt8 -> Int -> Option (As [.str])) (s : List UInt8) (c : Int) : Option (As [.str]) :=
  if gt (Int.ofNat (List.length s)) 0 = true then Option.bind (at? s (Sx.sub .i64 (Int.ofNat (List.length s)) 1)) fun (c_1 : UInt8) => j2 s c (eqi (Int.ofNat (UInt8.toNat c_1)) c) else j2 s c false
def q5k_ (self1 : List UInt8 -> Int -> Option (As [.str])) (s : List UInt8) (c : Int) (t16 : Bool) : Option (As [.str]) :=
  if t16 = true then Option.bind (cut s 0 (Sx.sub .i64 (Int.ofNat (List.length s)) 1)) fun (y : List UInt8) => self1 y c else some (s, ())
def strings_trimRightByte_m0 (j1 : List UInt8 -> Int -> Option (As [.str])) (s : List UInt8) (c : Int) : Option (As [.str]) :=
  j1 s c
def q3f_ (u1 : List UInt8 -> Int -> Option (As [.str])) (s : List UInt8) (c : Int) (t16 : Bool) : Option (As [.str]) := q5k_ u1 s c t16
def q5l_ (s : List UInt8) (c : Int) : Option (As [.str]) :=
  loopF (fun (self : (List UInt8) × (Int) -> Option (As [.str])) (s : (List UInt8) × (Int)) => q47_ (q3f_ (fun s c => self (s, c))) (fun s c => self (s, c)) s.1 s.2) 18446744073709551616 (s, c)
def q3z_ (x : As [.str, .int .u8]) : Option (As [.str]) := strings_trimRightByte_m0 q5l_ x.1 x.2.1
theorem strings_trimRightByte_c2  (J w1 s c t16) : pfn Tryz.prog q1i_ 6 18446744073709551616 (Ev.get q1j_) 177 strings_trimRightByte_s J 48 [w1] (q46_ s c t16) = q5k_ (fun s c => w1 (q11_ s c)) s c t16 := by kernel_rfl
theorem strings_trimRightByte_c1  (J w1 s c) : pfn Tryz.prog q1i_ 6 18446744073709551616 (Ev.get q1j_) 177 strings_trimRightByte_s J 12 [w1] (q11_ s c) = q47_ (fun s c t16 => J 48 [w1] (q46_ s c t16)) (fun s c => w1 (q11_ s c)) s c := by kernel_rfl
theorem strings_trimRightByte_c0 (J : Orc (As [.str])) (x : As [.str, .int .u8]) : rfn Tryz.prog q1i_ 6 18446744073709551616 (Ev.get q1j_) 177 strings_trimRightByte_s J x = strings_trimRightByte_m0 (fun s c => J 12 [] (q11_ s c)) x.1 x.2.1 := by kernel_rfl
theorem strings_trimRightByte_g2  (w1 s c t16) : jfn Tryz.prog q1i_ 6 18446744073709551616 (Ev.get q1j_) 177 strings_trimRightByte_s 48 [w1] (q46_ s c t16) = q3f_ (fun s c => w1 (q11_ s c)) s c t16 := by
  rw [q5_ (by decide)]
  rw [strings_trimRightByte_c2]
  rfl
theorem strings_trimRightByte_g1  (s c) : jfn Tryz.prog q1i_ 6 18446744073709551616 (Ev.get q1j_) 177 strings_trimRightByte_s 12 [] (q11_ s c) = q5l_ s c := by
  rw [q5_ (by decide)]
  rw [q16_ (by kernel_rfl)]
  refine qp_ (σ := (List UInt8) × (Int)) (mk := fun s => q11_ s.1 s.2) (fun w1 s => ?_) 18446744073709551616 (s, c)
  have e2 : (fun s c t16 => (jfn Tryz.prog q1i_ 6 18446744073709551616 (Ev.get q1j_) 177 strings_trimRightByte_s) 48 [w1] (q46_ s c t16)) = q3f_ (fun s c => w1 (q11_ s c)) := by funext s c t16; exact strings_trimRightByte_g2 w1 s c t16
  refine (strings_trimRightByte_c1 _ w1 s.1 s.2).trans ?_
  rw [e2]
theorem strings_trimRightByte_t (x : As [.str, .int .u8]) : evT Tryz.prog q1i_ 6 18446744073709551616 (Ev.get q1j_) 177 strings_trimRightByte_s x = q3z_ x := by
  have e1 : (fun s c => (jfn Tryz.prog q1i_ 6 18446744073709551616 (Ev.get q1j_) 177 strings_trimRightByte_s) 12 [] (q11_ s c)) = q5l_ := by funext s c; exact strings_trimRightByte_g1 s c
  rw [rfn_eq, strings_trimRightByte_c0, e1]
  rfl
theorem strings_trimRightByte_ok : CtOk Tryz.prog I0 177 ⟨strings_trimRightByte_s, q3z_⟩ := q18_ qa_ strings_trimRightByte_t
@[reducible] def qi_ : Sh := ⟨[.d (.str)], [], [.str], [.d (.pr (.int .i64) (.int .u8)), .d (.bool)], [], 0, [.pr (.int .i64) (.int .u8), .bool]⟩
def qn_ : Env := (cts [(134, (⟨strings_makeASCIISet_s, q2x_⟩ : Ct)), (154, (⟨strings_CutPrefix_s, q6g_⟩ : Ct)), (155, (⟨q12_, q20_⟩ : Ct)), (177, (⟨strings_trimRightByte_s, q3z_⟩ : Ct))])
def qo_ : List (Nat × Hint) := [(255, ⟨[], [2, 5, 7, 9]⟩), (511, ⟨[], [2, 7, 9]⟩), (2042, ⟨[], [2, 5, 7, 9, 54, 55]⟩), (522854, ⟨[], [2, 5, 7, 9, 11, 54, 55, 59, 60]⟩), (62, ⟨[], [2, 5, 6, 7, 48]⟩), (30, ⟨[], [2, 5, 6, 7, 8, 36, 40, 41, 42, 43, 44, 45, 46, 47]⟩)]
def q8i_ (negative : Bool) (whole rest : List UInt8) (point t36 : Bool) (t2 t2_2 : Int) : St := { fr := [(2, .pb 0 0), (5, .d .bool negative), (6, .d .str whole), (7, .d .str rest), (8, .d .bool point), (36, .d .bool t36)], nt := 84, up := [], own := [(0, .box 45 [.d (.int .i64) t2, .d (.int .u8) t2_2])], nx := 1, log := [], ln := 0 }
def q8f_ (negative : Bool) (whole rest : List UInt8) (t48 : Bool) (t2 t2_2 : Int) : St := { fr := [(2, .pb 0 0), (5, .d .bool negative), (6, .d .str whole), (7, .d .str rest), (48, .d .bool t48)], nt := 84, up := [], own := [(0, .box 45 [.d (.int .i64) t2, .d (.int .u8) t2_2])], nx := 1, log := [], ln := 0 }
def q3g_ (negative : Bool) (rest : List UInt8) (n : Int) (t54 t54_2 : List UInt8) (t55 t2 t2_2 : Int) : St := { fr := [(2, .pb 0 0), (5, .d .bool negative), (7, .d .str rest), (9, .d (.int .i64) n), (54, .agg [.d .str t54, .d .str t54_2]), (55, .d (.int .i64) t55)], nt := 84, up := [], own := [(0, .box 45 [.d (.int .i64) t2, .d (.int .u8) t2_2])], nx := 1, log := [], ln := 0 }
def q5d_ (negative : Bool) (rest : List UInt8) (n : Int) (part t54 t54_2 : List UInt8) (t55 t59 t60 t2 t2_2 : Int) : St := { fr := [(2, .pb 0 0), (5, .d .bool negative), (7, .d .str rest), (9, .d (.int .i64) n), (11, .d .str part), (54, .agg [.d .str t54, .d .str t54_2]), (55, .d (.int .i64) t55), (59, .d (.int .i64) t59), (60, .d (.int .i64) t60)], nt := 84, up := [], own := [(0, .box 45 [.d (.int .i64) t2, .d (.int .u8) t2_2])], nx := 1, log := [], ln := 0 }
def q8n_ (negative : Bool) (rest : List UInt8) (n t2 t2_2 : Int) : St := { fr := [(2, .pb 0 0), (5, .d .bool negative), (7, .d .str rest), (9, .d (.int .i64) n)], nt := 84, up := [], own := [(0, .box 45 [.d (.int .i64) t2, .d (.int .u8) t2_2])], nx := 1, log := [], ln := 0 }
def q8j_ (rest : List UInt8) (n t2 t2_2 : Int) : St := { fr := [(2, .pb 0 0), (7, .d .str rest), (9, .d (.int .i64) n)], nt := 84, up := [], own := [(0, .box 45 [.d (.int .i64) t2, .d (.int .u8) t2_2])], nx := 1, log := [], ln := 0 }
def qal_ (j2 : Bool -> List UInt8 -> List UInt8 -> Bool -> Int -> Int -> Option (As [.pr (.int .i64) (.int .u8), .bool])) (negative : Bool) (whole rest : List UInt8) (point t36 : Bool) (t2 t2_2 : Int) : Option (As [.pr (.int .i64) (.int .u8), .bool]) :=
  if t36 = true then some ((0, 0), false, ()) else if point = true then Option.bind (q20_ (rest, ())) fun (y : Bool × Unit) => if (!y.1) = true then j2 negative whole rest true t2 t2_2 else j2 negative whole rest (gt (Int.ofNat (List.length rest)) 6) t2 t2_2 else j2 negative whole rest false t2 t2_2
def qaf_ (j3 : Bool -> List UInt8 -> Int -> List UInt8 -> List UInt8 -> Int -> Int -> Int -> Option (As [.pr (.int .i64) (.int .u8), .bool])) (negative : Bool) (whole rest : List UInt8) (t48 : Bool) (t2 t2_2 : Int) : Option (As [.pr (.int .i64) (.int .u8), .bool]) :=
  if t48 = true then some ((0, 0), false, ()) else if eqs rest [] = true then j3 negative rest 0 whole rest 0 t2 t2_2 else Option.bind (q3z_ (rest, 48, ())) fun (y : List UInt8 × Unit) => j3 negative y.1 0 whole y.1 0 t2 t2_2
def q70_ (j4 : Bool -> List UInt8 -> Int -> List UInt8 -> List UInt8 -> List UInt8 -> Int -> Int -> Int -> Int -> Int -> Option (As [.pr (.int .i64) (.int .u8), .bool])) (j5 : Bool -> List UInt8 -> Int -> Int -> Int -> Option (As [.pr (.int .i64) (.int .u8), .bool])) (self3 : Bool -> List UInt8 -> Int -> List UInt8 -> List UInt8 -> Int -> Int -> Int -> Option (As [.pr (.int .i64) (.int .u8), .bool])) (negative : Bool) (rest : List UInt8) (n : Int) (t54 t54_2 : List UInt8) (t55 t2 t2_2 : Int) : Option (As [.pr (.int .i64) (.int .u8), .bool]) :=
  if lt t55 2 = true then if eqi t55 1 = true then j4 negative rest n t54_2 t54 t54_2 t55 (Int.ofNat (List.length t54_2)) 0 t2 t2_2 else if eqi t55 0 = true then j4 negative rest n t54 t54 t54_2 t55 (Int.ofNat (List.length t54)) 0 t2 t2_2 else Option.none else j5 negative rest n t2 t2_2
def q8u_ (self3 : Bool -> List UInt8 -> Int -> List UInt8 -> List UInt8 -> Int -> Int -> Int -> Option (As [.pr (.int .i64) (.int .u8), .bool])) (self4 : Bool -> List UInt8 -> Int -> List UInt8 -> List UInt8 -> List UInt8 -> Int -> Int -> Int -> Int -> Int -> Option (As [.pr (.int .i64) (.int .u8), .bool])) (negative : Bool) (rest : List UInt8) (n : Int) (part t54 t54_2 : List UInt8) (t55 t59 t60 t2 t2_2 : Int) : Option (As [.pr (.int .i64) (.int .u8), .bool]) :=
  if lt t60 t59 = true then Option.bind (at? part t60) fun (c : UInt8) => if gt (add .i64 (mul .i64 10 n) (cvt .i64 (Sx.sub .u8 (Int.ofNat (UInt8.toNat c)) 48))) 1000000000000 = true then some ((0, 0), false, ()) else self4 negative rest (add .i64 (mul .i64 10 n) (cvt .i64 (Sx.sub .u8 (Int.ofNat (UInt8.toNat c)) 48))) part t54 t54_2 t55 t59 (add .i64 t60 1) t2 t2_2 else self3 negative rest n t54 t54_2 (add .i64 t55 1) t2 t2_2
def qai_ (j6 : List UInt8 -> Int -> Int -> Int -> Option (As [.pr (.int .i64) (.int .u8), .bool])) (negative : Bool) (rest : List UInt8) (n t2 t2_2 : Int) : Option (As [.pr (.int .i64) (.int .u8), .bool]) :=
  if negative = true then j6 rest (Sx.neg .i64 n) t2 t2_2 else j6 rest n t2 t2_2
def qab_ (rest : List UInt8) (n t2 t2_2 : Int) : Option (As [.pr (.int .i64) (.int .u8), .bool]) :=
  some ((n, cvt .u8 (Int.ofNat (List.length rest))), true, ())
def q8d_ (j1 : Bool -> List UInt8 -> List UInt8 -> Bool -> Bool -> Int -> Int -> Option (As [.pr (.int .i64) (.int .u8), .bool])) (s : List UInt8) : Option (As [.pr (.int .i64) (.int .u8), .bool]) :=
  Option.bind (q6g_ (s, [45], ())) fun (y : List UInt8 × Bool × Unit) => if eqs [46] y.1 = true then Option.bind (cut y.1 1 (Int.ofNat (List.length y.1))) fun (y_1 : List UInt8) => Option.bind (q20_ ([], ())) fun (y_2 : Bool × Unit) => if (!y_2.1) = true then j1 y.2.1 [] y_1 true true 0 0 else j1 y.2.1 [] y_1 true false 0 0 else if ge (Go.Lib.indexByte y.1 46) 0 = true then Option.bind (cut y.1 0 (Go.Lib.indexByte y.1 46)) fun (y_1 : List UInt8) => Option.bind (cut y.1 (add .i64 (Go.Lib.indexByte y.1 46) 1) (Int.ofNat (List.length y.1))) fun (y_2 : List UInt8) => Option.bind (q20_ (y_1, ())) fun (y_3 : Bool × Unit) => if (!y_3.1) = true then j1 y.2.1 y_1 y_2 true true 0 0 else if gt (Int.ofNat (List.length y_1)) 1 = true then Option.bind (at? y_1 0) fun (c : UInt8) => j1 y.2.1 y_1 y_2 true (eqi (Int.ofNat (UInt8.toNat c)) 48) 0 0 else j1 y.2.1 y_1 y_2 true false 0 0 else Option.bind (q20_ (y.1, ())) fun (y_1 : Bool × Unit) => if (!y_1.1) = true then j1 y.2.1 y.1 [] false true 0 0 else if gt (Int.ofNat (List.length y.1)) 1 = true then Option.bind (at? y.1 0) fun (c : UInt8) => j1 y.2.1 y.1 [] false (eqi (Int.ofNat (UInt8.toNat c)) 48) 0 0 else j1 y.2.1 y.1 [] false false 0 0
def q3i_ (u3 : Bool -> List UInt8 -> Int -> List UInt8 -> List UInt8 -> Int -> Int -> Int -> Option (As [.pr (.int .i64) (.int .u8), .bool])) (negative : Bool) (rest : List UInt8) (n : Int) (part t54 t54_2 : List UInt8) (t55 t59 t60 t2 t2_2 : Int) : Option (As [.pr (.int .i64) (.int .u8), .bool]) :=
  loopF (fun (self : (Bool) × (List UInt8) × (Int) × (List UInt8) × (List UInt8) × (List UInt8) × (Int) × (Int) × (Int) × (Int) × (Int) -> Option (As [.pr (.int .i64) (.int .u8), .bool])) (s : (Bool) × (List UInt8) × (Int) × (List UInt8) × (List UInt8) × (List UInt8) × (Int) × (Int) × (Int) × (Int) × (Int)) => q8u_ u3 (fun negative rest n part t54 t54_2 t55 t59 t60 t2 t2_2 => self (negative, rest, n, part, t54, t54_2, t55, t59, t60, t2, t2_2)) s.1 s.2.1 s.2.2.1 s.2.2.2.1 s.2.2.2.2.1 s.2.2.2.2.2.1 s.2.2.2.2.2.2.1 s.2.2.2.2.2.2.2.1 s.2.2.2.2.2.2.2.2.1 s.2.2.2.2.2.2.2.2.2.1 s.2.2.2.2.2.2.2.2.2.2) 18446744073709551616 (negative, rest, n, part, t54, t54_2, t55, t59, t60, t2, t2_2)
def q8q_ (rest : List UInt8) (n t2 t2_2 : Int) : Option (As [.pr (.int .i64) (.int .u8), .bool]) := qab_ rest n t2 t2_2
def q3v_ (negative : Bool) (rest : List UInt8) (n t2 t2_2 : Int) : Option (As [.pr (.int .i64) (.int .u8), .bool]) := qai_ (q8q_) negative rest n t2 t2_2
def q6t_ (negative : Bool) (rest : List UInt8) (n : Int) (t54 t54_2 : List UInt8) (t55 t2 t2_2 : Int) : Option (As [.pr (.int .i64) (.int .u8), .bool]) :=
  loopF (fun (self : (Bool) × (List UInt8) × (Int) × (List UInt8) × (List UInt8) × (Int) × (Int) × (Int) -> Option (As [.pr (.int .i64) (.int .u8), .bool])) (s : (Bool) × (List UInt8) × (Int) × (List UInt8) × (List UInt8) × (Int) × (Int) × (Int)) => q70_ (q3i_ (fun negative rest n t54 t54_2 t55 t2 t2_2 => self (negative, rest, n, t54, t54_2, t55, t2, t2_2))) (q3v_) (fun negative rest n t54 t54_2 t55 t2 t2_2 => self (negative, rest, n, t54, t54_2, t55, t2, t2_2)) s.1 s.2.1 s.2.2.1 s.2.2.2.1 s.2.2.2.2.1 s.2.2.2.2.2.1 s.2.2.2.2.2.2.1 s.2.2.2.2.2.2.2) 18446744073709551616 (negative, rest, n, t54, t54_2, t55, t2, t2_2)
def q6q_ (negative : Bool) (whole rest : List UInt8) (t48 : Bool) (t2 t2_2 : Int) : Option (As [.pr (.int .i64) (.int .u8), .bool]) := qaf_ (q6t_) negative whole rest t48 t2 t2_2
def qr_ (negative : Bool) (whole rest : List UInt8) (point t36 : Bool) (t2 t2_2 : Int) : Option (As [.pr (.int .i64) (.int .u8), .bool]) := qal_ (q6q_) negative whole rest point t36 t2 t2_2
def qan_ (x : As [.str]) : Option (As [.pr (.int .i64) (.int .u8), .bool]) := q8d_ qr_ x.1
theorem qft_  (J w3 w4 negative rest n part t54 t54_2 t55 t59 t60 t2 t2_2) : pfn Tryz.prog qn_ 6 18446744073709551616 (Ev.get qo_) 132 qi_ J 522854 [w3, w4] (q5d_ negative rest n part t54 t54_2 t55 t59 t60 t2 t2_2) = q8u_ (fun negative rest n t54 t54_2 t55 t2 t2_2 => w3 (q3g_ negative rest n t54 t54_2 t55 t2 t2_2)) (fun negative rest n part t54 t54_2 t55 t59 t60 t2 t2_2 => w4 (q5d_ negative rest n part t54 t54_2 t55 t59 t60 t2 t2_2)) negative rest n part t54 t54_2 t55 t59 t60 t2 t2_2 := by kernel_rfl
theorem qhq_  (J rest n t2 t2_2) : pfn Tryz.prog qn_ 6 18446744073709551616 (Ev.get qo_) 132 qi_ J 511 [] (q8j_ rest n t2 t2_2) = qab_ rest n t2 t2_2 := by kernel_rfl
theorem qhu_  (J negative rest n t2 t2_2) : pfn Tryz.prog qn_ 6 18446744073709551616 (Ev.get qo_) 132 qi_ J 255 [] (q8n_ negative rest n t2 t2_2) = qai_ (fun rest n t2 t2_2 => J 511 [] (q8j_ rest n t2 t2_2)) negative rest n t2 t2_2 := by kernel_rfl
theorem qfy_  (J w3 negative rest n t54 t54_2 t55 t2 t2_2) : pfn Tryz.prog qn_ 6 18446744073709551616 (Ev.get qo_) 132 qi_ J 2042 [w3] (q3g_ negative rest n t54 t54_2 t55 t2 t2_2) = q70_ (fun negative rest n part t54 t54_2 t55 t59 t60 t2 t2_2 => J 522854 [w3] (q5d_ negative rest n part t54 t54_2 t55 t59 t60 t2 t2_2)) (fun negative rest n t2 t2_2 => J 255 [] (q8n_ negative rest n t2 t2_2)) (fun negative rest n t54 t54_2 t55 t2 t2_2 => w3 (q3g_ negative rest n t54 t54_2 t55 t2 t2_2)) negative rest n t54 t54_2 t55 t2 t2_2 := by kernel_rfl
theorem qik_  (J negative whole rest t48 t2 t2_2) : pfn Tryz.prog qn_ 6 18446744073709551616 (Ev.get qo_) 132 qi_ J 62 [] (q8f_ negative whole rest t48 t2 t2_2) = qaf_ (fun negative rest n t54 t54_2 t55 t2 t2_2 => J 2042 [] (q3g_ negative rest n t54 t54_2 t55 t2 t2_2)) negative whole rest t48 t2 t2_2 := by kernel_rfl
theorem qgg_  (J negative whole rest point t36 t2 t2_2) : pfn Tryz.prog qn_ 6 18446744073709551616 (Ev.get qo_) 132 qi_ J 30 [] (q8i_ negative whole rest point t36 t2 t2_2) = qal_ (fun negative whole rest t48 t2 t2_2 => J 62 [] (q8f_ negative whole rest t48 t2 t2_2)) negative whole rest point t36 t2 t2_2 := by kernel_rfl
theorem qg3_ (J : Orc (As [.pr (.int .i64) (.int .u8), .bool])) (x : As [.str]) : rfn Tryz.prog qn_ 6 18446744073709551616 (Ev.get qo_) 132 qi_ J x = q8d_ (fun negative whole rest point t36 t2 t2_2 => J 30 [] (q8i_ negative whole rest point t36 t2 t2_2)) x.1 := by kernel_rfl
theorem qgw_  (w3 negative rest n part t54 t54_2 t55 t59 t60 t2 t2_2) : jfn Tryz.prog qn_ 6 18446744073709551616 (Ev.get qo_) 132 qi_ 522854 [w3] (q5d_ negative rest n part t54 t54_2 t55 t59 t60 t2 t2_2) = q3i_ (fun negative rest n t54 t54_2 t55 t2 t2_2 => w3 (q3g_ negative rest n t54 t54_2 t55 t2 t2_2)) negative rest n part t54 t54_2 t55 t59 t60 t2 t2_2 := by
  rw [q5_ (by decide)]
  rw [q16_ (by kernel_rfl)]
  refine qp_ (σ := (Bool) × (List UInt8) × (Int) × (List UInt8) × (List UInt8) × (List UInt8) × (Int) × (Int) × (Int) × (Int) × (Int)) (mk := fun s => q5d_ s.1 s.2.1 s.2.2.1 s.2.2.2.1 s.2.2.2.2.1 s.2.2.2.2.2.1 s.2.2.2.2.2.2.1 s.2.2.2.2.2.2.2.1 s.2.2.2.2.2.2.2.2.1 s.2.2.2.2.2.2.2.2.2.1 s.2.2.2.2.2.2.2.2.2.2) (fun w4 s => ?_) 18446744073709551616 (negative, rest, n, part, t54, t54_2, t55, t59, t60, t2, t2_2)
  refine (qft_ _ w3 w4 s.1 s.2.1 s.2.2.1 s.2.2.2.1 s.2.2.2.2.1 s.2.2.2.2.2.1 s.2.2.2.2.2.2.1 s.2.2.2.2.2.2.2.1 s.2.2.2.2.2.2.2.2.1 s.2.2.2.2.2.2.2.2.2.1 s.2.2.2.2.2.2.2.2.2.2).trans ?_
  rfl
theorem qgh_  (rest n t2 t2_2) : jfn Tryz.prog qn_ 6 18446744073709551616 (Ev.get qo_) 132 qi_ 511 [] (q8j_ rest n t2 t2_2) = q8q_ rest n t2 t2_2 := by
  rw [q5_ (by decide)]
  rw [qhq_]
  rfl
theorem qi9_  (negative rest n t2 t2_2) : jfn Tryz.prog qn_ 6 18446744073709551616 (Ev.get qo_) 132 qi_ 255 [] (q8n_ negative rest n t2 t2_2) = q3v_ negative rest n t2 t2_2 := by
  rw [q5_ (by decide)]
  have e6 : (fun rest n t2 t2_2 => (jfn Tryz.prog qn_ 6 18446744073709551616 (Ev.get qo_) 132 qi_) 511 [] (q8j_ rest n t2 t2_2)) = q8q_ := by funext rest n t2 t2_2; exact qgh_ rest n t2 t2_2
  rw [qhu_, e6]
  rfl
theorem qib_  (negative rest n t54 t54_2 t55 t2 t2_2) : jfn Tryz.prog qn_ 6 18446744073709551616 (Ev.get qo_) 132 qi_ 2042 [] (q3g_ negative rest n t54 t54_2 t55 t2 t2_2) = q6t_ negative rest n t54 t54_2 t55 t2 t2_2 := by
  rw [q5_ (by decide)]
  rw [q16_ (by kernel_rfl)]
  refine qp_ (σ := (Bool) × (List UInt8) × (Int) × (List UInt8) × (List UInt8) × (Int) × (Int) × (Int)) (mk := fun s => q3g_ s.1 s.2.1 s.2.2.1 s.2.2.2.1 s.2.2.2.2.1 s.2.2.2.2.2.1 s.2.2.2.2.2.2.1 s.2.2.2.2.2.2.2) (fun w3 s => ?_) 18446744073709551616 (negative, rest, n, t54, t54_2, t55, t2, t2_2)
  have e4 : (fun negative rest n part t54 t54_2 t55 t59 t60 t2 t2_2 => (jfn Tryz.prog qn_ 6 18446744073709551616 (Ev.get qo_) 132 qi_) 522854 [w3] (q5d_ negative rest n part t54 t54_2 t55 t59 t60 t2 t2_2)) = q3i_ (fun negative rest n t54 t54_2 t55 t2 t2_2 => w3 (q3g_ negative rest n t54 t54_2 t55 t2 t2_2)) := by funext negative rest n part t54 t54_2 t55 t59 t60 t2 t2_2; exact qgw_ w3 negative rest n part t54 t54_2 t55 t59 t60 t2 t2_2
  have e5 : (fun negative rest n t2 t2_2 => (jfn Tryz.prog qn_ 6 18446744073709551616 (Ev.get qo_) 132 qi_) 255 [] (q8n_ negative rest n t2 t2_2)) = q3v_ := by funext negative rest n t2 t2_2; exact qi9_ negative rest n t2 t2_2
  refine (qfy_ _ w3 s.1 s.2.1 s.2.2.1 s.2.2.2.1 s.2.2.2.2.1 s.2.2.2.2.2.1 s.2.2.2.2.2.2.1 s.2.2.2.2.2.2.2).trans ?_
  rw [e4, e5]
theorem qfz_  (negative whole rest t48 t2 t2_2) : jfn Tryz.prog qn_ 6 18446744073709551616 (Ev.get qo_) 132 qi_ 62 [] (q8f_ negative whole rest t48 t2 t2_2) = q6q_ negative whole rest t48 t2 t2_2 := by
  rw [q5_ (by decide)]
  have e3 : (fun negative rest n t54 t54_2 t55 t2 t2_2 => (jfn Tryz.prog qn_ 6 18446744073709551616 (Ev.get qo_) 132 qi_) 2042 [] (q3g_ negative rest n t54 t54_2 t55 t2 t2_2)) = q6t_ := by funext negative rest n t54 t54_2 t55 t2 t2_2; exact qib_ negative rest n t54 t54_2 t55 t2 t2_2
  rw [qik_, e3]
  rfl
theorem qg6_  (negative whole rest point t36 t2 t2_2) : jfn Tryz.prog qn_ 6 18446744073709551616 (Ev.get qo_) 132 qi_ 30 [] (q8i_ negative whole rest point t36 t2 t2_2) = qr_ negative whole rest point t36 t2 t2_2 := by
  rw [q5_ (by decide)]
  have e2 : (fun negative whole rest t48 t2 t2_2 => (jfn Tryz.prog qn_ 6 18446744073709551616 (Ev.get qo_) 132 qi_) 62 [] (q8f_ negative whole rest t48 t2 t2_2)) = q6q_ := by funext negative whole rest t48 t2 t2_2; exact qfz_ negative whole rest t48 t2 t2_2
  rw [qgg_, e2]
  rfl
theorem qj4_ (x : As [.str]) : evT Tryz.prog qn_ 6 18446744073709551616 (Ev.get qo_) 132 qi_ x = qan_ x := by
  have e1 : (fun negative whole rest point t36 t2 t2_2 => (jfn Tryz.prog qn_ 6 18446744073709551616 (Ev.get qo_) 132 qi_) 30 [] (q8i_ negative whole rest point t36 t2 t2_2)) = qr_ := by funext negative whole rest point t36 t2 t2_2; exact qg6_ negative whole rest point t36 t2 t2_2
  rw [rfn_eq, qg3_, e1]
  rfl
theorem qgj_ : CtOk Tryz.prog I0 132 ⟨qi_, qan_⟩ := q18_ (q0_ strings_makeASCIISet_ok (q0_ strings_CutPrefix_ok (q0_ qdi_ (q0_ strings_trimRightByte_ok qa_)))) qj4_
@[reducible] def qbo_ : Sh := ⟨[.pb 0 0], [.box 106 [.d (.int .u8), .d .str, .d (.int .i64), .d (.int .u8), .d (.int .i64)]], [.int .u8, .str, .int .i64, .int .u8, .int .i64], [.d (.int .i64)], [(0, .box 106 [.d (.int .u8), .d .str, .d (.int .i64), .d (.int .u8), .d (.int .i64)])], 0, [.int .i64, .int .u8, .str, .int .i64, .int .u8, .int .i64]⟩
def qcs_ (t : Int) (t_2 : List UInt8) (v d ok : Int) : Option (As [.int .i64, .int .u8, .str, .int .i64, .int .u8, .int .i64]) :=
  Option.bind (qan_ (t_2, ())) fun (y : (Int × Int) × Bool × Unit) => if (!y.2.1) = true then some (132, t, t_2, v, d, ok, ()) else some (0, t, t_2, y.1.1, y.1.2, ok, ())
def q9t_ (x : As [.int .u8, .str, .int .i64, .int .u8, .int .i64]) : Option (As [.int .i64, .int .u8, .str, .int .i64, .int .u8, .int .i64]) := qcs_ x.1 x.2.1 x.2.2.1 x.2.2.2.1 x.2.2.2.2.1
theorem qcp_ : CtOk Tryz.prog I0 107 ⟨qbo_, q9t_⟩ := ctn (q0_ qgj_ qa_) 6 fun J x => by kernel_rfl
@[reducible] def q9h_ : Sh := ⟨[.d (.int .u8)], [], [.int .u8], [.d (.bool)], [], 0, [.bool]⟩
def qdu_ (c : Int) : Option (As [.bool]) :=
  some (eqi c 61, ())
def qm_ (x : As [.int .u8]) : Option (As [.bool]) := qdu_ x.1
theorem qb9_ : CtOk Tryz.prog I0 108 ⟨q9h_, qm_⟩ := ctn qa_ 6 fun J x => by kernel_rfl
@[reducible] def q4h_ : Sh := ⟨[.d (.int .u8)], [], [.int .u8], [.d (.bool)], [], 0, [.bool]⟩
def qdq_ (c : Int) : Option (As [.bool]) :=
  some (false, ())
def q3x_ (x : As [.int .u8]) : Option (As [.bool]) := qdq_ x.1
theorem q51_ : CtOk Tryz.prog I0 109 ⟨q4h_, q3x_⟩ := ctn qa_ 6 fun J x => by kernel_rfl
@[reducible] def q9a_ : Sh := ⟨[.pb 0 0], [.box 106 [.d (.int .u8), .d .str, .d (.int .i64), .d (.int .u8), .d (.int .i64)]], [.int .u8, .str, .int .i64, .int .u8, .int .i64], [.d (.int .i64)], [(0, .box 106 [.d (.int .u8), .d .str, .d (.int .i64), .d (.int .u8), .d (.int .i64)])], 0, [.int .i64, .int .u8, .str, .int .i64, .int .u8, .int .i64]⟩
def qb6_ (v : Int) (v_2 : List UInt8) (v_3 x x_2 : Int) : Option (As [.int .i64, .int .u8, .str, .int .i64, .int .u8, .int .i64]) :=
  some (0, v, v_2, v_3, x, x_2, ())
def q6v_ (x : As [.int .u8, .str, .int .i64, .int .u8, .int .i64]) : Option (As [.int .i64, .int .u8, .str, .int .i64, .int .u8, .int .i64]) := qb6_ x.1 x.2.1 x.2.2.1 x.2.2.2.1 x.2.2.2.2.1
theorem qb7_ : CtOk Tryz.prog I0 110 ⟨q9a_, q6v_⟩ := ctn qa_ 6 fun J x => by kernel_rfl
@[reducible] def q1h_ : Sh := ⟨[.fn (.func 102) [] [], .pb 0 0], [.box 9 [.d .str]], [.str], [.d .str], [(0, .box 9 [.d .str])], 0, [.str, .str]⟩
def q27_ : Env := (cts [(102, (⟨q4f_, q33_⟩ : Ct)), (106, (⟨q4j_, q32_⟩ : Ct)), (109, (⟨q4h_, q3x_⟩ : Ct))])
def q2a_ : List (Nat × Hint) := [(7, ⟨[], [1, 4]⟩), (28, ⟨[], [0, 1, 4, 11, 12, 13, 14, 15]⟩), (112, ⟨[.agd 12 .str, .agd 13 (.int .i64), .agd 14 (.int .u8), .agd 15 .bool], [0, 1, 4, 16]⟩)]
def q2v_ (n : Int) (t1 : List UInt8) : St := { fr := [(0, .fn (.func 102) [] []), (1, .pb 0 0), (4, .d (.int .i64) n)], nt := 26, up := [], own := [(0, .box 9 [.d .str t1])], nx := 1, log := [], ln := 1 }
def q77_ (n : Int) (t16 : Bool) (t1 : List UInt8) : St := { fr := [(0, .fn (.func 102) [] []), (1, .pb 0 0), (4, .d (.int .i64) n), (16, .d .bool t16)], nt := 26, up := [], own := [(0, .box 9 [.d .str t1])], nx := 1, log := [], ln := 1 }
def q7d_ (n : Int) (t1 : List UInt8) : St := { fr := [(1, .pb 0 0), (4, .d (.int .i64) n)], nt := 26, up := [], own := [(0, .box 9 [.d .str t1])], nx := 1, log := [], ln := 1 }
def q7f_ (j2 : Int -> Bool -> List UInt8 -> Option (As [.str, .str])) (self1 : Int -> List UInt8 -> Option (As [.str, .str])) (n : Int) (t1 : List UInt8) : Option (As [.str, .str]) :=
  if lt n (Int.ofNat (List.length t1)) = true then Option.bind (at? t1 n) fun (c : UInt8) => Option.bind (q33_ (Int.ofNat (UInt8.toNat c), ())) fun (y : Bool × Unit) => j2 n y.1 t1 else j2 n false t1
def qbk_ (j3 self1 : Int -> List UInt8 -> Option (As [.str, .str])) (n : Int) (t16 : Bool) (t1 : List UInt8) : Option (As [.str, .str]) :=
  if t16 = true then self1 (add .i64 n 1) t1 else j3 n t1
def q4i_ (n : Int) (t1 : List UInt8) : Option (As [.str, .str]) :=
  Option.bind (cut t1 0 n) fun (y : List UInt8) => Option.bind (cut t1 n (Int.ofNat (List.length t1))) fun (y_1 : List UInt8) => some (y, y_1, ())
def qbl_ (j1 : Int -> List UInt8 -> Option (As [.str, .str])) (more : List UInt8) : Option (As [.str, .str]) :=
  j1 1 more
def q9k_ (n : Int) (t1 : List UInt8) : Option (As [.str, .str]) := q4i_ n t1
def q5h_ (u1 : Int -> List UInt8 -> Option (As [.str, .str])) (n : Int) (t16 : Bool) (t1 : List UInt8) : Option (As [.str, .str]) := qbk_ (q9k_) u1 n t16 t1
def q9f_ (n : Int) (t1 : List UInt8) : Option (As [.str, .str]) :=
  loopF (fun (self : (Int) × (List UInt8) -> Option (As [.str, .str])) (s : (Int) × (List UInt8)) => q7f_ (q5h_ (fun n t1 => self (n, t1))) (fun n t1 => self (n, t1)) s.1 s.2) 18446744073709551616 (n, t1)
def q7k_ (x : As [.str]) : Option (As [.str, .str]) := qbl_ q9f_ x.1
theorem qel_  (J n t1) : pfn Tryz.prog q27_ 6 18446744073709551616 (Ev.get q2a_) 112 q1h_ J 7 [] (q7d_ n t1) = q4i_ n t1 := by kernel_rfl
theorem qeh_  (J w1 n t16 t1) : pfn Tryz.prog q27_ 6 18446744073709551616 (Ev.get q2a_) 112 q1h_ J 112 [w1] (q77_ n t16 t1) = qbk_ (fun n t1 => J 7 [] (q7d_ n t1)) (fun n t1 => w1 (q2v_ n t1)) n t16 t1 := by kernel_rfl
theorem qej_  (J w1 n t1) : pfn Tryz.prog q27_ 6 18446744073709551616 (Ev.get q2a_) 112 q1h_ J 28 [w1] (q2v_ n t1) = q7f_ (fun n t16 t1 => J 112 [w1] (q77_ n t16 t1)) (fun n t1 => w1 (q2v_ n t1)) n t1 := by kernel_rfl
theorem qeg_ (J : Orc (As [.str, .str])) (x : As [.str]) : rfn Tryz.prog q27_ 6 18446744073709551616 (Ev.get q2a_) 112 q1h_ J x = qbl_ (fun n t1 => J 28 [] (q2v_ n t1)) x.1 := by kernel_rfl
theorem qek_  (n t1) : jfn Tryz.prog q27_ 6 18446744073709551616 (Ev.get q2a_) 112 q1h_ 7 [] (q7d_ n t1) = q9k_ n t1 := by
  rw [q5_ (by decide)]
  rw [qel_]
  rfl
theorem qec_  (w1 n t16 t1) : jfn Tryz.prog q27_ 6 18446744073709551616 (Ev.get q2a_) 112 q1h_ 112 [w1] (q77_ n t16 t1) = q5h_ (fun n t1 => w1 (q2v_ n t1)) n t16 t1 := by
  rw [q5_ (by decide)]
  have e3 : (fun n t1 => (jfn Tryz.prog q27_ 6 18446744073709551616 (Ev.get q2a_) 112 q1h_) 7 [] (q7d_ n t1)) = q9k_ := by funext n t1; exact qek_ n t1
  rw [qeh_, e3]
  rfl
theorem qe3_  (n t1) : jfn Tryz.prog q27_ 6 18446744073709551616 (Ev.get q2a_) 112 q1h_ 28 [] (q2v_ n t1) = q9f_ n t1 := by
  rw [q5_ (by decide)]
  rw [q16_ (by kernel_rfl)]
  refine qp_ (σ := (Int) × (List UInt8)) (mk := fun s => q2v_ s.1 s.2) (fun w1 s => ?_) 18446744073709551616 (n, t1)
  have e2 : (fun n t16 t1 => (jfn Tryz.prog q27_ 6 18446744073709551616 (Ev.get q2a_) 112 q1h_) 112 [w1] (q77_ n t16 t1)) = q5h_ (fun n t1 => w1 (q2v_ n t1)) := by funext n t16 t1; exact qec_ w1 n t16 t1
  refine (qej_ _ w1 s.1 s.2).trans ?_
  rw [e2]
theorem qf3_ (x : As [.str]) : evT Tryz.prog q27_ 6 18446744073709551616 (Ev.get q2a_) 112 q1h_ x = q7k_ x := by
  have e1 : (fun n t1 => (jfn Tryz.prog q27_ 6 18446744073709551616 (Ev.get q2a_) 112 q1h_) 28 [] (q2v_ n t1)) = q9f_ := by funext n t1; exact qe3_ n t1
  rw [rfn_eq, qeg_, e1]
  rfl
theorem qei_ : CtOk Tryz.prog I0 112 ⟨q1h_, q7k_⟩ := q18_ (q0_ q50_ (q0_ q52_ (q0_ q51_ qa_))) qf3_
@[reducible] def q1e_ : Sh := ⟨[.fn (.func 106) [] [], .pb 0 0], [.box 9 [.d .str]], [.str], [.d .str], [(0, .box 9 [.d .str])], 0, [.str, .str]⟩
def q2b_ : Env := (cts [(102, (⟨q4f_, q33_⟩ : Ct)), (106, (⟨q4j_, q32_⟩ : Ct)), (109, (⟨q4h_, q3x_⟩ : Ct))])
def q2d_ : List (Nat × Hint) := [(7, ⟨[], [1, 4]⟩), (28, ⟨[], [0, 1, 4, 11, 12, 13, 14, 15]⟩), (112, ⟨[.agd 12 .str, .agd 13 (.int .i64), .agd 14 (.int .u8), .agd 15 .bool], [0, 1, 4, 16]⟩)]
def q2w_ (n : Int) (t1 : List UInt8) : St := { fr := [(0, .fn (.func 106) [] []), (1, .pb 0 0), (4, .d (.int .i64) n)], nt := 26, up := [], own := [(0, .box 9 [.d .str t1])], nx := 1, log := [], ln := 1 }
def q75_ (n : Int) (t16 : Bool) (t1 : List UInt8) : St := { fr := [(0, .fn (.func 106) [] []), (1, .pb 0 0), (4, .d (.int .i64) n), (16, .d .bool t16)], nt := 26, up := [], own := [(0, .box 9 [.d .str t1])], nx := 1, log := [], ln := 1 }
def q78_ (n : Int) (t1 : List UInt8) : St := { fr := [(1, .pb 0 0), (4, .d (.int .i64) n)], nt := 26, up := [], own := [(0, .box 9 [.d .str t1])], nx := 1, log := [], ln := 1 }
def q79_ (j2 : Int -> Bool -> List UInt8 -> Option (As [.str, .str])) (self1 : Int -> List UInt8 -> Option (As [.str, .str])) (n : Int) (t1 : List UInt8) : Option (As [.str, .str]) :=
  if lt n (Int.ofNat (List.length t1)) = true then Option.bind (at? t1 n) fun (c : UInt8) => Option.bind (q32_ (Int.ofNat (UInt8.toNat c), ())) fun (y : Bool × Unit) => j2 n y.1 t1 else j2 n false t1
def qbj_ (j3 self1 : Int -> List UInt8 -> Option (As [.str, .str])) (n : Int) (t16 : Bool) (t1 : List UInt8) : Option (As [.str, .str]) :=
  if t16 = true then self1 (add .i64 n 1) t1 else j3 n t1
def q4k_ (n : Int) (t1 : List UInt8) : Option (As [.str, .str]) :=
  Option.bind (cut t1 0 n) fun (y : List UInt8) => Option.bind (cut t1 n (Int.ofNat (List.length t1))) fun (y_1 : List UInt8) => some (y, y_1, ())
def qbm_ (j1 : Int -> List UInt8 -> Option (As [.str, .str])) (more : List UInt8) : Option (As [.str, .str]) :=
  j1 1 more
def q9c_ (n : Int) (t1 : List UInt8) : Option (As [.str, .str]) := q4k_ n t1
def q5j_ (u1 : Int -> List UInt8 -> Option (As [.str, .str])) (n : Int) (t16 : Bool) (t1 : List UInt8) : Option (As [.str, .str]) := qbj_ (q9c_) u1 n t16 t1
def q9b_ (n : Int) (t1 : List UInt8) : Option (As [.str, .str]) :=
  loopF (fun (self : (Int) × (List UInt8) -> Option (As [.str, .str])) (s : (Int) × (List UInt8)) => q79_ (q5j_ (fun n t1 => self (n, t1))) (fun n t1 => self (n, t1)) s.1 s.2) 18446744073709551616 (n, t1)
def q7j_ (x : As [.str]) : Option (As [.str, .str]) := qbm_ q9b_ x.1
theorem qe5_  (J n t1) : pfn Tryz.prog q2b_ 6 18446744073709551616 (Ev.get q2d_) 112 q1e_ J 7 [] (q78_ n t1) = q4k_ n t1 := by kernel_rfl
theorem qe2_  (J w1 n t16 t1) : pfn Tryz.prog q2b_ 6 18446744073709551616 (Ev.get q2d_) 112 q1e_ J 112 [w1] (q75_ n t16 t1) = qbj_ (fun n t1 => J 7 [] (q78_ n t1)) (fun n t1 => w1 (q2w_ n t1)) n t16 t1 := by kernel_rfl
theorem qe4_  (J w1 n t1) : pfn Tryz.prog q2b_ 6 18446744073709551616 (Ev.get q2d_) 112 q1e_ J 28 [w1] (q2w_ n t1) = q79_ (fun n t16 t1 => J 112 [w1] (q75_ n t16 t1)) (fun n t1 => w1 (q2w_ n t1)) n t1 := by kernel_rfl
theorem qe6_ (J : Orc (As [.str, .str])) (x : As [.str]) : rfn Tryz.prog q2b_ 6 18446744073709551616 (Ev.get q2d_) 112 q1e_ J x = qbm_ (fun n t1 => J 28 [] (q2w_ n t1)) x.1 := by kernel_rfl
theorem qe8_  (n t1) : jfn Tryz.prog q2b_ 6 18446744073709551616 (Ev.get q2d_) 112 q1e_ 7 [] (q78_ n t1) = q9c_ n t1 := by
  rw [q5_ (by decide)]
  rw [qe5_]
  rfl
theorem qen_  (w1 n t16 t1) : jfn Tryz.prog q2b_ 6 18446744073709551616 (Ev.get q2d_) 112 q1e_ 112 [w1] (q75_ n t16 t1) = q5j_ (fun n t1 => w1 (q2w_ n t1)) n t16 t1 := by
  rw [q5_ (by decide)]
  have e3 : (fun n t1 => (jfn Tryz.prog q2b_ 6 18446744073709551616 (Ev.get q2d_) 112 q1e_) 7 [] (q78_ n t1)) = q9c_ := by funext n t1; exact qe8_ n t1
  rw [qe2_, e3]
  rfl
theorem qef_  (n t1) : jfn Tryz.prog q2b_ 6 18446744073709551616 (Ev.get q2d_) 112 q1e_ 28 [] (q2w_ n t1) = q9b_ n t1 := by
  rw [q5_ (by decide)]
  rw [q16_ (by kernel_rfl)]
  refine qp_ (σ := (Int) × (List UInt8)) (mk := fun s => q2w_ s.1 s.2) (fun w1 s => ?_) 18446744073709551616 (n, t1)
  have e2 : (fun n t16 t1 => (jfn Tryz.prog q2b_ 6 18446744073709551616 (Ev.get q2d_) 112 q1e_) 112 [w1] (q75_ n t16 t1)) = q5j_ (fun n t1 => w1 (q2w_ n t1)) := by funext n t16 t1; exact qen_ w1 n t16 t1
  refine (qe4_ _ w1 s.1 s.2).trans ?_
  rw [e2]
theorem qfj_ (x : As [.str]) : evT Tryz.prog q2b_ 6 18446744073709551616 (Ev.get q2d_) 112 q1e_ x = q7j_ x := by
  have e1 : (fun n t1 => (jfn Tryz.prog q2b_ 6 18446744073709551616 (Ev.get q2d_) 112 q1e_) 28 [] (q2w_ n t1)) = q9b_ := by funext n t1; exact qef_ n t1
  rw [rfn_eq, qe6_, e1]
  rfl
theorem qe7_ : CtOk Tryz.prog I0 112 ⟨q1e_, q7j_⟩ := q18_ (q0_ q50_ (q0_ q52_ (q0_ q51_ qa_))) qfj_
@[reducible] def q1f_ : Sh := ⟨[.fn (.func 109) [] [], .pb 0 0], [.box 9 [.d .str]], [.str], [.d .str], [(0, .box 9 [.d .str])], 0, [.str, .str]⟩
def q29_ : Env := (cts [(102, (⟨q4f_, q33_⟩ : Ct)), (106, (⟨q4j_, q32_⟩ : Ct)), (109, (⟨q4h_, q3x_⟩ : Ct))])
def q28_ : List (Nat × Hint) := [(7, ⟨[], [1, 4]⟩), (28, ⟨[], [0, 1, 4, 11, 12, 13, 14, 15]⟩), (112, ⟨[.agd 12 .str, .agd 13 (.int .i64), .agd 14 (.int .u8), .agd 15 .bool], [0, 1, 4, 16]⟩)]
def q2u_ (n : Int) (t1 : List UInt8) : St := { fr := [(0, .fn (.func 109) [] []), (1, .pb 0 0), (4, .d (.int .i64) n)], nt := 26, up := [], own := [(0, .box 9 [.d .str t1])], nx := 1, log := [], ln := 1 }
def q7b_ (n : Int) (t16 : Bool) (t1 : List UInt8) : St := { fr := [(0, .fn (.func 109) [] []), (1, .pb 0 0), (4, .d (.int .i64) n), (16, .d .bool t16)], nt := 26, up := [], own := [(0, .box 9 [.d .str t1])], nx := 1, log := [], ln := 1 }
def q7e_ (n : Int) (t1 : List UInt8) : St := { fr := [(1, .pb 0 0), (4, .d (.int .i64) n)], nt := 26, up := [], own := [(0, .box 9 [.d .str t1])], nx := 1, log := [], ln := 1 }
def q74_ (j2 : Int -> Bool -> List UInt8 -> Option (As [.str, .str])) (self1 : Int -> List UInt8 -> Option (As [.str, .str])) (n : Int) (t1 : List UInt8) : Option (As [.str, .str]) :=
  if lt n (Int.ofNat (List.length t1)) = true then Option.bind (at? t1 n) fun (c : UInt8) => Option.bind (q3x_ (Int.ofNat (UInt8.toNat c), ())) fun (y : Bool × Unit) => j2 n y.1 t1 else j2 n false t1
def q9e_ (j3 self1 : Int -> List UInt8 -> Option (As [.str, .str])) (n : Int) (t16 : Bool) (t1 : List UInt8) : Option (As [.str, .str]) :=
  if t16 = true then self1 (add .i64 n 1) t1 else j3 n t1
def q7c_ (n : Int) (t1 : List UInt8) : Option (As [.str, .str]) :=
  Option.bind (cut t1 0 n) fun (y : List UInt8) => Option.bind (cut t1 n (Int.ofNat (List.length t1))) fun (y_1 : List UInt8) => some (y, y_1, ())
def qbf_ (j1 : Int -> List UInt8 -> Option (As [.str, .str])) (more : List UInt8) : Option (As [.str, .str]) :=
  j1 1 more
def q9d_ (n : Int) (t1 : List UInt8) : Option (As [.str, .str]) := q7c_ n t1
def q4g_ (u1 : Int -> List UInt8 -> Option (As [.str, .str])) (n : Int) (t16 : Bool) (t1 : List UInt8) : Option (As [.str, .str]) := q9e_ (q9d_) u1 n t16 t1
def q9j_ (n : Int) (t1 : List UInt8) : Option (As [.str, .str]) :=
  loopF (fun (self : (Int) × (List UInt8) -> Option (As [.str, .str])) (s : (Int) × (List UInt8)) => q74_ (q4g_ (fun n t1 => self (n, t1))) (fun n t1 => self (n, t1)) s.1 s.2) 18446744073709551616 (n, t1)
def q7l_ (x : As [.str]) : Option (As [.str, .str]) := qbf_ q9j_ x.1
theorem qee_  (J n t1) : pfn Tryz.prog q29_ 6 18446744073709551616 (Ev.get q28_) 112 q1f_ J 7 [] (q7e_ n t1) = q7c_ n t1 := by kernel_rfl
theorem qep_  (J w1 n t16 t1) : pfn Tryz.prog q29_ 6 18446744073709551616 (Ev.get q28_) 112 q1f_ J 112 [w1] (q7b_ n t16 t1) = q9e_ (fun n t1 => J 7 [] (q7e_ n t1)) (fun n t1 => w1 (q2u_ n t1)) n t16 t1 := by kernel_rfl
theorem qe1_  (J w1 n t1) : pfn Tryz.prog q29_ 6 18446744073709551616 (Ev.get q28_) 112 q1f_ J 28 [w1] (q2u_ n t1) = q74_ (fun n t16 t1 => J 112 [w1] (q7b_ n t16 t1)) (fun n t1 => w1 (q2u_ n t1)) n t1 := by kernel_rfl
theorem qeo_ (J : Orc (As [.str, .str])) (x : As [.str]) : rfn Tryz.prog q29_ 6 18446744073709551616 (Ev.get q28_) 112 q1f_ J x = qbf_ (fun n t1 => J 28 [] (q2u_ n t1)) x.1 := by kernel_rfl
theorem qe9_  (n t1) : jfn Tryz.prog q29_ 6 18446744073709551616 (Ev.get q28_) 112 q1f_ 7 [] (q7e_ n t1) = q9d_ n t1 := by
  rw [q5_ (by decide)]
  rw [qee_]
  rfl
theorem qea_  (w1 n t16 t1) : jfn Tryz.prog q29_ 6 18446744073709551616 (Ev.get q28_) 112 q1f_ 112 [w1] (q7b_ n t16 t1) = q4g_ (fun n t1 => w1 (q2u_ n t1)) n t16 t1 := by
  rw [q5_ (by decide)]
  have e3 : (fun n t1 => (jfn Tryz.prog q29_ 6 18446744073709551616 (Ev.get q28_) 112 q1f_) 7 [] (q7e_ n t1)) = q9d_ := by funext n t1; exact qe9_ n t1
  rw [qep_, e3]
  rfl
theorem qeb_  (n t1) : jfn Tryz.prog q29_ 6 18446744073709551616 (Ev.get q28_) 112 q1f_ 28 [] (q2u_ n t1) = q9j_ n t1 := by
  rw [q5_ (by decide)]
  rw [q16_ (by kernel_rfl)]
  refine qp_ (σ := (Int) × (List UInt8)) (mk := fun s => q2u_ s.1 s.2) (fun w1 s => ?_) 18446744073709551616 (n, t1)
  have e2 : (fun n t16 t1 => (jfn Tryz.prog q29_ 6 18446744073709551616 (Ev.get q28_) 112 q1f_) 112 [w1] (q7b_ n t16 t1)) = q4g_ (fun n t1 => w1 (q2u_ n t1)) := by funext n t16 t1; exact qea_ w1 n t16 t1
  refine (qe1_ _ w1 s.1 s.2).trans ?_
  rw [e2]
theorem qfg_ (x : As [.str]) : evT Tryz.prog q29_ 6 18446744073709551616 (Ev.get q28_) 112 q1f_ x = q7l_ x := by
  have e1 : (fun n t1 => (jfn Tryz.prog q29_ 6 18446744073709551616 (Ev.get q28_) 112 q1f_) 28 [] (q2u_ n t1)) = q9j_ := by funext n t1; exact qeb_ n t1
  rw [rfn_eq, qeo_, e1]
  rfl
theorem qed_ : CtOk Tryz.prog I0 112 ⟨q1f_, q7l_⟩ := q18_ (q0_ q50_ (q0_ q52_ (q0_ q51_ qa_))) qfg_
@[reducible] def strings_trimLeftByte_s : Sh := ⟨[.d (.str), .d (.int .u8)], [], [.str, .int .u8], [.d (.str)], [], 0, [.str]⟩
def q1u_ : Env := (cts [])
def q1v_ : List (Nat × Hint) := [(12, ⟨[], [0, 1, 9, 10, 11, 12]⟩), (48, ⟨[.agd 9 .str, .agd 10 (.int .u8), .agd 11 (.int .u8), .agd 12 .bool], [0, 1, 13]⟩)]
def q17_ (s : List UInt8) (c : Int) : St := { fr := [(0, .d .str s), (1, .d (.int .u8) c)], nt := 17, up := [], own := [], nx := 0, log := [], ln := 0 }
def q4d_ (s : List UInt8) (c : Int) (t13 : Bool) : St := { fr := [(0, .d .str s), (1, .d (.int .u8) c), (13, .d .bool t13)], nt := 17, up := [], own := [], nx := 0, log := [], ln := 0 }
def strings_trimLeftByte_m1 (j2 : List UInt8 -> Int -> Bool -> Option (As [.str])) (self1 : List UInt8 -> Int -> Option (As [.str])) (s : List UInt8) (c : Int) : Option (As [.str]) :=
  if gt (Int.ofNat (List.length s)) 0 = true then Option.bind (at? s 0) fun (c_1 : UInt8) => j2 s c (eqi (Int.ofNat (UInt8.toNat c_1)) c) else j2 s c false
def strings_trimLeftByte_m2 (self1 : List UInt8 -> Int -> Option (As [.str])) (s : List UInt8) (c : Int) (t13 : Bool) : Option (As [.str]) :=
  if t13 = true then Option.bind (cut s 1 (Int.ofNat (List.length s))) fun (y : List UInt8) => self1 y c else some (s, ())
def strings_trimLeftByte_m0 (j1 : List UInt8 -> Int -> Option (As [.str])) (s : List UInt8) (c : Int) : Option (As [.str]) :=
  j1 s c
def q5w_ (u1 : List UInt8 -> Int -> Option (As [.str])) (s : List UInt8) (c : Int) (t13 : Bool) : Option (As [.str]) := strings_trimLeftByte_m2 u1 s c t13
def q5x_ (s : List UInt8) (c : Int) : Option (As [.str]) :=
  loopF (fun (self : (List UInt8) × (Int) -> Option (As [.str])) (s : (List UInt8) × (Int)) => strings_trimLeftByte_m1 (q5w_ (fun s c => self (s, c))) (fun s c => self (s, c)) s.1 s.2) 18446744073709551616 (s, c)
def q55_ (x : As [.str, .int .u8]) : Option (As [.str]) := strings_trimLeftByte_m0 q5x_ x.1 x.2.1
theorem strings_trimLeftByte_c2  (J w1 s c t13) : pfn Tryz.prog q1u_ 6 18446744073709551616 (Ev.get q1v_) 133 strings_trimLeftByte_s J 48 [w1] (q4d_ s c t13) = strings_trimLeftByte_m2 (fun s c => w1 (q17_ s c)) s c t13 := by kernel_rfl
theorem strings_trimLeftByte_c1  (J w1 s c) : pfn Tryz.prog q1u_ 6 18446744073709551616 (Ev.get q1v_) 133 strings_trimLeftByte_s J 12 [w1] (q17_ s c) = strings_trimLeftByte_m1 (fun s c t13 => J 48 [w1] (q4d_ s c t13)) (fun s c => w1 (q17_ s c)) s c := by kernel_rfl
theorem strings_trimLeftByte_c0 (J : Orc (As [.str])) (x : As [.str, .int .u8]) : rfn Tryz.prog q1u_ 6 18446744073709551616 (Ev.get q1v_) 133 strings_trimLeftByte_s J x = strings_trimLeftByte_m0 (fun s c => J 12 [] (q17_ s c)) x.1 x.2.1 := by kernel_rfl
theorem strings_trimLeftByte_g2  (w1 s c t13) : jfn Tryz.prog q1u_ 6 18446744073709551616 (Ev.get q1v_) 133 strings_trimLeftByte_s 48 [w1] (q4d_ s c t13) = q5w_ (fun s c => w1 (q17_ s c)) s c t13 := by
  rw [q5_ (by decide)]
  rw [strings_trimLeftByte_c2]
  rfl
theorem strings_trimLeftByte_g1  (s c) : jfn Tryz.prog q1u_ 6 18446744073709551616 (Ev.get q1v_) 133 strings_trimLeftByte_s 12 [] (q17_ s c) = q5x_ s c := by
  rw [q5_ (by decide)]
  rw [q16_ (by kernel_rfl)]
  refine qp_ (σ := (List UInt8) × (Int)) (mk := fun s => q17_ s.1 s.2) (fun w1 s => ?_) 18446744073709551616 (s, c)
  have e2 : (fun s c t13 => (jfn Tryz.prog q1u_ 6 18446744073709551616 (Ev.get q1v_) 133 strings_trimLeftByte_s) 48 [w1] (q4d_ s c t13)) = q5w_ (fun s c => w1 (q17_ s c)) := by funext s c t13; exact strings_trimLeftByte_g2 w1 s c t13
  refine (strings_trimLeftByte_c1 _ w1 s.1 s.2).trans ?_
  rw [e2]
theorem strings_trimLeftByte_t (x : As [.str, .int .u8]) : evT Tryz.prog q1u_ 6 18446744073709551616 (Ev.get q1v_) 133 strings_trimLeftByte_s x = q55_ x := by
  have e1 : (fun s c => (jfn Tryz.prog q1u_ 6 18446744073709551616 (Ev.get q1v_) 133 strings_trimLeftByte_s) 12 [] (q17_ s c)) = q5x_ := by funext s c; exact strings_trimLeftByte_g1 s c
  rw [rfn_eq, strings_trimLeftByte_c0, e1]
  rfl
theorem strings_trimLeftByte_ok : CtOk Tryz.prog I0 133 ⟨strings_trimLeftByte_s, q55_⟩ := q18_ qa_ strings_trimLeftByte_t
@[reducible] def strings_trimLeftASCII_s : Sh := ⟨[.d .str, .pb 0 0], [.row .bool 197], [.str, .sl .bool], [.d .str], [(0, .row .bool 197)], 0, [.str, .sl .bool]⟩
def q3n_ : Env := (cts [])
def q3o_ : List (Nat × Hint) := [(12, ⟨[], [0, 1]⟩)]
def q2l_ (s : List UInt8) (as' : List Bool) : St := { fr := [(0, .d .str s), (1, .pb 0 0)], nt := 16, up := [], own := [(0, .row .bool 197 as')], nx := 1, log := [], ln := 1 }
def q48_ (self1 : List UInt8 -> List Bool -> Option (As [.str, .sl .bool])) (s : List UInt8) (as' : List Bool) : Option (As [.str, .sl .bool]) :=
  if gt (Int.ofNat (List.length s)) 0 = true then Option.bind (at? s 0) fun (c : UInt8) => need (lt (Int.ofNat (UInt8.toNat c)) 256) (Option.bind (at? as' (Int.ofNat (UInt8.toNat c))) fun (x : Bool) => Option.bind (at? as' (Int.ofNat (UInt8.toNat c))) fun (y : Bool) => if (!y) = true then some (s, as', ()) else Option.bind (cut s 1 (Int.ofNat (List.length s))) fun (y : List UInt8) => self1 y as') else some (s, as', ())
def strings_trimLeftASCII_m0 (j1 : List UInt8 -> List Bool -> Option (As [.str, .sl .bool])) (s : List UInt8) (as' : List Bool) : Option (As [.str, .sl .bool]) :=
  j1 s as'
def q5m_ (s : List UInt8) (as' : List Bool) : Option (As [.str, .sl .bool]) :=
  loopF (fun (self : (List UInt8) × (List Bool) -> Option (As [.str, .sl .bool])) (s : (List UInt8) × (List Bool)) => q48_ (fun s as' => self (s, as')) s.1 s.2) 18446744073709551616 (s, as')
def q3c_ (x : As [.str, .sl .bool]) : Option (As [.str, .sl .bool]) := strings_trimLeftASCII_m0 q5m_ x.1 x.2.1
theorem strings_trimLeftASCII_c1  (J w1 s as') : pfn Tryz.prog q3n_ 6 18446744073709551616 (Ev.get q3o_) 135 strings_trimLeftASCII_s J 12 [w1] (q2l_ s as') = q48_ (fun s as' => w1 (q2l_ s as')) s as' := by kernel_rfl
theorem strings_trimLeftASCII_c0 (J : Orc (As [.str, .sl .bool])) (x : As [.str, .sl .bool]) : rfn Tryz.prog q3n_ 6 18446744073709551616 (Ev.get q3o_) 135 strings_trimLeftASCII_s J x = strings_trimLeftASCII_m0 (fun s as' => J 12 [] (q2l_ s as')) x.1 x.2.1 := by kernel_rfl
theorem strings_trimLeftASCII_g1  (s as') : jfn Tryz.prog q3n_ 6 18446744073709551616 (Ev.get q3o_) 135 strings_trimLeftASCII_s 12 [] (q2l_ s as') = q5m_ s as' := by
  rw [q5_ (by decide)]
  rw [q16_ (by kernel_rfl)]
  refine qp_ (σ := (List UInt8) × (List Bool)) (mk := fun s => q2l_ s.1 s.2) (fun w1 s => ?_) 18446744073709551616 (s, as')
  refine (strings_trimLeftASCII_c1 _ w1 s.1 s.2).trans ?_
  rfl
theorem strings_trimLeftASCII_t (x : As [.str, .sl .bool]) : evT Tryz.prog q3n_ 6 18446744073709551616 (Ev.get q3o_) 135 strings_trimLeftASCII_s x = q3c_ x := by
  have e1 : (fun s as' => (jfn Tryz.prog q3n_ 6 18446744073709551616 (Ev.get q3o_) 135 strings_trimLeftASCII_s) 12 [] (q2l_ s as')) = q5m_ := by funext s as'; exact strings_trimLeftASCII_g1 s as'
  rw [rfn_eq, strings_trimLeftASCII_c0, e1]
  rfl
theorem strings_trimLeftASCII_ok : CtOk Tryz.prog I0 135 ⟨strings_trimLeftASCII_s, q3c_⟩ := q18_ qa_ strings_trimLeftASCII_t
@[reducible] def strings_trimLeftUnicode_s : Sh := ⟨[.d (.str), .d (.str)], [], [.str, .str], [.d (.str)], [], 0, [.str]⟩
def q4e_ (_ : As strings_trimLeftUnicode_s.ps) : Option (As strings_trimLeftUnicode_s.rs) := none
theorem strings_trimLeftUnicode_ok : CtOk Tryz.prog I0 136 ⟨strings_trimLeftUnicode_s, q4e_⟩ := fun _ _ _ _ _ _ _ _ h => by cases h
@[reducible] def strings_TrimLeft_s : Sh := ⟨[.d (.str), .d (.str)], [], [.str, .str], [.d (.str)], [], 0, [.str]⟩
def q2r_ : Env := (cts [(133, (⟨strings_trimLeftByte_s, q55_⟩ : Ct)), (134, (⟨strings_makeASCIISet_s, q2x_⟩ : Ct)), (135, (⟨strings_trimLeftASCII_s, q3c_⟩ : Ct)), (136, (⟨strings_trimLeftUnicode_s, q4e_⟩ : Ct))])
def q2s_ : List (Nat × Hint) := [(14, ⟨[], [0, 1, 21]⟩), (6, ⟨[], [0, 1, 12, 18, 19, 20]⟩)]
def q5s_ (s cutset : List UInt8) (t12 : Bool) : St := { fr := [(0, .d .str s), (1, .d .str cutset), (12, .d .bool t12)], nt := 37, up := [], own := [], nx := 0, log := [], ln := 0 }
def q5t_ (s cutset : List UInt8) (t21 : Bool) : St := { fr := [(0, .d .str s), (1, .d .str cutset), (21, .d .bool t21)], nt := 37, up := [], own := [], nx := 0, log := [], ln := 0 }
def strings_TrimLeft_m1 (j2 : List UInt8 -> List UInt8 -> Bool -> Option (As [.str])) (s cutset : List UInt8) (t12 : Bool) : Option (As [.str]) :=
  if t12 = true then some (s, ()) else if eqi (Int.ofNat (List.length cutset)) 1 = true then Option.bind (at? cutset 0) fun (c : UInt8) => j2 s cutset (lt (Int.ofNat (UInt8.toNat c)) 128) else j2 s cutset false
def strings_TrimLeft_m2 (s cutset : List UInt8) (t21 : Bool) : Option (As [.str]) :=
  if t21 = true then Option.bind (at? cutset 0) fun (c : UInt8) => Option.bind (q55_ (s, Int.ofNat (UInt8.toNat c), ())) fun (y : List UInt8 × Unit) => some (y.1, ()) else Option.bind (q2x_ (cutset, ())) fun (y : List Bool × Bool × Unit) => need (eqi 256 (Int.ofNat (List.length y.1))) (need (eqi 256 (Int.ofNat (List.length y.1 * 1))) (if y.2.1 = true then Option.bind (q3c_ (s, y.1, ())) fun (y : List UInt8 × List Bool × Unit) => some (y.1, ()) else Option.bind (q4e_ (s, cutset, ())) fun (y : List UInt8 × Unit) => some (y.1, ())))
def strings_TrimLeft_m0 (j1 : List UInt8 -> List UInt8 -> Bool -> Option (As [.str])) (s cutset : List UInt8) : Option (As [.str]) :=
  if eqs s [] = true then j1 s cutset true else j1 s cutset (eqs cutset [])
def strings_TrimLeft_K2 (s cutset : List UInt8) (t21 : Bool) : Option (As [.str]) := strings_TrimLeft_m2 s cutset t21
def strings_TrimLeft_K1 (s cutset : List UInt8) (t12 : Bool) : Option (As [.str]) := strings_TrimLeft_m1 (strings_TrimLeft_K2) s cutset t12
def strings_TrimLeft (x : As [.str, .str]) : Option (As [.str]) := strings_TrimLeft_m0 strings_TrimLeft_K1 x.1 x.2.1
theorem strings_TrimLeft_c2  (J s cutset t21) : pfn Tryz.prog q2r_ 6 18446744073709551616 (Ev.get q2s_) 113 strings_TrimLeft_s J 14 [] (q5t_ s cutset t21) = strings_TrimLeft_m2 s cutset t21 := by kernel_rfl
theorem strings_TrimLeft_c1  (J s cutset t12) : pfn Tryz.prog q2r_ 6 18446744073709551616 (Ev.get q2s_) 113 strings_TrimLeft_s J 6 [] (q5s_ s cutset t12) = strings_TrimLeft_m1 (fun s cutset t21 => J 14 [] (q5t_ s cutset t21)) s cutset t12 := by kernel_rfl
theorem strings_TrimLeft_c0 (J : Orc (As [.str])) (x : As [.str, .str]) : rfn Tryz.prog q2r_ 6 18446744073709551616 (Ev.get q2s_) 113 strings_TrimLeft_s J x = strings_TrimLeft_m0 (fun s cutset t12 => J 6 [] (q5s_ s cutset t12)) x.1 x.2.1 := by kernel_rfl
theorem strings_TrimLeft_g2  (s cutset t21) : jfn Tryz.prog q2r_ 6 18446744073709551616 (Ev.get q2s_) 113 strings_TrimLeft_s 14 [] (q5t_ s cutset t21) = strings_TrimLeft_K2 s cutset t21 := by
  rw [q5_ (by decide)]
  rw [strings_TrimLeft_c2]
  rfl
theorem strings_TrimLeft_g1  (s cutset t12) : jfn Tryz.prog q2r_ 6 18446744073709551616 (Ev.get q2s_) 113 strings_TrimLeft_s 6 [] (q5s_ s cutset t12) = strings_TrimLeft_K1 s cutset t12 := by
  rw [q5_ (by decide)]
  have e2 : (fun s cutset t21 => (jfn Tryz.prog q2r_ 6 18446744073709551616 (Ev.get q2s_) 113 strings_TrimLeft_s) 14 [] (q5t_ s cutset t21)) = strings_TrimLeft_K2 := by funext s cutset t21; exact strings_TrimLeft_g2 s cutset t21
  rw [strings_TrimLeft_c1, e2]
  rfl
theorem strings_TrimLeft_t (x : As [.str, .str]) : evT Tryz.prog q2r_ 6 18446744073709551616 (Ev.get q2s_) 113 strings_TrimLeft_s x = strings_TrimLeft x := by
  have e1 : (fun s cutset t12 => (jfn Tryz.prog q2r_ 6 18446744073709551616 (Ev.get q2s_) 113 strings_TrimLeft_s) 6 [] (q5s_ s cutset t12)) = strings_TrimLeft_K1 := by funext s cutset t12; exact strings_TrimLeft_g1 s cutset t12
  rw [rfn_eq, strings_TrimLeft_c0, e1]
  rfl
theorem strings_TrimLeft_ok : CtOk Tryz.prog I0 113 ⟨strings_TrimLeft_s, strings_TrimLeft⟩ := q18_ (q0_ strings_trimLeftByte_ok (q0_ strings_makeASCIISet_ok (q0_ strings_trimLeftASCII_ok (q0_ strings_trimLeftUnicode_ok qa_)))) strings_TrimLeft_t
@[reducible] def qx_ : Sh := ⟨[.d .str, .d (.int .i64), .mp 0], [.sm (.int .u8) 3 [(0, (1 : Int), .agg [.fn (.func 100) [] [], .fn (.func 102) [] [], .fn (.func 104) [] []]), (1, (2 : Int), .agg [.fn (.func 105) [] [], .fn (.func 106) [] [], .fn (.func 107) [] []]), (2, (3 : Int), .agg [.fn (.func 108) [] [], .fn (.func 109) [] [], .fn (.func 110) [] []])]], [.str, .int .i64], [.d (.sl QAT1), .d (.int .i64)], [(0, .sm (.int .u8) 3 [(0, (1 : Int), .agg [.fn (.func 100) [] [], .fn (.func 102) [] [], .fn (.func 104) [] []]), (1, (2 : Int), .agg [.fn (.func 105) [] [], .fn (.func 106) [] [], .fn (.func 107) [] []]), (2, (3 : Int), .agg [.fn (.func 108) [] [], .fn (.func 109) [] [], .fn (.func 110) [] []])])], 0, [.sl QAT1, .int .i64]⟩
def q3a_ : Env := (cts [(100, (⟨q9g_, qj_⟩ : Ct)), (102, (⟨q4f_, q33_⟩ : Ct)), (104, (⟨qcf_, qbi_⟩ : Ct)), (105, (⟨q9i_, ql_⟩ : Ct)), (106, (⟨q4j_, q32_⟩ : Ct)), (107, (⟨qbo_, q9t_⟩ : Ct)), (108, (⟨q9h_, qm_⟩ : Ct)), (109, (⟨q4h_, q3x_⟩ : Ct)), (110, (⟨q9a_, q6v_⟩ : Ct)), (112, (⟨q1h_, q7k_⟩ : Ct)), (112, (⟨q1e_, q7j_⟩ : Ct)), (112, (⟨q1f_, q7l_⟩ : Ct)), (113, (⟨strings_TrimLeft_s, strings_TrimLeft⟩ : Ct))])
def q39_ : List (Nat × Hint) := [(31, ⟨[], [1, 9]⟩), (63, ⟨[], [9]⟩), (124, ⟨[.row 9 106], [1, 2, 3, 8, 9]⟩), (3975, ⟨[], [1, 2, 3, 8, 9, 10]⟩)]
def q4l_ (at' : Int) (text : List UInt8) (l : List QAT4) : St := { fr := [(1, .d (.int .i64) at'), (2, .mp 0), (3, .pb 1 0), (8, .fn (.func 112) [] [.pb 1 0]), (9, .row 2)], nt := 76, up := [], own := [(0, .sm (.int .u8) 3 [(0, 1, .agg [.fn (.func 100) [] [], .fn (.func 102) [] [], .fn (.func 104) [] []]), (1, 2, .agg [.fn (.func 105) [] [], .fn (.func 106) [] [], .fn (.func 107) [] []]), (2, 3, .agg [.fn (.func 108) [] [], .fn (.func 109) [] [], .fn (.func 110) [] []])]), (1, .box 9 [.d .str text]), (2, .row QAT1 106 l)], nx := 3, log := [], ln := 1 }
def qas_ (at' : Int) (l : List QAT4) : St := { fr := [(1, .d (.int .i64) at'), (9, .row 1)], nt := 76, up := [], own := [(0, .sm (.int .u8) 3 [(0, 1, .agg [.fn (.func 100) [] [], .fn (.func 102) [] [], .fn (.func 104) [] []]), (1, 2, .agg [.fn (.func 105) [] [], .fn (.func 106) [] [], .fn (.func 107) [] []]), (2, 3, .agg [.fn (.func 108) [] [], .fn (.func 109) [] [], .fn (.func 110) [] []])]), (1, .row QAT1 106 l)], nx := 2, log := [], ln := 1 }
def qap_ (at' : Int) (text : List UInt8) (l : List QAT4) (t : Int) (t_2 : List UInt8) (t_3 t_4 t_5 : Int) : St := { fr := [(1, .d (.int .i64) at'), (2, .mp 0), (3, .pb 1 0), (8, .fn (.func 112) [] [.pb 1 0]), (9, .row 2), (10, .pb 3 0)], nt := 76, up := [], own := [(0, .sm (.int .u8) 3 [(0, 1, .agg [.fn (.func 100) [] [], .fn (.func 102) [] [], .fn (.func 104) [] []]), (1, 2, .agg [.fn (.func 105) [] [], .fn (.func 106) [] [], .fn (.func 107) [] []]), (2, 3, .agg [.fn (.func 108) [] [], .fn (.func 109) [] [], .fn (.func 110) [] []])]), (1, .box 9 [.d .str text]), (2, .row QAT1 106 l), (3, .box 106 [.d (.int .u8) t, .d .str t_2, .d (.int .i64) t_3, .d (.int .u8) t_4, .d (.int .i64) t_5])], nx := 4, log := [], ln := 1 }
def qat_ (l : List QAT4) : St := { fr := [(9, .row 1)], nt := 76, up := [], own := [(0, .sm (.int .u8) 3 [(0, 1, .agg [.fn (.func 100) [] [], .fn (.func 102) [] [], .fn (.func 104) [] []]), (1, 2, .agg [.fn (.func 105) [] [], .fn (.func 106) [] [], .fn (.func 107) [] []]), (2, 3, .agg [.fn (.func 108) [] [], .fn (.func 109) [] [], .fn (.func 110) [] []])]), (1, .row QAT1 106 l)], nx := 2, log := [], ln := 1 }
def q6e_ (j2 : Int -> List QAT4 -> Option (As [.sl QAT1, .int .i64])) (j3 : Int -> List UInt8 -> List QAT4 -> Int -> List UInt8 -> Int -> Int -> Int -> Option (As [.sl QAT1, .int .i64])) (self1 : Int -> List UInt8 -> List QAT4 -> Option (As [.sl QAT1, .int .i64])) (at' : Int) (text : List UInt8) (l : List QAT4) : Option (As [.sl QAT1, .int .i64]) :=
  Option.bind (strings_TrimLeft (text, [9, 13, 32], ())) fun (y : List UInt8 × Unit) => if eqs y.1 [] = true then j2 at' l else amb (eqAs qx_.rs) [Option.bind (at? y.1 0) fun (c : UInt8) => Option.bind (qj_ (Int.ofNat (UInt8.toNat c), ())) fun (y_1 : Bool × Unit) => if y_1.1 = true then amb (eqAs qx_.rs) [Option.bind (at? y.1 0) fun (c : UInt8) => Option.bind (ql_ (Int.ofNat (UInt8.toNat c), ())) fun (y_2 : Bool × Unit) => if y_2.1 = true then Option.bind (at? y.1 0) fun (c : UInt8) => Option.bind (qm_ (Int.ofNat (UInt8.toNat c), ())) fun (y_3 : Bool × Unit) => if y_3.1 = true then j3 at' y.1 l 3 [] 0 0 at' else j3 at' y.1 l 2 [] 0 0 at' else Option.bind (at? y.1 0) fun (c : UInt8) => Option.bind (qm_ (Int.ofNat (UInt8.toNat c), ())) fun (y_3 : Bool × Unit) => if y_3.1 = true then j3 at' y.1 l 3 [] 0 0 at' else j3 at' y.1 l 1 [] 0 0 at', Option.bind (at? y.1 0) fun (c : UInt8) => Option.bind (qm_ (Int.ofNat (UInt8.toNat c), ())) fun (y_2 : Bool × Unit) => if y_2.1 = true then Option.bind (at? y.1 0) fun (c : UInt8) => Option.bind (ql_ (Int.ofNat (UInt8.toNat c), ())) fun (y_3 : Bool × Unit) => if y_3.1 = true then j3 at' y.1 l 2 [] 0 0 at' else j3 at' y.1 l 3 [] 0 0 at' else Option.bind (at? y.1 0) fun (c : UInt8) => Option.bind (ql_ (Int.ofNat (UInt8.toNat c), ())) fun (y_3 : Bool × Unit) => if y_3.1 = true then j3 at' y.1 l 2 [] 0 0 at' else j3 at' y.1 l 1 [] 0 0 at'] else amb (eqAs qx_.rs) [Option.bind (at? y.1 0) fun (c : UInt8) => Option.bind (ql_ (Int.ofNat (UInt8.toNat c), ())) fun (y_2 : Bool × Unit) => if y_2.1 = true then Option.bind (at? y.1 0) fun (c : UInt8) => Option.bind (qm_ (Int.ofNat (UInt8.toNat c), ())) fun (y_3 : Bool × Unit) => if y_3.1 = true then j3 at' y.1 l 3 [] 0 0 at' else j3 at' y.1 l 2 [] 0 0 at' else Option.bind (at? y.1 0) fun (c : UInt8) => Option.bind (qm_ (Int.ofNat (UInt8.toNat c), ())) fun (y_3 : Bool × Unit) => if y_3.1 = true then j3 at' y.1 l 3 [] 0 0 at' else j3 at' y.1 l 0 [] 0 0 at', Option.bind (at? y.1 0) fun (c : UInt8) => Option.bind (qm_ (Int.ofNat (UInt8.toNat c), ())) fun (y_2 : Bool × Unit) => if y_2.1 = true then Option.bind (at? y.1 0) fun (c : UInt8) => Option.bind (ql_ (Int.ofNat (UInt8.toNat c), ())) fun (y_3 : Bool × Unit) => if y_3.1 = true then j3 at' y.1 l 2 [] 0 0 at' else j3 at' y.1 l 3 [] 0 0 at' else Option.bind (at? y.1 0) fun (c : UInt8) => Option.bind (ql_ (Int.ofNat (UInt8.toNat c), ())) fun (y_3 : Bool × Unit) => if y_3.1 = true then j3 at' y.1 l 2 [] 0 0 at' else j3 at' y.1 l 0 [] 0 0 at'], Option.bind (at? y.1 0) fun (c : UInt8) => Option.bind (ql_ (Int.ofNat (UInt8.toNat c), ())) fun (y_1 : Bool × Unit) => if y_1.1 = true then amb (eqAs qx_.rs) [Option.bind (at? y.1 0) fun (c : UInt8) => Option.bind (qj_ (Int.ofNat (UInt8.toNat c), ())) fun (y_2 : Bool × Unit) => if y_2.1 = true then Option.bind (at? y.1 0) fun (c : UInt8) => Option.bind (qm_ (Int.ofNat (UInt8.toNat c), ())) fun (y_3 : Bool × Unit) => if y_3.1 = true then j3 at' y.1 l 3 [] 0 0 at' else j3 at' y.1 l 1 [] 0 0 at' else Option.bind (at? y.1 0) fun (c : UInt8) => Option.bind (qm_ (Int.ofNat (UInt8.toNat c), ())) fun (y_3 : Bool × Unit) => if y_3.1 = true then j3 at' y.1 l 3 [] 0 0 at' else j3 at' y.1 l 2 [] 0 0 at', Option.bind (at? y.1 0) fun (c : UInt8) => Option.bind (qm_ (Int.ofNat (UInt8.toNat c), ())) fun (y_2 : Bool × Unit) => if y_2.1 = true then Option.bind (at? y.1 0) fun (c : UInt8) => Option.bind (qj_ (Int.ofNat (UInt8.toNat c), ())) fun (y_3 : Bool × Unit) => if y_3.1 = true then j3 at' y.1 l 1 [] 0 0 at' else j3 at' y.1 l 3 [] 0 0 at' else Option.bind (at? y.1 0) fun (c : UInt8) => Option.bind (qj_ (Int.ofNat (UInt8.toNat c), ())) fun (y_3 : Bool × Unit) => if y_3.1 = true then j3 at' y.1 l 1 [] 0 0 at' else j3 at' y.1 l 2 [] 0 0 at'] else amb (eqAs qx_.rs) [Option.bind (at? y.1 0) fun (c : UInt8) => Option.bind (qj_ (Int.ofNat (UInt8.toNat c), ())) fun (y_2 : Bool × Unit) => if y_2.1 = true then Option.bind (at? y.1 0) fun (c : UInt8) => Option.bind (qm_ (Int.ofNat (UInt8.toNat c), ())) fun (y_3 : Bool × Unit) => if y_3.1 = true then j3 at' y.1 l 3 [] 0 0 at' else j3 at' y.1 l 1 [] 0 0 at' else Option.bind (at? y.1 0) fun (c : UInt8) => Option.bind (qm_ (Int.ofNat (UInt8.toNat c), ())) fun (y_3 : Bool × Unit) => if y_3.1 = true then j3 at' y.1 l 3 [] 0 0 at' else j3 at' y.1 l 0 [] 0 0 at', Option.bind (at? y.1 0) fun (c : UInt8) => Option.bind (qm_ (Int.ofNat (UInt8.toNat c), ())) fun (y_2 : Bool × Unit) => if y_2.1 = true then Option.bind (at? y.1 0) fun (c : UInt8) => Option.bind (qj_ (Int.ofNat (UInt8.toNat c), ())) fun (y_3 : Bool × Unit) => if y_3.1 = true then j3 at' y.1 l 1 [] 0 0 at' else j3 at' y.1 l 3 [] 0 0 at' else Option.bind (at? y.1 0) fun (c : UInt8) => Option.bind (qj_ (Int.ofNat (UInt8.toNat c), ())) fun (y_3 : Bool × Unit) => if y_3.1 = true then j3 at' y.1 l 1 [] 0 0 at' else j3 at' y.1 l 0 [] 0 0 at'], Option.bind (at? y.1 0) fun (c : UInt8) => Option.bind (qm_ (Int.ofNat (UInt8.toNat c), ())) fun (y_1 : Bool × Unit) => if y_1.1 = true then amb (eqAs qx_.rs) [Option.bind (at? y.1 0) fun (c : UInt8) => Option.bind (qj_ (Int.ofNat (UInt8.toNat c), ())) fun (y_2 : Bool × Unit) => if y_2.1 = true then Option.bind (at? y.1 0) fun (c : UInt8) => Option.bind (ql_ (Int.ofNat (UInt8.toNat c), ())) fun (y_3 : Bool × Unit) => if y_3.1 = true then j3 at' y.1 l 2 [] 0 0 at' else j3 at' y.1 l 1 [] 0 0 at' else Option.bind (at? y.1 0) fun (c : UInt8) => Option.bind (ql_ (Int.ofNat (UInt8.toNat c), ())) fun (y_3 : Bool × Unit) => if y_3.1 = true then j3 at' y.1 l 2 [] 0 0 at' else j3 at' y.1 l 3 [] 0 0 at', Option.bind (at? y.1 0) fun (c : UInt8) => Option.bind (ql_ (Int.ofNat (UInt8.toNat c), ())) fun (y_2 : Bool × Unit) => if y_2.1 = true then Option.bind (at? y.1 0) fun (c : UInt8) => Option.bind (qj_ (Int.ofNat (UInt8.toNat c), ())) fun (y_3 : Bool × Unit) => if y_3.1 = true then j3 at' y.1 l 1 [] 0 0 at' else j3 at' y.1 l 2 [] 0 0 at' else Option.bind (at? y.1 0) fun (c : UInt8) => Option.bind (qj_ (Int.ofNat (UInt8.toNat c), ())) fun (y_3 : Bool × Unit) => if y_3.1 = true then j3 at' y.1 l 1 [] 0 0 at' else j3 at' y.1 l 3 [] 0 0 at'] else amb (eqAs qx_.rs) [Option.bind (at? y.1 0) fun (c : UInt8) => Option.bind (qj_ (Int.ofNat (UInt8.toNat c), ())) fun (y_2 : Bool × Unit) => if y_2.1 = true then Option.bind (at? y.1 0) fun (c : UInt8) => Option.bind (ql_ (Int.ofNat (UInt8.toNat c), ())) fun (y_3 : Bool × Unit) => if y_3.1 = true then j3 at' y.1 l 2 [] 0 0 at' else j3 at' y.1 l 1 [] 0 0 at' else Option.bind (at? y.1 0) fun (c : UInt8) => Option.bind (ql_ (Int.ofNat (UInt8.toNat c), ())) fun (y_3 : Bool × Unit) => if y_3.1 = true then j3 at' y.1 l 2 [] 0 0 at' else j3 at' y.1 l 0 [] 0 0 at', Option.bind (at? y.1 0) fun (c : UInt8) => Option.bind (ql_ (Int.ofNat (UInt8.toNat c), ())) fun (y_2 : Bool × Unit) => if y_2.1 = true then Option.bind (at? y.1 0) fun (c : UInt8) => Option.bind (qj_ (Int.ofNat (UInt8.toNat c), ())) fun (y_3 : Bool × Unit) => if y_3.1 = true then j3 at' y.1 l 1 [] 0 0 at' else j3 at' y.1 l 2 [] 0 0 at' else Option.bind (at? y.1 0) fun (c : UInt8) => Option.bind (qj_ (Int.ofNat (UInt8.toNat c), ())) fun (y_3 : Bool × Unit) => if y_3.1 = true then j3 at' y.1 l 1 [] 0 0 at' else j3 at' y.1 l 0 [] 0 0 at']]
def qc0_ (j4 : List QAT4 -> Option (As [.sl QAT1, .int .i64])) (at' : Int) (l : List QAT4) : Option (As [.sl QAT1, .int .i64]) :=
  if gt (Int.ofNat (List.length l)) 0 = true then need (small (List.length l + Nat.succ 0)) (j4 (l ++ [(4, [], (0, 0), at')])) else j4 l
def qbx_ (self1 : Int -> List UInt8 -> List QAT4 -> Option (As [.sl QAT1, .int .i64])) (at' : Int) (text : List UInt8) (l : List QAT4) (t : Int) (t_2 : List UInt8) (t_3 t_4 t_5 : Int) : Option (As [.sl QAT1, .int .i64]) :=
  if eqi 1 t = true then Option.bind (q7k_ (text, ())) fun (y : List UInt8 × List UInt8 × Unit) => Option.bind (qbi_ (t, y.1, t_3, t_4, t_5, ())) fun (y_1 : Int × Int × List UInt8 × Int × Int × Int × Unit) => if nei y_1.1 0 = true then some ([], y_1.1, ()) else need (small (List.length l + Nat.succ 0)) (self1 at' y.2.1 (l ++ [(y_1.2.1, y_1.2.2.1, (y_1.2.2.2.1, y_1.2.2.2.2.1), y_1.2.2.2.2.2.1)])) else if eqi 2 t = true then Option.bind (q7j_ (text, ())) fun (y : List UInt8 × List UInt8 × Unit) => Option.bind (q9t_ (t, y.1, t_3, t_4, t_5, ())) fun (y_1 : Int × Int × List UInt8 × Int × Int × Int × Unit) => if nei y_1.1 0 = true then some ([], y_1.1, ()) else need (small (List.length l + Nat.succ 0)) (self1 at' y.2.1 (l ++ [(y_1.2.1, y_1.2.2.1, (y_1.2.2.2.1, y_1.2.2.2.2.1), y_1.2.2.2.2.2.1)])) else if eqi 3 t = true then Option.bind (q7l_ (text, ())) fun (y : List UInt8 × List UInt8 × Unit) => Option.bind (q6v_ (t, y.1, t_3, t_4, t_5, ())) fun (y_1 : Int × Int × List UInt8 × Int × Int × Int × Unit) => if nei y_1.1 0 = true then some ([], y_1.1, ()) else need (small (List.length l + Nat.succ 0)) (self1 at' y.2.1 (l ++ [(y_1.2.1, y_1.2.2.1, (y_1.2.2.2.1, y_1.2.2.2.2.1), y_1.2.2.2.2.2.1)])) else some ([], 131, ())
def qdy_ (l : List QAT4) : Option (As [.sl QAT1, .int .i64]) :=
  some (l, 0, ())
def qaq_ (j1 : Int -> List UInt8 -> List QAT4 -> Option (As [.sl QAT1, .int .i64])) (text : List UInt8) (at' : Int) : Option (As [.sl QAT1, .int .i64]) :=
  if eqs [35] text = true then Option.bind (cut text 1 (Int.ofNat (List.length text))) fun (y : List UInt8) => j1 at' [] [] else if ge (Go.Lib.indexByte text 35) 0 = true then Option.bind (cut text 0 (Go.Lib.indexByte text 35)) fun (y : List UInt8) => Option.bind (cut text (add .i64 (Go.Lib.indexByte text 35) 1) (Int.ofNat (List.length text))) fun (y_1 : List UInt8) => j1 at' y [] else j1 at' text []
def qbz_ (l : List QAT4) : Option (As [.sl QAT1, .int .i64]) := qdy_ l
def q8y_ (at' : Int) (l : List QAT4) : Option (As [.sl QAT1, .int .i64]) := qc0_ (qbz_) at' l
def q8z_ (u1 : Int -> List UInt8 -> List QAT4 -> Option (As [.sl QAT1, .int .i64])) (at' : Int) (text : List UInt8) (l : List QAT4) (t : Int) (t_2 : List UInt8) (t_3 t_4 t_5 : Int) : Option (As [.sl QAT1, .int .i64]) := qbx_ u1 at' text l t t_2 t_3 t_4 t_5
def q8x_ (at' : Int) (text : List UInt8) (l : List QAT4) : Option (As [.sl QAT1, .int .i64]) :=
  loopF (fun (self : (Int) × (List UInt8) × (List QAT4) -> Option (As [.sl QAT1, .int .i64])) (s : (Int) × (List UInt8) × (List QAT4)) => q6e_ (q8y_) (q8z_ (fun at' text l => self (at', text, l))) (fun at' text l => self (at', text, l)) s.1 s.2.1 s.2.2) 18446744073709551616 (at', text, l)
def q89_ (x : As [.str, .int .i64]) : Option (As [.sl QAT1, .int .i64]) := qaq_ q8x_ x.1 x.2.1
theorem ql9_  (J l) : pfn Tryz.prog q3a_ 6 18446744073709551616 (Ev.get q39_) 72 qx_ J 63 [] (qat_ l) = qdy_ l := by kernel_rfl
theorem qlh_  (J at' l) : pfn Tryz.prog q3a_ 6 18446744073709551616 (Ev.get q39_) 72 qx_ J 31 [] (qas_ at' l) = qc0_ (fun l => J 63 [] (qat_ l)) at' l := by kernel_rfl
theorem qlk_  (J w1 at' text l t t_2 t_3 t_4 t_5) : pfn Tryz.prog q3a_ 6 18446744073709551616 (Ev.get q39_) 72 qx_ J 3975 [w1] (qap_ at' text l t t_2 t_3 t_4 t_5) = qbx_ (fun at' text l => w1 (q4l_ at' text l)) at' text l t t_2 t_3 t_4 t_5 := by kernel_rfl
theorem qla_  (J w1 at' text l) : pfn Tryz.prog q3a_ 6 18446744073709551616 (Ev.get q39_) 72 qx_ J 124 [w1] (q4l_ at' text l) = q6e_ (fun at' l => J 31 [] (qas_ at' l)) (fun at' text l t t_2 t_3 t_4 t_5 => J 3975 [w1] (qap_ at' text l t t_2 t_3 t_4 t_5)) (fun at' text l => w1 (q4l_ at' text l)) at' text l := by kernel_rfl
theorem qlw_ (J : Orc (As [.sl QAT1, .int .i64])) (x : As [.str, .int .i64]) : rfn Tryz.prog q3a_ 6 18446744073709551616 (Ev.get q39_) 72 qx_ J x = qaq_ (fun at' text l => J 124 [] (q4l_ at' text l)) x.1 x.2.1 := by kernel_rfl
theorem qln_  (l) : jfn Tryz.prog q3a_ 6 18446744073709551616 (Ev.get q39_) 72 qx_ 63 [] (qat_ l) = qbz_ l := by
  rw [q5_ (by decide)]
  rw [ql9_]
  rfl
theorem qlf_  (at' l) : jfn Tryz.prog q3a_ 6 18446744073709551616 (Ev.get q39_) 72 qx_ 31 [] (qas_ at' l) = q8y_ at' l := by
  rw [q5_ (by decide)]
  have e4 : (fun l => (jfn Tryz.prog q3a_ 6 18446744073709551616 (Ev.get q39_) 72 qx_) 63 [] (qat_ l)) = qbz_ := funext fun l => qln_ l
  rw [qlh_, e4]
  rfl
theorem qlj_  (w1 at' text l t t_2 t_3 t_4 t_5) : jfn Tryz.prog q3a_ 6 18446744073709551616 (Ev.get q39_) 72 qx_ 3975 [w1] (qap_ at' text l t t_2 t_3 t_4 t_5) = q8z_ (fun at' text l => w1 (q4l_ at' text l)) at' text l t t_2 t_3 t_4 t_5 := by
  rw [q5_ (by decide)]
  rw [qlk_]
  rfl
theorem qll_  (at' text l) : jfn Tryz.prog q3a_ 6 18446744073709551616 (Ev.get q39_) 72 qx_ 124 [] (q4l_ at' text l) = q8x_ at' text l := by
  rw [q5_ (by decide)]
  rw [q16_ (by kernel_rfl)]
  refine qp_ (σ := (Int) × (List UInt8) × (List QAT4)) (mk := fun s => q4l_ s.1 s.2.1 s.2.2) (fun w1 s => ?_) 18446744073709551616 (at', text, l)
  have e2 : (fun at' l => (jfn Tryz.prog q3a_ 6 18446744073709551616 (Ev.get q39_) 72 qx_) 31 [] (qas_ at' l)) = q8y_ := by funext at' l; exact qlf_ at' l
  have e3 : (fun at' text l t t_2 t_3 t_4 t_5 => (jfn Tryz.prog q3a_ 6 18446744073709551616 (Ev.get q39_) 72 qx_) 3975 [w1] (qap_ at' text l t t_2 t_3 t_4 t_5)) = q8z_ (fun at' text l => w1 (q4l_ at' text l)) := by funext at' text l t t_2 t_3 t_4 t_5; exact qlj_ w1 at' text l t t_2 t_3 t_4 t_5
  refine (qla_ _ w1 s.1 s.2.1 s.2.2).trans ?_
  rw [e2, e3]
theorem qm1_ (x : As [.str, .int .i64]) : evT Tryz.prog q3a_ 6 18446744073709551616 (Ev.get q39_) 72 qx_ x = q89_ x := by
  have e1 : (fun at' text l => (jfn Tryz.prog q3a_ 6 18446744073709551616 (Ev.get q39_) 72 qx_) 124 [] (q4l_ at' text l)) = q8x_ := by funext at' text l; exact qll_ at' text l
  rw [rfn_eq, qlw_, e1]
  rfl
theorem qlq_ : CtOk Tryz.prog I0 72 ⟨qx_, q89_⟩ := q18_ (q0_ qb8_ (q0_ q50_ (q0_ qdx_ (q0_ qba_ (q0_ q52_ (q0_ qcp_ (q0_ qb9_ (q0_ q51_ (q0_ qb7_ (q0_ qei_ (q0_ qe7_ (q0_ qed_ (q0_ strings_TrimLeft_ok qa_))))))))))))) qm1_
@[reducible] def q56_ : Sh := ⟨[.d (.str)], [], [.str], [.d (.sl QAT1), .d (.pr (.int .i64) (.int .i64))], [], 0, [.sl QAT1, .pr (.int .i64) (.int .i64)]⟩
def q72_ : Env := (cts [(72, (⟨qx_, q89_⟩ : Ct)), (100, (⟨q9g_, qj_⟩ : Ct)), (102, (⟨q4f_, q33_⟩ : Ct)), (104, (⟨qcf_, qbi_⟩ : Ct)), (105, (⟨q9i_, ql_⟩ : Ct)), (106, (⟨q4j_, q32_⟩ : Ct)), (107, (⟨qbo_, q9t_⟩ : Ct)), (108, (⟨q9h_, qm_⟩ : Ct)), (109, (⟨q4h_, q3x_⟩ : Ct)), (110, (⟨q9a_, q6v_⟩ : Ct))])
def q73_ : List (Nat × Hint) := [(31, ⟨[], [3, 5]⟩), (250, ⟨[.row 5 106], [0, 3, 4, 5, 6]⟩)]
def q8s_ (text : List UInt8) (n t3 t3_2 : Int) (l : List QAT4) : St := { fr := [(0, .d .str text), (3, .pb 0 0), (4, .mp 1), (5, .row 2), (6, .d (.int .i64) n)], nt := 45, up := [], own := [(0, .box 33 [.d (.int .i64) t3, .d (.int .i64) t3_2]), (1, .sm (.int .u8) 3 [(0, 1, .agg [.fn (.func 100) [] [], .fn (.func 102) [] [], .fn (.func 104) [] []]), (1, 2, .agg [.fn (.func 105) [] [], .fn (.func 106) [] [], .fn (.func 107) [] []]), (2, 3, .agg [.fn (.func 108) [] [], .fn (.func 109) [] [], .fn (.func 110) [] []])]), (2, .row QAT1 106 l)], nx := 3, log := [], ln := 0 }
def qbc_ (t3 t3_2 : Int) (l : List QAT4) : St := { fr := [(3, .pb 0 0), (5, .row 1)], nt := 45, up := [], own := [(0, .box 33 [.d (.int .i64) t3, .d (.int .i64) t3_2]), (1, .row QAT1 106 l)], nx := 2, log := [], ln := 0 }
def q9q_ (j2 : Int -> Int -> List QAT4 -> Option (As [.sl QAT1, .pr (.int .i64) (.int .i64)])) (self1 : List UInt8 -> Int -> Int -> Int -> List QAT4 -> Option (As [.sl QAT1, .pr (.int .i64) (.int .i64)])) (text : List UInt8) (n t3 t3_2 : Int) (l : List QAT4) : Option (As [.sl QAT1, .pr (.int .i64) (.int .i64)]) :=
  if nes text [] = true then if eqs [10] text = true then Option.bind (cut text 1 (Int.ofNat (List.length text))) fun (y : List UInt8) => Option.bind (q89_ ([], n, ())) fun (y_1 : List QAT4 × Int × Unit) => if nei y_1.2.1 0 = true then some ([], (y_1.2.1, n), ()) else need (small (List.length l + List.length y_1.1)) (self1 y (add .i64 n 1) t3 t3_2 (l ++ y_1.1)) else if ge (Go.Lib.indexByte text 10) 0 = true then Option.bind (cut text 0 (Go.Lib.indexByte text 10)) fun (y : List UInt8) => Option.bind (cut text (add .i64 (Go.Lib.indexByte text 10) 1) (Int.ofNat (List.length text))) fun (y_1 : List UInt8) => Option.bind (q89_ (y, n, ())) fun (y : List QAT4 × Int × Unit) => if nei y.2.1 0 = true then some ([], (y.2.1, n), ()) else need (small (List.length l + List.length y.1)) (self1 y_1 (add .i64 n 1) t3 t3_2 (l ++ y.1)) else Option.bind (q89_ (text, n, ())) fun (y : List QAT4 × Int × Unit) => if nei y.2.1 0 = true then some ([], (y.2.1, n), ()) else need (small (List.length l + List.length y.1)) (self1 [] (add .i64 n 1) t3 t3_2 (l ++ y.1)) else j2 t3 t3_2 l
def qf4_ (t3 t3_2 : Int) (l : List QAT4) : Option (As [.sl QAT1, .pr (.int .i64) (.int .i64)]) :=
  some (l, (0, 0), ())
def qbe_ (j1 : List UInt8 -> Int -> Int -> Int -> List QAT4 -> Option (As [.sl QAT1, .pr (.int .i64) (.int .i64)])) (text : List UInt8) : Option (As [.sl QAT1, .pr (.int .i64) (.int .i64)]) :=
  if gt (Int.ofNat (List.length text)) 8192 = true then some ([], (130, 0), ()) else j1 text 1 0 0 []
def qbb_ (t3 t3_2 : Int) (l : List QAT4) : Option (As [.sl QAT1, .pr (.int .i64) (.int .i64)]) := qf4_ t3 t3_2 l
def qbd_ (text : List UInt8) (n t3 t3_2 : Int) (l : List QAT4) : Option (As [.sl QAT1, .pr (.int .i64) (.int .i64)]) :=
  loopF (fun (self : (List UInt8) × (Int) × (Int) × (Int) × (List QAT4) -> Option (As [.sl QAT1, .pr (.int .i64) (.int .i64)])) (s : (List UInt8) × (Int) × (Int) × (Int) × (List QAT4)) => q9q_ (qbb_) (fun text n t3 t3_2 l => self (text, n, t3, t3_2, l)) s.1 s.2.1 s.2.2.1 s.2.2.2.1 s.2.2.2.2) 18446744073709551616 (text, n, t3, t3_2, l)
def qc6_ (x : As [.str]) : Option (As [.sl QAT1, .pr (.int .i64) (.int .i64)]) := qbe_ qbd_ x.1
theorem qm0_  (J t3 t3_2 l) : pfn Tryz.prog q72_ 6 18446744073709551616 (Ev.get q73_) 39 q56_ J 31 [] (qbc_ t3 t3_2 l) = qf4_ t3 t3_2 l := by kernel_rfl
theorem qm6_  (J w1 text n t3 t3_2 l) : pfn Tryz.prog q72_ 6 18446744073709551616 (Ev.get q73_) 39 q56_ J 250 [w1] (q8s_ text n t3 t3_2 l) = q9q_ (fun t3 t3_2 l => J 31 [] (qbc_ t3 t3_2 l)) (fun text n t3 t3_2 l => w1 (q8s_ text n t3 t3_2 l)) text n t3 t3_2 l := by kernel_rfl
theorem qm3_ (J : Orc (As [.sl QAT1, .pr (.int .i64) (.int .i64)])) (x : As [.str]) : rfn Tryz.prog q72_ 6 18446744073709551616 (Ev.get q73_) 39 q56_ J x = qbe_ (fun text n t3 t3_2 l => J 250 [] (q8s_ text n t3 t3_2 l)) x.1 := by kernel_rfl
theorem qm4_  (t3 t3_2 l) : jfn Tryz.prog q72_ 6 18446744073709551616 (Ev.get q73_) 39 q56_ 31 [] (qbc_ t3 t3_2 l) = qbb_ t3 t3_2 l := by
  rw [q5_ (by decide)]
  rw [qm0_]
  rfl
theorem qlz_  (text n t3 t3_2 l) : jfn Tryz.prog q72_ 6 18446744073709551616 (Ev.get q73_) 39 q56_ 250 [] (q8s_ text n t3 t3_2 l) = qbd_ text n t3 t3_2 l := by
  rw [q5_ (by decide)]
  rw [q16_ (by kernel_rfl)]
  refine qp_ (σ := (List UInt8) × (Int) × (Int) × (Int) × (List QAT4)) (mk := fun s => q8s_ s.1 s.2.1 s.2.2.1 s.2.2.2.1 s.2.2.2.2) (fun w1 s => ?_) 18446744073709551616 (text, n, t3, t3_2, l)
  have e2 : (fun t3 t3_2 l => (jfn Tryz.prog q72_ 6 18446744073709551616 (Ev.get q73_) 39 q56_) 31 [] (qbc_ t3 t3_2 l)) = qbb_ := by funext t3 t3_2 l; exact qm4_ t3 t3_2 l
  refine (qm6_ _ w1 s.1 s.2.1 s.2.2.1 s.2.2.2.1 s.2.2.2.2).trans ?_
  rw [e2]
theorem qm8_ (x : As [.str]) : evT Tryz.prog q72_ 6 18446744073709551616 (Ev.get q73_) 39 q56_ x = qc6_ x := by
  have e1 : (fun text n t3 t3_2 l => (jfn Tryz.prog q72_ 6 18446744073709551616 (Ev.get q73_) 39 q56_) 250 [] (q8s_ text n t3 t3_2 l)) = qbd_ := by funext text n t3 t3_2 l; exact qlz_ text n t3 t3_2 l
  rw [rfn_eq, qm3_, e1]
  rfl
theorem qm7_ : CtOk Tryz.prog I0 39 ⟨q56_, qc6_⟩ := q18_ (q0_ qlq_ (q0_ qb8_ (q0_ q50_ (q0_ qdx_ (q0_ qba_ (q0_ q52_ (q0_ qcp_ (q0_ qb9_ (q0_ q51_ (q0_ qb7_ qa_)))))))))) qm8_
def qex_ (c : Int) : Option (As [.bool]) :=
  if ge c 97 = true then if le c 122 = true then some (true, ()) else if ge c 65 = true then if le c 90 = true then some (true, ()) else some (eqi c 37, ()) else some (eqi c 37, ()) else if ge c 65 = true then if le c 90 = true then some (true, ()) else some (eqi c 37, ()) else some (eqi c 37, ())
def qd9_ (x : As [.int .u8]) : Option (As [.bool]) := qex_ x.1
def qgk_ (c : Int) : Option (As [.bool]) :=
  if ge c 48 = true then some (le c 57, ()) else some (false, ())
def qby_ (x : As [.int .u8]) : Option (As [.bool]) := qgk_ x.1
def qjc_ (kind c : Int) : Option (As [.bool]) :=
  if eqi kind 1 = true then Option.bind (qd9_ (c, ())) fun (y : Bool × Unit) => if y.1 = true then some (true, ()) else Option.bind (qby_ (c, ())) fun (y : Bool × Unit) => if y.1 = true then some (true, ()) else some (eqi c 95, ()) else Option.bind (qby_ (c, ())) fun (y : Bool × Unit) => if y.1 = true then some (true, ()) else if eqi c 46 = true then some (true, ()) else some (eqi c 45, ())
def qm2_ (x : As [.int .u8, .int .u8]) : Option (As [.bool]) := qjc_ x.1 x.2.1
def qlp_ (j2 : Int -> Int -> Bool -> Int -> Int -> Option (As [.pr (.int .i64) (.int .u8), .bool])) (self1 : Int -> Int -> Int -> Int -> Option (As [.pr (.int .i64) (.int .u8), .bool])) (n digits t4 t4_2 : Int) : Option (As [.pr (.int .i64) (.int .u8), .bool]) :=
  if gt digits 0 = true then j2 n digits (eqi (rem n 10) 0) t4 t4_2 else j2 n digits false t4 t4_2
def qlo_ (j3 self1 : Int -> Int -> Int -> Int -> Option (As [.pr (.int .i64) (.int .u8), .bool])) (n digits : Int) (t12 : Bool) (t4 t4_2 : Int) : Option (As [.pr (.int .i64) (.int .u8), .bool]) :=
  if t12 = true then self1 (quo .i64 n 10) (Sx.sub .i64 digits 1) t4 t4_2 else j3 n digits t4 t4_2
def qlt_ (j4 : Int -> Int -> Bool -> Int -> Int -> Option (As [.pr (.int .i64) (.int .u8), .bool])) (n digits t4 t4_2 : Int) : Option (As [.pr (.int .i64) (.int .u8), .bool]) :=
  if gt digits 6 = true then j4 n digits true t4 t4_2 else if gt n 1000000000000 = true then j4 n digits true t4 t4_2 else j4 n digits (lt n (-1000000000000)) t4 t4_2
def qlb_ (n digits : Int) (t26 : Bool) (t4 t4_2 : Int) : Option (As [.pr (.int .i64) (.int .u8), .bool]) :=
  if t26 = true then some ((0, 0), false, ()) else some ((n, cvt .u8 digits), true, ())
def qlr_ (j1 : Int -> Int -> Int -> Int -> Option (As [.pr (.int .i64) (.int .u8), .bool])) (n digits : Int) : Option (As [.pr (.int .i64) (.int .u8), .bool]) :=
  j1 n digits 0 0
def qls_ (n digits : Int) (t26 : Bool) (t4 t4_2 : Int) : Option (As [.pr (.int .i64) (.int .u8), .bool]) := qlb_ n digits t26 t4 t4_2
def qlx_ (n digits t4 t4_2 : Int) : Option (As [.pr (.int .i64) (.int .u8), .bool]) := qlt_ (qls_) n digits t4 t4_2
def qli_ (u1 : Int -> Int -> Int -> Int -> Option (As [.pr (.int .i64) (.int .u8), .bool])) (n digits : Int) (t12 : Bool) (t4 t4_2 : Int) : Option (As [.pr (.int .i64) (.int .u8), .bool]) := qlo_ (qlx_) u1 n digits t12 t4 t4_2
def qlv_ (n digits t4 t4_2 : Int) : Option (As [.pr (.int .i64) (.int .u8), .bool]) :=
  loopF (fun (self : (Int) × (Int) × (Int) × (Int) -> Option (As [.pr (.int .i64) (.int .u8), .bool])) (s : (Int) × (Int) × (Int) × (Int)) => qlp_ (qli_ (fun n digits t4 t4_2 => self (n, digits, t4, t4_2))) (fun n digits t4 t4_2 => self (n, digits, t4, t4_2)) s.1 s.2.1 s.2.2.1 s.2.2.2) 18446744073709551616 (n, digits, t4, t4_2)
def qma_ (x : As [.int .i64, .int .i64]) : Option (As [.pr (.int .i64) (.int .u8), .bool]) := qlr_ qlv_ x.1 x.2.1
end Go.Proofs.Lx
end
