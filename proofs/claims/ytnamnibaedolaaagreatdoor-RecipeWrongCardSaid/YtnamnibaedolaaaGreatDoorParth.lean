/- Proved in the last of these 10 parts (this is part 8): the law RecipeWrong of chapter 14 returns true at every recipe, every place and every line. Conditions: those of the given statement, and no others. -/
import Derived.Test.YtnamnibaedolaaaGreatDoorParte
import Derived.Test.YtnamnibaedolaaaGreatDoorPartg
import Derived.Test.YtnamnibaedolaaaGreatDoorProg
import Derived.Shelf.Strings.Repeat
import Derived.Ground.Names2Prog
set_option linter.unusedVariables false
set_option linter.unusedSimpArgs false
set_option linter.unusedSectionVars false
section
open Go Go.Proofs Ev Sx
set_option maxRecDepth 100000
namespace Go.Proofs.Lx
@[reducible] def q3w_ : Sh := ⟨[.d (.pr .str (.sl QAT2)), .d (.pr .str (.sl QAT2))], [], [.pr .str (.sl QAT2), .pr .str (.sl QAT2)], [.d (.bool)], [], 0, [.bool]⟩
def q4j_ : Env := (cts [(20, (⟨q9_, qae_⟩ : Ct))])
def q4k_ : List (Nat × Hint) := [(58, ⟨[], [2, 3, 13, 14]⟩), (29902, ⟨[], [2, 3, 5, 13, 14, 36, 37]⟩)]
def q3i_ (t13 t14 : Int) (a b : List UInt8 × List QAT0) : St := { fr := [(2, .pb 0 0), (3, .pb 1 0), (13, .d (.int .i64) t13), (14, .d (.int .i64) t14)], nt := 63, up := [], own := [(0, .box 26 [.d .str a.1, .d (.sl QAT2) a.2]), (1, .box 26 [.d .str b.1, .d (.sl QAT2) b.2])], nx := 2, log := [], ln := 0 }
def q5u_ (i t13 t14 t36 t37 : Int) (a b : List UInt8 × List QAT0) : St := { fr := [(2, .pb 0 0), (3, .pb 1 0), (5, .d (.int .i64) i), (13, .d (.int .i64) t13), (14, .d (.int .i64) t14), (36, .d (.int .i64) t36), (37, .d (.int .i64) t37)], nt := 63, up := [], own := [(0, .box 26 [.d .str a.1, .d (.sl QAT2) a.2]), (1, .box 26 [.d .str b.1, .d (.sl QAT2) b.2])], nx := 2, log := [], ln := 0 }
def qcz_ (j2 : Int -> Int -> Int -> Int -> Int -> List UInt8 × List QAT0 -> List UInt8 × List QAT0 -> Option (As [.bool])) (self1 : Int -> Int -> List UInt8 × List QAT0 -> List UInt8 × List QAT0 -> Option (As [.bool])) (t13 t14 : Int) (a b : List UInt8 × List QAT0) : Option (As [.bool]) :=
  if lt t14 t13 = true then Option.bind (at? a.2 t14) fun (y : List UInt8 × Int × List QAT3) => Option.bind (at? b.2 t14) fun (y_1 : List UInt8 × Int × List QAT3) => if nei y.2.1 y_1.2.1 = true then some (false, ()) else Option.bind (at? a.2 t14) fun (y : List UInt8 × Int × List QAT3) => j2 t14 t13 t14 (Int.ofNat (List.length y.2.2)) 0 a b else some (true, ())
def qcx_ (self1 : Int -> Int -> List UInt8 × List QAT0 -> List UInt8 × List QAT0 -> Option (As [.bool])) (self2 : Int -> Int -> Int -> Int -> Int -> List UInt8 × List QAT0 -> List UInt8 × List QAT0 -> Option (As [.bool])) (i t13 t14 t36 t37 : Int) (a b : List UInt8 × List QAT0) : Option (As [.bool]) :=
  if lt t37 t36 = true then Option.bind (at? a.2 i) fun (y : List UInt8 × Int × List QAT3) => Option.bind (at? y.2.2 t37) fun (y : List UInt8 × (Int × Int) × List UInt8 × Int) => Option.bind (at? b.2 i) fun (y_1 : List UInt8 × Int × List QAT3) => Option.bind (at? y_1.2.2 t37) fun (y_2 : List UInt8 × (Int × Int) × List UInt8 × Int) => if nei y.2.2.2 y_2.2.2.2 = true then some (false, ()) else self2 i t13 t14 t36 (add .i64 t37 1) a b else self1 t13 (add .i64 t14 1) a b
def qcy_ (j1 : Int -> Int -> List UInt8 × List QAT0 -> List UInt8 × List QAT0 -> Option (As [.bool])) (a b : List UInt8 × List QAT0) : Option (As [.bool]) :=
  Option.bind (qae_ (a, b, ())) fun (y : Bool × Unit) => if (!y.1) = true then some (false, ()) else j1 (Int.ofNat (List.length a.2)) 0 a b
def qax_ (u1 : Int -> Int -> List UInt8 × List QAT0 -> List UInt8 × List QAT0 -> Option (As [.bool])) (i t13 t14 t36 t37 : Int) (a b : List UInt8 × List QAT0) : Option (As [.bool]) :=
  loopF (fun (self : (Int) × (Int) × (Int) × (Int) × (Int) × (List UInt8 × List QAT0) × (List UInt8 × List QAT0) -> Option (As [.bool])) (s : (Int) × (Int) × (Int) × (Int) × (Int) × (List UInt8 × List QAT0) × (List UInt8 × List QAT0)) => qcx_ u1 (fun i t13 t14 t36 t37 a b => self (i, t13, t14, t36, t37, a, b)) s.1 s.2.1 s.2.2.1 s.2.2.2.1 s.2.2.2.2.1 s.2.2.2.2.2.1 s.2.2.2.2.2.2) 18446744073709551616 (i, t13, t14, t36, t37, a, b)
def qb5_ (t13 t14 : Int) (a b : List UInt8 × List QAT0) : Option (As [.bool]) :=
  loopF (fun (self : (Int) × (Int) × (List UInt8 × List QAT0) × (List UInt8 × List QAT0) -> Option (As [.bool])) (s : (Int) × (Int) × (List UInt8 × List QAT0) × (List UInt8 × List QAT0)) => qcz_ (qax_ (fun t13 t14 a b => self (t13, t14, a, b))) (fun t13 t14 a b => self (t13, t14, a, b)) s.1 s.2.1 s.2.2.1 s.2.2.2) 18446744073709551616 (t13, t14, a, b)
def qbf_ (x : As [.pr .str (.sl QAT2), .pr .str (.sl QAT2)]) : Option (As [.bool]) := qcy_ qb5_ x.1 x.2.1
theorem qi6_  (J w1 w2 i t13 t14 t36 t37 a b) : pfn Tryz.prog q4j_ 6 18446744073709551616 (Ev.get q4k_) 18 q3w_ J 29902 [w1, w2] (q5u_ i t13 t14 t36 t37 a b) = qcx_ (fun t13 t14 a b => w1 (q3i_ t13 t14 a b)) (fun i t13 t14 t36 t37 a b => w2 (q5u_ i t13 t14 t36 t37 a b)) i t13 t14 t36 t37 a b := by kernel_rfl
theorem qj2_  (J w1 t13 t14 a b) : pfn Tryz.prog q4j_ 6 18446744073709551616 (Ev.get q4k_) 18 q3w_ J 58 [w1] (q3i_ t13 t14 a b) = qcz_ (fun i t13 t14 t36 t37 a b => J 29902 [w1] (q5u_ i t13 t14 t36 t37 a b)) (fun t13 t14 a b => w1 (q3i_ t13 t14 a b)) t13 t14 a b := by kernel_rfl
theorem qjy_ (J : Orc (As [.bool])) (x : As [.pr .str (.sl QAT2), .pr .str (.sl QAT2)]) : rfn Tryz.prog q4j_ 6 18446744073709551616 (Ev.get q4k_) 18 q3w_ J x = qcy_ (fun t13 t14 a b => J 58 [] (q3i_ t13 t14 a b)) x.1 x.2.1 := by kernel_rfl
theorem qhm_  (w1 i t13 t14 t36 t37 a b) : jfn Tryz.prog q4j_ 6 18446744073709551616 (Ev.get q4k_) 18 q3w_ 29902 [w1] (q5u_ i t13 t14 t36 t37 a b) = qax_ (fun t13 t14 a b => w1 (q3i_ t13 t14 a b)) i t13 t14 t36 t37 a b := by
  rw [q4_ (by decide)]
  rw [q16_ (by kernel_rfl)]
  refine qk_ (σ := (Int) × (Int) × (Int) × (Int) × (Int) × (List UInt8 × List QAT0) × (List UInt8 × List QAT0)) (mk := fun s => q5u_ s.1 s.2.1 s.2.2.1 s.2.2.2.1 s.2.2.2.2.1 s.2.2.2.2.2.1 s.2.2.2.2.2.2) (fun w2 s => ?_) 18446744073709551616 (i, t13, t14, t36, t37, a, b)
  refine (qi6_ _ w1 w2 s.1 s.2.1 s.2.2.1 s.2.2.2.1 s.2.2.2.2.1 s.2.2.2.2.2.1 s.2.2.2.2.2.2).trans ?_
  rfl
theorem qjh_  (t13 t14 a b) : jfn Tryz.prog q4j_ 6 18446744073709551616 (Ev.get q4k_) 18 q3w_ 58 [] (q3i_ t13 t14 a b) = qb5_ t13 t14 a b := by
  rw [q4_ (by decide)]
  rw [q16_ (by kernel_rfl)]
  refine qk_ (σ := (Int) × (Int) × (List UInt8 × List QAT0) × (List UInt8 × List QAT0)) (mk := fun s => q3i_ s.1 s.2.1 s.2.2.1 s.2.2.2) (fun w1 s => ?_) 18446744073709551616 (t13, t14, a, b)
  have e2 : (fun i t13 t14 t36 t37 a b => (jfn Tryz.prog q4j_ 6 18446744073709551616 (Ev.get q4k_) 18 q3w_) 29902 [w1] (q5u_ i t13 t14 t36 t37 a b)) = qax_ (fun t13 t14 a b => w1 (q3i_ t13 t14 a b)) := by funext i t13 t14 t36 t37 a b; exact qhm_ w1 i t13 t14 t36 t37 a b
  refine (qj2_ _ w1 s.1 s.2.1 s.2.2.1 s.2.2.2).trans ?_
  rw [e2]
theorem ql0_ (x : As [.pr .str (.sl QAT2), .pr .str (.sl QAT2)]) : evT Tryz.prog q4j_ 6 18446744073709551616 (Ev.get q4k_) 18 q3w_ x = qbf_ x := by
  have e1 : (fun t13 t14 a b => (jfn Tryz.prog q4j_ 6 18446744073709551616 (Ev.get q4k_) 18 q3w_) 58 [] (q3i_ t13 t14 a b)) = qb5_ := by funext t13 t14 a b; exact qjh_ t13 t14 a b
  rw [q27_, qjy_, e1]
  rfl
theorem qjs_ : CtOk Tryz.prog I0 18 ⟨q3w_, qbf_⟩ := qx_ (q0_ qkb_ q7_) ql0_
@[reducible] def qd0_ : Sh := ⟨[.d (.sl QAT1), .d (.str)], [], [.sl QAT1, .str], [.d (.bool)], [], 0, [.bool]⟩
def qak_ (l : List QAT4) (first : List UInt8) : Option (As [.bool]) :=
  if eqi (Int.ofNat (List.length l)) 2 = true then Option.bind (at? l 0) fun (y : Int × List UInt8 × (Int × Int) × Int) => if eqi y.1 1 = true then Option.bind (at? l 0) fun (y : Int × List UInt8 × (Int × Int) × Int) => if eqs y.2.1 first = true then Option.bind (at? l 1) fun (y : Int × List UInt8 × (Int × Int) × Int) => if eqi y.1 1 = true then Option.bind (at? l 1) fun (y : Int × List UInt8 × (Int × Int) × Int) => Option.bind (q1t_ (y.2.1, ())) fun (y : Bool × Unit) => some (y.1, ()) else some (false, ()) else some (false, ()) else some (false, ()) else some (false, ())
def q90_ (x : As [.sl QAT1, .str]) : Option (As [.bool]) := qak_ x.1 x.2.1
theorem qgr_ : CtOk Tryz.prog I0 73 ⟨qd0_, q90_⟩ := ctn (q0_ qb7_ q7_) 6 fun J x => by kernel_rfl
end Go.Proofs.Lx
end
section
open Go Go.Proofs Ev Sx
set_option maxRecDepth 100000
namespace Go.Proofs.Lx
abbrev QCT4 : Ty := (.pr .str (.pr (.pr (.int .i64) (.int .u8)) (.pr .str (.int .i64))))
abbrev QCT0 : Ty := (.pr .str (.pr (.int .i64) (.sl QCT4)))
abbrev QCT1 : Type := (List UInt8 × (Int × Int) × List UInt8 × Int)
abbrev QCT2 : Type := (Int × List UInt8 × (Int × Int) × Int)
abbrev QCT3 : Ty := (.sl (.pr (.int .u8) (.pr .str (.pr (.pr (.int .i64) (.int .u8)) (.int .i64)))))
@[reducible] def q3k_ : Sh := ⟨[.d (.str)], [], [.str], [.d (.pr .str (.sl QCT0)), .d (.pr (.int .i64) (.int .i64))], [], 0, [.pr .str (.sl QCT0), .pr (.int .i64) (.int .i64)]⟩
def q3z_ : Env := (cts [(3000024, Ev.bxCt), (39, (⟨q5o_, qcq_⟩ : Ct)), (51, (⟨q1c_, q1t_⟩ : Ct)), (73, (⟨qd0_, q90_⟩ : Ct))])
def q42_ : List (Nat × Hint) := [(127, ⟨[], [2, 3, 7]⟩), (1018, ⟨[.rwb 7 2 43, .opc 7 2 [(2, 47)]], [2, 3, 4, 6, 7, 8, 23, 24, 25]⟩)]
def q53_ (tokens : List QCT2) (from' : Int) (t23 : List QCT2) (t24 t25 : Int) (t2 : List UInt8) (t3 : Int × Int) (p : Int) (p_2 : List UInt8) (o_o : Bool) (o : List (List UInt8 × Int × List QCT1)) (o_l : List UInt8) (o_l_2 : Int) (o_2 : List QCT1) : St := { fr := [(2, .pb 0 0), (3, .pb 1 0), (4, .d QCT3 tokens), (6, .pb 2 0), (7, .pb 3 0), (8, .d (.int .i64) from'), (23, .d QCT3 t23), (24, .d (.int .i64) t24), (25, .d (.int .i64) t25)], nt := 60, up := [], own := [(0, .box 26 [.d .str t2, .k (Go.Value.slice Option.none 0 0)]), (1, .box 33 [.d (.int .i64) t3.1, .d (.int .i64) t3.2]), (2, .box 102 [.fn (.func 40) [] [], .fn (.func 41) [] [], .fn (.func 42) [] []]), (3, .box 104 [.d (.int .i64) p, .d .str p_2, .row 4]), (4, .rowo QCT0 43 o_o o [.d .str o_l, .d (.int .i64) o_l_2, .row 5]), (5, .row QCT4 47 o_2)], nx := 6, log := [], ln := 0 }
def q8j_ (t2 : List UInt8) (t3 : Int × Int) (p : Int) (p_2 : List UInt8) (o_o : Bool) (o : List (List UInt8 × Int × List QCT1)) (o_l : List UInt8) (o_l_2 : Int) (o_2 : List QCT1) : St := { fr := [(2, .pb 0 0), (3, .pb 1 0), (7, .pb 2 0)], nt := 60, up := [], own := [(0, .box 26 [.d .str t2, .k (Go.Value.slice Option.none 0 0)]), (1, .box 33 [.d (.int .i64) t3.1, .d (.int .i64) t3.2]), (2, .box 104 [.d (.int .i64) p, .d .str p_2, .row 3]), (3, .rowo QCT0 43 o_o o [.d .str o_l, .d (.int .i64) o_l_2, .row 4]), (4, .row QCT4 47 o_2)], nx := 5, log := [], ln := 0 }
def q1j_ (j2 : List UInt8 -> Int × Int -> Int -> List UInt8 -> Bool -> List (List UInt8 × Int × List QCT1) -> List UInt8 -> Int -> List QCT1 -> Option (As [.pr .str (.sl QCT0), .pr (.int .i64) (.int .i64)])) (self1 : List QCT2 -> Int -> List QCT2 -> Int -> Int -> List UInt8 -> Int × Int -> Int -> List UInt8 -> Bool -> List (List UInt8 × Int × List QCT1) -> List UInt8 -> Int -> List QCT1 -> Option (As [.pr .str (.sl QCT0), .pr (.int .i64) (.int .i64)])) (tokens : List QCT2) (from' : Int) (t23 : List QCT2) (t24 t25 : Int) (t2 : List UInt8) (t3 : Int × Int) (p : Int) (p_2 : List UInt8) (o_o : Bool) (o : List (List UInt8 × Int × List QCT1)) (o_l : List UInt8) (o_l_2 : Int) (o_2 : List QCT1) : Option (As [.pr .str (.sl QCT0), .pr (.int .i64) (.int .i64)]) :=
  if lt t25 t24 = true then Option.bind (at? t23 t25) fun (y : Int × List UInt8 × (Int × Int) × Int) => if nei y.1 4 = true then self1 tokens from' t23 t24 (add .i64 t25 1) t2 t3 p p_2 o_o o o_l o_l_2 o_2 else if eqi p 2 = true then Option.bind (cut tokens from' t25) fun (y_1 : List QCT2) => if eqi (Int.ofNat (List.length y_1)) 1 = true then Option.bind (at? y_1 0) fun (y_2 : Int × List UInt8 × (Int × Int) × Int) => if eqi y_2.1 1 = true then Option.bind (at? y_1 0) fun (y_3 : Int × List UInt8 × (Int × Int) × Int) => if eqs y_3.2.1 [101, 110, 100] = true then self1 tokens (add .i64 t25 1) t23 t24 (add .i64 t25 1) t2 t3 1 p_2 o_o o o_l o_l_2 o_2 else if nei (Int.ofNat (List.length y_1)) 3 = true then if nei (Int.ofNat (List.length y_1)) 4 = true then some (([], []), (140, y.2.2.2), ()) else Option.bind (at? y_1 0) fun (y_4 : Int × List UInt8 × (Int × Int) × Int) => if nei y_4.1 1 = true then some (([], []), (140, y.2.2.2), ()) else Option.bind (at? y_1 0) fun (y_5 : Int × List UInt8 × (Int × Int) × Int) => Option.bind (q1t_ (y_5.2.1, ())) fun (y_6 : Bool × Unit) => if (!y_6.1) = true then some (([], []), (140, y.2.2.2), ()) else Option.bind (at? y_1 1) fun (y_7 : Int × List UInt8 × (Int × Int) × Int) => if nei y_7.1 3 = true then some (([], []), (140, y.2.2.2), ()) else Option.bind (at? y_1 2) fun (y_8 : Int × List UInt8 × (Int × Int) × Int) => if nei y_8.1 2 = true then some (([], []), (140, y.2.2.2), ()) else Option.bind (at? y_1 0) fun (y_9 : Int × List UInt8 × (Int × Int) × Int) => Option.bind (at? y_1 2) fun (y_10 : Int × List UInt8 × (Int × Int) × Int) => Option.bind (at? y_1 0) fun (y_11 : Int × List UInt8 × (Int × Int) × Int) => if eqi (Int.ofNat (List.length y_1)) 4 = true then Option.bind (at? y_1 3) fun (y_12 : Int × List UInt8 × (Int × Int) × Int) => if nei y_12.1 1 = true then some (([], []), (140, y.2.2.2), ()) else Option.bind (at? y_1 3) fun (y_13 : Int × List UInt8 × (Int × Int) × Int) => need o_o (need (eqi (Sx.sub .i64 (if o_o = true then Int.ofNat (List.length o + 1) else Int.ofNat (List.length o)) 1) (Int.ofNat (List.length o))) (need o_o (need (eqi (Sx.sub .i64 (if o_o = true then Int.ofNat (List.length o + 1) else Int.ofNat (List.length o)) 1) (Int.ofNat (List.length o))) (if eqi (Int.ofNat (List.length o_2)) 64 = true then some (([], []), (130, y.2.2.2), ()) else need o_o (need (eqi (Sx.sub .i64 (if o_o = true then Int.ofNat (List.length o + 1) else Int.ofNat (List.length o)) 1) (Int.ofNat (List.length o))) (need (small (List.length o_2 + Nat.succ 0)) (need o_o (need (eqi (Sx.sub .i64 (if o_o = true then Int.ofNat (List.length o + 1) else Int.ofNat (List.length o)) 1) (Int.ofNat (List.length o))) (self1 tokens (add .i64 t25 1) t23 t24 (add .i64 t25 1) t2 t3 p p_2 true o o_l o_l_2 (o_2 ++ [(y_9.2.1, y_10.2.2.1, y_13.2.1, y_11.2.2.2)])))))))))) else need o_o (need (eqi (Sx.sub .i64 (if o_o = true then Int.ofNat (List.length o + 1) else Int.ofNat (List.length o)) 1) (Int.ofNat (List.length o))) (need o_o (need (eqi (Sx.sub .i64 (if o_o = true then Int.ofNat (List.length o + 1) else Int.ofNat (List.length o)) 1) (Int.ofNat (List.length o))) (if eqi (Int.ofNat (List.length o_2)) 64 = true then some (([], []), (130, y.2.2.2), ()) else need o_o (need (eqi (Sx.sub .i64 (if o_o = true then Int.ofNat (List.length o + 1) else Int.ofNat (List.length o)) 1) (Int.ofNat (List.length o))) (need (small (List.length o_2 + Nat.succ 0)) (need o_o (need (eqi (Sx.sub .i64 (if o_o = true then Int.ofNat (List.length o + 1) else Int.ofNat (List.length o)) 1) (Int.ofNat (List.length o))) (self1 tokens (add .i64 t25 1) t23 t24 (add .i64 t25 1) t2 t3 p p_2 true o o_l o_l_2 (o_2 ++ [(y_9.2.1, y_10.2.2.1, [], y_11.2.2.2)])))))))))) else Option.bind (at? y_1 0) fun (y_4 : Int × List UInt8 × (Int × Int) × Int) => if nei y_4.1 1 = true then some (([], []), (140, y.2.2.2), ()) else Option.bind (at? y_1 0) fun (y_5 : Int × List UInt8 × (Int × Int) × Int) => Option.bind (q1t_ (y_5.2.1, ())) fun (y_6 : Bool × Unit) => if (!y_6.1) = true then some (([], []), (140, y.2.2.2), ()) else Option.bind (at? y_1 1) fun (y_7 : Int × List UInt8 × (Int × Int) × Int) => if nei y_7.1 3 = true then some (([], []), (140, y.2.2.2), ()) else Option.bind (at? y_1 2) fun (y_8 : Int × List UInt8 × (Int × Int) × Int) => if nei y_8.1 2 = true then some (([], []), (140, y.2.2.2), ()) else Option.bind (at? y_1 0) fun (y_9 : Int × List UInt8 × (Int × Int) × Int) => Option.bind (at? y_1 2) fun (y_10 : Int × List UInt8 × (Int × Int) × Int) => Option.bind (at? y_1 0) fun (y_11 : Int × List UInt8 × (Int × Int) × Int) => if eqi (Int.ofNat (List.length y_1)) 4 = true then Option.bind (at? y_1 3) fun (y_12 : Int × List UInt8 × (Int × Int) × Int) => if nei y_12.1 1 = true then some (([], []), (140, y.2.2.2), ()) else Option.bind (at? y_1 3) fun (y_13 : Int × List UInt8 × (Int × Int) × Int) => need o_o (need (eqi (Sx.sub .i64 (if o_o = true then Int.ofNat (List.length o + 1) else Int.ofNat (List.length o)) 1) (Int.ofNat (List.length o))) (need o_o (need (eqi (Sx.sub .i64 (if o_o = true then Int.ofNat (List.length o + 1) else Int.ofNat (List.length o)) 1) (Int.ofNat (List.length o))) (if eqi (Int.ofNat (List.length o_2)) 64 = true then some (([], []), (130, y.2.2.2), ()) else need o_o (need (eqi (Sx.sub .i64 (if o_o = true then Int.ofNat (List.length o + 1) else Int.ofNat (List.length o)) 1) (Int.ofNat (List.length o))) (need (small (List.length o_2 + Nat.succ 0)) (need o_o (need (eqi (Sx.sub .i64 (if o_o = true then Int.ofNat (List.length o + 1) else Int.ofNat (List.length o)) 1) (Int.ofNat (List.length o))) (self1 tokens (add .i64 t25 1) t23 t24 (add .i64 t25 1) t2 t3 p p_2 true o o_l o_l_2 (o_2 ++ [(y_9.2.1, y_10.2.2.1, y_13.2.1, y_11.2.2.2)])))))))))) else need o_o (need (eqi (Sx.sub .i64 (if o_o = true then Int.ofNat (List.length o + 1) else Int.ofNat (List.length o)) 1) (Int.ofNat (List.length o))) (need o_o (need (eqi (Sx.sub .i64 (if o_o = true then Int.ofNat (List.length o + 1) else Int.ofNat (List.length o)) 1) (Int.ofNat (List.length o))) (if eqi (Int.ofNat (List.length o_2)) 64 = true then some (([], []), (130, y.2.2.2), ()) else need o_o (need (eqi (Sx.sub .i64 (if o_o = true then Int.ofNat (List.length o + 1) else Int.ofNat (List.length o)) 1) (Int.ofNat (List.length o))) (need (small (List.length o_2 + Nat.succ 0)) (need o_o (need (eqi (Sx.sub .i64 (if o_o = true then Int.ofNat (List.length o + 1) else Int.ofNat (List.length o)) 1) (Int.ofNat (List.length o))) (self1 tokens (add .i64 t25 1) t23 t24 (add .i64 t25 1) t2 t3 p p_2 true o o_l o_l_2 (o_2 ++ [(y_9.2.1, y_10.2.2.1, [], y_11.2.2.2)])))))))))) else if nei (Int.ofNat (List.length y_1)) 3 = true then if nei (Int.ofNat (List.length y_1)) 4 = true then some (([], []), (140, y.2.2.2), ()) else Option.bind (at? y_1 0) fun (y_3 : Int × List UInt8 × (Int × Int) × Int) => if nei y_3.1 1 = true then some (([], []), (140, y.2.2.2), ()) else Option.bind (at? y_1 0) fun (y_4 : Int × List UInt8 × (Int × Int) × Int) => Option.bind (q1t_ (y_4.2.1, ())) fun (y_5 : Bool × Unit) => if (!y_5.1) = true then some (([], []), (140, y.2.2.2), ()) else Option.bind (at? y_1 1) fun (y_6 : Int × List UInt8 × (Int × Int) × Int) => if nei y_6.1 3 = true then some (([], []), (140, y.2.2.2), ()) else Option.bind (at? y_1 2) fun (y_7 : Int × List UInt8 × (Int × Int) × Int) => if nei y_7.1 2 = true then some (([], []), (140, y.2.2.2), ()) else Option.bind (at? y_1 0) fun (y_8 : Int × List UInt8 × (Int × Int) × Int) => Option.bind (at? y_1 2) fun (y_9 : Int × List UInt8 × (Int × Int) × Int) => Option.bind (at? y_1 0) fun (y_10 : Int × List UInt8 × (Int × Int) × Int) => if eqi (Int.ofNat (List.length y_1)) 4 = true then Option.bind (at? y_1 3) fun (y_11 : Int × List UInt8 × (Int × Int) × Int) => if nei y_11.1 1 = true then some (([], []), (140, y.2.2.2), ()) else Option.bind (at? y_1 3) fun (y_12 : Int × List UInt8 × (Int × Int) × Int) => need o_o (need (eqi (Sx.sub .i64 (if o_o = true then Int.ofNat (List.length o + 1) else Int.ofNat (List.length o)) 1) (Int.ofNat (List.length o))) (need o_o (need (eqi (Sx.sub .i64 (if o_o = true then Int.ofNat (List.length o + 1) else Int.ofNat (List.length o)) 1) (Int.ofNat (List.length o))) (if eqi (Int.ofNat (List.length o_2)) 64 = true then some (([], []), (130, y.2.2.2), ()) else need o_o (need (eqi (Sx.sub .i64 (if o_o = true then Int.ofNat (List.length o + 1) else Int.ofNat (List.length o)) 1) (Int.ofNat (List.length o))) (need (small (List.length o_2 + Nat.succ 0)) (need o_o (need (eqi (Sx.sub .i64 (if o_o = true then Int.ofNat (List.length o + 1) else Int.ofNat (List.length o)) 1) (Int.ofNat (List.length o))) (self1 tokens (add .i64 t25 1) t23 t24 (add .i64 t25 1) t2 t3 p p_2 true o o_l o_l_2 (o_2 ++ [(y_8.2.1, y_9.2.2.1, y_12.2.1, y_10.2.2.2)])))))))))) else need o_o (need (eqi (Sx.sub .i64 (if o_o = true then Int.ofNat (List.length o + 1) else Int.ofNat (List.length o)) 1) (Int.ofNat (List.length o))) (need o_o (need (eqi (Sx.sub .i64 (if o_o = true then Int.ofNat (List.length o + 1) else Int.ofNat (List.length o)) 1) (Int.ofNat (List.length o))) (if eqi (Int.ofNat (List.length o_2)) 64 = true then some (([], []), (130, y.2.2.2), ()) else need o_o (need (eqi (Sx.sub .i64 (if o_o = true then Int.ofNat (List.length o + 1) else Int.ofNat (List.length o)) 1) (Int.ofNat (List.length o))) (need (small (List.length o_2 + Nat.succ 0)) (need o_o (need (eqi (Sx.sub .i64 (if o_o = true then Int.ofNat (List.length o + 1) else Int.ofNat (List.length o)) 1) (Int.ofNat (List.length o))) (self1 tokens (add .i64 t25 1) t23 t24 (add .i64 t25 1) t2 t3 p p_2 true o o_l o_l_2 (o_2 ++ [(y_8.2.1, y_9.2.2.1, [], y_10.2.2.2)])))))))))) else Option.bind (at? y_1 0) fun (y_3 : Int × List UInt8 × (Int × Int) × Int) => if nei y_3.1 1 = true then some (([], []), (140, y.2.2.2), ()) else Option.bind (at? y_1 0) fun (y_4 : Int × List UInt8 × (Int × Int) × Int) => Option.bind (q1t_ (y_4.2.1, ())) fun (y_5 : Bool × Unit) => if (!y_5.1) = true then some (([], []), (140, y.2.2.2), ()) else Option.bind (at? y_1 1) fun (y_6 : Int × List UInt8 × (Int × Int) × Int) => if nei y_6.1 3 = true then some (([], []), (140, y.2.2.2), ()) else Option.bind (at? y_1 2) fun (y_7 : Int × List UInt8 × (Int × Int) × Int) => if nei y_7.1 2 = true then some (([], []), (140, y.2.2.2), ()) else Option.bind (at? y_1 0) fun (y_8 : Int × List UInt8 × (Int × Int) × Int) => Option.bind (at? y_1 2) fun (y_9 : Int × List UInt8 × (Int × Int) × Int) => Option.bind (at? y_1 0) fun (y_10 : Int × List UInt8 × (Int × Int) × Int) => if eqi (Int.ofNat (List.length y_1)) 4 = true then Option.bind (at? y_1 3) fun (y_11 : Int × List UInt8 × (Int × Int) × Int) => if nei y_11.1 1 = true then some (([], []), (140, y.2.2.2), ()) else Option.bind (at? y_1 3) fun (y_12 : Int × List UInt8 × (Int × Int) × Int) => need o_o (need (eqi (Sx.sub .i64 (if o_o = true then Int.ofNat (List.length o + 1) else Int.ofNat (List.length o)) 1) (Int.ofNat (List.length o))) (need o_o (need (eqi (Sx.sub .i64 (if o_o = true then Int.ofNat (List.length o + 1) else Int.ofNat (List.length o)) 1) (Int.ofNat (List.length o))) (if eqi (Int.ofNat (List.length o_2)) 64 = true then some (([], []), (130, y.2.2.2), ()) else need o_o (need (eqi (Sx.sub .i64 (if o_o = true then Int.ofNat (List.length o + 1) else Int.ofNat (List.length o)) 1) (Int.ofNat (List.length o))) (need (small (List.length o_2 + Nat.succ 0)) (need o_o (need (eqi (Sx.sub .i64 (if o_o = true then Int.ofNat (List.length o + 1) else Int.ofNat (List.length o)) 1) (Int.ofNat (List.length o))) (self1 tokens (add .i64 t25 1) t23 t24 (add .i64 t25 1) t2 t3 p p_2 true o o_l o_l_2 (o_2 ++ [(y_8.2.1, y_9.2.2.1, y_12.2.1, y_10.2.2.2)])))))))))) else need o_o (need (eqi (Sx.sub .i64 (if o_o = true then Int.ofNat (List.length o + 1) else Int.ofNat (List.length o)) 1) (Int.ofNat (List.length o))) (need o_o (need (eqi (Sx.sub .i64 (if o_o = true then Int.ofNat (List.length o + 1) else Int.ofNat (List.length o)) 1) (Int.ofNat (List.length o))) (if eqi (Int.ofNat (List.length o_2)) 64 = true then some (([], []), (130, y.2.2.2), ()) else need o_o (need (eqi (Sx.sub .i64 (if o_o = true then Int.ofNat (List.length o + 1) else Int.ofNat (List.length o)) 1) (Int.ofNat (List.length o))) (need (small (List.length o_2 + Nat.succ 0)) (need o_o (need (eqi (Sx.sub .i64 (if o_o = true then Int.ofNat (List.length o + 1) else Int.ofNat (List.length o)) 1) (Int.ofNat (List.length o))) (self1 tokens (add .i64 t25 1) t23 t24 (add .i64 t25 1) t2 t3 p p_2 true o o_l o_l_2 (o_2 ++ [(y_8.2.1, y_9.2.2.1, [], y_10.2.2.2)])))))))))) else if nei (Int.ofNat (List.length y_1)) 3 = true then if nei (Int.ofNat (List.length y_1)) 4 = true then some (([], []), (140, y.2.2.2), ()) else Option.bind (at? y_1 0) fun (y_2 : Int × List UInt8 × (Int × Int) × Int) => if nei y_2.1 1 = true then some (([], []), (140, y.2.2.2), ()) else Option.bind (at? y_1 0) fun (y_3 : Int × List UInt8 × (Int × Int) × Int) => Option.bind (q1t_ (y_3.2.1, ())) fun (y_4 : Bool × Unit) => if (!y_4.1) = true then some (([], []), (140, y.2.2.2), ()) else Option.bind (at? y_1 1) fun (y_5 : Int × List UInt8 × (Int × Int) × Int) => if nei y_5.1 3 = true then some (([], []), (140, y.2.2.2), ()) else Option.bind (at? y_1 2) fun (y_6 : Int × List UInt8 × (Int × Int) × Int) => if nei y_6.1 2 = true then some (([], []), (140, y.2.2.2), ()) else Option.bind (at? y_1 0) fun (y_7 : Int × List UInt8 × (Int × Int) × Int) => Option.bind (at? y_1 2) fun (y_8 : Int × List UInt8 × (Int × Int) × Int) => Option.bind (at? y_1 0) fun (y_9 : Int × List UInt8 × (Int × Int) × Int) => if eqi (Int.ofNat (List.length y_1)) 4 = true then Option.bind (at? y_1 3) fun (y_10 : Int × List UInt8 × (Int × Int) × Int) => if nei y_10.1 1 = true then some (([], []), (140, y.2.2.2), ()) else Option.bind (at? y_1 3) fun (y_11 : Int × List UInt8 × (Int × Int) × Int) => need o_o (need (eqi (Sx.sub .i64 (if o_o = true then Int.ofNat (List.length o + 1) else Int.ofNat (List.length o)) 1) (Int.ofNat (List.length o))) (need o_o (need (eqi (Sx.sub .i64 (if o_o = true then Int.ofNat (List.length o + 1) else Int.ofNat (List.length o)) 1) (Int.ofNat (List.length o))) (if eqi (Int.ofNat (List.length o_2)) 64 = true then some (([], []), (130, y.2.2.2), ()) else need o_o (need (eqi (Sx.sub .i64 (if o_o = true then Int.ofNat (List.length o + 1) else Int.ofNat (List.length o)) 1) (Int.ofNat (List.length o))) (need (small (List.length o_2 + Nat.succ 0)) (need o_o (need (eqi (Sx.sub .i64 (if o_o = true then Int.ofNat (List.length o + 1) else Int.ofNat (List.length o)) 1) (Int.ofNat (List.length o))) (self1 tokens (add .i64 t25 1) t23 t24 (add .i64 t25 1) t2 t3 p p_2 true o o_l o_l_2 (o_2 ++ [(y_7.2.1, y_8.2.2.1, y_11.2.1, y_9.2.2.2)])))))))))) else need o_o (need (eqi (Sx.sub .i64 (if o_o = true then Int.ofNat (List.length o + 1) else Int.ofNat (List.length o)) 1) (Int.ofNat (List.length o))) (need o_o (need (eqi (Sx.sub .i64 (if o_o = true then Int.ofNat (List.length o + 1) else Int.ofNat (List.length o)) 1) (Int.ofNat (List.length o))) (if eqi (Int.ofNat (List.length o_2)) 64 = true then some (([], []), (130, y.2.2.2), ()) else need o_o (need (eqi (Sx.sub .i64 (if o_o = true then Int.ofNat (List.length o + 1) else Int.ofNat (List.length o)) 1) (Int.ofNat (List.length o))) (need (small (List.length o_2 + Nat.succ 0)) (need o_o (need (eqi (Sx.sub .i64 (if o_o = true then Int.ofNat (List.length o + 1) else Int.ofNat (List.length o)) 1) (Int.ofNat (List.length o))) (self1 tokens (add .i64 t25 1) t23 t24 (add .i64 t25 1) t2 t3 p p_2 true o o_l o_l_2 (o_2 ++ [(y_7.2.1, y_8.2.2.1, [], y_9.2.2.2)])))))))))) else Option.bind (at? y_1 0) fun (y_2 : Int × List UInt8 × (Int × Int) × Int) => if nei y_2.1 1 = true then some (([], []), (140, y.2.2.2), ()) else Option.bind (at? y_1 0) fun (y_3 : Int × List UInt8 × (Int × Int) × Int) => Option.bind (q1t_ (y_3.2.1, ())) fun (y_4 : Bool × Unit) => if (!y_4.1) = true then some (([], []), (140, y.2.2.2), ()) else Option.bind (at? y_1 1) fun (y_5 : Int × List UInt8 × (Int × Int) × Int) => if nei y_5.1 3 = true then some (([], []), (140, y.2.2.2), ()) else Option.bind (at? y_1 2) fun (y_6 : Int × List UInt8 × (Int × Int) × Int) => if nei y_6.1 2 = true then some (([], []), (140, y.2.2.2), ()) else Option.bind (at? y_1 0) fun (y_7 : Int × List UInt8 × (Int × Int) × Int) => Option.bind (at? y_1 2) fun (y_8 : Int × List UInt8 × (Int × Int) × Int) => Option.bind (at? y_1 0) fun (y_9 : Int × List UInt8 × (Int × Int) × Int) => if eqi (Int.ofNat (List.length y_1)) 4 = true then Option.bind (at? y_1 3) fun (y_10 : Int × List UInt8 × (Int × Int) × Int) => if nei y_10.1 1 = true then some (([], []), (140, y.2.2.2), ()) else Option.bind (at? y_1 3) fun (y_11 : Int × List UInt8 × (Int × Int) × Int) => need o_o (need (eqi (Sx.sub .i64 (if o_o = true then Int.ofNat (List.length o + 1) else Int.ofNat (List.length o)) 1) (Int.ofNat (List.length o))) (need o_o (need (eqi (Sx.sub .i64 (if o_o = true then Int.ofNat (List.length o + 1) else Int.ofNat (List.length o)) 1) (Int.ofNat (List.length o))) (if eqi (Int.ofNat (List.length o_2)) 64 = true then some (([], []), (130, y.2.2.2), ()) else need o_o (need (eqi (Sx.sub .i64 (if o_o = true then Int.ofNat (List.length o + 1) else Int.ofNat (List.length o)) 1) (Int.ofNat (List.length o))) (need (small (List.length o_2 + Nat.succ 0)) (need o_o (need (eqi (Sx.sub .i64 (if o_o = true then Int.ofNat (List.length o + 1) else Int.ofNat (List.length o)) 1) (Int.ofNat (List.length o))) (self1 tokens (add .i64 t25 1) t23 t24 (add .i64 t25 1) t2 t3 p p_2 true o o_l o_l_2 (o_2 ++ [(y_7.2.1, y_8.2.2.1, y_11.2.1, y_9.2.2.2)])))))))))) else need o_o (need (eqi (Sx.sub .i64 (if o_o = true then Int.ofNat (List.length o + 1) else Int.ofNat (List.length o)) 1) (Int.ofNat (List.length o))) (need o_o (need (eqi (Sx.sub .i64 (if o_o = true then Int.ofNat (List.length o + 1) else Int.ofNat (List.length o)) 1) (Int.ofNat (List.length o))) (if eqi (Int.ofNat (List.length o_2)) 64 = true then some (([], []), (130, y.2.2.2), ()) else need o_o (need (eqi (Sx.sub .i64 (if o_o = true then Int.ofNat (List.length o + 1) else Int.ofNat (List.length o)) 1) (Int.ofNat (List.length o))) (need (small (List.length o_2 + Nat.succ 0)) (need o_o (need (eqi (Sx.sub .i64 (if o_o = true then Int.ofNat (List.length o + 1) else Int.ofNat (List.length o)) 1) (Int.ofNat (List.length o))) (self1 tokens (add .i64 t25 1) t23 t24 (add .i64 t25 1) t2 t3 p p_2 true o o_l o_l_2 (o_2 ++ [(y_7.2.1, y_8.2.2.1, [], y_9.2.2.2)])))))))))) else if eqi p 1 = true then Option.bind (cut tokens from' t25) fun (y_1 : List QCT2) => Option.bind (q90_ (y_1, [115, 108, 97, 118, 101], ())) fun (y_2 : Bool × Unit) => if (!y_2.1) = true then some (([], []), (140, y.2.2.2), ()) else if eqi (if o_o = true then Int.ofNat (List.length o + 1) else Int.ofNat (List.length o)) 8 = true then some (([], []), (130, y.2.2.2), ()) else Option.bind (at? y_1 1) fun (y : Int × List UInt8 × (Int × Int) × Int) => Option.bind (at? y_1 1) fun (y_3 : Int × List UInt8 × (Int × Int) × Int) => need (small (List.length (if o_o = true then o ++ [(o_l, o_l_2, o_2)] else o) + 1)) (self1 tokens (add .i64 t25 1) t23 t24 (add .i64 t25 1) t2 t3 2 p_2 true (if o_o = true then o ++ [(o_l, o_l_2, o_2)] else o) y.2.1 y_3.2.2.2 []) else if eqi p 0 = true then Option.bind (cut tokens from' t25) fun (y_1 : List QCT2) => Option.bind (q90_ (y_1, [114, 101, 99, 105, 112, 101], ())) fun (y_2 : Bool × Unit) => if (!y_2.1) = true then some (([], []), (140, y.2.2.2), ()) else Option.bind (at? y_1 1) fun (y : Int × List UInt8 × (Int × Int) × Int) => self1 tokens (add .i64 t25 1) t23 t24 (add .i64 t25 1) t2 t3 1 y.2.1 o_o o o_l o_l_2 o_2 else Option.none else j2 t2 t3 p p_2 o_o o o_l o_l_2 o_2
def q8n_ (t2 : List UInt8) (t3 : Int × Int) (p : Int) (p_2 : List UInt8) (o_o : Bool) (o : List (List UInt8 × Int × List QCT1)) (o_l : List UInt8) (o_l_2 : Int) (o_2 : List QCT1) : Option (As [.pr .str (.sl QCT0), .pr (.int .i64) (.int .i64)]) :=
  if nei p 1 = true then some (([], []), (140, 0), ()) else some ((p_2, if o_o = true then o ++ [(o_l, o_l_2, o_2)] else o), (0, 0), ())
def q8r_ (j1 : List QCT2 -> Int -> List QCT2 -> Int -> Int -> List UInt8 -> Int × Int -> Int -> List UInt8 -> Bool -> List (List UInt8 × Int × List QCT1) -> List UInt8 -> Int -> List QCT1 -> Option (As [.pr .str (.sl QCT0), .pr (.int .i64) (.int .i64)])) (text : List UInt8) : Option (As [.pr .str (.sl QCT0), .pr (.int .i64) (.int .i64)]) :=
  Option.bind (qcq_ (text, ())) fun (y : List QCT2 × (Int × Int) × Unit) => if (!(eqi y.2.1.1 0 && (eqi y.2.1.2 0 && true))) = true then some (([], []), y.2.1, ()) else j1 y.1 0 y.1 (Int.ofNat (List.length y.1)) 0 [] (0, 0) 0 [] false [] [] 0 []
def q6t_ (t2 : List UInt8) (t3 : Int × Int) (p : Int) (p_2 : List UInt8) (o_o : Bool) (o : List (List UInt8 × Int × List QCT1)) (o_l : List UInt8) (o_l_2 : Int) (o_2 : List QCT1) : Option (As [.pr .str (.sl QCT0), .pr (.int .i64) (.int .i64)]) := q8n_ t2 t3 p p_2 o_o o o_l o_l_2 o_2
def q6s_ (tokens : List QCT2) (from' : Int) (t23 : List QCT2) (t24 t25 : Int) (t2 : List UInt8) (t3 : Int × Int) (p : Int) (p_2 : List UInt8) (o_o : Bool) (o : List (List UInt8 × Int × List QCT1)) (o_l : List UInt8) (o_l_2 : Int) (o_2 : List QCT1) : Option (As [.pr .str (.sl QCT0), .pr (.int .i64) (.int .i64)]) :=
  loopF (fun (self : (List QCT2) × (Int) × (List QCT2) × (Int) × (Int) × (List UInt8) × (Int × Int) × (Int) × (List UInt8) × (Bool) × (List (List UInt8 × Int × List QCT1)) × (List UInt8) × (Int) × (List QCT1) -> Option (As [.pr .str (.sl QCT0), .pr (.int .i64) (.int .i64)])) (s : (List QCT2) × (Int) × (List QCT2) × (Int) × (Int) × (List UInt8) × (Int × Int) × (Int) × (List UInt8) × (Bool) × (List (List UInt8 × Int × List QCT1)) × (List UInt8) × (Int) × (List QCT1)) => q1j_ (q6t_) (fun tokens from' t23 t24 t25 t2 t3 p p_2 o_o o o_l o_l_2 o_2 => self (tokens, from', t23, t24, t25, t2, t3, p, p_2, o_o, o, o_l, o_l_2, o_2)) s.1 s.2.1 s.2.2.1 s.2.2.2.1 s.2.2.2.2.1 s.2.2.2.2.2.1 s.2.2.2.2.2.2.1 s.2.2.2.2.2.2.2.1 s.2.2.2.2.2.2.2.2.1 s.2.2.2.2.2.2.2.2.2.1 s.2.2.2.2.2.2.2.2.2.2.1 s.2.2.2.2.2.2.2.2.2.2.2.1 s.2.2.2.2.2.2.2.2.2.2.2.2.1 s.2.2.2.2.2.2.2.2.2.2.2.2.2) 18446744073709551616 (tokens, from', t23, t24, t25, t2, t3, p, p_2, o_o, o, o_l, o_l_2, o_2)
def q22_ (x : As [.str]) : Option (As [.pr .str (.sl QCT0), .pr (.int .i64) (.int .i64)]) := q8r_ q6s_ x.1
theorem qh4_  (J t2 t3 p p_2 o_o o o_l o_l_2 o_2) : pfn Tryz.prog q3z_ 6 18446744073709551616 (Ev.get q42_) 13 q3k_ J 127 [] (q8j_ t2 t3 p p_2 o_o o o_l o_l_2 o_2) = q8n_ t2 t3 p p_2 o_o o o_l o_l_2 o_2 := by kernel_rfl
theorem qg9_  (J w1 tokens from' t23 t24 t25 t2 t3 p p_2 o_o o o_l o_l_2 o_2) : pfn Tryz.prog q3z_ 6 18446744073709551616 (Ev.get q42_) 13 q3k_ J 1018 [w1] (q53_ tokens from' t23 t24 t25 t2 t3 p p_2 o_o o o_l o_l_2 o_2) = q1j_ (fun t2 t3 p p_2 o_o o o_l o_l_2 o_2 => J 127 [] (q8j_ t2 t3 p p_2 o_o o o_l o_l_2 o_2)) (fun tokens from' t23 t24 t25 t2 t3 p p_2 o_o o o_l o_l_2 o_2 => w1 (q53_ tokens from' t23 t24 t25 t2 t3 p p_2 o_o o o_l o_l_2 o_2)) tokens from' t23 t24 t25 t2 t3 p p_2 o_o o o_l o_l_2 o_2 := by kernel_rfl
theorem qh3_ (J : Orc (As [.pr .str (.sl QCT0), .pr (.int .i64) (.int .i64)])) (x : As [.str]) : rfn Tryz.prog q3z_ 6 18446744073709551616 (Ev.get q42_) 13 q3k_ J x = q8r_ (fun tokens from' t23 t24 t25 t2 t3 p p_2 o_o o o_l o_l_2 o_2 => J 1018 [] (q53_ tokens from' t23 t24 t25 t2 t3 p p_2 o_o o o_l o_l_2 o_2)) x.1 := by kernel_rfl
theorem qga_  (t2 t3 p p_2 o_o o o_l o_l_2 o_2) : jfn Tryz.prog q3z_ 6 18446744073709551616 (Ev.get q42_) 13 q3k_ 127 [] (q8j_ t2 t3 p p_2 o_o o o_l o_l_2 o_2) = q6t_ t2 t3 p p_2 o_o o o_l o_l_2 o_2 := by
  rw [q4_ (by decide)]
  rw [qh4_]
  rfl
theorem qgo_  (tokens from' t23 t24 t25 t2 t3 p p_2 o_o o o_l o_l_2 o_2) : jfn Tryz.prog q3z_ 6 18446744073709551616 (Ev.get q42_) 13 q3k_ 1018 [] (q53_ tokens from' t23 t24 t25 t2 t3 p p_2 o_o o o_l o_l_2 o_2) = q6s_ tokens from' t23 t24 t25 t2 t3 p p_2 o_o o o_l o_l_2 o_2 := by
  rw [q4_ (by decide)]
  rw [q16_ (by kernel_rfl)]
  refine qk_ (σ := (List QCT2) × (Int) × (List QCT2) × (Int) × (Int) × (List UInt8) × (Int × Int) × (Int) × (List UInt8) × (Bool) × (List (List UInt8 × Int × List QCT1)) × (List UInt8) × (Int) × (List QCT1)) (mk := fun s => q53_ s.1 s.2.1 s.2.2.1 s.2.2.2.1 s.2.2.2.2.1 s.2.2.2.2.2.1 s.2.2.2.2.2.2.1 s.2.2.2.2.2.2.2.1 s.2.2.2.2.2.2.2.2.1 s.2.2.2.2.2.2.2.2.2.1 s.2.2.2.2.2.2.2.2.2.2.1 s.2.2.2.2.2.2.2.2.2.2.2.1 s.2.2.2.2.2.2.2.2.2.2.2.2.1 s.2.2.2.2.2.2.2.2.2.2.2.2.2) (fun w1 s => ?_) 18446744073709551616 (tokens, from', t23, t24, t25, t2, t3, p, p_2, o_o, o, o_l, o_l_2, o_2)
  have e2 : (fun t2 t3 p p_2 o_o o o_l o_l_2 o_2 => (jfn Tryz.prog q3z_ 6 18446744073709551616 (Ev.get q42_) 13 q3k_) 127 [] (q8j_ t2 t3 p p_2 o_o o o_l o_l_2 o_2)) = q6t_ := by funext t2 t3 p p_2 o_o o o_l o_l_2 o_2; exact qga_ t2 t3 p p_2 o_o o o_l o_l_2 o_2
  refine (qg9_ _ w1 s.1 s.2.1 s.2.2.1 s.2.2.2.1 s.2.2.2.2.1 s.2.2.2.2.2.1 s.2.2.2.2.2.2.1 s.2.2.2.2.2.2.2.1 s.2.2.2.2.2.2.2.2.1 s.2.2.2.2.2.2.2.2.2.1 s.2.2.2.2.2.2.2.2.2.2.1 s.2.2.2.2.2.2.2.2.2.2.2.1 s.2.2.2.2.2.2.2.2.2.2.2.2.1 s.2.2.2.2.2.2.2.2.2.2.2.2.2).trans ?_
  rw [e2]
theorem qhf_ (x : As [.str]) : evT Tryz.prog q3z_ 6 18446744073709551616 (Ev.get q42_) 13 q3k_ x = q22_ x := by
  have e1 : (fun tokens from' t23 t24 t25 t2 t3 p p_2 o_o o o_l o_l_2 o_2 => (jfn Tryz.prog q3z_ 6 18446744073709551616 (Ev.get q42_) 13 q3k_) 1018 [] (q53_ tokens from' t23 t24 t25 t2 t3 p p_2 o_o o o_l o_l_2 o_2)) = q6s_ := by funext tokens from' t23 t24 t25 t2 t3 p p_2 o_o o o_l o_l_2 o_2; exact qgo_ tokens from' t23 t24 t25 t2 t3 p p_2 o_o o o_l o_l_2 o_2
  rw [q27_, qh3_, e1]
  rfl
theorem qch_ : CtOk Tryz.prog I0 13 ⟨q3k_, q22_⟩ := qx_ (q0_ Ev.bx_ok (q0_ qni_ (q0_ qb7_ (q0_ qgr_ q7_)))) qhf_
@[reducible] def qea_ : Sh := ⟨[.d (.str), .d (.int .i64), .d (.int .i64)], [], [.str, .int .i64, .int .i64], [.d (.bool)], [], 0, [.bool]⟩
def qav_ (s : List UInt8) (e line : Int) : Option (As [.bool]) :=
  Option.bind (q22_ (s, ())) fun (y : (List UInt8 × List (List UInt8 × Int × List QCT1)) × (Int × Int) × Unit) => if eqi (Int.ofNat (List.length y.1.2)) 0 = true then if eqs y.1.1 [] = true then some (eqi y.2.1.1 e && (eqi y.2.1.2 line && true), ()) else some (false, ()) else some (false, ())
def q3u_ (x : As [.str, .int .i64, .int .i64]) : Option (As [.bool]) := qav_ x.1 x.2.1 x.2.2.1
theorem qct_ : CtOk Tryz.prog I0 26 ⟨qea_, q3u_⟩ := ctn (q0_ qch_ q7_) 6 fun J x => by kernel_rfl
@[reducible] def qe8_ : Sh := ⟨[], [], [], [.d (.bool)], [], 0, [.bool]⟩
def qj4_ : Option (As [.bool]) :=
  Option.bind (q22_ ([114, 101, 99, 105, 112, 101, 32, 97, 10, 115, 108, 97, 118, 101, 32, 98, 10, 32, 32, 99, 32, 61, 32, 49, 46, 53, 32, 98, 97, 114, 10, 101, 110, 100, 10], ())) fun (y : (List UInt8 × List (List UInt8 × Int × List QCT1)) × (Int × Int) × Unit) => Option.bind (q2i_ (y.1, ())) fun (y_1 : List UInt8 × Bool × Unit) => Option.bind (q22_ ([114, 101, 99, 105, 112, 101, 32, 97], ())) fun (y_2 : (List UInt8 × List (List UInt8 × Int × List QCT1)) × (Int × Int) × Unit) => if eqi y.2.1.1 0 = true then Option.bind (qbf_ (y.1, ([97], [([98], 2, [([99], (15, 1), [98, 97, 114], 3)])]), ())) fun (y : Bool × Unit) => if y.1 = true then if y_1.2.1 = true then if eqs y_1.1 [114, 101, 99, 105, 112, 101, 32, 97, 10, 115, 108, 97, 118, 101, 32, 98, 10, 32, 32, 99, 32, 61, 32, 49, 46, 53, 32, 98, 97, 114, 10, 101, 110, 100, 10] = true then Option.bind (q3u_ ([114, 101, 99, 105, 112, 101, 32, 97, 10, 101, 110, 100], 140, 2, ())) fun (y : Bool × Unit) => if y.1 = true then Option.bind (q3u_ ([114, 101, 99, 105, 112, 101, 32, 97, 10, 115, 108, 97, 118, 101, 32, 98], 140, 0, ())) fun (y : Bool × Unit) => if y.1 = true then Option.bind (q3u_ ([114, 101, 99, 105, 112, 101, 32, 115, 108, 97, 118, 101], 140, 1, ())) fun (y : Bool × Unit) => if y.1 = true then if eqi y_2.2.1.1 0 = true then some (eqi (Int.ofNat (List.length y_2.1.2)) 0, ()) else some (false, ()) else some (false, ()) else some (false, ()) else some (false, ()) else some (false, ()) else some (false, ()) else some (false, ()) else some (false, ())
def q2y_ (x : As []) : Option (As [.bool]) := qj4_
theorem qje_ : CtOk Tryz.prog I0 16 ⟨qe8_, q2y_⟩ := ctn (q0_ qcf_ (q0_ qch_ (q0_ qjs_ (q0_ qct_ q7_)))) 6 fun J x => by kernel_rfl
def qiv_ (j2 : List (List QCT2) -> Bool -> Int -> List UInt8 -> Int × Int -> List UInt8 -> Bool -> List (List UInt8 × Int × List QCT1) -> List UInt8 -> Int -> List QCT1 -> Option (As [.pr .str (.sl QCT0), .pr (.int .i64) (.int .i64)])) (j3 : List (List QCT2) -> Bool -> Int -> List QCT2 -> Int -> Bool -> List UInt8 -> Int × Int -> List UInt8 -> Bool -> List (List UInt8 × Int × List QCT1) -> List UInt8 -> Int -> List QCT1 -> Option (As [.pr .str (.sl QCT0), .pr (.int .i64) (.int .i64)])) (j4 : Bool -> List UInt8 -> Int × Int -> List UInt8 -> Bool -> List (List UInt8 × Int × List QCT1) -> List UInt8 -> Int -> List QCT1 -> Option (As [.pr .str (.sl QCT0), .pr (.int .i64) (.int .i64)])) (self1 : List (List QCT2) -> Bool -> Int -> List UInt8 -> Int × Int -> List UInt8 -> Bool -> List (List UInt8 × Int × List QCT1) -> List UInt8 -> Int -> List QCT1 -> Option (As [.pr .str (.sl QCT0), .pr (.int .i64) (.int .i64)])) (all : List (List QCT2)) (openV : Bool) (i : Int) (t2 : List UInt8) (t3 : Int × Int) (r : List UInt8) (o_o : Bool) (o : List (List UInt8 × Int × List QCT1)) (o_l : List UInt8) (o_l_2 : Int) (o_2 : List QCT1) : Option (As [.pr .str (.sl QCT0), .pr (.int .i64) (.int .i64)]) :=
  if lt i (Int.ofNat (List.length all)) = true then Option.bind (at? all i) fun (y : List QCT2) => Option.bind (at? y 0) fun (y_1 : Int × List UInt8 × (Int × Int) × Int) => if (!openV) = true then Option.bind (qh6_ (y, [115, 108, 97, 118, 101], ())) fun (y_2 : Bool × Unit) => if (!y_2.1) = true then some (([], []), (140, y_1.2.2.2), ()) else if eqi (if o_o = true then Int.ofNat (List.length o + 1) else Int.ofNat (List.length o)) 8 = true then some (([], []), (130, y_1.2.2.2), ()) else Option.bind (at? y 1) fun (y : Int × List UInt8 × (Int × Int) × Int) => need (small (List.length (if o_o = true then o ++ [(o_l, o_l_2, o_2)] else o) + 1)) (j2 all true i t2 t3 r true (if o_o = true then o ++ [(o_l, o_l_2, o_2)] else o) y.2.1 y_1.2.2.2 []) else if eqi (Int.ofNat (List.length y)) 1 = true then Option.bind (at? y 0) fun (y_2 : Int × List UInt8 × (Int × Int) × Int) => if eqi y_2.1 1 = true then Option.bind (at? y 0) fun (y_3 : Int × List UInt8 × (Int × Int) × Int) => j3 all openV i y y_1.2.2.2 (eqs y_3.2.1 [101, 110, 100]) t2 t3 r o_o o o_l o_l_2 o_2 else j3 all openV i y y_1.2.2.2 false t2 t3 r o_o o o_l o_l_2 o_2 else j3 all openV i y y_1.2.2.2 false t2 t3 r o_o o o_l o_l_2 o_2 else j4 openV t2 t3 r o_o o o_l o_l_2 o_2
def qji_ (self1 : List (List QCT2) -> Bool -> Int -> List UInt8 -> Int × Int -> List UInt8 -> Bool -> List (List UInt8 × Int × List QCT1) -> List UInt8 -> Int -> List QCT1 -> Option (As [.pr .str (.sl QCT0), .pr (.int .i64) (.int .i64)])) (all : List (List QCT2)) (openV : Bool) (i : Int) (t2 : List UInt8) (t3 : Int × Int) (r : List UInt8) (o_o : Bool) (o : List (List UInt8 × Int × List QCT1)) (o_l : List UInt8) (o_l_2 : Int) (o_2 : List QCT1) : Option (As [.pr .str (.sl QCT0), .pr (.int .i64) (.int .i64)]) :=
  self1 all openV (add .i64 i 1) t2 t3 r o_o o o_l o_l_2 o_2
def qic_ (j2 : List (List QCT2) -> Bool -> Int -> List UInt8 -> Int × Int -> List UInt8 -> Bool -> List (List UInt8 × Int × List QCT1) -> List UInt8 -> Int -> List QCT1 -> Option (As [.pr .str (.sl QCT0), .pr (.int .i64) (.int .i64)])) (j5 : List (List QCT2) -> Bool -> Int -> List QCT2 -> Int -> Bool -> List UInt8 -> Int × Int -> List UInt8 -> Bool -> List (List UInt8 × Int × List QCT1) -> List UInt8 -> Int -> List QCT1 -> Option (As [.pr .str (.sl QCT0), .pr (.int .i64) (.int .i64)])) (self1 : List (List QCT2) -> Bool -> Int -> List UInt8 -> Int × Int -> List UInt8 -> Bool -> List (List UInt8 × Int × List QCT1) -> List UInt8 -> Int -> List QCT1 -> Option (As [.pr .str (.sl QCT0), .pr (.int .i64) (.int .i64)])) (all : List (List QCT2)) (openV : Bool) (i : Int) (x : List QCT2) (line : Int) (t107 : Bool) (t2 : List UInt8) (t3 : Int × Int) (r : List UInt8) (o_o : Bool) (o : List (List UInt8 × Int × List QCT1)) (o_l : List UInt8) (o_l_2 : Int) (o_2 : List QCT1) : Option (As [.pr .str (.sl QCT0), .pr (.int .i64) (.int .i64)]) :=
  if t107 = true then j2 all false i t2 t3 r o_o o o_l o_l_2 o_2 else if lt (Int.ofNat (List.length x)) 3 = true then j5 all openV i x line true t2 t3 r o_o o o_l o_l_2 o_2 else if gt (Int.ofNat (List.length x)) 4 = true then j5 all openV i x line true t2 t3 r o_o o o_l o_l_2 o_2 else Option.bind (at? x 0) fun (y : Int × List UInt8 × (Int × Int) × Int) => if nei y.1 1 = true then j5 all openV i x line true t2 t3 r o_o o o_l o_l_2 o_2 else Option.bind (at? x 0) fun (y : Int × List UInt8 × (Int × Int) × Int) => Option.bind (qaj_ (y.2.1, ())) fun (y : Bool × Unit) => if (!y.1) = true then j5 all openV i x line true t2 t3 r o_o o o_l o_l_2 o_2 else Option.bind (at? x 1) fun (y : Int × List UInt8 × (Int × Int) × Int) => if nei y.1 3 = true then j5 all openV i x line true t2 t3 r o_o o o_l o_l_2 o_2 else Option.bind (at? x 2) fun (y : Int × List UInt8 × (Int × Int) × Int) => if nei y.1 2 = true then j5 all openV i x line true t2 t3 r o_o o o_l o_l_2 o_2 else if eqi (Int.ofNat (List.length x)) 4 = true then Option.bind (at? x 3) fun (y : Int × List UInt8 × (Int × Int) × Int) => j5 all openV i x line (nei y.1 1) t2 t3 r o_o o o_l o_l_2 o_2 else j5 all openV i x line false t2 t3 r o_o o o_l o_l_2 o_2
def qk1_ (openV : Bool) (t2 : List UInt8) (t3 : Int × Int) (r : List UInt8) (o_o : Bool) (o : List (List UInt8 × Int × List QCT1)) (o_l : List UInt8) (o_l_2 : Int) (o_2 : List QCT1) : Option (As [.pr .str (.sl QCT0), .pr (.int .i64) (.int .i64)]) :=
  if openV = true then some (([], []), (140, 0), ()) else some ((r, if o_o = true then o ++ [(o_l, o_l_2, o_2)] else o), (0, 0), ())
def qij_ (j6 : List (List QCT2) -> Bool -> Int -> Int -> List UInt8 -> Int × Int -> List UInt8 -> Bool -> List (List UInt8 × Int × List QCT1) -> List UInt8 -> Int -> List QCT1 -> List UInt8 × (Int × Int) × List UInt8 × Int -> Option (As [.pr .str (.sl QCT0), .pr (.int .i64) (.int .i64)])) (self1 : List (List QCT2) -> Bool -> Int -> List UInt8 -> Int × Int -> List UInt8 -> Bool -> List (List UInt8 × Int × List QCT1) -> List UInt8 -> Int -> List QCT1 -> Option (As [.pr .str (.sl QCT0), .pr (.int .i64) (.int .i64)])) (all : List (List QCT2)) (openV : Bool) (i : Int) (x : List QCT2) (line : Int) (t156 : Bool) (t2 : List UInt8) (t3 : Int × Int) (r : List UInt8) (o_o : Bool) (o : List (List UInt8 × Int × List QCT1)) (o_l : List UInt8) (o_l_2 : Int) (o_2 : List QCT1) : Option (As [.pr .str (.sl QCT0), .pr (.int .i64) (.int .i64)]) :=
  if t156 = true then some (([], []), (140, line), ()) else need o_o (need (eqi (Sx.sub .i64 (if o_o = true then Int.ofNat (List.length o + 1) else Int.ofNat (List.length o)) 1) (Int.ofNat (List.length o))) (need o_o (need (eqi (Sx.sub .i64 (if o_o = true then Int.ofNat (List.length o + 1) else Int.ofNat (List.length o)) 1) (Int.ofNat (List.length o))) (if eqi (Int.ofNat (List.length o_2)) 64 = true then some (([], []), (130, line), ()) else Option.bind (at? x 0) fun (y : Int × List UInt8 × (Int × Int) × Int) => Option.bind (at? x 2) fun (y_1 : Int × List UInt8 × (Int × Int) × Int) => if eqi (Int.ofNat (List.length x)) 4 = true then Option.bind (at? x 3) fun (y_2 : Int × List UInt8 × (Int × Int) × Int) => j6 all openV i (Sx.sub .i64 (if o_o = true then Int.ofNat (List.length o + 1) else Int.ofNat (List.length o)) 1) t2 t3 r o_o o o_l o_l_2 o_2 (y.2.1, y_1.2.2.1, y_2.2.1, line) else j6 all openV i (Sx.sub .i64 (if o_o = true then Int.ofNat (List.length o + 1) else Int.ofNat (List.length o)) 1) t2 t3 r o_o o o_l o_l_2 o_2 (y.2.1, y_1.2.2.1, [], line)))))
def qid_ (j2 self1 : List (List QCT2) -> Bool -> Int -> List UInt8 -> Int × Int -> List UInt8 -> Bool -> List (List UInt8 × Int × List QCT1) -> List UInt8 -> Int -> List QCT1 -> Option (As [.pr .str (.sl QCT0), .pr (.int .i64) (.int .i64)])) (all : List (List QCT2)) (openV : Bool) (i p : Int) (t2 : List UInt8) (t3 : Int × Int) (r : List UInt8) (o_o : Bool) (o : List (List UInt8 × Int × List QCT1)) (o_l : List UInt8) (o_l_2 : Int) (o_2 : List QCT1) (s : List UInt8 × (Int × Int) × List UInt8 × Int) : Option (As [.pr .str (.sl QCT0), .pr (.int .i64) (.int .i64)]) :=
  need o_o (need (eqi p (Int.ofNat (List.length o))) (need o_o (need (eqi p (Int.ofNat (List.length o))) (need (small (List.length o_2 + Nat.succ 0)) (need o_o (need (eqi p (Int.ofNat (List.length o))) (need o_o (need (eqi p (Int.ofNat (List.length o))) (j2 all openV i t2 t3 r true o o_l o_l_2 (o_2 ++ [s]))))))))))
def qif_ (j1 : List (List QCT2) -> Bool -> Int -> List UInt8 -> Int × Int -> List UInt8 -> Bool -> List (List UInt8 × Int × List QCT1) -> List UInt8 -> Int -> List QCT1 -> Option (As [.pr .str (.sl QCT0), .pr (.int .i64) (.int .i64)])) (text : List UInt8) : Option (As [.pr .str (.sl QCT0), .pr (.int .i64) (.int .i64)]) :=
  Option.bind (qk3_ (text, ())) fun (y : List QCT2 × (Int × Int) × Unit) => if nei y.2.1.1 0 = true then some (([], []), y.2.1, ()) else Option.bind (qnb_ (y.1, ())) fun (y : List (List QCT2) × Unit) => if eqi (Int.ofNat (List.length y.1)) 0 = true then some (([], []), (140, 0), ()) else Option.bind (at? y.1 0) fun (y_1 : List QCT2) => Option.bind (qh6_ (y_1, [114, 101, 99, 105, 112, 101], ())) fun (y_2 : Bool × Unit) => if (!y_2.1) = true then Option.bind (at? y.1 0) fun (y : List QCT2) => Option.bind (at? y 0) fun (y : Int × List UInt8 × (Int × Int) × Int) => some (([], []), (140, y.2.2.2), ()) else Option.bind (at? y.1 0) fun (y_3 : List QCT2) => Option.bind (at? y_3 1) fun (y_4 : Int × List UInt8 × (Int × Int) × Int) => j1 y.1 false 1 [] (0, 0) y_4.2.1 false [] [] 0 []
def qb4_ (u1 : List (List QCT2) -> Bool -> Int -> List UInt8 -> Int × Int -> List UInt8 -> Bool -> List (List UInt8 × Int × List QCT1) -> List UInt8 -> Int -> List QCT1 -> Option (As [.pr .str (.sl QCT0), .pr (.int .i64) (.int .i64)])) (all : List (List QCT2)) (openV : Bool) (i : Int) (t2 : List UInt8) (t3 : Int × Int) (r : List UInt8) (o_o : Bool) (o : List (List UInt8 × Int × List QCT1)) (o_l : List UInt8) (o_l_2 : Int) (o_2 : List QCT1) : Option (As [.pr .str (.sl QCT0), .pr (.int .i64) (.int .i64)]) := qji_ u1 all openV i t2 t3 r o_o o o_l o_l_2 o_2
def qi7_ (u1 : List (List QCT2) -> Bool -> Int -> List UInt8 -> Int × Int -> List UInt8 -> Bool -> List (List UInt8 × Int × List QCT1) -> List UInt8 -> Int -> List QCT1 -> Option (As [.pr .str (.sl QCT0), .pr (.int .i64) (.int .i64)])) (all : List (List QCT2)) (openV : Bool) (i p : Int) (t2 : List UInt8) (t3 : Int × Int) (r : List UInt8) (o_o : Bool) (o : List (List UInt8 × Int × List QCT1)) (o_l : List UInt8) (o_l_2 : Int) (o_2 : List QCT1) (s : List UInt8 × (Int × Int) × List UInt8 × Int) : Option (As [.pr .str (.sl QCT0), .pr (.int .i64) (.int .i64)]) := qid_ (qb4_ u1) u1 all openV i p t2 t3 r o_o o o_l o_l_2 o_2 s
def qii_ (u1 : List (List QCT2) -> Bool -> Int -> List UInt8 -> Int × Int -> List UInt8 -> Bool -> List (List UInt8 × Int × List QCT1) -> List UInt8 -> Int -> List QCT1 -> Option (As [.pr .str (.sl QCT0), .pr (.int .i64) (.int .i64)])) (all : List (List QCT2)) (openV : Bool) (i : Int) (x : List QCT2) (line : Int) (t156 : Bool) (t2 : List UInt8) (t3 : Int × Int) (r : List UInt8) (o_o : Bool) (o : List (List UInt8 × Int × List QCT1)) (o_l : List UInt8) (o_l_2 : Int) (o_2 : List QCT1) : Option (As [.pr .str (.sl QCT0), .pr (.int .i64) (.int .i64)]) := qij_ (qi7_ u1) u1 all openV i x line t156 t2 t3 r o_o o o_l o_l_2 o_2
def qjj_ (u1 : List (List QCT2) -> Bool -> Int -> List UInt8 -> Int × Int -> List UInt8 -> Bool -> List (List UInt8 × Int × List QCT1) -> List UInt8 -> Int -> List QCT1 -> Option (As [.pr .str (.sl QCT0), .pr (.int .i64) (.int .i64)])) (all : List (List QCT2)) (openV : Bool) (i : Int) (x : List QCT2) (line : Int) (t107 : Bool) (t2 : List UInt8) (t3 : Int × Int) (r : List UInt8) (o_o : Bool) (o : List (List UInt8 × Int × List QCT1)) (o_l : List UInt8) (o_l_2 : Int) (o_2 : List QCT1) : Option (As [.pr .str (.sl QCT0), .pr (.int .i64) (.int .i64)]) := qic_ (qb4_ u1) (qii_ u1) u1 all openV i x line t107 t2 t3 r o_o o o_l o_l_2 o_2
def qhi_ (openV : Bool) (t2 : List UInt8) (t3 : Int × Int) (r : List UInt8) (o_o : Bool) (o : List (List UInt8 × Int × List QCT1)) (o_l : List UInt8) (o_l_2 : Int) (o_2 : List QCT1) : Option (As [.pr .str (.sl QCT0), .pr (.int .i64) (.int .i64)]) := qk1_ openV t2 t3 r o_o o o_l o_l_2 o_2
def qhu_ (all : List (List QCT2)) (openV : Bool) (i : Int) (t2 : List UInt8) (t3 : Int × Int) (r : List UInt8) (o_o : Bool) (o : List (List UInt8 × Int × List QCT1)) (o_l : List UInt8) (o_l_2 : Int) (o_2 : List QCT1) : Option (As [.pr .str (.sl QCT0), .pr (.int .i64) (.int .i64)]) :=
  loopF (fun (self : (List (List QCT2)) × (Bool) × (Int) × (List UInt8) × (Int × Int) × (List UInt8) × (Bool) × (List (List UInt8 × Int × List QCT1)) × (List UInt8) × (Int) × (List QCT1) -> Option (As [.pr .str (.sl QCT0), .pr (.int .i64) (.int .i64)])) (s : (List (List QCT2)) × (Bool) × (Int) × (List UInt8) × (Int × Int) × (List UInt8) × (Bool) × (List (List UInt8 × Int × List QCT1)) × (List UInt8) × (Int) × (List QCT1)) => qiv_ (qb4_ (fun all openV i t2 t3 r o_o o o_l o_l_2 o_2 => self (all, openV, i, t2, t3, r, o_o, o, o_l, o_l_2, o_2))) (qjj_ (fun all openV i t2 t3 r o_o o o_l o_l_2 o_2 => self (all, openV, i, t2, t3, r, o_o, o, o_l, o_l_2, o_2))) (qhi_) (fun all openV i t2 t3 r o_o o o_l o_l_2 o_2 => self (all, openV, i, t2, t3, r, o_o, o, o_l, o_l_2, o_2)) s.1 s.2.1 s.2.2.1 s.2.2.2.1 s.2.2.2.2.1 s.2.2.2.2.2.1 s.2.2.2.2.2.2.1 s.2.2.2.2.2.2.2.1 s.2.2.2.2.2.2.2.2.1 s.2.2.2.2.2.2.2.2.2.1 s.2.2.2.2.2.2.2.2.2.2) 18446744073709551616 (all, openV, i, t2, t3, r, o_o, o, o_l, o_l_2, o_2)
def qmq_ (x : As [.str]) : Option (As [.pr .str (.sl QCT0), .pr (.int .i64) (.int .i64)]) := qif_ qhu_ x.1
def qd3_ (j2 : Bool -> List UInt8 × List (List UInt8 × Int × List QCT1) -> Option (As [.bool])) (text : List UInt8) (t25 : Bool) (a b : List UInt8 × List (List UInt8 × Int × List QCT1)) : Option (As [.bool]) :=
  if t25 = true then Option.bind (q2y_ ()) fun (y : Bool × Unit) => some (y.1, ()) else Option.bind (q22_ (text, ())) fun (y : (List UInt8 × List (List UInt8 × Int × List QCT1)) × (Int × Int) × Unit) => Option.bind (qmq_ (text, ())) fun (y_1 : (List UInt8 × List (List UInt8 × Int × List QCT1)) × (Int × Int) × Unit) => if (!(eqi y.2.1.1 y_1.2.1.1 && (eqi y.2.1.2 y_1.2.1.2 && true))) = true then j2 true a else Option.bind (qbf_ (y.1, y_1.1, ())) fun (y : Bool × Unit) => if (!y.1) = true then j2 true a else Option.bind (qba_ (a, b, ())) fun (y : Bool × Unit) => Option.bind (qae_ (a, b, ())) fun (y_2 : Bool × Unit) => if Sx.neb y.1 y_2.1 = true then j2 true a else Option.bind (q3f_ (a, ())) fun (y : Bool × Unit) => Option.bind (qfe_ (a, ())) fun (y_3 : Bool × Unit) => j2 (Sx.neb y.1 y_3.1) a
def qd8_ (t61 : Bool) (a : List UInt8 × List (List UInt8 × Int × List QCT1)) : Option (As [.bool]) :=
  if t61 = true then some (false, ()) else Option.bind (q2i_ (a, ())) fun (y : List UInt8 × Bool × Unit) => Option.bind (qfe_ (a, ())) fun (y_1 : Bool × Unit) => if (!y_1.1) = true then if (!y.2.1) = true then if eqs y.1 [] = true then Option.bind (q2y_ ()) fun (y : Bool × Unit) => some (y.1, ()) else some (false, ()) else some (false, ()) else if y.2.1 = true then Option.bind (qn0_ (a, ())) fun (y_2 : List UInt8 × Unit) => if eqs y.1 y_2.1 = true then Option.bind (q2y_ ()) fun (y : Bool × Unit) => some (y.1, ()) else some (false, ()) else some (false, ())
def qdg_ (j1 : List UInt8 -> Bool -> List UInt8 × List (List UInt8 × Int × List QCT1) -> List UInt8 × List (List UInt8 × Int × List QCT1) -> Option (As [.bool])) (text : List UInt8) (a b : List UInt8 × List (List UInt8 × Int × List QCT1)) : Option (As [.bool]) :=
  if gt (Int.ofNat (List.length text)) 9000 = true then j1 text true a b else Option.bind (q6n_ (a, ())) fun (y : Bool × Unit) => if (!y.1) = true then j1 text true a b else Option.bind (q6n_ (b, ())) fun (y : Bool × Unit) => j1 text (!y.1) a b
def qd9_ (t61 : Bool) (a : List UInt8 × List (List UInt8 × Int × List QCT1)) : Option (As [.bool]) := qd8_ t61 a
def qd1_ (text : List UInt8) (t25 : Bool) (a b : List UInt8 × List (List UInt8 × Int × List QCT1)) : Option (As [.bool]) := qd3_ (qd9_) text t25 a b
def qnm_ (x : As [.str, .pr .str (.sl QCT0), .pr .str (.sl QCT0)]) : Option (As [.bool]) := qdg_ qd1_ x.1 x.2.1 x.2.2.1
end Go.Proofs.Lx
end
section
namespace Go.Proofs
open Go.Shelf
def Tryz.lays105_ren : Go.Shelf.Ren := ⟨fun | 105 => 27 | 212 => 59 | 99 => 60 | 165 => 58 | 166 => 35 | 170 => 61 | 169 => 38 | 263 => 85 | 264 => 86 | 206 => 87 | 240 => 67 | 241 => 84 | 276 => 98 | 277 => 119 | n => n, fun | 9 => 9 | 3 => 3 | 4 => 4 | 20 => 20 | 0 => 0 | 46 => 118 | 109 => 119 | 5 => 5 | 72 => 87 | 76 => 90 | 51 => 147 | 146 => 148 | 53 => 150 | 148 => 151 | 70 => 84 | 37 => 85 | 75 => 89 | 127 => 132 | 164 => 163 | 80 => 95 | n => n, fun | n => n⟩
theorem Tryz.lays105 : Go.Proofs.Lays.n105 Tryz.prog Tryz.lays105_ren := {
  mixed := by kernel_rfl
  f99 := Tryz.func60.trans (congrArg some (by kernel_rfl))
  f105 := Tryz.func27.trans (congrArg some (by kernel_rfl))
  f165 := Tryz.func58.trans (congrArg some (by kernel_rfl))
  f166 := Tryz.func35.trans (congrArg some (by kernel_rfl))
  f169 := Tryz.func38.trans (congrArg some (by kernel_rfl))
  f170 := Tryz.func61.trans (congrArg some (by kernel_rfl))
  f206 := Tryz.func87.trans (congrArg some (by kernel_rfl))
  f212 := Tryz.func59.trans (congrArg some (by kernel_rfl))
  f240 := Tryz.func67.trans (congrArg some (by kernel_rfl))
  f241 := Tryz.func84.trans (congrArg some (by kernel_rfl))
  f263 := Tryz.func85.trans (congrArg some (by kernel_rfl))
  f264 := Tryz.func86.trans (congrArg some (by kernel_rfl))
  f276 := Tryz.func98.trans (congrArg some (by kernel_rfl))
  f277 := Tryz.func119.trans (congrArg some (by kernel_rfl))
  t0 := Tryz.underlying0
  a0 := Tryz.isAgg0
  z0 := Tryz.sizeOf0
  v0 := Tryz.zeroValue0
  t3 := Tryz.underlying3
  a3 := Tryz.isAgg3
  z3 := Tryz.sizeOf3
  v3 := Tryz.zeroValue3
  t4 := Tryz.underlying4
  a4 := Tryz.isAgg4
  z4 := Tryz.sizeOf4
  v4 := Tryz.zeroValue4
  t5 := Tryz.underlying5
  a5 := Tryz.isAgg5
  z5 := Tryz.sizeOf5
  v5 := Tryz.zeroValue5
  t9 := Tryz.underlying9
  a9 := Tryz.isAgg9
  z9 := Tryz.sizeOf9
  v9 := Tryz.zeroValue9
  t20 := Tryz.underlying20
  a20 := Tryz.isAgg20
  z20 := Tryz.sizeOf20
  v20 := Tryz.zeroValue20
  t37 := Tryz.underlying85
  a37 := Tryz.isAgg85
  z37 := Tryz.sizeOf85
  v37 := Tryz.zeroValue85
  t46 := Tryz.underlying118
  a46 := Tryz.isAgg118
  z46 := Tryz.sizeOf118
  v46 := Tryz.zeroValue118
  t51 := Tryz.underlying147
  a51 := Tryz.isAgg147
  z51 := Tryz.sizeOf147
  v51 := Tryz.zeroValue147
  t53 := Tryz.underlying150
  a53 := Tryz.isAgg150
  z53 := Tryz.sizeOf150
  v53 := Tryz.zeroValue150
  t70 := Tryz.underlying84
  a70 := Tryz.isAgg84
  z70 := Tryz.sizeOf84
  v70 := Tryz.zeroValue84
  t72 := Tryz.underlying87
  a72 := Tryz.isAgg87
  z72 := Tryz.sizeOf87
  v72 := Tryz.zeroValue87
  t75 := Tryz.underlying89
  a75 := Tryz.isAgg89
  z75 := Tryz.sizeOf89
  v75 := Tryz.zeroValue89
  t76 := Tryz.underlying90
  a76 := Tryz.isAgg90
  z76 := Tryz.sizeOf90
  v76 := Tryz.zeroValue90
  t109 := Tryz.underlying119
  a109 := Tryz.isAgg119
  z109 := Tryz.sizeOf119
  v109 := Tryz.zeroValue119
  t127 := Tryz.underlying132
  a127 := Tryz.isAgg132
  z127 := Tryz.sizeOf132
  v127 := Tryz.zeroValue132
  t146 := Tryz.underlying148
  a146 := Tryz.isAgg148
  z146 := Tryz.sizeOf148
  v146 := Tryz.zeroValue148
  t148 := Tryz.underlying151
  a148 := Tryz.isAgg151
  z148 := Tryz.sizeOf151
  v148 := Tryz.zeroValue151
  t164 := Tryz.underlying163
  a164 := Tryz.isAgg163
  z164 := Tryz.sizeOf163
  v164 := Tryz.zeroValue163 }
theorem Tryz.Builder_Extra_105 : Builder.Extra Tryz.prog Tryz.lays105_ren := {
  sizeBuilder := by kernel_rfl
  liesBuilder := by kernel_rfl
  t5 := Tryz.underlying5
  a5 := Tryz.isAgg5
  z5 := Tryz.sizeOf5
  v5 := Tryz.zeroValue5
  infoByte := by kernel_rfl
  cellsByte := by kernel_rfl
  sizeByte := by kernel_rfl
  neB5 := by decide }
end Go.Proofs
end
section
namespace Go.Proofs.Lx
open Go Go.RowKit Go.Proofs Go.Shelf Ev Sx
def q65_ (x : As [.str, .int .i64]) : Option (As [.str]) := if 0 ≤ x.2.1 ∧ x.2.1 ≤ 1000000 ∧ x.1.length ≤ 100000 then some (Lib.repeatL x.1 x.2.1.toNat, ()) else none
theorem strings_RepS_ok : CtOk Tryz.prog I0 27 ⟨strings_Repeat_s, q65_⟩ := by
  intro F w0 pl x y ss own vs hx hA hpl hI hL hE hD
  have hA : some ([SV.d .str x.1, SV.d (.int .i64) x.2.1], ([] : List (Nat × Ent))) = some (ss, own) := hA
  cases hA
  obtain ⟨v1, q1, rfl, hv1, v2, q2, rfl, hv2, hq⟩ := hD
  have hq : q2 = [] := hq
  subst hq
  rw [denS hv1, den1 hv2]
  have hx : (if 0 ≤ x.2.1 ∧ x.2.1 ≤ 1000000 ∧ x.1.length ≤ 100000 then some (Lib.repeatL x.1 x.2.1.toNat, ()) else none) = some y := hx
  by_cases hc : 0 ≤ x.2.1 ∧ x.2.1 ≤ 1000000 ∧ x.1.length ≤ 100000
  · rw [if_pos hc] at hx
    cases hx
    obtain ⟨n, hn⟩ : ∃ n : Int, n = x.2.1 := ⟨_, rfl⟩
    rw [<- hn] at hc ⊢
    have g1 : (0 : Int) ≤ n := hc.1
    have g2 : n ≤ (1000000 : Int) := hc.2.1
    have hsz : (bts x.1).size = x.1.length := rfl
    have h := Any.strings_Repeat Tryz.lays105 Tryz.Builder_Extra_105 (bts x.1) n.toNat w0 (by omega) (by
      rw [hsz]
      have h1 : n.toNat ≤ 1000000 := by omega
      exact Nat.le_trans (Nat.mul_le_mul hc.2.2 h1) (by decide))
    rw [show ((n.toNat : Nat) : Int) = n by omega] at h
    refine h.mono fun e w' he => ?_
    obtain ⟨rfl, hb⟩ := he
    exact ⟨[_], rfl, pl, [SV.d .str (Lib.repeatL x.1 n.toNat)], [], rfl, fun _ _ h => h, hpl, blw_below hb, lok_step hL hb.size, fun e he => (by cases he), _, [], rfl, toDenS, rfl⟩
  · rw [if_neg hc] at hx
    cases hx
end Go.Proofs.Lx
end
section
open Go Go.Proofs Ev Sx
set_option maxRecDepth 100000
namespace Go.Proofs.Lx
abbrev QET2 : Type := (List UInt8 × (Int × Int) × List UInt8 × Int)
abbrev QET0 : Type := (List UInt8 × Int × List QET2)
abbrev QET1 : Ty := (.sl (.pr .str (.pr (.int .i64) (.sl (.pr .str (.pr (.pr (.int .i64) (.int .u8)) (.pr .str (.int .i64))))))))
@[reducible] def utf8_RuneCountInString_s : Sh := ⟨[.d (.str)], [], [.str], [.d (.int .i64)], [], 0, [.int .i64]⟩
def utf8_RuneCountInString_e : Env := (cts [])
def utf8_RuneCountInString_h : List (Nat × Hint) := [(26, ⟨[], [2, 4]⟩)]
def q8t_ (s : List UInt8) : Option (As [.int .i64]) :=
  Option.none
def q33_ (x : As [.str]) : Option (As [.int .i64]) := q8t_ x.1
theorem utf8_RuneCountInString_c0 (J : Orc (As [.int .i64])) (x : As [.str]) : rfn Tryz.prog utf8_RuneCountInString_e 6 18446744073709551616 (Ev.get utf8_RuneCountInString_h) 115 utf8_RuneCountInString_s J x = q8t_ x.1 := by kernel_rfl
theorem utf8_RuneCountInString_t (x : As [.str]) : evT Tryz.prog utf8_RuneCountInString_e 6 18446744073709551616 (Ev.get utf8_RuneCountInString_h) 115 utf8_RuneCountInString_s x = q33_ x := by
  rw [q27_, utf8_RuneCountInString_c0]
  rfl
theorem q8u_ : CtOk Tryz.prog I0 115 ⟨utf8_RuneCountInString_s, q33_⟩ := qx_ q7_ utf8_RuneCountInString_t
@[reducible] def utf8_decodeRuneInStringSlow_s : Sh := ⟨[.d (.str)], [], [.str], [.d (.int .i32), .d (.int .i64)], [], 0, [.int .i32, .int .i64]⟩
def q75_ : Env := (cts [])
def q76_ : List (Nat × Hint) := [(262142, ⟨[], [5, 10, 11, 12, 98]⟩), (32766, ⟨[], [0, 5, 8, 10, 11, 75, 96, 97]⟩), (4094, ⟨[], [0, 5, 8, 10, 57, 73, 74, 96, 97]⟩)]
def q6x_ (s : List UInt8) : Option (As [.int .i32, .int .i64]) :=
  if lt (Int.ofNat (List.length s)) 1 = true then some (65533, 0, ()) else Option.bind (at? s 0) fun (c : UInt8) => Option.none
def q3s_ (x : As [.str]) : Option (As [.int .i32, .int .i64]) := q6x_ x.1
theorem utf8_decodeRuneInStringSlow_c0 (J : Orc (As [.int .i32, .int .i64])) (x : As [.str]) : rfn Tryz.prog q75_ 6 18446744073709551616 (Ev.get q76_) 137 utf8_decodeRuneInStringSlow_s J x = q6x_ x.1 := by kernel_rfl
theorem utf8_decodeRuneInStringSlow_t (x : As [.str]) : evT Tryz.prog q75_ 6 18446744073709551616 (Ev.get q76_) 137 utf8_decodeRuneInStringSlow_s x = q3s_ x := by
  rw [q27_, utf8_decodeRuneInStringSlow_c0]
  rfl
theorem utf8_decodeRuneInStringSlow_ok : CtOk Tryz.prog I0 137 ⟨utf8_decodeRuneInStringSlow_s, q3s_⟩ := qx_ q7_ utf8_decodeRuneInStringSlow_t
@[reducible] def utf8_DecodeRuneInString_s : Sh := ⟨[.d (.str)], [], [.str], [.d (.int .i32), .d (.int .i64)], [], 0, [.int .i32, .int .i64]⟩
def q3c_ : Env := (cts [(137, (⟨utf8_decodeRuneInStringSlow_s, q3s_⟩ : Ct))])
def q3d_ : List (Nat × Hint) := [(6, ⟨[], [0, 10]⟩)]
def q3x_ (s : List UInt8) (t10 : Bool) : St := { fr := [(0, .d .str s), (10, .d .bool t10)], nt := 19, up := [], own := [], nx := 0, log := [], ln := 0 }
def q8f_ (s : List UInt8) (t10 : Bool) : Option (As [.int .i32, .int .i64]) :=
  if t10 = true then Option.bind (at? s 0) fun (c : UInt8) => some (cvt .i32 (Int.ofNat (UInt8.toNat c)), 1, ()) else Option.bind (q3s_ (s, ())) fun (y : Int × Int × Unit) => some (y.1, y.2.1, ())
def q8g_ (j1 : List UInt8 -> Bool -> Option (As [.int .i32, .int .i64])) (s : List UInt8) : Option (As [.int .i32, .int .i64]) :=
  if nes s [] = true then Option.bind (at? s 0) fun (c : UInt8) => j1 s (lt (Int.ofNat (UInt8.toNat c)) 128) else j1 s false
def q5b_ (s : List UInt8) (t10 : Bool) : Option (As [.int .i32, .int .i64]) := q8f_ s t10
def q4p_ (x : As [.str]) : Option (As [.int .i32, .int .i64]) := q8g_ q5b_ x.1
theorem utf8_DecodeRuneInString_c1  (J s t10) : pfn Tryz.prog q3c_ 6 18446744073709551616 (Ev.get q3d_) 116 utf8_DecodeRuneInString_s J 6 [] (q3x_ s t10) = q8f_ s t10 := by kernel_rfl
theorem utf8_DecodeRuneInString_c0 (J : Orc (As [.int .i32, .int .i64])) (x : As [.str]) : rfn Tryz.prog q3c_ 6 18446744073709551616 (Ev.get q3d_) 116 utf8_DecodeRuneInString_s J x = q8g_ (fun s t10 => J 6 [] (q3x_ s t10)) x.1 := by kernel_rfl
theorem utf8_DecodeRuneInString_g1  (s t10) : jfn Tryz.prog q3c_ 6 18446744073709551616 (Ev.get q3d_) 116 utf8_DecodeRuneInString_s 6 [] (q3x_ s t10) = q5b_ s t10 := by
  rw [q4_ (by decide)]
  rw [utf8_DecodeRuneInString_c1]
  rfl
theorem utf8_DecodeRuneInString_t (x : As [.str]) : evT Tryz.prog q3c_ 6 18446744073709551616 (Ev.get q3d_) 116 utf8_DecodeRuneInString_s x = q4p_ x := by
  have e1 : (fun s t10 => (jfn Tryz.prog q3c_ 6 18446744073709551616 (Ev.get q3d_) 116 utf8_DecodeRuneInString_s) 6 [] (q3x_ s t10)) = q5b_ := by funext s t10; exact utf8_DecodeRuneInString_g1 s t10
  rw [q27_, utf8_DecodeRuneInString_c0, e1]
  rfl
theorem utf8_DecodeRuneInString_ok : CtOk Tryz.prog I0 116 ⟨utf8_DecodeRuneInString_s, q4p_⟩ := qx_ (q0_ utf8_decodeRuneInStringSlow_ok q7_) utf8_DecodeRuneInString_t
@[reducible] def strings_explode_s : Sh := ⟨[.d (.str), .d (.int .i64)], [], [.str, .int .i64], [.d (.sl .str)], [], 0, [.sl .str]⟩
def qy_ : Env := (cts [(115, (⟨utf8_RuneCountInString_s, q33_⟩ : Ct)), (116, (⟨utf8_DecodeRuneInString_s, q4p_⟩ : Ct))])
def qz_ : List (Nat × Hint) := [(7, ⟨[], [0, 1]⟩), (31, ⟨[], [0, 1, 6]⟩), (250, ⟨[], [0, 1, 6, 7]⟩), (14, ⟨[], [0, 1, 5, 18]⟩)]
def q6y_ (s : List UInt8) (n l : Int) (t18 : Bool) : St := { fr := [(0, .d .str s), (1, .d (.int .i64) n), (5, .d (.int .i64) l), (18, .d .bool t18)], nt := 50, up := [], own := [], nx := 0, log := [], ln := 0 }
def q6z_ (s : List UInt8) (n : Int) : St := { fr := [(0, .d .str s), (1, .d (.int .i64) n)], nt := 50, up := [], own := [], nx := 0, log := [], ln := 0 }
def q44_ (s : List UInt8) (n i : Int) (a : List (List UInt8)) : St := { fr := [(0, .d .str s), (1, .d (.int .i64) n), (6, .row 0), (7, .d (.int .i64) i)], nt := 50, up := [], own := [(0, .row .str 9 a)], nx := 1, log := [], ln := 0 }
def q70_ (s : List UInt8) (n : Int) (a : List (List UInt8)) : St := { fr := [(0, .d .str s), (1, .d (.int .i64) n), (6, .row 0)], nt := 50, up := [], own := [(0, .row .str 9 a)], nx := 1, log := [], ln := 0 }
def strings_explode_m1 (j2 : List UInt8 -> Int -> Option (As [.sl .str])) (s : List UInt8) (n l : Int) (t18 : Bool) : Option (As [.sl .str]) :=
  if t18 = true then j2 s l else j2 s n
def strings_explode_m2 (j3 : List UInt8 -> Int -> Int -> List (List UInt8) -> Option (As [.sl .str])) (s : List UInt8) (n : Int) : Option (As [.sl .str]) :=
  need (ge n 0) (need (Ev.capOk n n) (need (small (Int.toNat n)) (j3 s n 0 (List.replicate (Int.toNat n) []))))
def strings_explode_m3 (j4 : List UInt8 -> Int -> List (List UInt8) -> Option (As [.sl .str])) (self3 : List UInt8 -> Int -> Int -> List (List UInt8) -> Option (As [.sl .str])) (s : List UInt8) (n i : Int) (a : List (List UInt8)) : Option (As [.sl .str]) :=
  if lt i (Sx.sub .i64 n 1) = true then Option.bind (q4p_ (s, ())) fun (y : Int × Int × Unit) => Option.bind (cut s 0 y.2.1) fun (y_1 : List UInt8) => Option.bind (at? a i) fun (x : List UInt8) => Option.bind (at? a i) fun (x : List UInt8) => Option.bind (cut s y.2.1 (Int.ofNat (List.length s))) fun (y : List UInt8) => self3 y n (add .i64 i 1) (List.set a (Int.toNat i) y_1) else j4 s n a
def strings_explode_m4 (s : List UInt8) (n : Int) (a : List (List UInt8)) : Option (As [.sl .str]) :=
  if gt n 0 = true then Option.bind (at? a (Sx.sub .i64 n 1)) fun (x : List UInt8) => Option.bind (at? a (Sx.sub .i64 n 1)) fun (x : List UInt8) => some (List.set a (Int.toNat (Sx.sub .i64 n 1)) s, ()) else some (a, ())
def strings_explode_m0 (j1 : List UInt8 -> Int -> Int -> Bool -> Option (As [.sl .str])) (s : List UInt8) (n : Int) : Option (As [.sl .str]) :=
  Option.bind (q33_ (s, ())) fun (y : Int × Unit) => if lt n 0 = true then j1 s n y.1 true else j1 s n y.1 (gt n y.1)
def strings_explode_K4 (s : List UInt8) (n : Int) (a : List (List UInt8)) : Option (As [.sl .str]) := strings_explode_m4 s n a
def strings_explode_K3 (s : List UInt8) (n i : Int) (a : List (List UInt8)) : Option (As [.sl .str]) :=
  loopF (fun (self : (List UInt8) × (Int) × (Int) × (List (List UInt8)) -> Option (As [.sl .str])) (s : (List UInt8) × (Int) × (Int) × (List (List UInt8))) => strings_explode_m3 (strings_explode_K4) (fun s n i a => self (s, n, i, a)) s.1 s.2.1 s.2.2.1 s.2.2.2) 18446744073709551616 (s, n, i, a)
def strings_explode_K2 (s : List UInt8) (n : Int) : Option (As [.sl .str]) := strings_explode_m2 (strings_explode_K3) s n
def strings_explode_K1 (s : List UInt8) (n l : Int) (t18 : Bool) : Option (As [.sl .str]) := strings_explode_m1 (strings_explode_K2) s n l t18
def strings_explode (x : As [.str, .int .i64]) : Option (As [.sl .str]) := strings_explode_m0 strings_explode_K1 x.1 x.2.1
theorem strings_explode_c4  (J s n a) : pfn Tryz.prog qy_ 6 18446744073709551616 (Ev.get qz_) 81 strings_explode_s J 31 [] (q70_ s n a) = strings_explode_m4 s n a := by kernel_rfl
theorem strings_explode_c3  (J w3 s n i a) : pfn Tryz.prog qy_ 6 18446744073709551616 (Ev.get qz_) 81 strings_explode_s J 250 [w3] (q44_ s n i a) = strings_explode_m3 (fun s n a => J 31 [] (q70_ s n a)) (fun s n i a => w3 (q44_ s n i a)) s n i a := by kernel_rfl
theorem strings_explode_c2  (J s n) : pfn Tryz.prog qy_ 6 18446744073709551616 (Ev.get qz_) 81 strings_explode_s J 7 [] (q6z_ s n) = strings_explode_m2 (fun s n i a => J 250 [] (q44_ s n i a)) s n := by kernel_rfl
theorem strings_explode_c1  (J s n l t18) : pfn Tryz.prog qy_ 6 18446744073709551616 (Ev.get qz_) 81 strings_explode_s J 14 [] (q6y_ s n l t18) = strings_explode_m1 (fun s n => J 7 [] (q6z_ s n)) s n l t18 := by kernel_rfl
theorem strings_explode_c0 (J : Orc (As [.sl .str])) (x : As [.str, .int .i64]) : rfn Tryz.prog qy_ 6 18446744073709551616 (Ev.get qz_) 81 strings_explode_s J x = strings_explode_m0 (fun s n l t18 => J 14 [] (q6y_ s n l t18)) x.1 x.2.1 := by kernel_rfl
theorem strings_explode_g4  (s n a) : jfn Tryz.prog qy_ 6 18446744073709551616 (Ev.get qz_) 81 strings_explode_s 31 [] (q70_ s n a) = strings_explode_K4 s n a := by
  rw [q4_ (by decide)]
  rw [strings_explode_c4]
  rfl
theorem strings_explode_g3  (s n i a) : jfn Tryz.prog qy_ 6 18446744073709551616 (Ev.get qz_) 81 strings_explode_s 250 [] (q44_ s n i a) = strings_explode_K3 s n i a := by
  rw [q4_ (by decide)]
  rw [q16_ (by kernel_rfl)]
  refine qk_ (σ := (List UInt8) × (Int) × (Int) × (List (List UInt8))) (mk := fun s => q44_ s.1 s.2.1 s.2.2.1 s.2.2.2) (fun w3 s => ?_) 18446744073709551616 (s, n, i, a)
  have e4 : (fun s n a => (jfn Tryz.prog qy_ 6 18446744073709551616 (Ev.get qz_) 81 strings_explode_s) 31 [] (q70_ s n a)) = strings_explode_K4 := by funext s n a; exact strings_explode_g4 s n a
  refine (strings_explode_c3 _ w3 s.1 s.2.1 s.2.2.1 s.2.2.2).trans ?_
  rw [e4]
theorem strings_explode_g2  (s n) : jfn Tryz.prog qy_ 6 18446744073709551616 (Ev.get qz_) 81 strings_explode_s 7 [] (q6z_ s n) = strings_explode_K2 s n := by
  rw [q4_ (by decide)]
  have e3 : (fun s n i a => (jfn Tryz.prog qy_ 6 18446744073709551616 (Ev.get qz_) 81 strings_explode_s) 250 [] (q44_ s n i a)) = strings_explode_K3 := by funext s n i a; exact strings_explode_g3 s n i a
  rw [strings_explode_c2, e3]
  rfl
theorem strings_explode_g1  (s n l t18) : jfn Tryz.prog qy_ 6 18446744073709551616 (Ev.get qz_) 81 strings_explode_s 14 [] (q6y_ s n l t18) = strings_explode_K1 s n l t18 := by
  rw [q4_ (by decide)]
  have e2 : (fun s n => (jfn Tryz.prog qy_ 6 18446744073709551616 (Ev.get qz_) 81 strings_explode_s) 7 [] (q6z_ s n)) = strings_explode_K2 := by funext s n; exact strings_explode_g2 s n
  rw [strings_explode_c1, e2]
  rfl
theorem strings_explode_t (x : As [.str, .int .i64]) : evT Tryz.prog qy_ 6 18446744073709551616 (Ev.get qz_) 81 strings_explode_s x = strings_explode x := by
  have e1 : (fun s n l t18 => (jfn Tryz.prog qy_ 6 18446744073709551616 (Ev.get qz_) 81 strings_explode_s) 14 [] (q6y_ s n l t18)) = strings_explode_K1 := by funext s n l t18; exact strings_explode_g1 s n l t18
  rw [q27_, strings_explode_c0, e1]
  rfl
theorem strings_explode_ok : CtOk Tryz.prog I0 81 ⟨strings_explode_s, strings_explode⟩ := qx_ (q0_ q8u_ (q0_ utf8_DecodeRuneInString_ok q7_)) strings_explode_t
@[reducible] def strings_Index_s : Sh := ⟨[.d (.str), .d (.str)], [], [.str, .str], [.d (.int .i64)], [], 0, [.int .i64]⟩
def strings_Index_m0 (s substr : List UInt8) : Option (As [.int .i64]) :=
  if eqi (Int.ofNat (List.length substr)) 0 = true then some (0, ()) else if eqs substr s = true then some (0, ()) else if eqi (Int.ofNat (List.length substr)) 1 = true then Option.bind (at? substr 0) fun (c : UInt8) => some (Go.Lib.indexByte s (UInt8.ofNat (Int.toNat (Int.ofNat (UInt8.toNat c)))), ()) else if ge (Int.ofNat (List.length substr)) (Int.ofNat (List.length s)) = true then some (-1, ()) else Option.none
def q6j_ (x : As [.str, .str]) : Option (As [.int .i64]) := strings_Index_m0 x.1 x.2.1
theorem strings_Index_ok : CtOk Tryz.prog I0 83 ⟨strings_Index_s, q6j_⟩ := ctn q7_ 6 fun J x => by kernel_rfl
@[reducible] def strings_Count_s : Sh := ⟨[.d (.str), .d (.str)], [], [.str, .str], [.d (.int .i64)], [], 0, [.int .i64]⟩
def q71_ : Env := (cts [(83, (⟨strings_Index_s, q6j_⟩ : Ct)), (115, (⟨utf8_RuneCountInString_s, q33_⟩ : Ct))])
def q72_ : List (Nat × Hint) := [(62, ⟨[], [0, 1, 5]⟩)]
def q4y_ (s substr : List UInt8) (n : Int) : St := { fr := [(0, .d .str s), (1, .d .str substr), (5, .d (.int .i64) n)], nt := 34, up := [], own := [], nx := 0, log := [], ln := 0 }
def strings_Count_m1 (self1 : List UInt8 -> List UInt8 -> Int -> Option (As [.int .i64])) (s substr : List UInt8) (n : Int) : Option (As [.int .i64]) :=
  Option.bind (q6j_ (s, substr, ())) fun (y : Int × Unit) => if eqi y.1 (-1) = true then some (n, ()) else Option.bind (cut s (add .i64 y.1 (Int.ofNat (List.length substr))) (Int.ofNat (List.length s))) fun (y : List UInt8) => self1 y substr (add .i64 n 1)
def strings_Count_m0 (j1 : List UInt8 -> List UInt8 -> Int -> Option (As [.int .i64])) (s substr : List UInt8) : Option (As [.int .i64]) :=
  if eqi (Int.ofNat (List.length substr)) 0 = true then Option.bind (q33_ (s, ())) fun (y : Int × Unit) => some (add .i64 y.1 1, ()) else if eqi (Int.ofNat (List.length substr)) 1 = true then Option.bind (at? substr 0) fun (c : UInt8) => some (Int.ofNat (Sx.cntB s (UInt8.ofNat (Int.toNat (Int.ofNat (UInt8.toNat c))))), ()) else j1 s substr 0
def strings_Count_K1 (s substr : List UInt8) (n : Int) : Option (As [.int .i64]) :=
  loopF (fun (self : (List UInt8) × (List UInt8) × (Int) -> Option (As [.int .i64])) (s : (List UInt8) × (List UInt8) × (Int)) => strings_Count_m1 (fun s substr n => self (s, substr, n)) s.1 s.2.1 s.2.2) 18446744073709551616 (s, substr, n)
def strings_Count (x : As [.str, .str]) : Option (As [.int .i64]) := strings_Count_m0 strings_Count_K1 x.1 x.2.1
theorem strings_Count_c1  (J w1 s substr n) : pfn Tryz.prog q71_ 6 18446744073709551616 (Ev.get q72_) 82 strings_Count_s J 62 [w1] (q4y_ s substr n) = strings_Count_m1 (fun s substr n => w1 (q4y_ s substr n)) s substr n := by kernel_rfl
theorem strings_Count_c0 (J : Orc (As [.int .i64])) (x : As [.str, .str]) : rfn Tryz.prog q71_ 6 18446744073709551616 (Ev.get q72_) 82 strings_Count_s J x = strings_Count_m0 (fun s substr n => J 62 [] (q4y_ s substr n)) x.1 x.2.1 := by kernel_rfl
theorem strings_Count_g1  (s substr n) : jfn Tryz.prog q71_ 6 18446744073709551616 (Ev.get q72_) 82 strings_Count_s 62 [] (q4y_ s substr n) = strings_Count_K1 s substr n := by
  rw [q4_ (by decide)]
  rw [q16_ (by kernel_rfl)]
  refine qk_ (σ := (List UInt8) × (List UInt8) × (Int)) (mk := fun s => q4y_ s.1 s.2.1 s.2.2) (fun w1 s => ?_) 18446744073709551616 (s, substr, n)
  refine (strings_Count_c1 _ w1 s.1 s.2.1 s.2.2).trans ?_
  rfl
theorem strings_Count_t (x : As [.str, .str]) : evT Tryz.prog q71_ 6 18446744073709551616 (Ev.get q72_) 82 strings_Count_s x = strings_Count x := by
  have e1 : (fun s substr n => (jfn Tryz.prog q71_ 6 18446744073709551616 (Ev.get q72_) 82 strings_Count_s) 62 [] (q4y_ s substr n)) = strings_Count_K1 := by funext s substr n; exact strings_Count_g1 s substr n
  rw [q27_, strings_Count_c0, e1]
  rfl
theorem strings_Count_ok : CtOk Tryz.prog I0 82 ⟨strings_Count_s, strings_Count⟩ := qx_ (q0_ strings_Index_ok (q0_ q8u_ q7_)) strings_Count_t
@[reducible] def strings_genSplit_s : Sh := ⟨[.d (.str), .d (.str), .d (.int .i64), .d (.int .i64)], [], [.str, .str, .int .i64, .int .i64], [.d (.sl .str)], [], 0, [.sl .str]⟩
def q1g_ : Env := (cts [(81, (⟨strings_explode_s, strings_explode⟩ : Ct)), (82, (⟨strings_Count_s, strings_Count⟩ : Ct)), (83, (⟨strings_Index_s, q6j_⟩ : Ct))])
def q1h_ : List (Nat × Hint) := [(15, ⟨[], [0, 1, 2, 3]⟩), (511, ⟨[], [0, 9, 10]⟩), (2044, ⟨[], [0, 1, 2, 3, 9, 10]⟩)]
def q69_ (s sep : List UInt8) (sepSave n : Int) : St := { fr := [(0, .d .str s), (1, .d .str sep), (2, .d (.int .i64) sepSave), (3, .d (.int .i64) n)], nt := 66, up := [], own := [], nx := 0, log := [], ln := 0 }
def q3t_ (s sep : List UInt8) (sepSave n i : Int) (a : List (List UInt8)) : St := { fr := [(0, .d .str s), (1, .d .str sep), (2, .d (.int .i64) sepSave), (3, .d (.int .i64) n), (9, .row 0), (10, .d (.int .i64) i)], nt := 66, up := [], own := [(0, .row .str 9 a)], nx := 1, log := [], ln := 0 }
def q6a_ (s : List UInt8) (i : Int) (a : List (List UInt8)) : St := { fr := [(0, .d .str s), (9, .row 0), (10, .d (.int .i64) i)], nt := 66, up := [], own := [(0, .row .str 9 a)], nx := 1, log := [], ln := 0 }
def strings_genSplit_m1 (j2 : List UInt8 -> List UInt8 -> Int -> Int -> Int -> List (List UInt8) -> Option (As [.sl .str])) (s sep : List UInt8) (sepSave n : Int) : Option (As [.sl .str]) :=
  need (ge (if lt (add .i64 (Int.ofNat (List.length s)) 1) n = true then add .i64 (Int.ofNat (List.length s)) 1 else n) 0) (need (Ev.capOk (if lt (add .i64 (Int.ofNat (List.length s)) 1) n = true then add .i64 (Int.ofNat (List.length s)) 1 else n) (if lt (add .i64 (Int.ofNat (List.length s)) 1) n = true then add .i64 (Int.ofNat (List.length s)) 1 else n)) (need (small (Int.toNat (if lt (add .i64 (Int.ofNat (List.length s)) 1) n = true then add .i64 (Int.ofNat (List.length s)) 1 else n))) (j2 s sep sepSave (Sx.sub .i64 (if lt (add .i64 (Int.ofNat (List.length s)) 1) n = true then add .i64 (Int.ofNat (List.length s)) 1 else n) 1) 0 (List.replicate (Int.toNat (if lt (add .i64 (Int.ofNat (List.length s)) 1) n = true then add .i64 (Int.ofNat (List.length s)) 1 else n)) []))))
def q6b_ (j3 : List UInt8 -> Int -> List (List UInt8) -> Option (As [.sl .str])) (self2 : List UInt8 -> List UInt8 -> Int -> Int -> Int -> List (List UInt8) -> Option (As [.sl .str])) (s sep : List UInt8) (sepSave n i : Int) (a : List (List UInt8)) : Option (As [.sl .str]) :=
  if lt i n = true then Option.bind (q6j_ (s, sep, ())) fun (y : Int × Unit) => if lt y.1 0 = true then j3 s i a else Option.bind (cut s 0 (add .i64 y.1 sepSave)) fun (y_1 : List UInt8) => Option.bind (at? a i) fun (x : List UInt8) => Option.bind (at? a i) fun (x : List UInt8) => Option.bind (cut s (add .i64 y.1 (Int.ofNat (List.length sep))) (Int.ofNat (List.length s))) fun (y : List UInt8) => self2 y sep sepSave n (add .i64 i 1) (List.set a (Int.toNat i) y_1) else j3 s i a
def strings_genSplit_m3 (s : List UInt8) (i : Int) (a : List (List UInt8)) : Option (As [.sl .str]) :=
  Option.bind (at? a i) fun (x : List UInt8) => Option.bind (at? a i) fun (x : List UInt8) => need (le 0 (add .i64 i 1)) (need (le (add .i64 i 1) (Int.ofNat (List.length (List.set a (Int.toNat i) s)))) (some (List.take (Int.toNat (add .i64 i 1 - 0)) (List.drop 0 (List.set a (Int.toNat i) s)), ())))
def q6c_ (j1 : List UInt8 -> List UInt8 -> Int -> Int -> Option (As [.sl .str])) (s sep : List UInt8) (sepSave n : Int) : Option (As [.sl .str]) :=
  if eqi n 0 = true then some ([], ()) else if eqs sep [] = true then Option.bind (strings_explode (s, n, ())) fun (y : List (List UInt8) × Unit) => some (y.1, ()) else if lt n 0 = true then Option.bind (strings_Count (s, sep, ())) fun (y : Int × Unit) => j1 s sep sepSave (add .i64 y.1 1) else j1 s sep sepSave n
def q4q_ (s : List UInt8) (i : Int) (a : List (List UInt8)) : Option (As [.sl .str]) := strings_genSplit_m3 s i a
def strings_genSplit_K2 (s sep : List UInt8) (sepSave n i : Int) (a : List (List UInt8)) : Option (As [.sl .str]) :=
  loopF (fun (self : (List UInt8) × (List UInt8) × (Int) × (Int) × (Int) × (List (List UInt8)) -> Option (As [.sl .str])) (s : (List UInt8) × (List UInt8) × (Int) × (Int) × (Int) × (List (List UInt8))) => q6b_ (q4q_) (fun s sep sepSave n i a => self (s, sep, sepSave, n, i, a)) s.1 s.2.1 s.2.2.1 s.2.2.2.1 s.2.2.2.2.1 s.2.2.2.2.2) 18446744073709551616 (s, sep, sepSave, n, i, a)
def q4r_ (s sep : List UInt8) (sepSave n : Int) : Option (As [.sl .str]) := strings_genSplit_m1 (strings_genSplit_K2) s sep sepSave n
def q66_ (x : As [.str, .str, .int .i64, .int .i64]) : Option (As [.sl .str]) := q6c_ q4r_ x.1 x.2.1 x.2.2.1 x.2.2.2.1
theorem strings_genSplit_c3  (J s i a) : pfn Tryz.prog q1g_ 6 18446744073709551616 (Ev.get q1h_) 57 strings_genSplit_s J 511 [] (q6a_ s i a) = strings_genSplit_m3 s i a := by kernel_rfl
theorem strings_genSplit_c2  (J w2 s sep sepSave n i a) : pfn Tryz.prog q1g_ 6 18446744073709551616 (Ev.get q1h_) 57 strings_genSplit_s J 2044 [w2] (q3t_ s sep sepSave n i a) = q6b_ (fun s i a => J 511 [] (q6a_ s i a)) (fun s sep sepSave n i a => w2 (q3t_ s sep sepSave n i a)) s sep sepSave n i a := by kernel_rfl
theorem strings_genSplit_c1  (J s sep sepSave n) : pfn Tryz.prog q1g_ 6 18446744073709551616 (Ev.get q1h_) 57 strings_genSplit_s J 15 [] (q69_ s sep sepSave n) = strings_genSplit_m1 (fun s sep sepSave n i a => J 2044 [] (q3t_ s sep sepSave n i a)) s sep sepSave n := by kernel_rfl
theorem strings_genSplit_c0 (J : Orc (As [.sl .str])) (x : As [.str, .str, .int .i64, .int .i64]) : rfn Tryz.prog q1g_ 6 18446744073709551616 (Ev.get q1h_) 57 strings_genSplit_s J x = q6c_ (fun s sep sepSave n => J 15 [] (q69_ s sep sepSave n)) x.1 x.2.1 x.2.2.1 x.2.2.2.1 := by kernel_rfl
theorem strings_genSplit_g3  (s i a) : jfn Tryz.prog q1g_ 6 18446744073709551616 (Ev.get q1h_) 57 strings_genSplit_s 511 [] (q6a_ s i a) = q4q_ s i a := by
  rw [q4_ (by decide)]
  rw [strings_genSplit_c3]
  rfl
theorem strings_genSplit_g2  (s sep sepSave n i a) : jfn Tryz.prog q1g_ 6 18446744073709551616 (Ev.get q1h_) 57 strings_genSplit_s 2044 [] (q3t_ s sep sepSave n i a) = strings_genSplit_K2 s sep sepSave n i a := by
  rw [q4_ (by decide)]
  rw [q16_ (by kernel_rfl)]
  refine qk_ (σ := (List UInt8) × (List UInt8) × (Int) × (Int) × (Int) × (List (List UInt8))) (mk := fun s => q3t_ s.1 s.2.1 s.2.2.1 s.2.2.2.1 s.2.2.2.2.1 s.2.2.2.2.2) (fun w2 s => ?_) 18446744073709551616 (s, sep, sepSave, n, i, a)
  have e3 : (fun s i a => (jfn Tryz.prog q1g_ 6 18446744073709551616 (Ev.get q1h_) 57 strings_genSplit_s) 511 [] (q6a_ s i a)) = q4q_ := by funext s i a; exact strings_genSplit_g3 s i a
  refine (strings_genSplit_c2 _ w2 s.1 s.2.1 s.2.2.1 s.2.2.2.1 s.2.2.2.2.1 s.2.2.2.2.2).trans ?_
  rw [e3]
theorem strings_genSplit_g1  (s sep sepSave n) : jfn Tryz.prog q1g_ 6 18446744073709551616 (Ev.get q1h_) 57 strings_genSplit_s 15 [] (q69_ s sep sepSave n) = q4r_ s sep sepSave n := by
  rw [q4_ (by decide)]
  have e2 : (fun s sep sepSave n i a => (jfn Tryz.prog q1g_ 6 18446744073709551616 (Ev.get q1h_) 57 strings_genSplit_s) 2044 [] (q3t_ s sep sepSave n i a)) = strings_genSplit_K2 := by funext s sep sepSave n i a; exact strings_genSplit_g2 s sep sepSave n i a
  rw [strings_genSplit_c1, e2]
  rfl
theorem strings_genSplit_t (x : As [.str, .str, .int .i64, .int .i64]) : evT Tryz.prog q1g_ 6 18446744073709551616 (Ev.get q1h_) 57 strings_genSplit_s x = q66_ x := by
  have e1 : (fun s sep sepSave n => (jfn Tryz.prog q1g_ 6 18446744073709551616 (Ev.get q1h_) 57 strings_genSplit_s) 15 [] (q69_ s sep sepSave n)) = q4r_ := by funext s sep sepSave n; exact strings_genSplit_g1 s sep sepSave n
  rw [q27_, strings_genSplit_c0, e1]
  rfl
theorem strings_genSplit_ok : CtOk Tryz.prog I0 57 ⟨strings_genSplit_s, q66_⟩ := qx_ (q0_ strings_explode_ok (q0_ strings_Count_ok (q0_ strings_Index_ok q7_))) strings_genSplit_t
@[reducible] def strings_Split_s : Sh := ⟨[.d (.str), .d (.str)], [], [.str, .str], [.d (.sl .str)], [], 0, [.sl .str]⟩
def strings_Split_m0 (s sep : List UInt8) : Option (As [.sl .str]) :=
  Option.bind (q66_ (s, sep, 0, -1, ())) fun (y : List (List UInt8) × Unit) => some (y.1, ())
def q6k_ (x : As [.str, .str]) : Option (As [.sl .str]) := strings_Split_m0 x.1 x.2.1
theorem strings_Split_ok : CtOk Tryz.prog I0 24 ⟨strings_Split_s, q6k_⟩ := ctn (q0_ strings_genSplit_ok q7_) 6 fun J x => by kernel_rfl
def istringslite_HasSuffix_m0 (s suffix : List UInt8) : Option (As [.bool]) :=
  if ge (Int.ofNat (List.length s)) (Int.ofNat (List.length suffix)) = true then Option.bind (cut s (Sx.sub .i64 (Int.ofNat (List.length s)) (Int.ofNat (List.length suffix))) (Int.ofNat (List.length s))) fun (y : List UInt8) => some (eqs y suffix, ()) else some (false, ())
def istringslite_HasSuffix (x : As [.str, .str]) : Option (As [.bool]) := istringslite_HasSuffix_m0 x.1 x.2.1
def istringslite_TrimSuffix_m0 (s suffix : List UInt8) : Option (As [.str]) :=
  Option.bind (istringslite_HasSuffix (s, suffix, ())) fun (y : Bool × Unit) => if y.1 = true then Option.bind (cut s 0 (Sx.sub .i64 (Int.ofNat (List.length s)) (Int.ofNat (List.length suffix)))) fun (y : List UInt8) => some (y, ()) else some (s, ())
def istringslite_TrimSuffix (x : As [.str, .str]) : Option (As [.str]) := istringslite_TrimSuffix_m0 x.1 x.2.1
def strings_TrimSuffix_m0 (s suffix : List UInt8) : Option (As [.str]) :=
  Option.bind (istringslite_TrimSuffix (s, suffix, ())) fun (y : List UInt8 × Unit) => some (y.1, ())
def strings_TrimSuffix (x : As [.str, .str]) : Option (As [.str]) := strings_TrimSuffix_m0 x.1 x.2.1
def qdc_ (j2 : List UInt8 -> Int -> Bool -> List UInt8 × List QET0 -> List UInt8 × List QET0 -> Option (As [.bool])) (ahead : Int) (s : List UInt8) (t36 : Bool) : Option (As [.bool]) :=
  if t36 = true then Option.bind (q2y_ ()) fun (y : Bool × Unit) => some (y.1, ()) else Option.bind (q22_ (s, ())) fun (y : (List UInt8 × List QET0) × (Int × Int) × Unit) => Option.bind (q65_ ([35, 32, 97, 10], cvt .i64 (rem ahead 21), ())) fun (y_1 : List UInt8 × Unit) => need (small (List.length y_1.1 + List.length s)) (Option.bind (q22_ (y_1.1 ++ s, ())) fun (y_2 : (List UInt8 × List QET0) × (Int × Int) × Unit) => if nei y.2.1.1 0 = true then j2 s (cvt .i64 (rem ahead 21)) true y.1 y_2.1 else if nei y_2.2.1.1 0 = true then j2 s (cvt .i64 (rem ahead 21)) true y.1 y_2.1 else Option.bind (qba_ (y.1, y_2.1, ())) fun (y_3 : Bool × Unit) => j2 s (cvt .i64 (rem ahead 21)) (!y_3.1) y.1 y_2.1)
def qdt_ (j3 : List UInt8 -> Int -> Int -> List QET0 -> Int -> Int -> List UInt8 × List QET0 -> Option (As [.bool])) (s : List UInt8) (k : Int) (t67 : Bool) (x y : List UInt8 × List QET0) : Option (As [.bool]) :=
  if t67 = true then some (false, ()) else j3 s k 2 x.2 (Int.ofNat (List.length x.2)) 0 y
def qdf_ (j4 : List UInt8 -> Int -> Int -> Int -> List QET0 -> Int -> Int -> Bool -> List UInt8 × List QET0 -> List UInt8 × Int × List QET2 -> Option (As [.bool])) (j5 : List UInt8 -> Int -> Option (As [.bool])) (self3 : List UInt8 -> Int -> Int -> List QET0 -> Int -> Int -> List UInt8 × List QET0 -> Option (As [.bool])) (s : List UInt8) (k at' : Int) (t69 : List QET0) (t70 t71 : Int) (y : List UInt8 × List QET0) : Option (As [.bool]) :=
  if lt t71 t70 = true then Option.bind (at? t69 t71) fun (y_1 : List UInt8 × Int × List QET2) => if nei y_1.2.1 at' = true then j4 s k at' t71 t69 t70 t71 true y y_1 else Option.bind (at? y.2 t71) fun (y_2 : List UInt8 × Int × List QET2) => j4 s k at' t71 t69 t70 t71 (nei y_2.2.1 (add .i64 at' k)) y y_1 else j5 s at'
def qdn_ (j6 : List UInt8 -> Int -> Int -> Int -> List QET0 -> Int -> Int -> List QET2 -> Int -> Int -> List UInt8 × List QET0 -> Option (As [.bool])) (self3 : List UInt8 -> Int -> Int -> List QET0 -> Int -> Int -> List UInt8 × List QET0 -> Option (As [.bool])) (s : List UInt8) (k at' i : Int) (t69 : List QET0) (t70 t71 : Int) (t91 : Bool) (y : List UInt8 × List QET0) (p : List UInt8 × Int × List QET2) : Option (As [.bool]) :=
  if t91 = true then some (false, ()) else j6 s k (add .i64 at' 1) i t69 t70 t71 p.2.2 (Int.ofNat (List.length p.2.2)) 0 y
def qdk_ (s : List UInt8) (at' : Int) : Option (As [.bool]) :=
  Option.bind (strings_TrimSuffix (s, [10], ())) fun (y : List UInt8 × Unit) => Option.bind (q6k_ (y.1, [10], ())) fun (y : List (List UInt8) × Unit) => Option.bind (cut y.1 0 (Sx.sub .i64 (Int.ofNat (List.length y.1)) 1)) fun (y_1 : List (List UInt8)) => Option.bind (strings_Join (y_1, [10], ())) fun (y_2 : List UInt8 × Unit) => Option.bind (q22_ (y_2.1, ())) fun (y_3 : (List UInt8 × List QET0) × (Int × Int) × Unit) => if eqi (Int.ofNat (List.length y.1)) (Sx.sub .i64 at' 1) = true then if (eqi y_3.2.1.1 140 && (eqi y_3.2.1.2 0 && true)) = true then Option.bind (q2y_ ()) fun (y : Bool × Unit) => some (y.1, ()) else some (false, ()) else some (false, ())
def qdx_ (j7 : List UInt8 -> Int -> Int -> Int -> List QET0 -> Int -> Int -> List QET2 -> Int -> Int -> Bool -> List UInt8 × List QET0 -> Option (As [.bool])) (j8 self3 : List UInt8 -> Int -> Int -> List QET0 -> Int -> Int -> List UInt8 × List QET0 -> Option (As [.bool])) (self6 : List UInt8 -> Int -> Int -> Int -> List QET0 -> Int -> Int -> List QET2 -> Int -> Int -> List UInt8 × List QET0 -> Option (As [.bool])) (s : List UInt8) (k at' i : Int) (t69 : List QET0) (t70 t71 : Int) (t95 : List QET2) (t96 t97 : Int) (y : List UInt8 × List QET0) : Option (As [.bool]) :=
  if lt t97 t96 = true then Option.bind (at? t95 t97) fun (y_1 : List UInt8 × (Int × Int) × List UInt8 × Int) => if nei y_1.2.2.2 at' = true then j7 s k at' i t69 t70 t71 t95 t96 t97 true y else Option.bind (at? y.2 i) fun (y_2 : List UInt8 × Int × List QET2) => Option.bind (at? y_2.2.2 t97) fun (y_3 : List UInt8 × (Int × Int) × List UInt8 × Int) => j7 s k at' i t69 t70 t71 t95 t96 t97 (nei y_3.2.2.2 (add .i64 at' k)) y else j8 s k at' t69 t70 t71 y
def qd4_ (self3 : List UInt8 -> Int -> Int -> List QET0 -> Int -> Int -> List UInt8 × List QET0 -> Option (As [.bool])) (self6 : List UInt8 -> Int -> Int -> Int -> List QET0 -> Int -> Int -> List QET2 -> Int -> Int -> List UInt8 × List QET0 -> Option (As [.bool])) (s : List UInt8) (k at' i : Int) (t69 : List QET0) (t70 t71 : Int) (t95 : List QET2) (t96 t97 : Int) (t121 : Bool) (y : List UInt8 × List QET0) : Option (As [.bool]) :=
  if t121 = true then some (false, ()) else self6 s k (add .i64 at' 1) i t69 t70 t71 t95 t96 (add .i64 t97 1) y
def qdz_ (self3 : List UInt8 -> Int -> Int -> List QET0 -> Int -> Int -> List UInt8 × List QET0 -> Option (As [.bool])) (s : List UInt8) (k at' : Int) (t69 : List QET0) (t70 t71 : Int) (y : List UInt8 × List QET0) : Option (As [.bool]) :=
  self3 s k (add .i64 at' 1) t69 t70 (add .i64 t71 1) y
def qda_ (j1 : Int -> List UInt8 -> Bool -> Option (As [.bool])) (r : List UInt8 × List QET0) (ahead : Int) : Option (As [.bool]) :=
  Option.bind (q2i_ (r, ())) fun (y : List UInt8 × Bool × Unit) => Option.bind (q6n_ (r, ())) fun (y_1 : Bool × Unit) => if (!y_1.1) = true then j1 ahead y.1 true else if (!y.2.1) = true then j1 ahead y.1 true else j1 ahead y.1 (gt (Int.ofNat (List.length y.1)) 7000)
def qdy_ (u3 : List UInt8 -> Int -> Int -> List QET0 -> Int -> Int -> List UInt8 × List QET0 -> Option (As [.bool])) (u6 : List UInt8 -> Int -> Int -> Int -> List QET0 -> Int -> Int -> List QET2 -> Int -> Int -> List UInt8 × List QET0 -> Option (As [.bool])) (s : List UInt8) (k at' i : Int) (t69 : List QET0) (t70 t71 : Int) (t95 : List QET2) (t96 t97 : Int) (t121 : Bool) (y : List UInt8 × List QET0) : Option (As [.bool]) := qd4_ u3 u6 s k at' i t69 t70 t71 t95 t96 t97 t121 y
def qdi_ (u3 : List UInt8 -> Int -> Int -> List QET0 -> Int -> Int -> List UInt8 × List QET0 -> Option (As [.bool])) (s : List UInt8) (k at' : Int) (t69 : List QET0) (t70 t71 : Int) (y : List UInt8 × List QET0) : Option (As [.bool]) := qdz_ u3 s k at' t69 t70 t71 y
def qdl_ (u3 : List UInt8 -> Int -> Int -> List QET0 -> Int -> Int -> List UInt8 × List QET0 -> Option (As [.bool])) (s : List UInt8) (k at' i : Int) (t69 : List QET0) (t70 t71 : Int) (t95 : List QET2) (t96 t97 : Int) (y : List UInt8 × List QET0) : Option (As [.bool]) :=
  loopF (fun (self : (List UInt8) × (Int) × (Int) × (Int) × (List QET0) × (Int) × (Int) × (List QET2) × (Int) × (Int) × (List UInt8 × List QET0) -> Option (As [.bool])) (s : (List UInt8) × (Int) × (Int) × (Int) × (List QET0) × (Int) × (Int) × (List QET2) × (Int) × (Int) × (List UInt8 × List QET0)) => qdx_ (qdy_ u3 (fun s k at' i t69 t70 t71 t95 t96 t97 y => self (s, k, at', i, t69, t70, t71, t95, t96, t97, y))) (qdi_ u3) u3 (fun s k at' i t69 t70 t71 t95 t96 t97 y => self (s, k, at', i, t69, t70, t71, t95, t96, t97, y)) s.1 s.2.1 s.2.2.1 s.2.2.2.1 s.2.2.2.2.1 s.2.2.2.2.2.1 s.2.2.2.2.2.2.1 s.2.2.2.2.2.2.2.1 s.2.2.2.2.2.2.2.2.1 s.2.2.2.2.2.2.2.2.2.1 s.2.2.2.2.2.2.2.2.2.2) 18446744073709551616 (s, k, at', i, t69, t70, t71, t95, t96, t97, y)
def qdu_ (u3 : List UInt8 -> Int -> Int -> List QET0 -> Int -> Int -> List UInt8 × List QET0 -> Option (As [.bool])) (s : List UInt8) (k at' i : Int) (t69 : List QET0) (t70 t71 : Int) (t91 : Bool) (y : List UInt8 × List QET0) (p : List UInt8 × Int × List QET2) : Option (As [.bool]) := qdn_ (qdl_ u3) u3 s k at' i t69 t70 t71 t91 y p
def qdv_ (s : List UInt8) (at' : Int) : Option (As [.bool]) := qdk_ s at'
def qdo_ (s : List UInt8) (k at' : Int) (t69 : List QET0) (t70 t71 : Int) (y : List UInt8 × List QET0) : Option (As [.bool]) :=
  loopF (fun (self : (List UInt8) × (Int) × (Int) × (List QET0) × (Int) × (Int) × (List UInt8 × List QET0) -> Option (As [.bool])) (s : (List UInt8) × (Int) × (Int) × (List QET0) × (Int) × (Int) × (List UInt8 × List QET0)) => qdf_ (qdu_ (fun s k at' t69 t70 t71 y => self (s, k, at', t69, t70, t71, y))) (qdv_) (fun s k at' t69 t70 t71 y => self (s, k, at', t69, t70, t71, y)) s.1 s.2.1 s.2.2.1 s.2.2.2.1 s.2.2.2.2.1 s.2.2.2.2.2.1 s.2.2.2.2.2.2) 18446744073709551616 (s, k, at', t69, t70, t71, y)
def qdj_ (s : List UInt8) (k : Int) (t67 : Bool) (x y : List UInt8 × List QET0) : Option (As [.bool]) := qdt_ (qdo_) s k t67 x y
def qdb_ (ahead : Int) (s : List UInt8) (t36 : Bool) : Option (As [.bool]) := qdc_ (qdj_) ahead s t36
def qnn_ (x : As [.pr .str QET1, .int .u8]) : Option (As [.bool]) := qda_ qdb_ x.1 x.2.1
end Go.Proofs.Lx
end
section
namespace Pl
open Go Ev Sx
theorem loop_idx {σ R α β : Type} {F : (σ -> Option R) -> σ -> Option R} {mk : Nat -> β -> σ} {xs : List α} {stp : β -> α -> β} {fin : β -> Option R} (Inv : Nat -> β -> Prop)
    (hs : ∀ self i acc x, xs[i]? = some x -> Inv i acc -> F self (mk i acc) = self (mk (i + 1) (stp acc x)))
    (hi : ∀ i acc x, xs[i]? = some x -> Inv i acc -> Inv (i + 1) (stp acc x))
    (he : ∀ self acc, Inv xs.length acc -> F self (mk xs.length acc) = fin acc) :
    ∀ (k i : Nat) (acc : β) (n : Nat), i + k = xs.length -> k < n -> Inv i acc -> loopF F n (mk i acc) = fin ((xs.drop i).foldl stp acc)
  | _, _, _, 0, _, hn, _ => by omega
  | 0, i, acc, n + 1, h, _, hI => by
    have : i = xs.length := by omega
    subst this
    rw [q3b_, he _ _ hI, List.drop_length]
    rfl
  | k + 1, i, acc, n + 1, h, hn, hI => by
    have hx : xs[i]? = some (xs[i]'(by omega)) := List.getElem?_eq_getElem (by omega)
    rw [q3b_, hs _ _ _ _ hx hI, loop_idx Inv hs hi he k (i + 1) _ n (by omega) (by omega) (hi _ _ _ hx hI), List.drop_eq_getElem_cons (show i < xs.length by omega)]
    rfl
def goL {α β R : Type} (body : β -> α -> (β -> Option R) -> Option R) (fin : β -> Option R) : List α -> β -> Option R
  | [], acc => fin acc
  | x :: r, acc => body acc x (goL body fin r)
theorem loop_go {σ R α β : Type} {F : (σ -> Option R) -> σ -> Option R} {mk : Nat -> β -> σ} {xs : List α} {body : β -> α -> (β -> Option R) -> Option R} {fin : β -> Option R}
    (hs : ∀ self i acc x, xs[i]? = some x -> F self (mk i acc) = body acc x fun a => self (mk (i + 1) a))
    (he : ∀ self acc, F self (mk xs.length acc) = fin acc) :
    ∀ (k i : Nat) (acc : β) (n : Nat), i + k = xs.length -> k < n -> loopF F n (mk i acc) = goL body fin (xs.drop i) acc
  | _, _, _, 0, _, hn => by omega
  | 0, i, acc, n + 1, h, _ => by
    have : i = xs.length := by omega
    subst this
    rw [q3b_, he, List.drop_length]
    rfl
  | k + 1, i, acc, n + 1, h, hn => by
    have hx : xs[i]? = some (xs[i]'(by omega)) := List.getElem?_eq_getElem (by omega)
    rw [q3b_, hs _ _ _ _ hx, List.drop_eq_getElem_cons (show i < xs.length by omega)]
    show _ = body acc _ (goL body fin (xs.drop (i + 1)))
    congr 1
    funext a
    exact loop_go hs he k (i + 1) a n (by omega) (by omega)
theorem foldl_app {α β : Type} (f : α -> List β) : ∀ (xs : List α) (out : List β), xs.foldl (fun o x => o ++ f x) out = out ++ xs.flatMap f
  | [], out => by simp
  | x :: r, out => by simp [foldl_app f r]
end Pl
end
section
namespace Go.Proofs.Lx
open Go Ev Sx Pl
set_option maxRecDepth 10000
def isL (n : Nat) : Bool := (decide (97 ≤ n) && decide (n ≤ 122)) || (decide (65 ≤ n) && decide (n ≤ 90))
def isD (n : Nat) : Bool := decide (48 ≤ n) && decide (n ≤ 57)
def isB (n : Nat) : Bool := n == 9 || n == 13 || n == 32
def w1 (n : Nat) : Bool := isL n || n == 37
def n1 (n : Nat) : Bool := isD n || n == 45
def e1 (n : Nat) : Bool := n == 61
def wm (n : Nat) : Bool := isL n || isD n || n == 95 || n == 37
def nm (n : Nat) : Bool := isD n || n == 46 || n == 45
theorem tab {f : Int × Unit -> Option (Bool × Unit)} {g : Nat -> Bool} (h : ((List.range 256).all fun n => match f (Int.ofNat n, ()) with
    | some y => y.1 == g n
    | none => false) = true) (c : UInt8) : f (Int.ofNat c.toNat, ()) = some (g c.toNat, ()) := by
  have := all8 h c
  split at this
  · rename_i y hy
    rw [hy]
    have : y.1 = g c.toNat := by simpa using this
    rw [<- this]
  · cases this
theorem qfc_ (c : UInt8) : qq_ (Int.ofNat c.toNat, ()) = some (w1 c.toNat, ()) := tab (f := qq_) (g := w1) (by kernel_rfl) c
theorem qf5_ (c : UInt8) : qo_ (Int.ofNat c.toNat, ()) = some (n1 c.toNat, ()) := tab (f := qo_) (g := n1) (by kernel_rfl) c
theorem qf9_ (c : UInt8) : qp_ (Int.ofNat c.toNat, ()) = some (e1 c.toNat, ()) := tab (f := qp_) (g := e1) (by kernel_rfl) c
theorem qf4_ (c : UInt8) : q2z_ (Int.ofNat c.toNat, ()) = some (wm c.toNat, ()) := tab (f := q2z_) (g := wm) (by kernel_rfl) c
theorem qf8_ (c : UInt8) : q30_ (Int.ofNat c.toNat, ()) = some (nm c.toNat, ()) := tab (f := q30_) (g := nm) (by kernel_rfl) c
theorem excl (c : UInt8) : (w1 c.toNat = true -> n1 c.toNat = false ∧ e1 c.toNat = false ∧ isB c.toNat = false ∧ c.toNat ≠ 35 ∧ c.toNat ≠ 10) := by
  have := all8 (p := fun n => !(w1 n) || (!(n1 n) && !(e1 n) && !(isB n) && n != 35 && n != 10)) (by kernel_rfl) c
  intro h
  simp [h] at this
  exact ⟨this.1.1.1.1, this.1.1.1.2, this.1.1.2, this.1.2, this.2⟩
def asc : List Bool := (List.range 256).map isB
theorem strings_makeASCIISet_eq : q2v_ ([9, 13, 32], ()) = some (asc, true, ()) := by kernel_rfl
theorem asc_at (c : UInt8) : at? asc (Int.ofNat c.toNat) = some (isB c.toNat) := by
  have := all8 (p := fun n => asc[n]? == some (isB n)) (by kernel_rfl) c
  unfold at?
  rw [if_pos (by simp)]
  simpa using this
theorem q8h_ : ∀ (s : List UInt8) (n : Nat), s.length < n -> loopF (fun (self : (List UInt8) × (List Bool) -> Option (As [.str, .sl .bool])) (s : (List UInt8) × (List Bool)) => q4h_ (fun s as' => self (s, as')) s.1 s.2) n (s, asc) = some (s.dropWhile (fun c => isB c.toNat), asc, ())
  | s, 0, h => by omega
  | [], n + 1, h => rfl
  | c :: q, n + 1, h => by
    have ih := q8h_ q n (by simp at h; omega)
    have h1 : gt (Int.ofNat (c :: q).length) 0 = true := by simp [gt]; try omega
    have h2 : lt (Int.ofNat c.toNat) 256 = true := by have := c.toNat_lt; simp [lt]; omega
    rw [loopF]
    unfold q4h_
    simp only [h1, if_true, at_zero, Option.bind_some, need, h2, asc_at, cut_one, List.dropWhile_cons]
    cases hb : isB c.toNat
    · rfl
    · simp only [Bool.not_true, Bool.false_eq_true, if_false, if_true]
      exact ih
theorem strings_TrimLeft_step (s : List UInt8) : strings_TrimLeft (s, [9, 13, 32], ()) = if eqs s [] = true then some (s, ()) else (q2v_ ([9, 13, 32], ())).bind fun y => need (eqi 256 (Int.ofNat y.1.length)) (need (eqi 256 (Int.ofNat (y.1.length * 1))) (if y.2.1 = true then (q3e_ (s, y.1, ())).bind fun y => some (y.1, ()) else (q4o_ (s, [9, 13, 32], ())).bind fun y => some (y.1, ()))) := rfl
theorem strings_TrimLeft_eq {s : List UInt8} (h : s.length < 1000000) : strings_TrimLeft (s, [9, 13, 32], ()) = some (s.dropWhile (fun c => isB c.toNat), ()) := by
  have h63 : q3e_ (s, asc, ()) = some (s.dropWhile (fun c => isB c.toNat), asc, ()) := q8h_ s _ (by omega)
  rw [strings_TrimLeft_step]
  by_cases hs : s = []
  · subst hs; rfl
  · have e1 : eqs s [] = false := by simp [eqs, hs]
    have e5 : eqi 256 (Int.ofNat asc.length) = true := by kernel_rfl
    have e6 : eqi 256 (Int.ofNat (asc.length * 1)) = true := by kernel_rfl
    rw [e1, strings_makeASCIISet_eq, Option.bind_some]
    simp only [Bool.false_eq_true, if_false, need, e5, e6, if_true]
    rw [h63]
    rfl
theorem qca_ (g : Int -> List UInt8 -> Option (As [.str, .str])) (n : Int) (t : List UInt8) : q7x_ (q5z_ g) g n t = if lt n (Int.ofNat t.length) = true then (at? t n).bind fun c => (q2z_ (Int.ofNat c.toNat, ())).bind fun y => if y.1 = true then g (add .i64 n 1) t else q4t_ n t else q4t_ n t := rfl
theorem m3_app (p q : List UInt8) : q4t_ (p.length : Int) (p ++ q) = some (p, q, ()) := by
  unfold q4t_
  rw [cut_app0, Option.bind_some, cut_app1, Option.bind_some]
theorem qc9_ : ∀ (q p : List UInt8) (n : Nat), q.length < n -> p.length + q.length < 1000000 ->
    loopF (fun (self : Int × List UInt8 -> Option (As [.str, .str])) (s : Int × List UInt8) => q7x_ (q5z_ (fun n t1 => self (n, t1))) (fun n t1 => self (n, t1)) s.1 s.2) n ((p.length : Int), p ++ q) =
      some (p ++ q.takeWhile (fun c => wm c.toNat), q.dropWhile (fun c => wm c.toNat), ())
  | q, p, 0, h, _ => by omega
  | [], p, n + 1, h, hl => by
    have h1 : lt (p.length : Int) (Int.ofNat (p ++ []).length) = false := by simp [lt]
    refine (qca_ _ _ _).trans ?_
    rw [if_neg (by rw [h1]; decide), m3_app]
    simp
  | c :: q, p, n + 1, h, hl => by
    have h1 : lt (p.length : Int) (Int.ofNat (p ++ c :: q).length) = true := by simp [lt]; omega
    have ih := qc9_ q (p ++ [c]) n (by simp at h; omega) (by simp at hl ⊢; omega)
    refine (qca_ _ _ _).trans ?_
    rw [if_pos h1, at_app, Option.bind_some, qf4_, Option.bind_some]
    cases hb : wm c.toNat
    · simp only [Bool.false_eq_true, if_false, m3_app, List.takeWhile_cons, List.dropWhile_cons, hb, List.append_nil]
    · have ha : add .i64 (p.length : Int) 1 = ((p ++ [c]).length : Int) := by
        unfold add
        rw [w64 (by omega) (by simp at hl; omega)]
        simp
      have e : p ++ c :: q = (p ++ [c]) ++ q := by simp
      simp only [if_true, ha, List.takeWhile_cons, List.dropWhile_cons, hb]
      rw [e, ih]
      simp
theorem qk0_ (c : UInt8) (q : List UInt8) (h : q.length < 100000) : q8b_ (c :: q, ()) = some (c :: q.takeWhile (fun c => wm c.toNat), q.dropWhile (fun c => wm c.toNat), ()) :=
  qc9_ q [c] 18446744073709551616 (by omega) (by simp; omega)
end Go.Proofs.Lx
end
section
namespace Go.Proofs.Lx
open Go Ev Sx Pl
set_option maxRecDepth 10000
abbrev TL := List (Int × List UInt8 × (Int × Int) × Int)
abbrev RL := As [.sl (.pr (.int .u8) (.pr .str (.pr (.pr (.int .i64) (.int .u8)) (.int .i64)))), .int .i64]
abbrev lineB (self : Int × List UInt8 × TL -> Option RL) (s : Int × List UInt8 × TL) : Option RL :=
  q74_ (q9o_) (q9n_ (fun at' text l => self (at', text, l))) (fun at' text l => self (at', text, l)) s.1 s.2.1 s.2.2
structure Word (w : List UInt8) : Prop where
  all : ∀ b ∈ w, wm b.toNat = true
  first : ∃ c q, w = c :: q ∧ w1 c.toNat = true
  len : w.length < 1000
theorem Word.strings_TrimLeft {w r : List UInt8} (h : Word w) (hr : r.length < 2000) : ∃ c q, w = c :: q ∧ w1 c.toNat = true ∧ Lx.strings_TrimLeft (w ++ r, [9, 13, 32], ()) = some (c :: (q ++ r), ()) ∧ (∀ b ∈ q, wm b.toNat = true) := by
  obtain ⟨c, q, rfl, hc⟩ := h.first
  obtain ⟨_, _, hb, _⟩ := excl c hc
  refine ⟨c, q, rfl, hc, ?_, fun b hb => h.all b (List.mem_cons_of_mem _ hb)⟩
  rw [strings_TrimLeft_eq (by have := h.len; simp at this ⊢; omega)]
  simp [hb]
theorem Word.no {w : List UInt8} (h : Word w) : (∀ b ∈ w, b ≠ 35) ∧ (∀ b ∈ w, b ≠ 10) := by
  constructor
  · intro b hb e
    subst e
    exact absurd (h.all _ hb) (by decide)
  · intro b hb e
    subst e
    exact absurd (h.all _ hb) (by decide)
end Go.Proofs.Lx
end
section
namespace Go.Proofs.Lx
open Go Ev Sx Pl
set_option maxRecDepth 10000
def dg (c : UInt8) : Bool := isD c.toNat
def digs (s : List UInt8) : Bool := s.all dg && s != []
def dvn (n : Int) (q : List UInt8) : Int := q.foldl (fun n c => 10 * n + ((c.toNat : Int) - 48)) n
theorem dvn_nil (n : Int) : dvn n [] = n := rfl
theorem dvn_cons (n : Int) (c : UInt8) (q : List UInt8) : dvn n (c :: q) = dvn (10 * n + ((c.toNat : Int) - 48)) q := rfl
theorem dvn_app (n : Int) (p q : List UInt8) : dvn n (p ++ q) = dvn (dvn n p) q := List.foldl_append ..
theorem dg_iff {c : UInt8} : dg c = true ↔ 48 ≤ c.toNat ∧ c.toNat ≤ 57 := by simp [dg, isD]
theorem dvn_ge : ∀ {q : List UInt8} {n : Int}, (∀ c ∈ q, dg c = true) -> 0 ≤ n -> n ≤ dvn n q
  | [], n, _, _ => Int.le_refl _
  | c :: q, n, h, hn => by
    have hc := dg_iff.1 (h c (List.mem_cons_self ..))
    have := dvn_ge (q := q) (n := 10 * n + ((c.toNat : Int) - 48)) (fun x hx => h x (List.mem_cons_of_mem _ hx)) (by omega)
    rw [dvn_cons]
    omega
theorem allDigits_eq {s : List UInt8} (h : s.length < 1000000) : q20_ (s, ()) = some (digs s, ()) := by
  have key : ∀ (n : Nat) (st : List UInt8 × Int × Int), (∃ i : Nat, st = (s, Int.ofNat s.length, (i : Int)) ∧ i ≤ s.length) -> (s.length - st.2.2.toNat < n) ->
      loopF (fun (self : (List UInt8) × Int × Int -> Option (As [.bool])) (s : (List UInt8) × Int × Int) => q6r_ (q2n_ (fun a b c => self (a, b, c))) q52_ (fun a b c => self (a, b, c)) s.1 s.2.1 s.2.2) n st = some ((s.drop st.2.2.toNat).all dg && s != [], ()) := by
    refine loopF_eq (σ := List UInt8 × Int × Int) (μ := fun st => s.length - st.2.2.toNat) (G := fun st => some ((s.drop st.2.2.toNat).all dg && s != [], ())) ?_
    rintro self st ⟨i, rfl, hi⟩ ih
    simp only [Int.toNat_natCast] at ih ⊢
    unfold q6r_
    cases hd : s.drop i with
    | nil =>
      have := drop_nil hd
      rw [if_neg (by rw [qw_, q5_]; omega)]
      unfold q52_ q93_
      rfl
    | cons c r =>
      obtain ⟨h1, h2, h3⟩ := drop_succ hd
      rw [if_pos (by rw [qw_, q5_]; omega), at_drop hd]
      simp only [Option.bind_some]
      have hgo : dg c = true -> q2n_ (fun a b c => self (a, b, c)) s (Int.ofNat s.length) (i : Int) false = some ((c :: r).all dg && s != [], ()) := fun hc => by
        unfold q2n_ q6o_
        rw [if_neg (by decide), succ64 (by omega)]
        have := ih (s, Int.ofNat s.length, ((i + 1 : Nat) : Int)) ⟨i + 1, rfl, by omega⟩ (by simp; omega)
        refine this.trans ?_
        simp [h1, hc]
      have hno : dg c = false -> q2n_ (fun a b c => self (a, b, c)) s (Int.ofNat s.length) (i : Int) true = some ((c :: r).all dg && s != [], ()) := fun hc => by
        unfold q2n_ q6o_
        rw [if_pos rfl]
        simp [hc]
      by_cases hc : dg c = true
      · have := dg_iff.1 hc
        rw [if_neg (by rw [qw_, q5_]; omega)]
        have e : gt (Int.ofNat c.toNat) 57 = false := by simp [gt]; omega
        rw [e]
        exact hgo hc
      · have hc' : dg c = false := by simpa using hc
        have h4 : ¬ (48 ≤ c.toNat ∧ c.toNat ≤ 57) := fun h => hc (dg_iff.2 h)
        by_cases h5 : c.toNat < 48
        · rw [if_pos (by rw [qw_, q5_]; omega)]
          exact hno hc'
        · rw [if_neg (by rw [qw_, q5_]; omega)]
          have e : gt (Int.ofNat c.toNat) 57 = true := by simp [gt]; omega
          rw [e]
          exact hno hc'
  have := key 18446744073709551616 (s, Int.ofNat s.length, 0) ⟨0, rfl, by omega⟩ (by simp; omega)
  refine this.trans ?_
  simp [digs]
def qu_ : List UInt8 -> List UInt8
  | [] => []
  | c :: q => match qu_ q with
    | [] => if c = 48 then [] else [c]
    | r => c :: r
theorem stripz_snoc0 (q : List UInt8) : qu_ (q ++ [48]) = qu_ q := by
  induction q with
  | nil => rfl
  | cons c q ih => show (match qu_ (q ++ [48]) with | [] => _ | r => _) = _; rw [ih]; rfl
theorem stripz_snoc {c : UInt8} (q : List UInt8) (h : c ≠ 48) : qu_ (q ++ [c]) = q ++ [c] := by
  induction q with
  | nil => show (if c = 48 then [] else [c]) = _; rw [if_neg h]; rfl
  | cons a q ih =>
    show (match qu_ (q ++ [c]) with | [] => _ | r => _) = _
    rw [ih]
    cases q <;> rfl
theorem snoc_cases {α : Type} (q : List α) : q = [] ∨ ∃ p c, q = p ++ [c] := by
  rcases List.eq_nil_or_concat q with h | ⟨p, c, h⟩
  · exact .inl h
  · exact .inr ⟨p, c, by simpa using h⟩
theorem trimRight_eq {s : List UInt8} (h : s.length < 1000000) : q43_ (s, 48, ()) = some (qu_ s, ()) := by
  have key : ∀ (n : Nat) (st : List UInt8 × Int), (st.2 = 48 ∧ st.1.length < 1000000) -> st.1.length < n ->
      loopF (fun (self : (List UInt8) × Int -> Option (As [.str])) (s : (List UInt8) × Int) => q4g_ (q3g_ (fun a b => self (a, b))) (fun a b => self (a, b)) s.1 s.2) n st = some (qu_ st.1, ()) := by
    refine loopF_eq (σ := List UInt8 × Int) (μ := fun st => st.1.length) (G := fun st => some (qu_ st.1, ())) ?_
    rintro self ⟨s, c⟩ ⟨rfl, hl⟩ ih
    unfold q4g_
    rcases snoc_cases s with rfl | ⟨p, c, rfl⟩
    · rfl
    · simp at hl
      have hn : Int.ofNat (p ++ [c]).length = ((p.length + 1 : Nat) : Int) := by simp
      rw [if_pos (by rw [gt_iff, hn]; omega)]
      have h1 : sub .i64 (Int.ofNat (p ++ [c]).length) 1 = (p.length : Int) := by rw [hn, sub64 (by omega) (by omega)]; omega
      simp only [h1, at_app, Option.bind_some]
      unfold q3g_ q62_
      by_cases hc : c = 48
      · subst hc
        rw [if_pos (show eqi (Int.ofNat (UInt8.toNat 48)) 48 = true from rfl), h1, cut_app0]
        have := ih (p, 48) ⟨rfl, by show p.length < _; omega⟩ (by simp)
        refine Eq.trans this ?_
        simp [stripz_snoc0]
      · have : eqi (Int.ofNat c.toNat) 48 = false := by
          simp [eqi]
          intro e
          apply hc
          apply UInt8.toNat_inj.1
          have : (48 : UInt8).toNat = 48 := rfl
          omega
        rw [this, if_neg (by decide)]
        simp [stripz_snoc p hc]
  exact key 18446744073709551616 (s, 48) ⟨rfl, h⟩ (by show s.length < _; omega)
abbrev PR := (Int × Int) × Bool
def q3h_ (neg : Bool) (w r : List UInt8) (pt : Bool) : PR :=
  if digs w = false ∨ (1 < w.length ∧ w[0]? = some 48) then ((0, 0), false)
  else if pt = true ∧ (digs r = false ∨ 6 < r.length) then ((0, 0), false)
  else if 1000000000000 < dvn (dvn 0 w) (qu_ r) then ((0, 0), false)
  else ((if neg then -(dvn (dvn 0 w) (qu_ r)) else dvn (dvn 0 w) (qu_ r), ((qu_ r).length : Int)), true)
theorem byte_val {c : UInt8} (h : dg c = true) : cvt .i64 (sub .u8 (Int.ofNat c.toNat) 48) = (c.toNat : Int) - 48 := by
  have := dg_iff.1 h
  have e : sub .u8 (Int.ofNat c.toNat) 48 = (c.toNat : Int) - 48 := by unfold sub; rw [q5_, wu8 (by omega) (by omega)]
  rw [e, cvt64 (by omega) (by omega)]
abbrev P4 := Bool × List UInt8 × Int × List UInt8 × List UInt8 × List UInt8 × Int × Int × Int × Int × Int
theorem parse_K4 (u3 : Bool -> List UInt8 -> Int -> List UInt8 -> List UInt8 -> Int -> Int -> Int -> Option (As [.pr (.int .i64) (.int .u8), .bool])) (neg : Bool) (rest part a b : List UInt8) (n t : Int) (hd : ∀ c ∈ part, dg c = true) (hl : part.length < 1000000) (hn0 : 0 ≤ n) (hn1 : n ≤ 1000000000000) :
    q3j_ u3 neg rest n part a b t (Int.ofNat part.length) 0 0 0 = if 1000000000000 < dvn n part then some ((0, 0), false, ()) else u3 neg rest (dvn n part) a b (add .i64 t 1) 0 0 := by
  have key : ∀ (n : Nat) (st : P4), (∃ (i : Nat) (m : Int), st = (neg, rest, m, part, a, b, t, Int.ofNat part.length, (i : Int), 0, 0) ∧ i ≤ part.length ∧ 0 ≤ m ∧ m ≤ 1000000000000) -> part.length - st.2.2.2.2.2.2.2.2.1.toNat < n ->
      loopF (fun (self : P4 -> Option (As [.pr (.int .i64) (.int .u8), .bool])) (s : P4) => q9m_ u3 (fun negative rest n part t54 t54_2 t55 t59 t60 t2 t2_2 => self (negative, rest, n, part, t54, t54_2, t55, t59, t60, t2, t2_2)) s.1 s.2.1 s.2.2.1 s.2.2.2.1 s.2.2.2.2.1 s.2.2.2.2.2.1 s.2.2.2.2.2.2.1 s.2.2.2.2.2.2.2.1 s.2.2.2.2.2.2.2.2.1 s.2.2.2.2.2.2.2.2.2.1 s.2.2.2.2.2.2.2.2.2.2) n st =
        if 1000000000000 < dvn st.2.2.1 (part.drop st.2.2.2.2.2.2.2.2.1.toNat) then some ((0, 0), false, ()) else u3 neg rest (dvn st.2.2.1 (part.drop st.2.2.2.2.2.2.2.2.1.toNat)) a b (add .i64 t 1) 0 0 := by
    refine loopF_eq (σ := P4) (μ := fun st => part.length - st.2.2.2.2.2.2.2.2.1.toNat) (G := fun st => if 1000000000000 < dvn st.2.2.1 (part.drop st.2.2.2.2.2.2.2.2.1.toNat) then some ((0, 0), false, ()) else u3 neg rest (dvn st.2.2.1 (part.drop st.2.2.2.2.2.2.2.2.1.toNat)) a b (add .i64 t 1) 0 0) ?_
    rintro self st ⟨i, m, rfl, hi, hm0, hm1⟩ ih
    simp only [Int.toNat_natCast] at ih ⊢
    unfold q9m_
    cases hdr : part.drop i with
    | nil =>
      have := drop_nil hdr
      rw [if_neg (by rw [qw_, q5_]; omega), dvn_nil, if_neg (by omega)]
    | cons c r =>
      obtain ⟨h1, h2, h3⟩ := drop_succ hdr
      have hc : dg c = true := hd c (List.mem_of_mem_drop (by rw [hdr]; exact List.mem_cons_self ..))
      have hcv := dg_iff.1 hc
      rw [if_pos (by rw [qw_, q5_]; omega), at_drop hdr, Option.bind_some, byte_val hc, mul64 (by omega) (by omega), add64 (by omega) (by omega), dvn_cons, succ64 (by omega)]
      have hr : ∀ x ∈ r, dg x = true := fun x hx => hd x (List.mem_of_mem_drop (by rw [hdr]; exact List.mem_cons_of_mem _ hx))
      have hge := dvn_ge (q := r) (n := 10 * m + ((c.toNat : Int) - 48)) hr (by omega)
      by_cases hgt : 1000000000000 < 10 * m + ((c.toNat : Int) - 48)
      · rw [if_pos (by rw [gt_iff]; omega), if_pos (by omega)]
      · rw [if_neg (by rw [gt_iff]; omega)]
        have := ih (neg, rest, 10 * m + ((c.toNat : Int) - 48), part, a, b, t, Int.ofNat part.length, ((i + 1 : Nat) : Int), 0, 0) ⟨i + 1, _, rfl, by omega, by omega, by omega⟩ (by simp; omega)
        refine this.trans ?_
        simp only [Int.toNat_natCast, h1]
  have := key 18446744073709551616 (neg, rest, n, part, a, b, t, Int.ofNat part.length, 0, 0, 0) ⟨0, n, rfl, by omega, hn0, hn1⟩ (by simp; omega)
  refine this.trans ?_
  simp
theorem K3_step (n : Nat) (neg : Bool) (rest : List UInt8) (m : Int) (a b : List UInt8) (t : Int) : 
    loopF (fun (self : (Bool) × (List UInt8) × (Int) × (List UInt8) × (List UInt8) × (Int) × (Int) × (Int) -> Option (As [.pr (.int .i64) (.int .u8), .bool])) (s : (Bool) × (List UInt8) × (Int) × (List UInt8) × (List UInt8) × (Int) × (Int) × (Int)) => q7k_ (q3j_ (fun negative rest n t54 t54_2 t55 t2 t2_2 => self (negative, rest, n, t54, t54_2, t55, t2, t2_2))) (q40_) (fun negative rest n t54 t54_2 t55 t2 t2_2 => self (negative, rest, n, t54, t54_2, t55, t2, t2_2)) s.1 s.2.1 s.2.2.1 s.2.2.2.1 s.2.2.2.2.1 s.2.2.2.2.2.1 s.2.2.2.2.2.2.1 s.2.2.2.2.2.2.2) (n + 1) (neg, rest, m, a, b, t, 0, 0) =
    if lt t 2 = true then if eqi t 1 = true then q3j_ (fun neg rest m a b t x y => loopF (fun (self : (Bool) × (List UInt8) × (Int) × (List UInt8) × (List UInt8) × (Int) × (Int) × (Int) -> Option (As [.pr (.int .i64) (.int .u8), .bool])) (s : (Bool) × (List UInt8) × (Int) × (List UInt8) × (List UInt8) × (Int) × (Int) × (Int)) => q7k_ (q3j_ (fun negative rest n t54 t54_2 t55 t2 t2_2 => self (negative, rest, n, t54, t54_2, t55, t2, t2_2))) (q40_) (fun negative rest n t54 t54_2 t55 t2 t2_2 => self (negative, rest, n, t54, t54_2, t55, t2, t2_2)) s.1 s.2.1 s.2.2.1 s.2.2.2.1 s.2.2.2.2.1 s.2.2.2.2.2.1 s.2.2.2.2.2.2.1 s.2.2.2.2.2.2.2) n (neg, rest, m, a, b, t, x, y)) neg rest m b a b t (Int.ofNat b.length) 0 0 0 else if eqi t 0 = true then q3j_ (fun neg rest m a b t x y => loopF (fun (self : (Bool) × (List UInt8) × (Int) × (List UInt8) × (List UInt8) × (Int) × (Int) × (Int) -> Option (As [.pr (.int .i64) (.int .u8), .bool])) (s : (Bool) × (List UInt8) × (Int) × (List UInt8) × (List UInt8) × (Int) × (Int) × (Int)) => q7k_ (q3j_ (fun negative rest n t54 t54_2 t55 t2 t2_2 => self (negative, rest, n, t54, t54_2, t55, t2, t2_2))) (q40_) (fun negative rest n t54 t54_2 t55 t2 t2_2 => self (negative, rest, n, t54, t54_2, t55, t2, t2_2)) s.1 s.2.1 s.2.2.1 s.2.2.2.1 s.2.2.2.2.1 s.2.2.2.2.2.1 s.2.2.2.2.2.2.1 s.2.2.2.2.2.2.2) n (neg, rest, m, a, b, t, x, y)) neg rest m a a b t (Int.ofNat a.length) 0 0 0 else none else q40_ neg rest m 0 0 := rfl
theorem parse_K3 (neg : Bool) (w r : List UInt8) (hw : ∀ c ∈ w, dg c = true) (hr : ∀ c ∈ r, dg c = true) (hwl : w.length < 1000000) (hrl : r.length < 256) :
    q7n_ neg r 0 w r 0 0 0 = if 1000000000000 < dvn (dvn 0 w) r then some ((0, 0), false, ()) else some ((if neg then -(dvn (dvn 0 w) r) else dvn (dvn 0 w) r, (r.length : Int)), true, ()) := by
  have h0 : (0 : Int) ≤ dvn 0 w := dvn_ge hw (Int.le_refl _)
  have h1 : dvn 0 w ≤ dvn (dvn 0 w) r := dvn_ge hr h0
  refine (K3_step 18446744073709551615 neg r 0 w r 0).trans ?_
  rw [if_pos (by decide), if_neg (by decide), if_pos (by decide), parse_K4 _ _ _ _ _ _ _ _ hw hwl (by decide) (by decide)]
  by_cases hb : 1000000000000 < dvn 0 w
  · rw [if_pos hb, if_pos (by omega)]
  · rw [if_neg hb, show add .i64 0 1 = 1 from rfl]
    refine (K3_step 18446744073709551614 neg r _ w r 1).trans ?_
    rw [if_pos (by decide), if_pos (by decide), parse_K4 _ _ _ _ _ _ _ _ hr (by omega) h0 (by omega)]
    by_cases hb2 : 1000000000000 < dvn (dvn 0 w) r
    · rw [if_pos hb2, if_pos hb2]
    · rw [if_neg hb2, if_neg hb2, show add .i64 1 1 = 2 from rfl]
      refine (K3_step 18446744073709551613 neg r _ w r 2).trans ?_
      rw [if_neg (by decide)]
      unfold q40_ qb6_ q9g_ qb9_
      have e : cvt .u8 (Int.ofNat r.length) = (r.length : Int) := wu8 (by rw [q5_]; omega) (by rw [q5_]; omega)
      rw [e]
      cases neg
      · rfl
      · rw [if_pos rfl, neg64 (by omega) (by omega)]
        rfl
theorem stripz_len : ∀ r : List UInt8, (qu_ r).length ≤ r.length
  | [] => Nat.le_refl _
  | c :: q => by
    have ih := stripz_len q
    show (match qu_ q with | [] => _ | r => _ : List UInt8).length ≤ _
    cases h : qu_ q with
    | nil => dsimp only; split <;> simp
    | cons a b => rw [h] at ih; simp at ih ⊢; omega
theorem stripz_mem : ∀ {r : List UInt8} {c : UInt8}, c ∈ qu_ r -> c ∈ r
  | a :: q, c, h => by
    have ih := @stripz_mem q c
    change c ∈ (match qu_ q with | [] => _ | r => _ : List UInt8) at h
    cases hq : qu_ q with
    | nil =>
      rw [hq] at h
      dsimp only at h
      split at h
      · cases h
      · simp at h; simp [h]
    | cons x y =>
      rw [hq] at h ih
      rcases List.mem_cons.1 h with h | h
      · simp [h]
      · exact List.mem_cons_of_mem _ (ih h)
theorem digs_iff {s : List UInt8} : digs s = true ↔ (∀ c ∈ s, dg c = true) ∧ s ≠ [] := by simp [digs, List.all_eq_true]
theorem parse_K1 (neg : Bool) (w r : List UInt8) (pt bad : Bool) (hwl : w.length < 1000000) (hrl : r.length < 1000000) (hpt : pt = false -> r = [])
    (hbad : bad = true ↔ (digs w = false ∨ (1 < w.length ∧ w[0]? = some 48))) : q11_ neg w r pt bad 0 0 = some ((q3h_ neg w r pt).1, (q3h_ neg w r pt).2, ()) := by
  unfold q11_ qb3_ q3h_
  by_cases hb : bad = true
  · rw [if_pos hb, if_pos (hbad.1 hb)]
  · rw [if_neg hb, if_neg (fun h => hb (hbad.2 h))]
    have hw : digs w = true := by
      cases h : digs w
      · exact absurd (hbad.2 (.inl h)) hb
      · rfl
    have hwd := digs_iff.1 hw
    have fin : (∀ c ∈ r, dg c = true) -> r.length ≤ 6 -> q7l_ neg w r false 0 0 = some ((if 1000000000000 < dvn (dvn 0 w) (qu_ r) then ((0, 0), false) else ((if neg then -(dvn (dvn 0 w) (qu_ r)) else dvn (dvn 0 w) (qu_ r), ((qu_ r).length : Int)), true) : PR).1, (if 1000000000000 < dvn (dvn 0 w) (qu_ r) then ((0, 0), false) else ((if neg then -(dvn (dvn 0 w) (qu_ r)) else dvn (dvn 0 w) (qu_ r), ((qu_ r).length : Int)), true) : PR).2, ()) := fun hr h6 => by
      unfold q7l_ qb0_
      rw [if_neg (by decide)]
      have go : q7n_ neg (qu_ r) 0 w (qu_ r) 0 0 0 = some ((if 1000000000000 < dvn (dvn 0 w) (qu_ r) then ((0, 0), false) else ((if neg then -(dvn (dvn 0 w) (qu_ r)) else dvn (dvn 0 w) (qu_ r), ((qu_ r).length : Int)), true) : PR).1, (if 1000000000000 < dvn (dvn 0 w) (qu_ r) then ((0, 0), false) else ((if neg then -(dvn (dvn 0 w) (qu_ r)) else dvn (dvn 0 w) (qu_ r), ((qu_ r).length : Int)), true) : PR).2, ()) := by
        rw [parse_K3 neg w (qu_ r) hwd.1 (fun c hc => hr c (stripz_mem hc)) hwl (by have := stripz_len r; omega)]
        split <;> rfl
      by_cases hre : r = []
      · subst hre
        rw [if_pos (by decide)]
        exact go
      · rw [if_neg (by rw [eqs_iff]; exact hre), trimRight_eq hrl, Option.bind_some]
        exact go
    cases pt
    · rw [if_neg (by decide), if_neg (by simp)]
      rw [hpt rfl] at fin ⊢
      exact fin (fun c h => by cases h) (by simp)
    · rw [if_pos rfl, allDigits_eq hrl, Option.bind_some]
      by_cases hr : digs r = true
      · rw [if_neg (by simp [hr])]
        by_cases h6 : 6 < r.length
        · have e : gt (Int.ofNat r.length) 6 = true := by rw [gt_iff, q5_]; omega
          rw [e, if_pos ⟨rfl, .inr h6⟩]
          rfl
        · have e : gt (Int.ofNat r.length) 6 = false := by simp [gt]; omega
          rw [e, if_neg (by simp [hr]; omega)]
          exact fin (digs_iff.1 hr).1 (by omega)
      · have hr' : digs r = false := by simpa using hr
        rw [if_pos (by simp [hr']), if_pos ⟨rfl, .inl hr'⟩]
        rfl
def parseT (neg : Bool) (t : List UInt8) : PR := q3h_ neg (t.takeWhile (· != 46)) ((t.dropWhile (· != 46)).drop 1) (t.contains 46)
def parseS (s : List UInt8) : PR := if s.head? = some 45 then parseT true (s.drop 1) else parseT false s
theorem tw_no {c : UInt8} {s : List UInt8} (h : c ∉ s) : s.takeWhile (· != c) = s ∧ s.dropWhile (· != c) = [] ∧ s.contains c = false := by
  induction s with
  | nil => exact ⟨rfl, rfl, rfl⟩
  | cons b q ih =>
    have hb : b ≠ c := fun e => h (by simp [e])
    obtain ⟨h1, h2, h3⟩ := ih (fun hm => h (List.mem_cons_of_mem _ hm))
    have hb' : (b != c) = true := by simp [hb]
    refine ⟨by simp [hb', h1], by simp [hb', h2], ?_⟩
    simp only [List.contains_cons, h3, Bool.or_false]
    simp
    exact fun e => hb e.symm
theorem tw_yes {c : UInt8} {p q : List UInt8} (h : c ∉ p) : (p ++ c :: q).takeWhile (· != c) = p ∧ (p ++ c :: q).dropWhile (· != c) = c :: q ∧ (p ++ c :: q).contains c = true := by
  induction p with
  | nil => simp
  | cons b r ih =>
    have hb : b ≠ c := fun e => h (by simp [e])
    obtain ⟨h1, h2, h3⟩ := ih (fun hm => h (List.mem_cons_of_mem _ hm))
    have hb' : (b != c) = true := by simp [hb]
    refine ⟨by simp [hb', h1], by simp [hb', h2], ?_⟩
    simp
theorem parseT_no {neg : Bool} {t : List UInt8} (h : (46 : UInt8) ∉ t) : parseT neg t = q3h_ neg t [] false := by
  obtain ⟨h1, h2, h3⟩ := tw_no h
  unfold parseT
  rw [h1, h2, h3]
  rfl
theorem parseT_yes {neg : Bool} {p q : List UInt8} (h : (46 : UInt8) ∉ p) : parseT neg (p ++ 46 :: q) = q3h_ neg p q true := by
  obtain ⟨h1, h2, h3⟩ := tw_yes (q := q) h
  simp only [parseT, h1, h2, h3]
  simp
theorem bad_iff {w : List UInt8} (c : UInt8) (q : List UInt8) (e : w = c :: q) (h : digs w = true) (hl : 1 < w.length) : eqi (Int.ofNat c.toNat) 48 = true ↔ (digs w = false ∨ (1 < w.length ∧ w[0]? = some 48)) := by
  subst e
  simp [h, eqi] at hl ⊢
  constructor
  · intro h2
    refine ⟨hl, UInt8.toNat_inj.1 ?_⟩
    have : (48 : UInt8).toNat = 48 := rfl
    omega
  · rintro ⟨_, rfl⟩; rfl
theorem hasPrefix_eq {s p : List UInt8} : q3v_ (s, p, ()) = some (decide (p <+: s), ()) := by
  show (if ge (Int.ofNat s.length) (Int.ofNat p.length) = true then _ else _) = _
  by_cases h : p.length ≤ s.length
  · rw [if_pos (by rw [ge_iff, q5_, q5_]; omega), q5_, cut_to h, Option.bind_some]
    congr 2
    rw [Bool.eq_iff_iff, eqs_iff, decide_eq_true_iff, List.prefix_iff_eq_take]
    exact ⟨fun h => h.symm, fun h => h.symm⟩
  · rw [if_neg (by rw [ge_iff, q5_, q5_]; omega)]
    congr 2
    symm
    rw [decide_eq_false_iff_not]
    intro hp
    exact h hp.length_le
theorem cutPrefix_eq {s p : List UInt8} : q78_ (s, p, ()) = some (if p <+: s then (s.drop p.length, true, ()) else (s, false, ())) := by
  show (q50_ (s, p, ())).bind _ = _
  have : q50_ (s, p, ()) = some (if p <+: s then (s.drop p.length, true, ()) else (s, false, ())) := by
    show (q3v_ (s, p, ())).bind _ = _
    rw [hasPrefix_eq, Option.bind_some]
    by_cases h : p <+: s
    · rw [if_neg (by simp [h]), if_pos h, q5_, cut_from h.length_le, Option.bind_some]
    · rw [if_pos (by simp [h]), if_neg h]
  rw [this, Option.bind_some]
theorem parse_eq {s : List UInt8} (hl : s.length < 1000000) : qbe_ (s, ()) = some ((parseS s).1, (parseS s).2, ()) := by
  show q94_ q11_ s = _
  have go : ∀ (neg : Bool) (t : List UInt8), t.length < 1000000 ->
      (if eqs [46] t = true then (cut t 1 (Int.ofNat t.length)).bind fun y_1 => (q20_ ([], ())).bind fun y_2 => if (!y_2.1) = true then q11_ neg [] y_1 true true 0 0 else q11_ neg [] y_1 true false 0 0
       else if ge (Go.Lib.indexByte t 46) 0 = true then (cut t 0 (Go.Lib.indexByte t 46)).bind fun y_1 => (cut t (add .i64 (Go.Lib.indexByte t 46) 1) (Int.ofNat t.length)).bind fun y_2 => (q20_ (y_1, ())).bind fun y_3 => if (!y_3.1) = true then q11_ neg y_1 y_2 true true 0 0 else if gt (Int.ofNat y_1.length) 1 = true then (at? y_1 0).bind fun c => q11_ neg y_1 y_2 true (eqi (Int.ofNat c.toNat) 48) 0 0 else q11_ neg y_1 y_2 true false 0 0
       else (q20_ (t, ())).bind fun y_1 => if (!y_1.1) = true then q11_ neg t [] false true 0 0 else if gt (Int.ofNat t.length) 1 = true then (at? t 0).bind fun c => q11_ neg t [] false (eqi (Int.ofNat c.toNat) 48) 0 0 else q11_ neg t [] false false 0 0) = some ((parseT neg t).1, (parseT neg t).2, ()) := by
    intro neg t ht
    have side : ∀ (w r : List UInt8) (pt : Bool), w.length < 1000000 -> r.length < 1000000 -> (pt = false -> r = []) -> ((q20_ (w, ())).bind fun y_1 => if (!y_1.1) = true then q11_ neg w r pt true 0 0 else if gt (Int.ofNat w.length) 1 = true then (at? w 0).bind fun c => q11_ neg w r pt (eqi (Int.ofNat c.toNat) 48) 0 0 else q11_ neg w r pt false 0 0) = some ((q3h_ neg w r pt).1, (q3h_ neg w r pt).2, ()) := by
      intro w r pt hw hr hp
      rw [allDigits_eq hw, Option.bind_some]
      by_cases hd : digs w = true
      · rw [if_neg (by simp [hd])]
        by_cases h1 : 1 < w.length
        · rw [if_pos (by rw [gt_iff, q5_]; omega)]
          cases w with
          | nil => simp at h1
          | cons c q => exact parse_K1 neg (c :: q) r pt _ hw hr hp (bad_iff c q rfl hd h1)
        · rw [if_neg (by rw [gt_iff, q5_]; omega)]
          exact parse_K1 neg w r pt false hw hr hp (by simp [hd]; omega)
      · have hd' : digs w = false := by simpa using hd
        rw [if_pos (by simp [hd'])]
        exact parse_K1 neg w r pt true hw hr hp (by simp [hd'])
    by_cases he : t = [46]
    · subst he
      rw [if_pos (by decide), show cut ([46] : List UInt8) 1 (Int.ofNat [(46 : UInt8)].length) = some [] from rfl, Option.bind_some, allDigits_eq (by simp), Option.bind_some, if_pos (by decide)]
      exact parse_K1 neg [] [] true true (by simp) (by simp) (by simp) (by simp [digs])
    · rw [if_neg (by rw [eqs_iff]; exact fun h => he h.symm)]
      rcases split_at 46 t with h46 | ⟨p, q, rfl, h46⟩
      · rw [index_no 46 t h46, if_neg (by decide), parseT_no h46]
        exact side t [] false ht (by simp) (fun _ => rfl)
      · simp at ht
        rw [index_yes 46 p q h46, if_pos (by rw [ge_iff]; omega), cut_app0, Option.bind_some, succ64 (by omega), cut_from (by simp), Option.bind_some, parseT_yes h46]
        have : (p ++ 46 :: q).drop (p.length + 1) = q := by simp
        rw [this]
        exact side p q true (by omega) (by omega) (by simp)
  unfold q94_
  rw [cutPrefix_eq]
  cases s with
  | nil =>
    rw [if_neg (by simp), Option.bind_some]
    exact go false [] (by simp)
  | cons a q =>
    by_cases ha : a = 45
    · subst ha
      have : parseS (45 :: q) = parseT true q := by simp [parseS]
      rw [this, if_pos (by simp), Option.bind_some]
      exact go true q (by simp at hl; omega)
    · have : parseS (a :: q) = parseT false (a :: q) := by simp [parseS, ha]
      rw [this, if_neg (by simp; intro e; exact ha e.symm), Option.bind_some]
      exact go false (a :: q) hl
end Go.Proofs.Lx
end
section
namespace Go.Proofs.Lx
open Go Ev Sx Pl
set_option maxRecDepth 10000
end Go.Proofs.Lx
end
section
namespace Go.Proofs.Lx
open Go Ev Sx Pl
set_option maxRecDepth 10000
end Go.Proofs.Lx
end
section
namespace Go.Proofs.Lx
open Go Ev Sx Pl
set_option maxRecDepth 10000
abbrev Tk1 := Int × List UInt8 × (Int × Int) × Int
def kd (c : UInt8) : Int := if w1 c.toNat then 1 else if n1 c.toNat then 2 else if e1 c.toNat then 3 else 0
theorem excl3 (c : UInt8) : (w1 c.toNat = true -> n1 c.toNat = false ∧ e1 c.toNat = false) ∧ (n1 c.toNat = true -> e1 c.toNat = false) := by
  have := all8 (p := fun n => (!(w1 n) || (!(n1 n) && !(e1 n))) && (!(n1 n) || !(e1 n))) (by kernel_rfl) c
  constructor
  · intro h; simp [h] at this; exact this.1
  · intro h; simp [h] at this; exact this.2
theorem amb_kind (j2 : Int -> TL -> Option RL) (j3 : Int -> List UInt8 -> TL -> Int -> List UInt8 -> Int -> Int -> Int -> Option RL) (self1 : Int -> List UInt8 -> TL -> Option RL) (a : Int) (t : List UInt8) (c : UInt8) (q : List UInt8) (l : TL)
    (ht : strings_TrimLeft (t, [9, 13, 32], ()) = some (c :: q, ())) : q74_ j2 j3 self1 a t l = j3 a (c :: q) l (kd c) [] 0 0 a := by
  have e4 : eqs (c :: q) [] = false := rfl
  have hr : ∀ x, eqAs q15_.rs x x = true := eqAs_refl _
  obtain ⟨x1, x2⟩ := excl3 c
  unfold q74_ kd
  rw [ht, Option.bind_some]
  have e1 : qq_ (Int.ofNat c.toNat, ()) = some (w1 c.toNat, ()) := qfc_ c
  have e2 : qo_ (Int.ofNat c.toNat, ()) = some (n1 c.toNat, ()) := qf5_ c
  have e3 : qp_ (Int.ofNat c.toNat, ()) = some (Lx.e1 c.toNat, ()) := qf9_ c
  simp only [e4, Bool.false_eq_true, if_false, at_zero, Option.bind_some]
  rw [e1, e2, e3]
  simp only [Option.bind_some]
  cases hw : w1 c.toNat
  · cases hn : n1 c.toNat
    · cases he : Lx.e1 c.toNat
      · simp only [Bool.false_eq_true, if_false, if_true]
        rw [amb2 hr]
        exact amb3 hr _
      · simp only [Bool.false_eq_true, if_false, if_true]
        rw [amb2 hr]
        exact amb3 hr _
    · have he := x2 hn
      rw [he]
      simp only [Bool.false_eq_true, if_false, if_true]
      rw [amb2 hr]
      exact amb3 hr _
  · obtain ⟨hn, he⟩ := x1 hw
    rw [hn, he]
    simp only [Bool.false_eq_true, if_false, if_true]
    rw [amb2 hr]
    exact amb3 hr _
theorem c1n_step (g : Int -> List UInt8 -> Option (As [.str, .str])) (n : Int) (t : List UInt8) : q83_ (q60_ g) g n t = if lt n (Int.ofNat t.length) = true then (at? t n).bind fun c => (q30_ (Int.ofNat c.toNat, ())).bind fun y => if y.1 = true then g (add .i64 n 1) t else q4v_ n t else q4v_ n t := rfl
theorem c1n_app (p q : List UInt8) : q4v_ (p.length : Int) (p ++ q) = some (p, q, ()) := by
  unfold q4v_
  rw [cut_app0, Option.bind_some, cut_app1, Option.bind_some]
theorem c1n_loop : ∀ (q p : List UInt8) (n : Nat), q.length < n -> p.length + q.length < 1000000 ->
    loopF (fun (self : Int × List UInt8 -> Option (As [.str, .str])) (s : Int × List UInt8) => q83_ (q60_ (fun n t1 => self (n, t1))) (fun n t1 => self (n, t1)) s.1 s.2) n ((p.length : Int), p ++ q) =
      some (p ++ q.takeWhile (fun c => nm c.toNat), q.dropWhile (fun c => nm c.toNat), ())
  | q, p, 0, h, _ => by omega
  | [], p, n + 1, h, hl => by
    have h1 : lt (p.length : Int) (Int.ofNat (p ++ []).length) = false := by simp [lt]
    refine (c1n_step _ _ _).trans ?_
    rw [if_neg (by rw [h1]; decide), c1n_app]
    simp
  | c :: q, p, n + 1, h, hl => by
    have h1 : lt (p.length : Int) (Int.ofNat (p ++ c :: q).length) = true := by simp [lt]; omega
    have ih := c1n_loop q (p ++ [c]) n (by simp at h; omega) (by simp at hl ⊢; omega)
    refine (c1n_step _ _ _).trans ?_
    rw [if_pos h1, at_app, Option.bind_some, qf8_, Option.bind_some]
    cases hb : nm c.toNat
    · simp only [Bool.false_eq_true, if_false, c1n_app, List.takeWhile_cons, List.dropWhile_cons, hb, List.append_nil]
    · have ha : add .i64 (p.length : Int) 1 = ((p ++ [c]).length : Int) := by
        unfold add
        rw [w64 (by omega) (by simp at hl; omega)]
        simp
      have e : p ++ c :: q = (p ++ [c]) ++ q := by simp
      simp only [if_true, ha, List.takeWhile_cons, List.dropWhile_cons, hb]
      rw [e, ih]
      simp
theorem c1n_eq (c : UInt8) (q : List UInt8) (h : q.length < 100000) : q8a_ (c :: q, ()) = some (c :: q.takeWhile (fun c => nm c.toNat), q.dropWhile (fun c => nm c.toNat), ()) :=
  c1n_loop q [c] 18446744073709551616 (by omega) (by simp; omega)
theorem c1e_eq (c : UInt8) (q : List UInt8) : q8c_ (c :: q, ()) = some ([c], q, ()) := by
  have hm3 : q81_ 1 (c :: q) = some ([c], q, ()) := by
    unfold q81_
    have h1 : cut (c :: q) 0 1 = some [c] := cut_app0 [c] q
    rw [h1, Option.bind_some, cut_one, Option.bind_some]
  have step : ∀ (g : Int -> List UInt8 -> Option (As [.str, .str])), q7v_ (q4s_ g) g 1 (c :: q) = some ([c], q, ()) := fun g => by
    unfold q7v_
    have hK : q4s_ g 1 false (c :: q) = some ([c], q, ()) := by
      unfold q4s_ qab_
      rw [if_neg (by decide)]
      exact hm3
    have hf : ∀ x, q41_ (x, ()) = some (false, ()) := fun x => rfl
    cases q with
    | nil => rw [if_neg (by simp [lt])]; exact hK
    | cons d r =>
      rw [if_pos (by rw [qw_, q5_]; simp; omega), show at? (c :: d :: r) 1 = some d from rfl, Option.bind_some, hf, Option.bind_some]
      exact hK
  exact step _
def tokS (a : Int) (c : UInt8) (q : List UInt8) : Int ⊕ (Tk1 × List UInt8) :=
  if w1 c.toNat then (if 20 < (c :: q.takeWhile (fun c => wm c.toNat)).length then .inl 133 else .inr ((1, c :: q.takeWhile (fun c => wm c.toNat), (0, 0), a), q.dropWhile (fun c => wm c.toNat)))
  else if n1 c.toNat then (if (parseS (c :: q.takeWhile (fun c => nm c.toNat))).2 = true then .inr ((2, c :: q.takeWhile (fun c => nm c.toNat), (parseS (c :: q.takeWhile (fun c => nm c.toNat))).1, a), q.dropWhile (fun c => nm c.toNat)) else .inl 132)
  else if e1 c.toNat then .inr ((3, [c], (0, 0), a), q)
  else .inl 131
theorem tokS_len {a : Int} {c : UInt8} {q : List UInt8} {t : Tk1} {r : List UInt8} (h : tokS a c q = .inr (t, r)) : r.length ≤ q.length := by
  have hd : ∀ p : UInt8 -> Bool, (q.dropWhile p).length ≤ q.length := fun p => (List.dropWhile_suffix p).length_le
  unfold tokS at h
  split at h
  · split at h
    · cases h
    · cases h; exact hd _
  · split at h
    · split at h
      · cases h; exact hd _
      · cases h
    · split at h
      · cases h; exact Nat.le_refl _
      · cases h
theorem line_tok (self : Int × List UInt8 × TL -> Option RL) (a : Int) (t : List UInt8) (c : UInt8) (q : List UInt8) (l : TL) (ht : strings_TrimLeft (t, [9, 13, 32], ()) = some (c :: q, ())) (hq : q.length < 100000) (hl : l.length < 1000000) :
    lineB self (a, t, l) = match tokS a c q with
      | .inl e => some ([], e, ())
      | .inr (tk, r) => self (a, r, l ++ [tk]) := by
  refine (amb_kind _ _ _ a t c q l ht).trans ?_
  have hs : small (l.length + 1) = true := small_iff.2 (by omega)
  unfold q9n_ qcn_ kd tokS
  cases hw : w1 c.toNat
  · cases hn : n1 c.toNat
    · cases he : Lx.e1 c.toNat
      · rfl
      · simp only [Bool.false_eq_true, if_false, if_true]
        rw [if_neg (by decide), if_neg (by decide), if_pos (by decide), c1e_eq, Option.bind_some]
        unfold q7m_ qbv_
        simp only [Option.bind_some]
        rw [if_neg (by decide), need_t hs]
    · simp only [Bool.false_eq_true, if_false, if_true]
      rw [if_neg (by decide), if_pos (by decide), c1n_eq c q hq, Option.bind_some]
      have hlen : (c :: q.takeWhile (fun c => nm c.toNat)).length < 1000000 := by
        have := (List.takeWhile_prefix (l := q) (fun c => nm c.toNat)).length_le
        simp; omega
      generalize c :: q.takeWhile (fun c => nm c.toNat) = u at hlen ⊢
      unfold qai_ qee_
      simp only
      rw [parse_eq hlen, Option.bind_some]
      cases hp : (parseS u).2
      · simp only [Bool.not_false, if_true, Option.bind_some, Bool.false_eq_true, if_false]
        rw [if_pos (by decide)]
      · simp only [Bool.not_true, if_true, Option.bind_some, Bool.false_eq_true, if_false]
        rw [if_neg (by decide), need_t hs]
  · simp only [if_true]
    rw [if_pos (by decide), qk0_ c q hq, Option.bind_some]
    generalize c :: q.takeWhile (fun c => wm c.toNat) = u
    unfold qc8_ qff_
    by_cases h : 20 < u.length
    · have h2 : gt (Int.ofNat u.length) 20 = true := by simp [gt]; omega
      simp only [h2, if_true, Option.bind_some, if_pos h]
      rw [if_pos (by decide)]
    · have h2 : gt (Int.ofNat u.length) 20 = false := by simp [gt]; omega
      simp only [h2, Bool.false_eq_true, if_false, Option.bind_some, if_neg h]
      rw [if_neg (by decide), need_t hs]
def lineT (a : Int) (s : List UInt8) (l : TL) : TL × Int :=
  match h : s.dropWhile (fun c => isB c.toNat) with
  | [] => (if l = [] then [] else l ++ [(4, [], (0, 0), a)], 0)
  | c :: q => match h2 : tokS a c q with
    | .inl e => ([], e)
    | .inr (t, r) => lineT a r (l ++ [t])
termination_by s.length
decreasing_by
  have h1 := tokS_len h2
  have h3 := (List.dropWhile_suffix (l := s) (fun c => isB c.toNat)).length_le
  rw [h] at h3
  simp at h3
  omega
theorem lineT_nil {a : Int} {s : List UInt8} {l : TL} (h : s.dropWhile (fun c => isB c.toNat) = []) : lineT a s l = (if l = [] then [] else l ++ [(4, [], (0, 0), a)], 0) := by
  rw [lineT]
  split
  · rfl
  · rename_i h2; rw [h] at h2; cases h2
theorem lineT_err {a : Int} {s : List UInt8} {l : TL} {c : UInt8} {q : List UInt8} {e : Int} (h : s.dropWhile (fun c => isB c.toNat) = c :: q) (h2 : tokS a c q = .inl e) : lineT a s l = ([], e) := by
  rw [lineT]
  split
  · rename_i h3; rw [h] at h3; cases h3
  · rename_i c' q' h3
    rw [h] at h3
    cases h3
    split
    · rename_i e' h4; rw [h2] at h4; cases h4; rfl
    · rename_i h4; rw [h2] at h4; cases h4
theorem lineT_tok {a : Int} {s : List UInt8} {l : TL} {c : UInt8} {q : List UInt8} {t : Tk1} {r : List UInt8} (h : s.dropWhile (fun c => isB c.toNat) = c :: q) (h2 : tokS a c q = .inr (t, r)) : lineT a s l = lineT a r (l ++ [t]) := by
  rw [lineT]
  split
  · rename_i h3; rw [h] at h3; cases h3
  · rename_i c' q' h3
    rw [h] at h3
    cases h3
    split
    · rename_i e' h4; rw [h2] at h4; cases h4
    · rename_i t' r' h4; rw [h2] at h4; cases h4; rfl
theorem line_loop : ∀ (n : Nat) (st : Int × List UInt8 × TL), (st.2.1.length < 90000 ∧ st.2.2.length + st.2.1.length < 100000) -> st.2.1.length < n -> loopF lineB n st = some ((lineT st.1 st.2.1 st.2.2).1, (lineT st.1 st.2.1 st.2.2).2, ()) := by
  refine loopF_eq (σ := Int × List UInt8 × TL) (μ := fun st => st.2.1.length) (G := fun st => some ((lineT st.1 st.2.1 st.2.2).1, (lineT st.1 st.2.1 st.2.2).2, ())) ?_
  rintro self ⟨a, s, l⟩ ⟨h1, h2⟩ ih
  simp only at h1 h2 ih ⊢
  have h3 := (List.dropWhile_suffix (l := s) (fun c => isB c.toNat)).length_le
  have ht := strings_TrimLeft_eq (s := s) (by omega)
  cases hd : s.dropWhile (fun c => isB c.toNat) with
  | nil =>
    rw [lineT_nil hd]
    rw [hd] at ht
    show q74_ _ _ _ a s l = _
    unfold q74_
    rw [ht, Option.bind_some, if_pos (by decide)]
    unfold q9o_ qco_
    cases l with
    | nil => rfl
    | cons x y =>
      rw [if_pos (by rw [gt_iff, q5_]; simp), qi_ (by simp at h2 ⊢; omega)]
      rfl
  | cons c q =>
    rw [hd] at ht h3
    simp at h3
    rw [line_tok self a s c q l ht (by omega) (by omega)]
    cases h4 : tokS a c q with
    | inl e => rw [lineT_err hd h4]
    | inr p =>
      obtain ⟨t, r⟩ := p
      rw [lineT_tok hd h4]
      have h5 := tokS_len h4
      exact ih (a, r, l ++ [t]) ⟨by show r.length < _; omega, by show (l ++ [t]).length + r.length < _; simp; omega⟩ (by show r.length < _; omega)
def uncom (s : List UInt8) : List UInt8 := s.takeWhile (· != 35)
theorem line_eq (s : List UInt8) (n : Int) (h : s.length < 80000) : q92_ (s, n, ()) = some ((lineT n (uncom s) []).1, (lineT n (uncom s) []).2, ()) := by
  show qbd_ q9r_ s n = _
  unfold qbd_
  have go : ∀ t : List UInt8, t.length < 80000 -> q9r_ n t [] = some ((lineT n t []).1, (lineT n t []).2, ()) := fun t ht => line_loop 18446744073709551616 (n, t, []) ⟨by show t.length < _; omega, by show ([] : TL).length + t.length < _; simp; omega⟩ (by show t.length < _; omega)
  by_cases he : s = [35]
  · subst he
    rw [if_pos (by decide), show cut ([35] : List UInt8) 1 (Int.ofNat [(35 : UInt8)].length) = some [] from rfl, Option.bind_some]
    exact go [] (by simp)
  · rw [if_neg (by rw [eqs_iff]; exact fun h => he h.symm)]
    rcases split_at 35 s with h35 | ⟨p, q, rfl, h35⟩
    · rw [index_no 35 s h35, if_neg (by decide)]
      have : uncom s = s := (tw_no h35).1
      rw [this]
      exact go s h
    · simp at h
      rw [index_yes 35 p q h35, if_pos (by rw [ge_iff]; omega), cut_app0, Option.bind_some, succ64 (by omega), cut_from (by simp), Option.bind_some]
      have : uncom (p ++ 35 :: q) = p := (tw_yes h35).1
      rw [this]
      exact go p (by omega)
end Go.Proofs.Lx
end
section
namespace Go.Proofs.Lx
open Go Ev Sx Pl
set_option maxRecDepth 10000
abbrev LR := As [.sl (.pr (.int .u8) (.pr .str (.pr (.pr (.int .i64) (.int .u8)) (.int .i64)))), .pr (.int .i64) (.int .i64)]
abbrev lexB (self : (List UInt8) × Int × Int × Int × TL -> Option LR) (s : (List UInt8) × Int × Int × Int × TL) : Option LR :=
  qah_ (qc1_) (fun text n t3 t3_2 l => self (text, n, t3, t3_2, l)) s.1 s.2.1 s.2.2.1 s.2.2.2.1 s.2.2.2.2
end Go.Proofs.Lx
end
section
namespace Go.Proofs.Lx
open Go Ev Sx Pl
set_option maxRecDepth 10000
def q1m_ (s : List UInt8) : List UInt8 := s.takeWhile (· != 10)
def lrest (s : List UInt8) : List UInt8 := (s.dropWhile (· != 10)).drop 1
theorem lrest_len {s : List UInt8} (h : s ≠ []) : (lrest s).length < s.length := by
  have h3 := (List.dropWhile_suffix (l := s) (· != 10)).length_le
  have hp := List.length_pos_iff.2 h
  unfold lrest
  simp
  omega
def lexS (n : Int) (s : List UInt8) (l : TL) : TL × (Int × Int) :=
  if h : s = [] then (l, (0, 0)) else if (lineT n (uncom (q1m_ s)) []).2 ≠ 0 then ([], ((lineT n (uncom (q1m_ s)) []).2, n)) else lexS (n + 1) (lrest s) (l ++ (lineT n (uncom (q1m_ s)) []).1)
termination_by s.length
decreasing_by exact lrest_len h
def tkEnd (n : Int) : Tk1 := (4, [], (0, 0), n)
theorem tokS_err {a : Int} {c : UInt8} {q : List UInt8} {e : Int} (h : tokS a c q = .inl e) : e ≠ 0 := by
  unfold tokS at h
  split at h
  · split at h
    · cases h; decide
    · cases h
  · split at h
    · split at h
      · cases h
      · cases h; decide
    · split at h
      · cases h
      · cases h; decide
theorem not_blank_head {c : UInt8} {s : List UInt8} (h : isB c.toNat = false) : (c :: s).dropWhile (fun c => isB c.toNat) = c :: s := by simp [h]
end Go.Proofs.Lx
end
section
namespace Go.Proofs.Lx
open Go Ev Sx Pl
set_option maxRecDepth 10000
theorem lineT_len (a : Int) : ∀ (k : Nat) (s : List UInt8) (l : TL), s.length ≤ k -> (lineT a s l).1.length ≤ l.length + s.length + 1 := by
  intro k
  induction k with
  | zero =>
    intro s l hs
    have : s = [] := List.eq_nil_of_length_eq_zero (by omega)
    subst this
    rw [lineT_nil rfl]
    dsimp only
    split <;> simp
  | succ k ih =>
    intro s l hs
    have h3 := (List.dropWhile_suffix (l := s) (fun c => isB c.toNat)).length_le
    cases hd : s.dropWhile (fun c => isB c.toNat) with
    | nil =>
      rw [lineT_nil hd]
      dsimp only
      split
      · simp
      · simp
    | cons c q =>
      rw [hd] at h3
      simp at h3
      cases ht : tokS a c q with
      | inl e => rw [lineT_err hd ht]; simp
      | inr p =>
        obtain ⟨t, r⟩ := p
        rw [lineT_tok hd ht]
        have h4 := tokS_len ht
        have := ih r (l ++ [t]) (by omega)
        simp at this
        omega
theorem uncom_len (s : List UInt8) : (uncom s).length ≤ s.length := (List.takeWhile_prefix _).length_le
theorem lexS_step {n : Int} {s : List UInt8} {l : TL} (h : s ≠ []) : lexS n s l = if (lineT n (uncom (q1m_ s)) []).2 ≠ 0 then ([], ((lineT n (uncom (q1m_ s)) []).2, n)) else lexS (n + 1) (lrest s) (l ++ (lineT n (uncom (q1m_ s)) []).1) := by
  rw [lexS, dif_neg h]
theorem qnq_ : ∀ (k : Nat) (st : List UInt8 × Int × Int × Int × TL), (st.1.length ≤ 20000 ∧ 0 ≤ st.2.1 ∧ st.2.1 + st.1.length ≤ 100000 ∧ st.2.2.1 = 0 ∧ st.2.2.2.1 = 0 ∧ st.2.2.2.2.length + 2 * st.1.length ≤ 100000) -> st.1.length < k ->
    loopF lexB k st = some ((lexS st.2.1 st.1 st.2.2.2.2).1, (lexS st.2.1 st.1 st.2.2.2.2).2, ()) := by
  refine loopF_eq (σ := List UInt8 × Int × Int × Int × TL) (μ := fun st => st.1.length) (G := fun st => some ((lexS st.2.1 st.1 st.2.2.2.2).1, (lexS st.2.1 st.1 st.2.2.2.2).2, ())) ?_
  rintro self ⟨s, n, x, y, l⟩ ⟨h1, h2, h3, rfl, rfl, h4⟩ ih
  simp only at h1 h2 h3 h4 ih ⊢
  show qah_ _ _ s n 0 0 l = _
  by_cases hne : s = []
  · subst hne
    rw [lexS, dif_pos rfl]
    rfl
  · have hlen := lrest_len hne
    have hpos := List.length_pos_iff.2 hne
    unfold qah_
    rw [if_pos (by rw [nes_iff]; exact hne), lexS_step hne]
    have hadd : add .i64 n 1 = n + 1 := add64 (by omega) (by omega)
    have go : ∀ (f r : List UInt8), q1m_ s = f -> lrest s = r -> f.length ≤ s.length -> f.length + r.length ≤ s.length -> ((q92_ (f, n, ())).bind fun y => if nei y.2.1 0 = true then some ([], (y.2.1, n), ()) else need (small (l.length + y.1.length)) (self (r, add .i64 n 1, 0, 0, l ++ y.1))) =
        some ((if (lineT n (uncom (q1m_ s)) []).2 ≠ 0 then (([] : TL), ((lineT n (uncom (q1m_ s)) []).2, n)) else lexS (n + 1) (lrest s) (l ++ (lineT n (uncom (q1m_ s)) []).1)).1, (if (lineT n (uncom (q1m_ s)) []).2 ≠ 0 then (([] : TL), ((lineT n (uncom (q1m_ s)) []).2, n)) else lexS (n + 1) (lrest s) (l ++ (lineT n (uncom (q1m_ s)) []).1)).2, ()) := by
      intro f r ef er hf hfr
      rw [ef, er, line_eq f n (by omega), Option.bind_some]
      rw [er] at hlen
      have hb := lineT_len n _ (uncom f) [] (Nat.le_refl _)
      have hu := uncom_len f
      simp at hb
      by_cases he : (lineT n (uncom f) []).2 = 0
      · rw [if_neg (by rw [q1b_]; simpa using he), if_neg (by simpa using he), qi_ (by simp; omega), hadd]
        exact ih (r, n + 1, 0, 0, l ++ (lineT n (uncom f) []).1) ⟨by show r.length ≤ _; omega, by show 0 ≤ n + 1; omega, by show n + 1 + (r.length : Int) ≤ _; omega, rfl, rfl, by show (l ++ _).length + 2 * r.length ≤ _; simp; omega⟩ (by show r.length < _; omega)
      · rw [if_pos (by rw [q1b_]; exact he), if_pos he]
    by_cases he : s = [10]
    · subst he
      rw [if_pos (by decide), show cut ([10] : List UInt8) 1 (Int.ofNat [(10 : UInt8)].length) = some [] from rfl, Option.bind_some]
      exact go [] [] rfl rfl (by simp) (by simp)
    · rw [if_neg (by rw [eqs_iff]; exact fun h => he h.symm)]
      rcases split_at 10 s with h10 | ⟨p, q, rfl, h10⟩
      · rw [index_no 10 s h10, if_neg (by decide)]
        exact go s [] (tw_no h10).1 (by unfold lrest; rw [(tw_no h10).2.1]; rfl) (Nat.le_refl _) (by simp)
      · simp at h1 h3 h4
        rw [index_yes 10 p q h10, if_pos (by rw [ge_iff]; omega), cut_app0, Option.bind_some, succ64 (by omega), cut_from (by simp), Option.bind_some]
        have : (p ++ 10 :: q).drop (p.length + 1) = q := by simp
        rw [this]
        exact go p q (tw_yes h10).1 (by unfold lrest; rw [(tw_yes h10).2.1]; rfl) (by simp) (by simp)
def lexR (s : List UInt8) : TL × (Int × Int) := if 8192 < s.length then ([], (130, 0)) else lexS 1 s []
theorem lex_eq (s : List UInt8) : qcq_ (s, ()) = some ((lexR s).1, (lexR s).2, ()) := by
  show qby_ qc2_ s = _
  unfold qby_ lexR
  by_cases h : 8192 < s.length
  · rw [if_pos (by rw [gt_iff, q5_]; omega), if_pos h]
  · rw [if_neg (by rw [gt_iff, q5_]; omega), if_neg h]
    exact qnq_ 18446744073709551616 (s, 1, 0, 0, []) ⟨by show s.length ≤ _; omega, by show (0 : Int) ≤ 1; decide, by show (1 : Int) + s.length ≤ _; omega, rfl, rfl, by show ([] : TL).length + 2 * s.length ≤ _; simp; omega⟩ (by show s.length < _; omega)
abbrev RLx := As [.sl (.pr (.int .u8) (.pr .str (.pr (.pr (.int .i64) (.int .u8)) (.int .i64)))), .pr (.int .i64) (.int .i64)]
def pkR (x : TL × (Int × Int)) : Option RLx := some (x.1, x.2, ())
end Go.Proofs.Lx
end
section
namespace Go.Proofs.Lx
open Go Ev Sx Pl
set_option maxRecDepth 10000
def linesS (s : List UInt8) : List (List UInt8) := if h : (10 : UInt8) ∈ s then q1m_ s :: linesS (lrest s) else [s]
termination_by s.length
decreasing_by exact lrest_len (fun e => by subst e; cases h)
theorem linesS_no {s : List UInt8} (h : (10 : UInt8) ∉ s) : linesS s = [s] := by rw [linesS, dif_neg h]
theorem linesS_yes {p q : List UInt8} (h : (10 : UInt8) ∉ p) : linesS (p ++ 10 :: q) = p :: linesS q := by
  have e1 : q1m_ (p ++ 10 :: q) = p := (tw_yes h).1
  have e2 : lrest (p ++ 10 :: q) = q := by unfold lrest; rw [(tw_yes h).2.1]; rfl
  rw [linesS, dif_pos (by simp), e1, e2]
def toksL (a : Int) (s : List UInt8) : TL × Int :=
  match h : s.dropWhile (fun c => isB c.toNat) with
  | [] => ([], 0)
  | c :: q => match h2 : tokS a c q with
    | .inl e => ([], e)
    | .inr (t, r) => (t :: (toksL a r).1, (toksL a r).2)
termination_by s.length
decreasing_by
  all_goals
    have h1 := tokS_len h2
    have h3 := (List.dropWhile_suffix (l := s) (fun c => isB c.toNat)).length_le
    rw [h] at h3
    simp at h3
    omega
theorem toksL_nil {a : Int} {s : List UInt8} (h : s.dropWhile (fun c => isB c.toNat) = []) : toksL a s = ([], 0) := by
  rw [toksL]
  split
  · rfl
  · rename_i h2; rw [h] at h2; cases h2
theorem toksL_err {a : Int} {s : List UInt8} {c : UInt8} {q : List UInt8} {e : Int} (h : s.dropWhile (fun c => isB c.toNat) = c :: q) (h2 : tokS a c q = .inl e) : toksL a s = ([], e) := by
  rw [toksL]
  split
  · rename_i h3; rw [h] at h3; cases h3
  · rename_i c' q' h3
    rw [h] at h3
    cases h3
    split
    · rename_i e' h4; rw [h2] at h4; cases h4; rfl
    · rename_i h4; rw [h2] at h4; cases h4
theorem toksL_tok {a : Int} {s : List UInt8} {c : UInt8} {q : List UInt8} {t : Tk1} {r : List UInt8} (h : s.dropWhile (fun c => isB c.toNat) = c :: q) (h2 : tokS a c q = .inr (t, r)) : toksL a s = (t :: (toksL a r).1, (toksL a r).2) := by
  rw [toksL]
  split
  · rename_i h3; rw [h] at h3; cases h3
  · rename_i c' q' h3
    rw [h] at h3
    cases h3
    split
    · rename_i e' h4; rw [h2] at h4; cases h4
    · rename_i t' r' h4; rw [h2] at h4; cases h4; rfl
theorem lineT_toks (a : Int) : ∀ (k : Nat) (s : List UInt8) (l : TL), s.length ≤ k ->
    lineT a s l = if (toksL a s).2 ≠ 0 then ([], (toksL a s).2) else (if l ++ (toksL a s).1 = [] then [] else l ++ (toksL a s).1 ++ [tkEnd a], 0) := by
  intro k
  have base : ∀ (s : List UInt8) (l : TL), s.dropWhile (fun c => isB c.toNat) = [] -> lineT a s l = if (toksL a s).2 ≠ 0 then ([], (toksL a s).2) else (if l ++ (toksL a s).1 = [] then [] else l ++ (toksL a s).1 ++ [tkEnd a], 0) := fun s l h => by
    rw [lineT_nil h, toksL_nil h]
    simp [tkEnd]
  induction k with
  | zero =>
    intro s l hs
    have : s = [] := List.eq_nil_of_length_eq_zero (by omega)
    subst this
    exact base [] l rfl
  | succ k ih =>
    intro s l hs
    have h3 := (List.dropWhile_suffix (l := s) (fun c => isB c.toNat)).length_le
    cases hd : s.dropWhile (fun c => isB c.toNat) with
    | nil => exact base s l hd
    | cons c q =>
      rw [hd] at h3
      simp at h3
      cases ht : tokS a c q with
      | inl e =>
        rw [lineT_err hd ht, toksL_err hd ht, if_pos (tokS_err ht)]
      | inr p =>
        obtain ⟨t, r⟩ := p
        have h4 := tokS_len ht
        rw [lineT_tok hd ht, toksL_tok hd ht, ih r (l ++ [t]) (by omega)]
        simp only [List.append_assoc, List.singleton_append]
end Go.Proofs.Lx
end
section
namespace Go.Proofs.Lx
open Go Ev Sx Pl
set_option maxRecDepth 10000
theorem index_eq {s : List UInt8} {c : UInt8} : q6j_ (s, [c], ()) = some (Go.Lib.indexByte s c, ()) := by
  show strings_Index_m0 s [c] = _
  unfold strings_Index_m0
  have h0 : eqi (Int.ofNat [c].length) 0 = false := rfl
  have h1 : eqi (Int.ofNat [c].length) 1 = true := rfl
  rw [if_neg (by rw [h0]; decide)]
  by_cases h : [c] = s
  · subst h
    rw [if_pos (by rw [eqs_iff])]
    unfold Go.Lib.indexByte
    simp
  · rw [if_neg (by rw [eqs_iff]; exact h), if_pos h1, at_zero, Option.bind_some]
    have : (UInt8.ofNat (Int.ofNat c.toNat).toNat) = c := by simp
    exact congrArg (fun x => some (Go.Lib.indexByte s x, ())) this
abbrev SpSt := List UInt8 × List UInt8 × Int × Int × Int × List (List UInt8)
theorem split_loop : ∀ (k : Nat) (st : SpSt), (∃ (s : List UInt8) (i : Nat) (a : List (List UInt8)), st = (s, [10], 0, ((i + s.count 10 : Nat) : Int), (i : Int), a) ∧ a.length = i + s.count 10 + 1 ∧ a.length < 1000000 ∧ s.length < 1000000) -> st.1.length < k ->
    loopF (fun (self : SpSt -> Option (As [.sl .str])) (s : SpSt) => q6b_ q4q_ (fun s sep sepSave n i a => self (s, sep, sepSave, n, i, a)) s.1 s.2.1 s.2.2.1 s.2.2.2.1 s.2.2.2.2.1 s.2.2.2.2.2) k st = some (st.2.2.2.2.2.take st.2.2.2.2.1.toNat ++ linesS st.1, ()) := by
  refine loopF_eq (σ := SpSt) (μ := fun st => st.1.length) (G := fun st => some (st.2.2.2.2.2.take st.2.2.2.2.1.toNat ++ linesS st.1, ())) ?_
  rintro self st ⟨s, i, a, rfl, ha, hal, hsl⟩ ih
  simp only [Int.toNat_natCast] at ih ⊢
  unfold q6b_
  have atI : ∀ (b : List (List UInt8)), b.length = a.length -> ∃ x, at? b (i : Int) = some x := fun b hb => ⟨b[i], at_get (List.getElem?_eq_getElem (by omega))⟩
  obtain ⟨x, hx⟩ := atI a rfl
  rcases split_at 10 s with h | ⟨p, q, rfl, h⟩
  · have hc : s.count 10 = 0 := List.count_eq_zero_of_not_mem h
    rw [if_neg (by rw [qw_]; omega), linesS_no h]
    unfold q4q_ strings_genSplit_m3
    rw [hx, Option.bind_some, Option.bind_some, succ64 (by omega), need_t (by rw [le_iff]; omega), need_t (by rw [le_iff, q5_, List.length_set]; omega)]
    have e1 : ((((i + 1 : Nat) : Int) - 0)).toNat = i + 1 := by omega
    rw [e1, Int.toNat_natCast, List.drop_zero]
    congr 2
    have hai : i < a.length := by omega
    apply List.ext_getElem?
    intro j
    rw [List.getElem?_take, List.getElem?_append]
    by_cases hj : j < i
    · rw [if_pos (by omega), if_pos (by simp; omega), List.getElem?_set_ne (by omega), List.getElem?_take_of_lt hj]
    · by_cases hji : j = i
      · subst hji
        rw [if_pos (by omega), if_neg (by simp; omega), List.getElem?_set_self hai]
        have : j - (a.take j).length = 0 := by simp; omega
        rw [this]
        rfl
      · rw [if_neg (by omega), if_neg (by simp; omega)]
        symm
        apply List.getElem?_eq_none
        simp
        omega
  · have hc : (p ++ 10 :: q).count 10 = q.count 10 + 1 := by rw [List.count_append, List.count_eq_zero_of_not_mem h]; simp
    simp at hsl
    rw [hc] at ha ⊢
    rw [if_pos (by rw [qw_]; omega), index_eq, Option.bind_some, index_yes 10 p q h, if_neg (by rw [qw_]; omega)]
    have e0 : add .i64 (p.length : Int) 0 = (p.length : Int) := by rw [add64 (by omega) (by omega)]; omega
    rw [e0, cut_app0, Option.bind_some, hx, Option.bind_some, Option.bind_some]
    have e1 : add .i64 (p.length : Int) (Int.ofNat ([10] : List UInt8).length) = ((p.length + 1 : Nat) : Int) := succ64 (by omega)
    have e2 : (p ++ 10 :: q).drop (p.length + 1) = q := by simp
    rw [e1, cut_from (by simp), Option.bind_some, e2, succ64 (by omega), Int.toNat_natCast]
    have := ih (q, [10], 0, ((i + 1 + q.count 10 : Nat) : Int), ((i + 1 : Nat) : Int), a.set i p) ⟨q, i + 1, a.set i p, rfl, by simp; omega, by simp; omega, by omega⟩ (by simp; omega)
    have e3 : i + (q.count 10 + 1) = i + 1 + q.count 10 := by omega
    rw [e3]
    refine Eq.trans this ?_
    simp only [Int.toNat_natCast]
    rw [linesS_yes h]
    congr 2
    have hai : i < a.length := by omega
    have : (a.set i p).take (i + 1) = a.take i ++ [p] := by
      rw [List.take_add_one, List.getElem?_set_self hai, List.take_set, List.set_eq_of_length_le (by simp; omega)]
      rfl
    rw [this]
    simp
theorem split_eq {s : List UInt8} (hs : s.length < 500000) : q6k_ (s, [10], ()) = some (linesS s, ()) := by
  have hcl : s.count 10 ≤ s.length := List.count_le_length
  have hcount : strings_Count (s, [10], ()) = some (((s.count 10 : Nat) : Int), ()) := rfl
  have hg : q66_ (s, [10], 0, -1, ()) = some (linesS s, ()) := by
    show q6c_ q4r_ s [10] 0 (-1) = _
    unfold q6c_
    rw [if_neg (by decide), if_neg (by decide), if_pos (by decide), hcount, Option.bind_some]
    unfold q4r_ strings_genSplit_m1
    have e0 : add .i64 ((s.count 10 : Nat) : Int) 1 = ((s.count 10 + 1 : Nat) : Int) := succ64 (by omega)
    have e1 : add .i64 (Int.ofNat s.length) 1 = ((s.length + 1 : Nat) : Int) := succ64 (by omega)
    simp only [e0, e1]
    rw [if_neg (show ¬ lt ((s.length + 1 : Nat) : Int) ((s.count 10 + 1 : Nat) : Int) = true by rw [qw_]; omega), need_t (by rw [ge_iff]; omega), need_t (by unfold capOk; rw [if_pos rfl]), qi_ (by omega)]
    have e2 : sub .i64 ((s.count 10 + 1 : Nat) : Int) 1 = ((0 + s.count 10 : Nat) : Int) := by rw [sub64 (by omega) (by omega)]; omega
    rw [e2, Int.toNat_natCast]
    have := split_loop 18446744073709551616 (s, [10], 0, ((0 + s.count 10 : Nat) : Int), ((0 : Nat) : Int), List.replicate (s.count 10 + 1) []) ⟨s, 0, _, rfl, by simp, by simp; omega, by omega⟩ (by show s.length < _; omega)
    refine Eq.trans this ?_
    simp
  show (q66_ (s, [10], 0, -1, ())).bind _ = _
  rw [hg]
  rfl
end Go.Proofs.Lx
end
