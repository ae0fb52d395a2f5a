/- Proved in the last of these 11 parts (this is part 9): the law RecipeBack of chapter 14 returns true at every recipe and every text. Conditions: those of the given statement, and no others. -/
import Derived.Test.YtnamnibaedolaaaGreatDoorParte
import Derived.Test.YtnamnibaedolaaaGreatDoorProg
import Derived.Test.YtnamnibaedolaaaGreatDoorParth
set_option linter.unusedVariables false
set_option linter.unusedSimpArgs false
set_option linter.unusedSectionVars false
section
open Go Go.Proofs Ev Sx
set_option maxRecDepth 100000
namespace Go.Proofs.Lx
abbrev QCT4 : Ty := (.pr .str (.pr (.pr (.int .i64) (.int .u8)) (.pr .str (.int .i64))))
abbrev QCT0 : Ty := (.pr .str (.pr (.int .i64) (.sl QCT4)))
abbrev QCT1 : Type := (List UInt8 × (Int × Int) × List UInt8 × Int)
abbrev QCT2 : Type := (Int × List UInt8 × (Int × Int) × Int)
abbrev QCT3 : Ty := (.sl (.pr (.int .u8) (.pr .str (.pr (.pr (.int .i64) (.int .u8)) (.int .i64)))))
@[reducible] def q31_ : Sh := ⟨[.d (.str)], [], [.str], [.d (.pr .str (.sl QCT0)), .d (.pr (.int .i64) (.int .i64))], [], 0, [.pr .str (.sl QCT0), .pr (.int .i64) (.int .i64)]⟩
def q3w_ : Env := (cts [(3000024, Ev.bxCt), (39, (⟨q56_, qc6_⟩ : Ct)), (51, (⟨q15_, q1q_⟩ : Ct)), (73, (⟨qc1_, q83_⟩ : Ct))])
def q3y_ : List (Nat × Hint) := [(127, ⟨[], [2, 3, 7]⟩), (1018, ⟨[.rwb 7 2 43, .opc 7 2 [(2, 47)]], [2, 3, 4, 6, 7, 8, 23, 24, 25]⟩)]
def q4v_ (tokens : List QCT2) (from' : Int) (t23 : List QCT2) (t24 t25 : Int) (t2 : List UInt8) (t3 : Int × Int) (p : Int) (p_2 : List UInt8) (o_o : Bool) (o : List (List UInt8 × Int × List QCT1)) (o_l : List UInt8) (o_l_2 : Int) (o_2 : List QCT1) : St := { fr := [(2, .pb 0 0), (3, .pb 1 0), (4, .d QCT3 tokens), (6, .pb 2 0), (7, .pb 3 0), (8, .d (.int .i64) from'), (23, .d QCT3 t23), (24, .d (.int .i64) t24), (25, .d (.int .i64) t25)], nt := 60, up := [], own := [(0, .box 26 [.d .str t2, .k (Go.Value.slice Option.none 0 0)]), (1, .box 33 [.d (.int .i64) t3.1, .d (.int .i64) t3.2]), (2, .box 102 [.fn (.func 40) [] [], .fn (.func 41) [] [], .fn (.func 42) [] []]), (3, .box 104 [.d (.int .i64) p, .d .str p_2, .row 4]), (4, .rowo QCT0 43 o_o o [.d .str o_l, .d (.int .i64) o_l_2, .row 5]), (5, .row QCT4 47 o_2)], nx := 6, log := [], ln := 0 }
def q7q_ (t2 : List UInt8) (t3 : Int × Int) (p : Int) (p_2 : List UInt8) (o_o : Bool) (o : List (List UInt8 × Int × List QCT1)) (o_l : List UInt8) (o_l_2 : Int) (o_2 : List QCT1) : St := { fr := [(2, .pb 0 0), (3, .pb 1 0), (7, .pb 2 0)], nt := 60, up := [], own := [(0, .box 26 [.d .str t2, .k (Go.Value.slice Option.none 0 0)]), (1, .box 33 [.d (.int .i64) t3.1, .d (.int .i64) t3.2]), (2, .box 104 [.d (.int .i64) p, .d .str p_2, .row 3]), (3, .rowo QCT0 43 o_o o [.d .str o_l, .d (.int .i64) o_l_2, .row 4]), (4, .row QCT4 47 o_2)], nx := 5, log := [], ln := 0 }
def q1g_ (j2 : List UInt8 -> Int × Int -> Int -> List UInt8 -> Bool -> List (List UInt8 × Int × List QCT1) -> List UInt8 -> Int -> List QCT1 -> Option (As [.pr .str (.sl QCT0), .pr (.int .i64) (.int .i64)])) (self1 : List QCT2 -> Int -> List QCT2 -> Int -> Int -> List UInt8 -> Int × Int -> Int -> List UInt8 -> Bool -> List (List UInt8 × Int × List QCT1) -> List UInt8 -> Int -> List QCT1 -> Option (As [.pr .str (.sl QCT0), .pr (.int .i64) (.int .i64)])) (tokens : List QCT2) (from' : Int) (t23 : List QCT2) (t24 t25 : Int) (t2 : List UInt8) (t3 : Int × Int) (p : Int) (p_2 : List UInt8) (o_o : Bool) (o : List (List UInt8 × Int × List QCT1)) (o_l : List UInt8) (o_l_2 : Int) (o_2 : List QCT1) : Option (As [.pr .str (.sl QCT0), .pr (.int .i64) (.int .i64)]) :=
  if lt t25 t24 = true then Option.bind (at? t23 t25) fun (y : Int × List UInt8 × (Int × Int) × Int) => if nei y.1 4 = true then self1 tokens from' t23 t24 (add .i64 t25 1) t2 t3 p p_2 o_o o o_l o_l_2 o_2 else if eqi p 2 = true then Option.bind (cut tokens from' t25) fun (y_1 : List QCT2) => if eqi (Int.ofNat (List.length y_1)) 1 = true then Option.bind (at? y_1 0) fun (y_2 : Int × List UInt8 × (Int × Int) × Int) => if eqi y_2.1 1 = true then Option.bind (at? y_1 0) fun (y_3 : Int × List UInt8 × (Int × Int) × Int) => if eqs y_3.2.1 [101, 110, 100] = true then self1 tokens (add .i64 t25 1) t23 t24 (add .i64 t25 1) t2 t3 1 p_2 o_o o o_l o_l_2 o_2 else if nei (Int.ofNat (List.length y_1)) 3 = true then if nei (Int.ofNat (List.length y_1)) 4 = true then some (([], []), (140, y.2.2.2), ()) else Option.bind (at? y_1 0) fun (y_4 : Int × List UInt8 × (Int × Int) × Int) => if nei y_4.1 1 = true then some (([], []), (140, y.2.2.2), ()) else Option.bind (at? y_1 0) fun (y_5 : Int × List UInt8 × (Int × Int) × Int) => Option.bind (q1q_ (y_5.2.1, ())) fun (y_6 : Bool × Unit) => if (!y_6.1) = true then some (([], []), (140, y.2.2.2), ()) else Option.bind (at? y_1 1) fun (y_7 : Int × List UInt8 × (Int × Int) × Int) => if nei y_7.1 3 = true then some (([], []), (140, y.2.2.2), ()) else Option.bind (at? y_1 2) fun (y_8 : Int × List UInt8 × (Int × Int) × Int) => if nei y_8.1 2 = true then some (([], []), (140, y.2.2.2), ()) else Option.bind (at? y_1 0) fun (y_9 : Int × List UInt8 × (Int × Int) × Int) => Option.bind (at? y_1 2) fun (y_10 : Int × List UInt8 × (Int × Int) × Int) => Option.bind (at? y_1 0) fun (y_11 : Int × List UInt8 × (Int × Int) × Int) => if eqi (Int.ofNat (List.length y_1)) 4 = true then Option.bind (at? y_1 3) fun (y_12 : Int × List UInt8 × (Int × Int) × Int) => if nei y_12.1 1 = true then some (([], []), (140, y.2.2.2), ()) else Option.bind (at? y_1 3) fun (y_13 : Int × List UInt8 × (Int × Int) × Int) => need o_o (need (eqi (Sx.sub .i64 (if o_o = true then Int.ofNat (List.length o + 1) else Int.ofNat (List.length o)) 1) (Int.ofNat (List.length o))) (need o_o (need (eqi (Sx.sub .i64 (if o_o = true then Int.ofNat (List.length o + 1) else Int.ofNat (List.length o)) 1) (Int.ofNat (List.length o))) (if eqi (Int.ofNat (List.length o_2)) 64 = true then some (([], []), (130, y.2.2.2), ()) else need o_o (need (eqi (Sx.sub .i64 (if o_o = true then Int.ofNat (List.length o + 1) else Int.ofNat (List.length o)) 1) (Int.ofNat (List.length o))) (need (small (List.length o_2 + Nat.succ 0)) (need o_o (need (eqi (Sx.sub .i64 (if o_o = true then Int.ofNat (List.length o + 1) else Int.ofNat (List.length o)) 1) (Int.ofNat (List.length o))) (self1 tokens (add .i64 t25 1) t23 t24 (add .i64 t25 1) t2 t3 p p_2 true o o_l o_l_2 (o_2 ++ [(y_9.2.1, y_10.2.2.1, y_13.2.1, y_11.2.2.2)])))))))))) else need o_o (need (eqi (Sx.sub .i64 (if o_o = true then Int.ofNat (List.length o + 1) else Int.ofNat (List.length o)) 1) (Int.ofNat (List.length o))) (need o_o (need (eqi (Sx.sub .i64 (if o_o = true then Int.ofNat (List.length o + 1) else Int.ofNat (List.length o)) 1) (Int.ofNat (List.length o))) (if eqi (Int.ofNat (List.length o_2)) 64 = true then some (([], []), (130, y.2.2.2), ()) else need o_o (need (eqi (Sx.sub .i64 (if o_o = true then Int.ofNat (List.length o + 1) else Int.ofNat (List.length o)) 1) (Int.ofNat (List.length o))) (need (small (List.length o_2 + Nat.succ 0)) (need o_o (need (eqi (Sx.sub .i64 (if o_o = true then Int.ofNat (List.length o + 1) else Int.ofNat (List.length o)) 1) (Int.ofNat (List.length o))) (self1 tokens (add .i64 t25 1) t23 t24 (add .i64 t25 1) t2 t3 p p_2 true o o_l o_l_2 (o_2 ++ [(y_9.2.1, y_10.2.2.1, [], y_11.2.2.2)])))))))))) else Option.bind (at? y_1 0) fun (y_4 : Int × List UInt8 × (Int × Int) × Int) => if nei y_4.1 1 = true then some (([], []), (140, y.2.2.2), ()) else Option.bind (at? y_1 0) fun (y_5 : Int × List UInt8 × (Int × Int) × Int) => Option.bind (q1q_ (y_5.2.1, ())) fun (y_6 : Bool × Unit) => if (!y_6.1) = true then some (([], []), (140, y.2.2.2), ()) else Option.bind (at? y_1 1) fun (y_7 : Int × List UInt8 × (Int × Int) × Int) => if nei y_7.1 3 = true then some (([], []), (140, y.2.2.2), ()) else Option.bind (at? y_1 2) fun (y_8 : Int × List UInt8 × (Int × Int) × Int) => if nei y_8.1 2 = true then some (([], []), (140, y.2.2.2), ()) else Option.bind (at? y_1 0) fun (y_9 : Int × List UInt8 × (Int × Int) × Int) => Option.bind (at? y_1 2) fun (y_10 : Int × List UInt8 × (Int × Int) × Int) => Option.bind (at? y_1 0) fun (y_11 : Int × List UInt8 × (Int × Int) × Int) => if eqi (Int.ofNat (List.length y_1)) 4 = true then Option.bind (at? y_1 3) fun (y_12 : Int × List UInt8 × (Int × Int) × Int) => if nei y_12.1 1 = true then some (([], []), (140, y.2.2.2), ()) else Option.bind (at? y_1 3) fun (y_13 : Int × List UInt8 × (Int × Int) × Int) => need o_o (need (eqi (Sx.sub .i64 (if o_o = true then Int.ofNat (List.length o + 1) else Int.ofNat (List.length o)) 1) (Int.ofNat (List.length o))) (need o_o (need (eqi (Sx.sub .i64 (if o_o = true then Int.ofNat (List.length o + 1) else Int.ofNat (List.length o)) 1) (Int.ofNat (List.length o))) (if eqi (Int.ofNat (List.length o_2)) 64 = true then some (([], []), (130, y.2.2.2), ()) else need o_o (need (eqi (Sx.sub .i64 (if o_o = true then Int.ofNat (List.length o + 1) else Int.ofNat (List.length o)) 1) (Int.ofNat (List.length o))) (need (small (List.length o_2 + Nat.succ 0)) (need o_o (need (eqi (Sx.sub .i64 (if o_o = true then Int.ofNat (List.length o + 1) else Int.ofNat (List.length o)) 1) (Int.ofNat (List.length o))) (self1 tokens (add .i64 t25 1) t23 t24 (add .i64 t25 1) t2 t3 p p_2 true o o_l o_l_2 (o_2 ++ [(y_9.2.1, y_10.2.2.1, y_13.2.1, y_11.2.2.2)])))))))))) else need o_o (need (eqi (Sx.sub .i64 (if o_o = true then Int.ofNat (List.length o + 1) else Int.ofNat (List.length o)) 1) (Int.ofNat (List.length o))) (need o_o (need (eqi (Sx.sub .i64 (if o_o = true then Int.ofNat (List.length o + 1) else Int.ofNat (List.length o)) 1) (Int.ofNat (List.length o))) (if eqi (Int.ofNat (List.length o_2)) 64 = true then some (([], []), (130, y.2.2.2), ()) else need o_o (need (eqi (Sx.sub .i64 (if o_o = true then Int.ofNat (List.length o + 1) else Int.ofNat (List.length o)) 1) (Int.ofNat (List.length o))) (need (small (List.length o_2 + Nat.succ 0)) (need o_o (need (eqi (Sx.sub .i64 (if o_o = true then Int.ofNat (List.length o + 1) else Int.ofNat (List.length o)) 1) (Int.ofNat (List.length o))) (self1 tokens (add .i64 t25 1) t23 t24 (add .i64 t25 1) t2 t3 p p_2 true o o_l o_l_2 (o_2 ++ [(y_9.2.1, y_10.2.2.1, [], y_11.2.2.2)])))))))))) else if nei (Int.ofNat (List.length y_1)) 3 = true then if nei (Int.ofNat (List.length y_1)) 4 = true then some (([], []), (140, y.2.2.2), ()) else Option.bind (at? y_1 0) fun (y_3 : Int × List UInt8 × (Int × Int) × Int) => if nei y_3.1 1 = true then some (([], []), (140, y.2.2.2), ()) else Option.bind (at? y_1 0) fun (y_4 : Int × List UInt8 × (Int × Int) × Int) => Option.bind (q1q_ (y_4.2.1, ())) fun (y_5 : Bool × Unit) => if (!y_5.1) = true then some (([], []), (140, y.2.2.2), ()) else Option.bind (at? y_1 1) fun (y_6 : Int × List UInt8 × (Int × Int) × Int) => if nei y_6.1 3 = true then some (([], []), (140, y.2.2.2), ()) else Option.bind (at? y_1 2) fun (y_7 : Int × List UInt8 × (Int × Int) × Int) => if nei y_7.1 2 = true then some (([], []), (140, y.2.2.2), ()) else Option.bind (at? y_1 0) fun (y_8 : Int × List UInt8 × (Int × Int) × Int) => Option.bind (at? y_1 2) fun (y_9 : Int × List UInt8 × (Int × Int) × Int) => Option.bind (at? y_1 0) fun (y_10 : Int × List UInt8 × (Int × Int) × Int) => if eqi (Int.ofNat (List.length y_1)) 4 = true then Option.bind (at? y_1 3) fun (y_11 : Int × List UInt8 × (Int × Int) × Int) => if nei y_11.1 1 = true then some (([], []), (140, y.2.2.2), ()) else Option.bind (at? y_1 3) fun (y_12 : Int × List UInt8 × (Int × Int) × Int) => need o_o (need (eqi (Sx.sub .i64 (if o_o = true then Int.ofNat (List.length o + 1) else Int.ofNat (List.length o)) 1) (Int.ofNat (List.length o))) (need o_o (need (eqi (Sx.sub .i64 (if o_o = true then Int.ofNat (List.length o + 1) else Int.ofNat (List.length o)) 1) (Int.ofNat (List.length o))) (if eqi (Int.ofNat (List.length o_2)) 64 = true then some (([], []), (130, y.2.2.2), ()) else need o_o (need (eqi (Sx.sub .i64 (if o_o = true then Int.ofNat (List.length o + 1) else Int.ofNat (List.length o)) 1) (Int.ofNat (List.length o))) (need (small (List.length o_2 + Nat.succ 0)) (need o_o (need (eqi (Sx.sub .i64 (if o_o = true then Int.ofNat (List.length o + 1) else Int.ofNat (List.length o)) 1) (Int.ofNat (List.length o))) (self1 tokens (add .i64 t25 1) t23 t24 (add .i64 t25 1) t2 t3 p p_2 true o o_l o_l_2 (o_2 ++ [(y_8.2.1, y_9.2.2.1, y_12.2.1, y_10.2.2.2)])))))))))) else need o_o (need (eqi (Sx.sub .i64 (if o_o = true then Int.ofNat (List.length o + 1) else Int.ofNat (List.length o)) 1) (Int.ofNat (List.length o))) (need o_o (need (eqi (Sx.sub .i64 (if o_o = true then Int.ofNat (List.length o + 1) else Int.ofNat (List.length o)) 1) (Int.ofNat (List.length o))) (if eqi (Int.ofNat (List.length o_2)) 64 = true then some (([], []), (130, y.2.2.2), ()) else need o_o (need (eqi (Sx.sub .i64 (if o_o = true then Int.ofNat (List.length o + 1) else Int.ofNat (List.length o)) 1) (Int.ofNat (List.length o))) (need (small (List.length o_2 + Nat.succ 0)) (need o_o (need (eqi (Sx.sub .i64 (if o_o = true then Int.ofNat (List.length o + 1) else Int.ofNat (List.length o)) 1) (Int.ofNat (List.length o))) (self1 tokens (add .i64 t25 1) t23 t24 (add .i64 t25 1) t2 t3 p p_2 true o o_l o_l_2 (o_2 ++ [(y_8.2.1, y_9.2.2.1, [], y_10.2.2.2)])))))))))) else Option.bind (at? y_1 0) fun (y_3 : Int × List UInt8 × (Int × Int) × Int) => if nei y_3.1 1 = true then some (([], []), (140, y.2.2.2), ()) else Option.bind (at? y_1 0) fun (y_4 : Int × List UInt8 × (Int × Int) × Int) => Option.bind (q1q_ (y_4.2.1, ())) fun (y_5 : Bool × Unit) => if (!y_5.1) = true then some (([], []), (140, y.2.2.2), ()) else Option.bind (at? y_1 1) fun (y_6 : Int × List UInt8 × (Int × Int) × Int) => if nei y_6.1 3 = true then some (([], []), (140, y.2.2.2), ()) else Option.bind (at? y_1 2) fun (y_7 : Int × List UInt8 × (Int × Int) × Int) => if nei y_7.1 2 = true then some (([], []), (140, y.2.2.2), ()) else Option.bind (at? y_1 0) fun (y_8 : Int × List UInt8 × (Int × Int) × Int) => Option.bind (at? y_1 2) fun (y_9 : Int × List UInt8 × (Int × Int) × Int) => Option.bind (at? y_1 0) fun (y_10 : Int × List UInt8 × (Int × Int) × Int) => if eqi (Int.ofNat (List.length y_1)) 4 = true then Option.bind (at? y_1 3) fun (y_11 : Int × List UInt8 × (Int × Int) × Int) => if nei y_11.1 1 = true then some (([], []), (140, y.2.2.2), ()) else Option.bind (at? y_1 3) fun (y_12 : Int × List UInt8 × (Int × Int) × Int) => need o_o (need (eqi (Sx.sub .i64 (if o_o = true then Int.ofNat (List.length o + 1) else Int.ofNat (List.length o)) 1) (Int.ofNat (List.length o))) (need o_o (need (eqi (Sx.sub .i64 (if o_o = true then Int.ofNat (List.length o + 1) else Int.ofNat (List.length o)) 1) (Int.ofNat (List.length o))) (if eqi (Int.ofNat (List.length o_2)) 64 = true then some (([], []), (130, y.2.2.2), ()) else need o_o (need (eqi (Sx.sub .i64 (if o_o = true then Int.ofNat (List.length o + 1) else Int.ofNat (List.length o)) 1) (Int.ofNat (List.length o))) (need (small (List.length o_2 + Nat.succ 0)) (need o_o (need (eqi (Sx.sub .i64 (if o_o = true then Int.ofNat (List.length o + 1) else Int.ofNat (List.length o)) 1) (Int.ofNat (List.length o))) (self1 tokens (add .i64 t25 1) t23 t24 (add .i64 t25 1) t2 t3 p p_2 true o o_l o_l_2 (o_2 ++ [(y_8.2.1, y_9.2.2.1, y_12.2.1, y_10.2.2.2)])))))))))) else need o_o (need (eqi (Sx.sub .i64 (if o_o = true then Int.ofNat (List.length o + 1) else Int.ofNat (List.length o)) 1) (Int.ofNat (List.length o))) (need o_o (need (eqi (Sx.sub .i64 (if o_o = true then Int.ofNat (List.length o + 1) else Int.ofNat (List.length o)) 1) (Int.ofNat (List.length o))) (if eqi (Int.ofNat (List.length o_2)) 64 = true then some (([], []), (130, y.2.2.2), ()) else need o_o (need (eqi (Sx.sub .i64 (if o_o = true then Int.ofNat (List.length o + 1) else Int.ofNat (List.length o)) 1) (Int.ofNat (List.length o))) (need (small (List.length o_2 + Nat.succ 0)) (need o_o (need (eqi (Sx.sub .i64 (if o_o = true then Int.ofNat (List.length o + 1) else Int.ofNat (List.length o)) 1) (Int.ofNat (List.length o))) (self1 tokens (add .i64 t25 1) t23 t24 (add .i64 t25 1) t2 t3 p p_2 true o o_l o_l_2 (o_2 ++ [(y_8.2.1, y_9.2.2.1, [], y_10.2.2.2)])))))))))) else if nei (Int.ofNat (List.length y_1)) 3 = true then if nei (Int.ofNat (List.length y_1)) 4 = true then some (([], []), (140, y.2.2.2), ()) else Option.bind (at? y_1 0) fun (y_2 : Int × List UInt8 × (Int × Int) × Int) => if nei y_2.1 1 = true then some (([], []), (140, y.2.2.2), ()) else Option.bind (at? y_1 0) fun (y_3 : Int × List UInt8 × (Int × Int) × Int) => Option.bind (q1q_ (y_3.2.1, ())) fun (y_4 : Bool × Unit) => if (!y_4.1) = true then some (([], []), (140, y.2.2.2), ()) else Option.bind (at? y_1 1) fun (y_5 : Int × List UInt8 × (Int × Int) × Int) => if nei y_5.1 3 = true then some (([], []), (140, y.2.2.2), ()) else Option.bind (at? y_1 2) fun (y_6 : Int × List UInt8 × (Int × Int) × Int) => if nei y_6.1 2 = true then some (([], []), (140, y.2.2.2), ()) else Option.bind (at? y_1 0) fun (y_7 : Int × List UInt8 × (Int × Int) × Int) => Option.bind (at? y_1 2) fun (y_8 : Int × List UInt8 × (Int × Int) × Int) => Option.bind (at? y_1 0) fun (y_9 : Int × List UInt8 × (Int × Int) × Int) => if eqi (Int.ofNat (List.length y_1)) 4 = true then Option.bind (at? y_1 3) fun (y_10 : Int × List UInt8 × (Int × Int) × Int) => if nei y_10.1 1 = true then some (([], []), (140, y.2.2.2), ()) else Option.bind (at? y_1 3) fun (y_11 : Int × List UInt8 × (Int × Int) × Int) => need o_o (need (eqi (Sx.sub .i64 (if o_o = true then Int.ofNat (List.length o + 1) else Int.ofNat (List.length o)) 1) (Int.ofNat (List.length o))) (need o_o (need (eqi (Sx.sub .i64 (if o_o = true then Int.ofNat (List.length o + 1) else Int.ofNat (List.length o)) 1) (Int.ofNat (List.length o))) (if eqi (Int.ofNat (List.length o_2)) 64 = true then some (([], []), (130, y.2.2.2), ()) else need o_o (need (eqi (Sx.sub .i64 (if o_o = true then Int.ofNat (List.length o + 1) else Int.ofNat (List.length o)) 1) (Int.ofNat (List.length o))) (need (small (List.length o_2 + Nat.succ 0)) (need o_o (need (eqi (Sx.sub .i64 (if o_o = true then Int.ofNat (List.length o + 1) else Int.ofNat (List.length o)) 1) (Int.ofNat (List.length o))) (self1 tokens (add .i64 t25 1) t23 t24 (add .i64 t25 1) t2 t3 p p_2 true o o_l o_l_2 (o_2 ++ [(y_7.2.1, y_8.2.2.1, y_11.2.1, y_9.2.2.2)])))))))))) else need o_o (need (eqi (Sx.sub .i64 (if o_o = true then Int.ofNat (List.length o + 1) else Int.ofNat (List.length o)) 1) (Int.ofNat (List.length o))) (need o_o (need (eqi (Sx.sub .i64 (if o_o = true then Int.ofNat (List.length o + 1) else Int.ofNat (List.length o)) 1) (Int.ofNat (List.length o))) (if eqi (Int.ofNat (List.length o_2)) 64 = true then some (([], []), (130, y.2.2.2), ()) else need o_o (need (eqi (Sx.sub .i64 (if o_o = true then Int.ofNat (List.length o + 1) else Int.ofNat (List.length o)) 1) (Int.ofNat (List.length o))) (need (small (List.length o_2 + Nat.succ 0)) (need o_o (need (eqi (Sx.sub .i64 (if o_o = true then Int.ofNat (List.length o + 1) else Int.ofNat (List.length o)) 1) (Int.ofNat (List.length o))) (self1 tokens (add .i64 t25 1) t23 t24 (add .i64 t25 1) t2 t3 p p_2 true o o_l o_l_2 (o_2 ++ [(y_7.2.1, y_8.2.2.1, [], y_9.2.2.2)])))))))))) else Option.bind (at? y_1 0) fun (y_2 : Int × List UInt8 × (Int × Int) × Int) => if nei y_2.1 1 = true then some (([], []), (140, y.2.2.2), ()) else Option.bind (at? y_1 0) fun (y_3 : Int × List UInt8 × (Int × Int) × Int) => Option.bind (q1q_ (y_3.2.1, ())) fun (y_4 : Bool × Unit) => if (!y_4.1) = true then some (([], []), (140, y.2.2.2), ()) else Option.bind (at? y_1 1) fun (y_5 : Int × List UInt8 × (Int × Int) × Int) => if nei y_5.1 3 = true then some (([], []), (140, y.2.2.2), ()) else Option.bind (at? y_1 2) fun (y_6 : Int × List UInt8 × (Int × Int) × Int) => if nei y_6.1 2 = true then some (([], []), (140, y.2.2.2), ()) else Option.bind (at? y_1 0) fun (y_7 : Int × List UInt8 × (Int × Int) × Int) => Option.bind (at? y_1 2) fun (y_8 : Int × List UInt8 × (Int × Int) × Int) => Option.bind (at? y_1 0) fun (y_9 : Int × List UInt8 × (Int × Int) × Int) => if eqi (Int.ofNat (List.length y_1)) 4 = true then Option.bind (at? y_1 3) fun (y_10 : Int × List UInt8 × (Int × Int) × Int) => if nei y_10.1 1 = true then some (([], []), (140, y.2.2.2), ()) else Option.bind (at? y_1 3) fun (y_11 : Int × List UInt8 × (Int × Int) × Int) => need o_o (need (eqi (Sx.sub .i64 (if o_o = true then Int.ofNat (List.length o + 1) else Int.ofNat (List.length o)) 1) (Int.ofNat (List.length o))) (need o_o (need (eqi (Sx.sub .i64 (if o_o = true then Int.ofNat (List.length o + 1) else Int.ofNat (List.length o)) 1) (Int.ofNat (List.length o))) (if eqi (Int.ofNat (List.length o_2)) 64 = true then some (([], []), (130, y.2.2.2), ()) else need o_o (need (eqi (Sx.sub .i64 (if o_o = true then Int.ofNat (List.length o + 1) else Int.ofNat (List.length o)) 1) (Int.ofNat (List.length o))) (need (small (List.length o_2 + Nat.succ 0)) (need o_o (need (eqi (Sx.sub .i64 (if o_o = true then Int.ofNat (List.length o + 1) else Int.ofNat (List.length o)) 1) (Int.ofNat (List.length o))) (self1 tokens (add .i64 t25 1) t23 t24 (add .i64 t25 1) t2 t3 p p_2 true o o_l o_l_2 (o_2 ++ [(y_7.2.1, y_8.2.2.1, y_11.2.1, y_9.2.2.2)])))))))))) else need o_o (need (eqi (Sx.sub .i64 (if o_o = true then Int.ofNat (List.length o + 1) else Int.ofNat (List.length o)) 1) (Int.ofNat (List.length o))) (need o_o (need (eqi (Sx.sub .i64 (if o_o = true then Int.ofNat (List.length o + 1) else Int.ofNat (List.length o)) 1) (Int.ofNat (List.length o))) (if eqi (Int.ofNat (List.length o_2)) 64 = true then some (([], []), (130, y.2.2.2), ()) else need o_o (need (eqi (Sx.sub .i64 (if o_o = true then Int.ofNat (List.length o + 1) else Int.ofNat (List.length o)) 1) (Int.ofNat (List.length o))) (need (small (List.length o_2 + Nat.succ 0)) (need o_o (need (eqi (Sx.sub .i64 (if o_o = true then Int.ofNat (List.length o + 1) else Int.ofNat (List.length o)) 1) (Int.ofNat (List.length o))) (self1 tokens (add .i64 t25 1) t23 t24 (add .i64 t25 1) t2 t3 p p_2 true o o_l o_l_2 (o_2 ++ [(y_7.2.1, y_8.2.2.1, [], y_9.2.2.2)])))))))))) else if eqi p 1 = true then Option.bind (cut tokens from' t25) fun (y_1 : List QCT2) => Option.bind (q83_ (y_1, [115, 108, 97, 118, 101], ())) fun (y_2 : Bool × Unit) => if (!y_2.1) = true then some (([], []), (140, y.2.2.2), ()) else if eqi (if o_o = true then Int.ofNat (List.length o + 1) else Int.ofNat (List.length o)) 8 = true then some (([], []), (130, y.2.2.2), ()) else Option.bind (at? y_1 1) fun (y : Int × List UInt8 × (Int × Int) × Int) => Option.bind (at? y_1 1) fun (y_3 : Int × List UInt8 × (Int × Int) × Int) => need (small (List.length (if o_o = true then o ++ [(o_l, o_l_2, o_2)] else o) + 1)) (self1 tokens (add .i64 t25 1) t23 t24 (add .i64 t25 1) t2 t3 2 p_2 true (if o_o = true then o ++ [(o_l, o_l_2, o_2)] else o) y.2.1 y_3.2.2.2 []) else if eqi p 0 = true then Option.bind (cut tokens from' t25) fun (y_1 : List QCT2) => Option.bind (q83_ (y_1, [114, 101, 99, 105, 112, 101], ())) fun (y_2 : Bool × Unit) => if (!y_2.1) = true then some (([], []), (140, y.2.2.2), ()) else Option.bind (at? y_1 1) fun (y : Int × List UInt8 × (Int × Int) × Int) => self1 tokens (add .i64 t25 1) t23 t24 (add .i64 t25 1) t2 t3 1 y.2.1 o_o o o_l o_l_2 o_2 else Option.none else j2 t2 t3 p p_2 o_o o o_l o_l_2 o_2
def q7x_ (t2 : List UInt8) (t3 : Int × Int) (p : Int) (p_2 : List UInt8) (o_o : Bool) (o : List (List UInt8 × Int × List QCT1)) (o_l : List UInt8) (o_l_2 : Int) (o_2 : List QCT1) : Option (As [.pr .str (.sl QCT0), .pr (.int .i64) (.int .i64)]) :=
  if nei p 1 = true then some (([], []), (140, 0), ()) else some ((p_2, if o_o = true then o ++ [(o_l, o_l_2, o_2)] else o), (0, 0), ())
def q7u_ (j1 : List QCT2 -> Int -> List QCT2 -> Int -> Int -> List UInt8 -> Int × Int -> Int -> List UInt8 -> Bool -> List (List UInt8 × Int × List QCT1) -> List UInt8 -> Int -> List QCT1 -> Option (As [.pr .str (.sl QCT0), .pr (.int .i64) (.int .i64)])) (text : List UInt8) : Option (As [.pr .str (.sl QCT0), .pr (.int .i64) (.int .i64)]) :=
  Option.bind (qc6_ (text, ())) fun (y : List QCT2 × (Int × Int) × Unit) => if (!(eqi y.2.1.1 0 && (eqi y.2.1.2 0 && true))) = true then some (([], []), y.2.1, ()) else j1 y.1 0 y.1 (Int.ofNat (List.length y.1)) 0 [] (0, 0) 0 [] false [] [] 0 []
def q66_ (t2 : List UInt8) (t3 : Int × Int) (p : Int) (p_2 : List UInt8) (o_o : Bool) (o : List (List UInt8 × Int × List QCT1)) (o_l : List UInt8) (o_l_2 : Int) (o_2 : List QCT1) : Option (As [.pr .str (.sl QCT0), .pr (.int .i64) (.int .i64)]) := q7x_ t2 t3 p p_2 o_o o o_l o_l_2 o_2
def q62_ (tokens : List QCT2) (from' : Int) (t23 : List QCT2) (t24 t25 : Int) (t2 : List UInt8) (t3 : Int × Int) (p : Int) (p_2 : List UInt8) (o_o : Bool) (o : List (List UInt8 × Int × List QCT1)) (o_l : List UInt8) (o_l_2 : Int) (o_2 : List QCT1) : Option (As [.pr .str (.sl QCT0), .pr (.int .i64) (.int .i64)]) :=
  loopF (fun (self : (List QCT2) × (Int) × (List QCT2) × (Int) × (Int) × (List UInt8) × (Int × Int) × (Int) × (List UInt8) × (Bool) × (List (List UInt8 × Int × List QCT1)) × (List UInt8) × (Int) × (List QCT1) -> Option (As [.pr .str (.sl QCT0), .pr (.int .i64) (.int .i64)])) (s : (List QCT2) × (Int) × (List QCT2) × (Int) × (Int) × (List UInt8) × (Int × Int) × (Int) × (List UInt8) × (Bool) × (List (List UInt8 × Int × List QCT1)) × (List UInt8) × (Int) × (List QCT1)) => q1g_ (q66_) (fun tokens from' t23 t24 t25 t2 t3 p p_2 o_o o o_l o_l_2 o_2 => self (tokens, from', t23, t24, t25, t2, t3, p, p_2, o_o, o, o_l, o_l_2, o_2)) s.1 s.2.1 s.2.2.1 s.2.2.2.1 s.2.2.2.2.1 s.2.2.2.2.2.1 s.2.2.2.2.2.2.1 s.2.2.2.2.2.2.2.1 s.2.2.2.2.2.2.2.2.1 s.2.2.2.2.2.2.2.2.2.1 s.2.2.2.2.2.2.2.2.2.2.1 s.2.2.2.2.2.2.2.2.2.2.2.1 s.2.2.2.2.2.2.2.2.2.2.2.2.1 s.2.2.2.2.2.2.2.2.2.2.2.2.2) 18446744073709551616 (tokens, from', t23, t24, t25, t2, t3, p, p_2, o_o, o, o_l, o_l_2, o_2)
def q30_ (x : As [.str]) : Option (As [.pr .str (.sl QCT0), .pr (.int .i64) (.int .i64)]) := q7u_ q62_ x.1
theorem qey_  (J t2 t3 p p_2 o_o o o_l o_l_2 o_2) : pfn Tryz.prog q3w_ 6 18446744073709551616 (Ev.get q3y_) 13 q31_ J 127 [] (q7q_ t2 t3 p p_2 o_o o o_l o_l_2 o_2) = q7x_ t2 t3 p p_2 o_o o o_l o_l_2 o_2 := by kernel_rfl
theorem qf5_  (J w1 tokens from' t23 t24 t25 t2 t3 p p_2 o_o o o_l o_l_2 o_2) : pfn Tryz.prog q3w_ 6 18446744073709551616 (Ev.get q3y_) 13 q31_ J 1018 [w1] (q4v_ tokens from' t23 t24 t25 t2 t3 p p_2 o_o o o_l o_l_2 o_2) = q1g_ (fun t2 t3 p p_2 o_o o o_l o_l_2 o_2 => J 127 [] (q7q_ t2 t3 p p_2 o_o o o_l o_l_2 o_2)) (fun tokens from' t23 t24 t25 t2 t3 p p_2 o_o o o_l o_l_2 o_2 => w1 (q4v_ tokens from' t23 t24 t25 t2 t3 p p_2 o_o o o_l o_l_2 o_2)) tokens from' t23 t24 t25 t2 t3 p p_2 o_o o o_l o_l_2 o_2 := by kernel_rfl
theorem qfm_ (J : Orc (As [.pr .str (.sl QCT0), .pr (.int .i64) (.int .i64)])) (x : As [.str]) : rfn Tryz.prog q3w_ 6 18446744073709551616 (Ev.get q3y_) 13 q31_ J x = q7u_ (fun tokens from' t23 t24 t25 t2 t3 p p_2 o_o o o_l o_l_2 o_2 => J 1018 [] (q4v_ tokens from' t23 t24 t25 t2 t3 p p_2 o_o o o_l o_l_2 o_2)) x.1 := by kernel_rfl
theorem qet_  (t2 t3 p p_2 o_o o o_l o_l_2 o_2) : jfn Tryz.prog q3w_ 6 18446744073709551616 (Ev.get q3y_) 13 q31_ 127 [] (q7q_ t2 t3 p p_2 o_o o o_l o_l_2 o_2) = q66_ t2 t3 p p_2 o_o o o_l o_l_2 o_2 := by
  rw [q5_ (by decide)]
  rw [qey_]
  rfl
theorem qfe_  (tokens from' t23 t24 t25 t2 t3 p p_2 o_o o o_l o_l_2 o_2) : jfn Tryz.prog q3w_ 6 18446744073709551616 (Ev.get q3y_) 13 q31_ 1018 [] (q4v_ tokens from' t23 t24 t25 t2 t3 p p_2 o_o o o_l o_l_2 o_2) = q62_ tokens from' t23 t24 t25 t2 t3 p p_2 o_o o o_l o_l_2 o_2 := by
  rw [q5_ (by decide)]
  rw [q16_ (by kernel_rfl)]
  refine qp_ (σ := (List QCT2) × (Int) × (List QCT2) × (Int) × (Int) × (List UInt8) × (Int × Int) × (Int) × (List UInt8) × (Bool) × (List (List UInt8 × Int × List QCT1)) × (List UInt8) × (Int) × (List QCT1)) (mk := fun s => q4v_ s.1 s.2.1 s.2.2.1 s.2.2.2.1 s.2.2.2.2.1 s.2.2.2.2.2.1 s.2.2.2.2.2.2.1 s.2.2.2.2.2.2.2.1 s.2.2.2.2.2.2.2.2.1 s.2.2.2.2.2.2.2.2.2.1 s.2.2.2.2.2.2.2.2.2.2.1 s.2.2.2.2.2.2.2.2.2.2.2.1 s.2.2.2.2.2.2.2.2.2.2.2.2.1 s.2.2.2.2.2.2.2.2.2.2.2.2.2) (fun w1 s => ?_) 18446744073709551616 (tokens, from', t23, t24, t25, t2, t3, p, p_2, o_o, o, o_l, o_l_2, o_2)
  have e2 : (fun t2 t3 p p_2 o_o o o_l o_l_2 o_2 => (jfn Tryz.prog q3w_ 6 18446744073709551616 (Ev.get q3y_) 13 q31_) 127 [] (q7q_ t2 t3 p p_2 o_o o o_l o_l_2 o_2)) = q66_ := by funext t2 t3 p p_2 o_o o o_l o_l_2 o_2; exact qet_ t2 t3 p p_2 o_o o o_l o_l_2 o_2
  refine (qf5_ _ w1 s.1 s.2.1 s.2.2.1 s.2.2.2.1 s.2.2.2.2.1 s.2.2.2.2.2.1 s.2.2.2.2.2.2.1 s.2.2.2.2.2.2.2.1 s.2.2.2.2.2.2.2.2.1 s.2.2.2.2.2.2.2.2.2.1 s.2.2.2.2.2.2.2.2.2.2.1 s.2.2.2.2.2.2.2.2.2.2.2.1 s.2.2.2.2.2.2.2.2.2.2.2.2.1 s.2.2.2.2.2.2.2.2.2.2.2.2.2).trans ?_
  rw [e2]
theorem qi3_ (x : As [.str]) : evT Tryz.prog q3w_ 6 18446744073709551616 (Ev.get q3y_) 13 q31_ x = q30_ x := by
  have e1 : (fun tokens from' t23 t24 t25 t2 t3 p p_2 o_o o o_l o_l_2 o_2 => (jfn Tryz.prog q3w_ 6 18446744073709551616 (Ev.get q3y_) 13 q31_) 1018 [] (q4v_ tokens from' t23 t24 t25 t2 t3 p p_2 o_o o o_l o_l_2 o_2)) = q62_ := by funext tokens from' t23 t24 t25 t2 t3 p p_2 o_o o o_l o_l_2 o_2; exact qfe_ tokens from' t23 t24 t25 t2 t3 p p_2 o_o o o_l o_l_2 o_2
  rw [rfn_eq, qfm_, e1]
  rfl
theorem q9m_ : CtOk Tryz.prog I0 13 ⟨q31_, q30_⟩ := q18_ (q0_ Ev.bx_ok (q0_ qm7_ (q0_ qag_ (q0_ qfp_ qa_)))) qi3_
@[reducible] def qja_ : Sh := ⟨[.d (.str), .d (.int .i64), .d (.int .i64)], [], [.str, .int .i64, .int .i64], [.d (.bool)], [], 0, [.bool]⟩
def qhv_ (s : List UInt8) (e line : Int) : Option (As [.bool]) :=
  Option.bind (q30_ (s, ())) fun (y : (List UInt8 × List (List UInt8 × Int × List QCT1)) × (Int × Int) × Unit) => if eqi (Int.ofNat (List.length y.1.2)) 0 = true then if eqs y.1.1 [] = true then some (eqi y.2.1.1 e && (eqi y.2.1.2 line && true), ()) else some (false, ()) else some (false, ())
def qao_ (x : As [.str, .int .i64, .int .i64]) : Option (As [.bool]) := qhv_ x.1 x.2.1 x.2.2.1
theorem qhr_ : CtOk Tryz.prog I0 26 ⟨qja_, qao_⟩ := ctn (q0_ q9m_ qa_) 6 fun J x => by kernel_rfl
@[reducible] def qcz_ : Sh := ⟨[], [], [], [.d (.bool)], [], 0, [.bool]⟩
def qgn_ : Option (As [.bool]) :=
  Option.bind (q30_ ([114, 101, 99, 105, 112, 101, 32, 97, 10, 115, 108, 97, 118, 101, 32, 98, 10, 32, 32, 99, 32, 61, 32, 49, 46, 53, 32, 98, 97, 114, 10, 101, 110, 100, 10], ())) fun (y : (List UInt8 × List (List UInt8 × Int × List QCT1)) × (Int × Int) × Unit) => Option.bind (q3e_ (y.1, ())) fun (y_1 : List UInt8 × Bool × Unit) => Option.bind (q30_ ([114, 101, 99, 105, 112, 101, 32, 97], ())) fun (y_2 : (List UInt8 × List (List UInt8 × Int × List QCT1)) × (Int × Int) × Unit) => if eqi y.2.1.1 0 = true then Option.bind (qar_ (y.1, ([97], [([98], 2, [([99], (15, 1), [98, 97, 114], 3)])]), ())) fun (y : Bool × Unit) => if y.1 = true then if y_1.2.1 = true then if eqs y_1.1 [114, 101, 99, 105, 112, 101, 32, 97, 10, 115, 108, 97, 118, 101, 32, 98, 10, 32, 32, 99, 32, 61, 32, 49, 46, 53, 32, 98, 97, 114, 10, 101, 110, 100, 10] = true then Option.bind (qao_ ([114, 101, 99, 105, 112, 101, 32, 97, 10, 101, 110, 100], 140, 2, ())) fun (y : Bool × Unit) => if y.1 = true then Option.bind (qao_ ([114, 101, 99, 105, 112, 101, 32, 97, 10, 115, 108, 97, 118, 101, 32, 98], 140, 0, ())) fun (y : Bool × Unit) => if y.1 = true then Option.bind (qao_ ([114, 101, 99, 105, 112, 101, 32, 115, 108, 97, 118, 101], 140, 1, ())) fun (y : Bool × Unit) => if y.1 = true then if eqi y_2.2.1.1 0 = true then some (eqi (Int.ofNat (List.length y_2.1.2)) 0, ()) else some (false, ()) else some (false, ()) else some (false, ()) else some (false, ()) else some (false, ()) else some (false, ()) else some (false, ()) else some (false, ())
def q4m_ (x : As []) : Option (As [.bool]) := qgn_
theorem qii_ : CtOk Tryz.prog I0 16 ⟨qcz_, q4m_⟩ := ctn (q0_ qbt_ (q0_ q9m_ (q0_ qgl_ (q0_ qhr_ qa_)))) 6 fun J x => by kernel_rfl
def qhg_ (j2 : List (List QCT2) -> Bool -> Int -> List UInt8 -> Int × Int -> List UInt8 -> Bool -> List (List UInt8 × Int × List QCT1) -> List UInt8 -> Int -> List QCT1 -> Option (As [.pr .str (.sl QCT0), .pr (.int .i64) (.int .i64)])) (j3 : List (List QCT2) -> Bool -> Int -> List QCT2 -> Int -> Bool -> List UInt8 -> Int × Int -> List UInt8 -> Bool -> List (List UInt8 × Int × List QCT1) -> List UInt8 -> Int -> List QCT1 -> Option (As [.pr .str (.sl QCT0), .pr (.int .i64) (.int .i64)])) (j4 : Bool -> List UInt8 -> Int × Int -> List UInt8 -> Bool -> List (List UInt8 × Int × List QCT1) -> List UInt8 -> Int -> List QCT1 -> Option (As [.pr .str (.sl QCT0), .pr (.int .i64) (.int .i64)])) (self1 : List (List QCT2) -> Bool -> Int -> List UInt8 -> Int × Int -> List UInt8 -> Bool -> List (List UInt8 × Int × List QCT1) -> List UInt8 -> Int -> List QCT1 -> Option (As [.pr .str (.sl QCT0), .pr (.int .i64) (.int .i64)])) (all : List (List QCT2)) (openV : Bool) (i : Int) (t2 : List UInt8) (t3 : Int × Int) (r : List UInt8) (o_o : Bool) (o : List (List UInt8 × Int × List QCT1)) (o_l : List UInt8) (o_l_2 : Int) (o_2 : List QCT1) : Option (As [.pr .str (.sl QCT0), .pr (.int .i64) (.int .i64)]) :=
  if lt i (Int.ofNat (List.length all)) = true then Option.bind (at? all i) fun (y : List QCT2) => Option.bind (at? y 0) fun (y_1 : Int × List UInt8 × (Int × Int) × Int) => if (!openV) = true then Option.bind (qez_ (y, [115, 108, 97, 118, 101], ())) fun (y_2 : Bool × Unit) => if (!y_2.1) = true then some (([], []), (140, y_1.2.2.2), ()) else if eqi (if o_o = true then Int.ofNat (List.length o + 1) else Int.ofNat (List.length o)) 8 = true then some (([], []), (130, y_1.2.2.2), ()) else Option.bind (at? y 1) fun (y : Int × List UInt8 × (Int × Int) × Int) => need (small (List.length (if o_o = true then o ++ [(o_l, o_l_2, o_2)] else o) + 1)) (j2 all true i t2 t3 r true (if o_o = true then o ++ [(o_l, o_l_2, o_2)] else o) y.2.1 y_1.2.2.2 []) else if eqi (Int.ofNat (List.length y)) 1 = true then Option.bind (at? y 0) fun (y_2 : Int × List UInt8 × (Int × Int) × Int) => if eqi y_2.1 1 = true then Option.bind (at? y 0) fun (y_3 : Int × List UInt8 × (Int × Int) × Int) => j3 all openV i y y_1.2.2.2 (eqs y_3.2.1 [101, 110, 100]) t2 t3 r o_o o o_l o_l_2 o_2 else j3 all openV i y y_1.2.2.2 false t2 t3 r o_o o o_l o_l_2 o_2 else j3 all openV i y y_1.2.2.2 false t2 t3 r o_o o o_l o_l_2 o_2 else j4 openV t2 t3 r o_o o o_l o_l_2 o_2
def qfx_ (self1 : List (List QCT2) -> Bool -> Int -> List UInt8 -> Int × Int -> List UInt8 -> Bool -> List (List UInt8 × Int × List QCT1) -> List UInt8 -> Int -> List QCT1 -> Option (As [.pr .str (.sl QCT0), .pr (.int .i64) (.int .i64)])) (all : List (List QCT2)) (openV : Bool) (i : Int) (t2 : List UInt8) (t3 : Int × Int) (r : List UInt8) (o_o : Bool) (o : List (List UInt8 × Int × List QCT1)) (o_l : List UInt8) (o_l_2 : Int) (o_2 : List QCT1) : Option (As [.pr .str (.sl QCT0), .pr (.int .i64) (.int .i64)]) :=
  self1 all openV (add .i64 i 1) t2 t3 r o_o o o_l o_l_2 o_2
def qhl_ (j2 : List (List QCT2) -> Bool -> Int -> List UInt8 -> Int × Int -> List UInt8 -> Bool -> List (List UInt8 × Int × List QCT1) -> List UInt8 -> Int -> List QCT1 -> Option (As [.pr .str (.sl QCT0), .pr (.int .i64) (.int .i64)])) (j5 : List (List QCT2) -> Bool -> Int -> List QCT2 -> Int -> Bool -> List UInt8 -> Int × Int -> List UInt8 -> Bool -> List (List UInt8 × Int × List QCT1) -> List UInt8 -> Int -> List QCT1 -> Option (As [.pr .str (.sl QCT0), .pr (.int .i64) (.int .i64)])) (self1 : List (List QCT2) -> Bool -> Int -> List UInt8 -> Int × Int -> List UInt8 -> Bool -> List (List UInt8 × Int × List QCT1) -> List UInt8 -> Int -> List QCT1 -> Option (As [.pr .str (.sl QCT0), .pr (.int .i64) (.int .i64)])) (all : List (List QCT2)) (openV : Bool) (i : Int) (x : List QCT2) (line : Int) (t107 : Bool) (t2 : List UInt8) (t3 : Int × Int) (r : List UInt8) (o_o : Bool) (o : List (List UInt8 × Int × List QCT1)) (o_l : List UInt8) (o_l_2 : Int) (o_2 : List QCT1) : Option (As [.pr .str (.sl QCT0), .pr (.int .i64) (.int .i64)]) :=
  if t107 = true then j2 all false i t2 t3 r o_o o o_l o_l_2 o_2 else if lt (Int.ofNat (List.length x)) 3 = true then j5 all openV i x line true t2 t3 r o_o o o_l o_l_2 o_2 else if gt (Int.ofNat (List.length x)) 4 = true then j5 all openV i x line true t2 t3 r o_o o o_l o_l_2 o_2 else Option.bind (at? x 0) fun (y : Int × List UInt8 × (Int × Int) × Int) => if nei y.1 1 = true then j5 all openV i x line true t2 t3 r o_o o o_l o_l_2 o_2 else Option.bind (at? x 0) fun (y : Int × List UInt8 × (Int × Int) × Int) => Option.bind (q9u_ (y.2.1, ())) fun (y : Bool × Unit) => if (!y.1) = true then j5 all openV i x line true t2 t3 r o_o o o_l o_l_2 o_2 else Option.bind (at? x 1) fun (y : Int × List UInt8 × (Int × Int) × Int) => if nei y.1 3 = true then j5 all openV i x line true t2 t3 r o_o o o_l o_l_2 o_2 else Option.bind (at? x 2) fun (y : Int × List UInt8 × (Int × Int) × Int) => if nei y.1 2 = true then j5 all openV i x line true t2 t3 r o_o o o_l o_l_2 o_2 else if eqi (Int.ofNat (List.length x)) 4 = true then Option.bind (at? x 3) fun (y : Int × List UInt8 × (Int × Int) × Int) => j5 all openV i x line (nei y.1 1) t2 t3 r o_o o o_l o_l_2 o_2 else j5 all openV i x line false t2 t3 r o_o o o_l o_l_2 o_2
def qgi_ (openV : Bool) (t2 : List UInt8) (t3 : Int × Int) (r : List UInt8) (o_o : Bool) (o : List (List UInt8 × Int × List QCT1)) (o_l : List UInt8) (o_l_2 : Int) (o_2 : List QCT1) : Option (As [.pr .str (.sl QCT0), .pr (.int .i64) (.int .i64)]) :=
  if openV = true then some (([], []), (140, 0), ()) else some ((r, if o_o = true then o ++ [(o_l, o_l_2, o_2)] else o), (0, 0), ())
def qh2_ (j6 : List (List QCT2) -> Bool -> Int -> Int -> List UInt8 -> Int × Int -> List UInt8 -> Bool -> List (List UInt8 × Int × List QCT1) -> List UInt8 -> Int -> List QCT1 -> List UInt8 × (Int × Int) × List UInt8 × Int -> Option (As [.pr .str (.sl QCT0), .pr (.int .i64) (.int .i64)])) (self1 : List (List QCT2) -> Bool -> Int -> List UInt8 -> Int × Int -> List UInt8 -> Bool -> List (List UInt8 × Int × List QCT1) -> List UInt8 -> Int -> List QCT1 -> Option (As [.pr .str (.sl QCT0), .pr (.int .i64) (.int .i64)])) (all : List (List QCT2)) (openV : Bool) (i : Int) (x : List QCT2) (line : Int) (t156 : Bool) (t2 : List UInt8) (t3 : Int × Int) (r : List UInt8) (o_o : Bool) (o : List (List UInt8 × Int × List QCT1)) (o_l : List UInt8) (o_l_2 : Int) (o_2 : List QCT1) : Option (As [.pr .str (.sl QCT0), .pr (.int .i64) (.int .i64)]) :=
  if t156 = true then some (([], []), (140, line), ()) else need o_o (need (eqi (Sx.sub .i64 (if o_o = true then Int.ofNat (List.length o + 1) else Int.ofNat (List.length o)) 1) (Int.ofNat (List.length o))) (need o_o (need (eqi (Sx.sub .i64 (if o_o = true then Int.ofNat (List.length o + 1) else Int.ofNat (List.length o)) 1) (Int.ofNat (List.length o))) (if eqi (Int.ofNat (List.length o_2)) 64 = true then some (([], []), (130, line), ()) else Option.bind (at? x 0) fun (y : Int × List UInt8 × (Int × Int) × Int) => Option.bind (at? x 2) fun (y_1 : Int × List UInt8 × (Int × Int) × Int) => if eqi (Int.ofNat (List.length x)) 4 = true then Option.bind (at? x 3) fun (y_2 : Int × List UInt8 × (Int × Int) × Int) => j6 all openV i (Sx.sub .i64 (if o_o = true then Int.ofNat (List.length o + 1) else Int.ofNat (List.length o)) 1) t2 t3 r o_o o o_l o_l_2 o_2 (y.2.1, y_1.2.2.1, y_2.2.1, line) else j6 all openV i (Sx.sub .i64 (if o_o = true then Int.ofNat (List.length o + 1) else Int.ofNat (List.length o)) 1) t2 t3 r o_o o o_l o_l_2 o_2 (y.2.1, y_1.2.2.1, [], line)))))
def qim_ (j2 self1 : List (List QCT2) -> Bool -> Int -> List UInt8 -> Int × Int -> List UInt8 -> Bool -> List (List UInt8 × Int × List QCT1) -> List UInt8 -> Int -> List QCT1 -> Option (As [.pr .str (.sl QCT0), .pr (.int .i64) (.int .i64)])) (all : List (List QCT2)) (openV : Bool) (i p : Int) (t2 : List UInt8) (t3 : Int × Int) (r : List UInt8) (o_o : Bool) (o : List (List UInt8 × Int × List QCT1)) (o_l : List UInt8) (o_l_2 : Int) (o_2 : List QCT1) (s : List UInt8 × (Int × Int) × List UInt8 × Int) : Option (As [.pr .str (.sl QCT0), .pr (.int .i64) (.int .i64)]) :=
  need o_o (need (eqi p (Int.ofNat (List.length o))) (need o_o (need (eqi p (Int.ofNat (List.length o))) (need (small (List.length o_2 + Nat.succ 0)) (need o_o (need (eqi p (Int.ofNat (List.length o))) (need o_o (need (eqi p (Int.ofNat (List.length o))) (j2 all openV i t2 t3 r true o o_l o_l_2 (o_2 ++ [s]))))))))))
def qgo_ (j1 : List (List QCT2) -> Bool -> Int -> List UInt8 -> Int × Int -> List UInt8 -> Bool -> List (List UInt8 × Int × List QCT1) -> List UInt8 -> Int -> List QCT1 -> Option (As [.pr .str (.sl QCT0), .pr (.int .i64) (.int .i64)])) (text : List UInt8) : Option (As [.pr .str (.sl QCT0), .pr (.int .i64) (.int .i64)]) :=
  Option.bind (qip_ (text, ())) fun (y : List QCT2 × (Int × Int) × Unit) => if nei y.2.1.1 0 = true then some (([], []), y.2.1, ()) else Option.bind (qm5_ (y.1, ())) fun (y : List (List QCT2) × Unit) => if eqi (Int.ofNat (List.length y.1)) 0 = true then some (([], []), (140, 0), ()) else Option.bind (at? y.1 0) fun (y_1 : List QCT2) => Option.bind (qez_ (y_1, [114, 101, 99, 105, 112, 101], ())) fun (y_2 : Bool × Unit) => if (!y_2.1) = true then Option.bind (at? y.1 0) fun (y : List QCT2) => Option.bind (at? y 0) fun (y : Int × List UInt8 × (Int × Int) × Int) => some (([], []), (140, y.2.2.2), ()) else Option.bind (at? y.1 0) fun (y_3 : List QCT2) => Option.bind (at? y_3 1) fun (y_4 : Int × List UInt8 × (Int × Int) × Int) => j1 y.1 false 1 [] (0, 0) y_4.2.1 false [] [] 0 []
def qam_ (u1 : List (List QCT2) -> Bool -> Int -> List UInt8 -> Int × Int -> List UInt8 -> Bool -> List (List UInt8 × Int × List QCT1) -> List UInt8 -> Int -> List QCT1 -> Option (As [.pr .str (.sl QCT0), .pr (.int .i64) (.int .i64)])) (all : List (List QCT2)) (openV : Bool) (i : Int) (t2 : List UInt8) (t3 : Int × Int) (r : List UInt8) (o_o : Bool) (o : List (List UInt8 × Int × List QCT1)) (o_l : List UInt8) (o_l_2 : Int) (o_2 : List QCT1) : Option (As [.pr .str (.sl QCT0), .pr (.int .i64) (.int .i64)]) := qfx_ u1 all openV i t2 t3 r o_o o o_l o_l_2 o_2
def qh6_ (u1 : List (List QCT2) -> Bool -> Int -> List UInt8 -> Int × Int -> List UInt8 -> Bool -> List (List UInt8 × Int × List QCT1) -> List UInt8 -> Int -> List QCT1 -> Option (As [.pr .str (.sl QCT0), .pr (.int .i64) (.int .i64)])) (all : List (List QCT2)) (openV : Bool) (i p : Int) (t2 : List UInt8) (t3 : Int × Int) (r : List UInt8) (o_o : Bool) (o : List (List UInt8 × Int × List QCT1)) (o_l : List UInt8) (o_l_2 : Int) (o_2 : List QCT1) (s : List UInt8 × (Int × Int) × List UInt8 × Int) : Option (As [.pr .str (.sl QCT0), .pr (.int .i64) (.int .i64)]) := qim_ (qam_ u1) u1 all openV i p t2 t3 r o_o o o_l o_l_2 o_2 s
def qi5_ (u1 : List (List QCT2) -> Bool -> Int -> List UInt8 -> Int × Int -> List UInt8 -> Bool -> List (List UInt8 × Int × List QCT1) -> List UInt8 -> Int -> List QCT1 -> Option (As [.pr .str (.sl QCT0), .pr (.int .i64) (.int .i64)])) (all : List (List QCT2)) (openV : Bool) (i : Int) (x : List QCT2) (line : Int) (t156 : Bool) (t2 : List UInt8) (t3 : Int × Int) (r : List UInt8) (o_o : Bool) (o : List (List UInt8 × Int × List QCT1)) (o_l : List UInt8) (o_l_2 : Int) (o_2 : List QCT1) : Option (As [.pr .str (.sl QCT0), .pr (.int .i64) (.int .i64)]) := qh2_ (qh6_ u1) u1 all openV i x line t156 t2 t3 r o_o o o_l o_l_2 o_2
def qhi_ (u1 : List (List QCT2) -> Bool -> Int -> List UInt8 -> Int × Int -> List UInt8 -> Bool -> List (List UInt8 × Int × List QCT1) -> List UInt8 -> Int -> List QCT1 -> Option (As [.pr .str (.sl QCT0), .pr (.int .i64) (.int .i64)])) (all : List (List QCT2)) (openV : Bool) (i : Int) (x : List QCT2) (line : Int) (t107 : Bool) (t2 : List UInt8) (t3 : Int × Int) (r : List UInt8) (o_o : Bool) (o : List (List UInt8 × Int × List QCT1)) (o_l : List UInt8) (o_l_2 : Int) (o_2 : List QCT1) : Option (As [.pr .str (.sl QCT0), .pr (.int .i64) (.int .i64)]) := qhl_ (qam_ u1) (qi5_ u1) u1 all openV i x line t107 t2 t3 r o_o o o_l o_l_2 o_2
def qhp_ (openV : Bool) (t2 : List UInt8) (t3 : Int × Int) (r : List UInt8) (o_o : Bool) (o : List (List UInt8 × Int × List QCT1)) (o_l : List UInt8) (o_l_2 : Int) (o_2 : List QCT1) : Option (As [.pr .str (.sl QCT0), .pr (.int .i64) (.int .i64)]) := qgi_ openV t2 t3 r o_o o o_l o_l_2 o_2
def qgb_ (all : List (List QCT2)) (openV : Bool) (i : Int) (t2 : List UInt8) (t3 : Int × Int) (r : List UInt8) (o_o : Bool) (o : List (List UInt8 × Int × List QCT1)) (o_l : List UInt8) (o_l_2 : Int) (o_2 : List QCT1) : Option (As [.pr .str (.sl QCT0), .pr (.int .i64) (.int .i64)]) :=
  loopF (fun (self : (List (List QCT2)) × (Bool) × (Int) × (List UInt8) × (Int × Int) × (List UInt8) × (Bool) × (List (List UInt8 × Int × List QCT1)) × (List UInt8) × (Int) × (List QCT1) -> Option (As [.pr .str (.sl QCT0), .pr (.int .i64) (.int .i64)])) (s : (List (List QCT2)) × (Bool) × (Int) × (List UInt8) × (Int × Int) × (List UInt8) × (Bool) × (List (List UInt8 × Int × List QCT1)) × (List UInt8) × (Int) × (List QCT1)) => qhg_ (qam_ (fun all openV i t2 t3 r o_o o o_l o_l_2 o_2 => self (all, openV, i, t2, t3, r, o_o, o, o_l, o_l_2, o_2))) (qhi_ (fun all openV i t2 t3 r o_o o o_l o_l_2 o_2 => self (all, openV, i, t2, t3, r, o_o, o, o_l, o_l_2, o_2))) (qhp_) (fun all openV i t2 t3 r o_o o o_l o_l_2 o_2 => self (all, openV, i, t2, t3, r, o_o, o, o_l, o_l_2, o_2)) s.1 s.2.1 s.2.2.1 s.2.2.2.1 s.2.2.2.2.1 s.2.2.2.2.2.1 s.2.2.2.2.2.2.1 s.2.2.2.2.2.2.2.1 s.2.2.2.2.2.2.2.2.1 s.2.2.2.2.2.2.2.2.2.1 s.2.2.2.2.2.2.2.2.2.2) 18446744073709551616 (all, openV, i, t2, t3, r, o_o, o, o_l, o_l_2, o_2)
def qlg_ (x : As [.str]) : Option (As [.pr .str (.sl QCT0), .pr (.int .i64) (.int .i64)]) := qgo_ qgb_ x.1
def qcg_ (j2 : Bool -> List UInt8 × List (List UInt8 × Int × List QCT1) -> Option (As [.bool])) (text : List UInt8) (t25 : Bool) (a b : List UInt8 × List (List UInt8 × Int × List QCT1)) : Option (As [.bool]) :=
  if t25 = true then Option.bind (q4m_ ()) fun (y : Bool × Unit) => some (y.1, ()) else Option.bind (q30_ (text, ())) fun (y : (List UInt8 × List (List UInt8 × Int × List QCT1)) × (Int × Int) × Unit) => Option.bind (qlg_ (text, ())) fun (y_1 : (List UInt8 × List (List UInt8 × Int × List QCT1)) × (Int × Int) × Unit) => if (!(eqi y.2.1.1 y_1.2.1.1 && (eqi y.2.1.2 y_1.2.1.2 && true))) = true then j2 true a else Option.bind (qar_ (y.1, y_1.1, ())) fun (y : Bool × Unit) => if (!y.1) = true then j2 true a else Option.bind (q7o_ (a, b, ())) fun (y : Bool × Unit) => Option.bind (qa0_ (a, b, ())) fun (y_2 : Bool × Unit) => if Sx.neb y.1 y_2.1 = true then j2 true a else Option.bind (q44_ (a, ())) fun (y : Bool × Unit) => Option.bind (qdz_ (a, ())) fun (y_3 : Bool × Unit) => j2 (Sx.neb y.1 y_3.1) a
def qch_ (t61 : Bool) (a : List UInt8 × List (List UInt8 × Int × List QCT1)) : Option (As [.bool]) :=
  if t61 = true then some (false, ()) else Option.bind (q3e_ (a, ())) fun (y : List UInt8 × Bool × Unit) => Option.bind (qdz_ (a, ())) fun (y_1 : Bool × Unit) => if (!y_1.1) = true then if (!y.2.1) = true then if eqs y.1 [] = true then Option.bind (q4m_ ()) fun (y : Bool × Unit) => some (y.1, ()) else some (false, ()) else some (false, ()) else if y.2.1 = true then Option.bind (qle_ (a, ())) fun (y_2 : List UInt8 × Unit) => if eqs y.1 y_2.1 = true then Option.bind (q4m_ ()) fun (y : Bool × Unit) => some (y.1, ()) else some (false, ()) else some (false, ())
def qce_ (j1 : List UInt8 -> Bool -> List UInt8 × List (List UInt8 × Int × List QCT1) -> List UInt8 × List (List UInt8 × Int × List QCT1) -> Option (As [.bool])) (text : List UInt8) (a b : List UInt8 × List (List UInt8 × Int × List QCT1)) : Option (As [.bool]) :=
  if gt (Int.ofNat (List.length text)) 9000 = true then j1 text true a b else Option.bind (q85_ (a, ())) fun (y : Bool × Unit) => if (!y.1) = true then j1 text true a b else Option.bind (q85_ (b, ())) fun (y : Bool × Unit) => j1 text (!y.1) a b
def qcd_ (t61 : Bool) (a : List UInt8 × List (List UInt8 × Int × List QCT1)) : Option (As [.bool]) := qch_ t61 a
def qci_ (text : List UInt8) (t25 : Bool) (a b : List UInt8 × List (List UInt8 × Int × List QCT1)) : Option (As [.bool]) := qcg_ (qcd_) text t25 a b
def qm9_ (x : As [.str, .pr .str (.sl QCT0), .pr .str (.sl QCT0)]) : Option (As [.bool]) := qce_ qci_ x.1 x.2.1 x.2.2.1
end Go.Proofs.Lx
end
section
namespace Pl
open Go Ev Sx
theorem loop_idx {σ R α β : Type} {F : (σ -> Option R) -> σ -> Option R} {mk : Nat -> β -> σ} {xs : List α} {stp : β -> α -> β} {fin : β -> Option R} (Inv : Nat -> β -> Prop)
    (hs : ∀ self i acc x, xs[i]? = some x -> Inv i acc -> F self (mk i acc) = self (mk (i + 1) (stp acc x)))
    (hi : ∀ i acc x, xs[i]? = some x -> Inv i acc -> Inv (i + 1) (stp acc x))
    (he : ∀ self acc, Inv xs.length acc -> F self (mk xs.length acc) = fin acc) :
    ∀ (k i : Nat) (acc : β) (n : Nat), i + k = xs.length -> k < n -> Inv i acc -> loopF F n (mk i acc) = fin ((xs.drop i).foldl stp acc)
  | _, _, _, 0, _, hn, _ => by omega
  | 0, i, acc, n + 1, h, _, hI => by
    have : i = xs.length := by omega
    subst this
    rw [q3m_, he _ _ hI, List.drop_length]
    rfl
  | k + 1, i, acc, n + 1, h, hn, hI => by
    have hx : xs[i]? = some (xs[i]'(by omega)) := List.getElem?_eq_getElem (by omega)
    rw [q3m_, hs _ _ _ _ hx hI, loop_idx Inv hs hi he k (i + 1) _ n (by omega) (by omega) (hi _ _ _ hx hI), List.drop_eq_getElem_cons (show i < xs.length by omega)]
    rfl
def goL {α β R : Type} (body : β -> α -> (β -> Option R) -> Option R) (fin : β -> Option R) : List α -> β -> Option R
  | [], acc => fin acc
  | x :: r, acc => body acc x (goL body fin r)
theorem loop_go {σ R α β : Type} {F : (σ -> Option R) -> σ -> Option R} {mk : Nat -> β -> σ} {xs : List α} {body : β -> α -> (β -> Option R) -> Option R} {fin : β -> Option R}
    (hs : ∀ self i acc x, xs[i]? = some x -> F self (mk i acc) = body acc x fun a => self (mk (i + 1) a))
    (he : ∀ self acc, F self (mk xs.length acc) = fin acc) :
    ∀ (k i : Nat) (acc : β) (n : Nat), i + k = xs.length -> k < n -> loopF F n (mk i acc) = goL body fin (xs.drop i) acc
  | _, _, _, 0, _, hn => by omega
  | 0, i, acc, n + 1, h, _ => by
    have : i = xs.length := by omega
    subst this
    rw [q3m_, he, List.drop_length]
    rfl
  | k + 1, i, acc, n + 1, h, hn => by
    have hx : xs[i]? = some (xs[i]'(by omega)) := List.getElem?_eq_getElem (by omega)
    rw [q3m_, hs _ _ _ _ hx, List.drop_eq_getElem_cons (show i < xs.length by omega)]
    show _ = body acc _ (goL body fin (xs.drop (i + 1)))
    congr 1
    funext a
    exact loop_go hs he k (i + 1) a n (by omega) (by omega)
theorem foldl_app {α β : Type} (f : α -> List β) : ∀ (xs : List α) (out : List β), xs.foldl (fun o x => o ++ f x) out = out ++ xs.flatMap f
  | [], out => by simp
  | x :: r, out => by simp [foldl_app f r]
end Pl
end
section
namespace Go.Proofs.Lx
open Go Ev Sx Pl
set_option maxRecDepth 10000
def isL (n : Nat) : Bool := (decide (97 ≤ n) && decide (n ≤ 122)) || (decide (65 ≤ n) && decide (n ≤ 90))
def isD (n : Nat) : Bool := decide (48 ≤ n) && decide (n ≤ 57)
def isB (n : Nat) : Bool := n == 9 || n == 13 || n == 32
def w1 (n : Nat) : Bool := isL n || n == 37
def n1 (n : Nat) : Bool := isD n || n == 45
def e1 (n : Nat) : Bool := n == 61
def wm (n : Nat) : Bool := isL n || isD n || n == 95 || n == 37
def nm (n : Nat) : Bool := isD n || n == 46 || n == 45
theorem tab {f : Int × Unit -> Option (Bool × Unit)} {g : Nat -> Bool} (h : ((List.range 256).all fun n => match f (Int.ofNat n, ()) with
    | some y => y.1 == g n
    | none => false) = true) (c : UInt8) : f (Int.ofNat c.toNat, ()) = some (g c.toNat, ()) := by
  have := all8 h c
  split at this
  · rename_i y hy
    rw [hy]
    have : y.1 = g c.toNat := by simpa using this
    rw [<- this]
  · cases this
theorem qdw_ (c : UInt8) : qj_ (Int.ofNat c.toNat, ()) = some (w1 c.toNat, ()) := tab (f := qj_) (g := w1) (by kernel_rfl) c
theorem qdv_ (c : UInt8) : ql_ (Int.ofNat c.toNat, ()) = some (n1 c.toNat, ()) := tab (f := ql_) (g := n1) (by kernel_rfl) c
theorem qdp_ (c : UInt8) : qm_ (Int.ofNat c.toNat, ()) = some (e1 c.toNat, ()) := tab (f := qm_) (g := e1) (by kernel_rfl) c
theorem qdo_ (c : UInt8) : q33_ (Int.ofNat c.toNat, ()) = some (wm c.toNat, ()) := tab (f := q33_) (g := wm) (by kernel_rfl) c
theorem qdn_ (c : UInt8) : q32_ (Int.ofNat c.toNat, ()) = some (nm c.toNat, ()) := tab (f := q32_) (g := nm) (by kernel_rfl) c
theorem excl (c : UInt8) : (w1 c.toNat = true -> n1 c.toNat = false ∧ e1 c.toNat = false ∧ isB c.toNat = false ∧ c.toNat ≠ 35 ∧ c.toNat ≠ 10) := by
  have := all8 (p := fun n => !(w1 n) || (!(n1 n) && !(e1 n) && !(isB n) && n != 35 && n != 10)) (by kernel_rfl) c
  intro h
  simp [h] at this
  exact ⟨this.1.1.1.1, this.1.1.1.2, this.1.1.2, this.1.2, this.2⟩
def asc : List Bool := (List.range 256).map isB
theorem strings_makeASCIISet_eq : q2x_ ([9, 13, 32], ()) = some (asc, true, ()) := by kernel_rfl
theorem asc_at (c : UInt8) : at? asc (Int.ofNat c.toNat) = some (isB c.toNat) := by
  have := all8 (p := fun n => asc[n]? == some (isB n)) (by kernel_rfl) c
  unfold at?
  rw [if_pos (by simp)]
  simpa using this
theorem q7n_ : ∀ (s : List UInt8) (n : Nat), s.length < n -> loopF (fun (self : (List UInt8) × (List Bool) -> Option (As [.str, .sl .bool])) (s : (List UInt8) × (List Bool)) => q48_ (fun s as' => self (s, as')) s.1 s.2) n (s, asc) = some (s.dropWhile (fun c => isB c.toNat), asc, ())
  | s, 0, h => by omega
  | [], n + 1, h => rfl
  | c :: q, n + 1, h => by
    have ih := q7n_ q n (by simp at h; omega)
    have h1 : gt (Int.ofNat (c :: q).length) 0 = true := by simp [gt]; try omega
    have h2 : lt (Int.ofNat c.toNat) 256 = true := by have := c.toNat_lt; simp [lt]; omega
    rw [loopF]
    unfold q48_
    simp only [h1, if_true, at_zero, Option.bind_some, need, h2, asc_at, cut_one, List.dropWhile_cons]
    cases hb : isB c.toNat
    · rfl
    · simp only [Bool.not_true, Bool.false_eq_true, if_false, if_true]
      exact ih
theorem strings_TrimLeft_step (s : List UInt8) : strings_TrimLeft (s, [9, 13, 32], ()) = if eqs s [] = true then some (s, ()) else (q2x_ ([9, 13, 32], ())).bind fun y => need (eqi 256 (Int.ofNat y.1.length)) (need (eqi 256 (Int.ofNat (y.1.length * 1))) (if y.2.1 = true then (q3c_ (s, y.1, ())).bind fun y => some (y.1, ()) else (q4e_ (s, [9, 13, 32], ())).bind fun y => some (y.1, ()))) := rfl
theorem strings_TrimLeft_eq {s : List UInt8} (h : s.length < 1000000) : strings_TrimLeft (s, [9, 13, 32], ()) = some (s.dropWhile (fun c => isB c.toNat), ()) := by
  have h63 : q3c_ (s, asc, ()) = some (s.dropWhile (fun c => isB c.toNat), asc, ()) := q7n_ s _ (by omega)
  rw [strings_TrimLeft_step]
  by_cases hs : s = []
  · subst hs; rfl
  · have e1 : eqs s [] = false := by simp [eqs, hs]
    have e5 : eqi 256 (Int.ofNat asc.length) = true := by kernel_rfl
    have e6 : eqi 256 (Int.ofNat (asc.length * 1)) = true := by kernel_rfl
    rw [e1, strings_makeASCIISet_eq, Option.bind_some]
    simp only [Bool.false_eq_true, if_false, need, e5, e6, if_true]
    rw [h63]
    rfl
theorem qbg_ (g : Int -> List UInt8 -> Option (As [.str, .str])) (n : Int) (t : List UInt8) : q7f_ (q5h_ g) g n t = if lt n (Int.ofNat t.length) = true then (at? t n).bind fun c => (q33_ (Int.ofNat c.toNat, ())).bind fun y => if y.1 = true then g (add .i64 n 1) t else q4i_ n t else q4i_ n t := rfl
theorem m3_app (p q : List UInt8) : q4i_ (p.length : Int) (p ++ q) = some (p, q, ()) := by
  unfold q4i_
  rw [cut_app0, Option.bind_some, cut_app1, Option.bind_some]
theorem qbh_ : ∀ (q p : List UInt8) (n : Nat), q.length < n -> p.length + q.length < 1000000 ->
    loopF (fun (self : Int × List UInt8 -> Option (As [.str, .str])) (s : Int × List UInt8) => q7f_ (q5h_ (fun n t1 => self (n, t1))) (fun n t1 => self (n, t1)) s.1 s.2) n ((p.length : Int), p ++ q) =
      some (p ++ q.takeWhile (fun c => wm c.toNat), q.dropWhile (fun c => wm c.toNat), ())
  | q, p, 0, h, _ => by omega
  | [], p, n + 1, h, hl => by
    have h1 : lt (p.length : Int) (Int.ofNat (p ++ []).length) = false := by simp [lt]
    refine (qbg_ _ _ _).trans ?_
    rw [if_neg (by rw [h1]; decide), m3_app]
    simp
  | c :: q, p, n + 1, h, hl => by
    have h1 : lt (p.length : Int) (Int.ofNat (p ++ c :: q).length) = true := by simp [lt]; omega
    have ih := qbh_ q (p ++ [c]) n (by simp at h; omega) (by simp at hl ⊢; omega)
    refine (qbg_ _ _ _).trans ?_
    rw [if_pos h1, at_app, Option.bind_some, qdo_, Option.bind_some]
    cases hb : wm c.toNat
    · simp only [Bool.false_eq_true, if_false, m3_app, List.takeWhile_cons, List.dropWhile_cons, hb, List.append_nil]
    · have ha : add .i64 (p.length : Int) 1 = ((p ++ [c]).length : Int) := by
        unfold add
        rw [w64 (by omega) (by simp at hl; omega)]
        simp
      have e : p ++ c :: q = (p ++ [c]) ++ q := by simp
      simp only [if_true, ha, List.takeWhile_cons, List.dropWhile_cons, hb]
      rw [e, ih]
      simp
theorem qhj_ (c : UInt8) (q : List UInt8) (h : q.length < 100000) : q7k_ (c :: q, ()) = some (c :: q.takeWhile (fun c => wm c.toNat), q.dropWhile (fun c => wm c.toNat), ()) :=
  qbh_ q [c] 18446744073709551616 (by omega) (by simp; omega)
end Go.Proofs.Lx
end
section
namespace Go.Proofs.Lx
open Go Ev Sx Pl
set_option maxRecDepth 10000
abbrev TL := List (Int × List UInt8 × (Int × Int) × Int)
abbrev RL := As [.sl (.pr (.int .u8) (.pr .str (.pr (.pr (.int .i64) (.int .u8)) (.int .i64)))), .int .i64]
abbrev lineB (self : Int × List UInt8 × TL -> Option RL) (s : Int × List UInt8 × TL) : Option RL :=
  q6e_ (q8y_) (q8z_ (fun at' text l => self (at', text, l))) (fun at' text l => self (at', text, l)) s.1 s.2.1 s.2.2
structure Word (w : List UInt8) : Prop where
  all : ∀ b ∈ w, wm b.toNat = true
  first : ∃ c q, w = c :: q ∧ w1 c.toNat = true
  len : w.length < 1000
theorem Word.strings_TrimLeft {w r : List UInt8} (h : Word w) (hr : r.length < 2000) : ∃ c q, w = c :: q ∧ w1 c.toNat = true ∧ Lx.strings_TrimLeft (w ++ r, [9, 13, 32], ()) = some (c :: (q ++ r), ()) ∧ (∀ b ∈ q, wm b.toNat = true) := by
  obtain ⟨c, q, rfl, hc⟩ := h.first
  obtain ⟨_, _, hb, _⟩ := excl c hc
  refine ⟨c, q, rfl, hc, ?_, fun b hb => h.all b (List.mem_cons_of_mem _ hb)⟩
  rw [strings_TrimLeft_eq (by have := h.len; simp at this ⊢; omega)]
  simp [hb]
theorem Word.no {w : List UInt8} (h : Word w) : (∀ b ∈ w, b ≠ 35) ∧ (∀ b ∈ w, b ≠ 10) := by
  constructor
  · intro b hb e
    subst e
    exact absurd (h.all _ hb) (by decide)
  · intro b hb e
    subst e
    exact absurd (h.all _ hb) (by decide)
end Go.Proofs.Lx
end
section
namespace Go.Proofs.Lx
open Go Ev Sx Pl
set_option maxRecDepth 10000
def dg (c : UInt8) : Bool := isD c.toNat
def digs (s : List UInt8) : Bool := s.all dg && s != []
def dvn (n : Int) (q : List UInt8) : Int := q.foldl (fun n c => 10 * n + ((c.toNat : Int) - 48)) n
theorem dvn_nil (n : Int) : dvn n [] = n := rfl
theorem dvn_cons (n : Int) (c : UInt8) (q : List UInt8) : dvn n (c :: q) = dvn (10 * n + ((c.toNat : Int) - 48)) q := rfl
theorem dvn_app (n : Int) (p q : List UInt8) : dvn n (p ++ q) = dvn (dvn n p) q := List.foldl_append ..
theorem dg_iff {c : UInt8} : dg c = true ↔ 48 ≤ c.toNat ∧ c.toNat ≤ 57 := by simp [dg, isD]
theorem dvn_ge : ∀ {q : List UInt8} {n : Int}, (∀ c ∈ q, dg c = true) -> 0 ≤ n -> n ≤ dvn n q
  | [], n, _, _ => Int.le_refl _
  | c :: q, n, h, hn => by
    have hc := dg_iff.1 (h c (List.mem_cons_self ..))
    have := dvn_ge (q := q) (n := 10 * n + ((c.toNat : Int) - 48)) (fun x hx => h x (List.mem_cons_of_mem _ hx)) (by omega)
    rw [dvn_cons]
    omega
theorem allDigits_eq {s : List UInt8} (h : s.length < 1000000) : q20_ (s, ()) = some (digs s, ()) := by
  have key : ∀ (n : Nat) (st : List UInt8 × Int × Int), (∃ i : Nat, st = (s, Int.ofNat s.length, (i : Int)) ∧ i ≤ s.length) -> (s.length - st.2.2.toNat < n) ->
      loopF (fun (self : (List UInt8) × Int × Int -> Option (As [.bool])) (s : (List UInt8) × Int × Int) => q60_ (q2p_ (fun a b c => self (a, b, c))) q4o_ (fun a b c => self (a, b, c)) s.1 s.2.1 s.2.2) n st = some ((s.drop st.2.2.toNat).all dg && s != [], ()) := by
    refine loopF_eq (σ := List UInt8 × Int × Int) (μ := fun st => s.length - st.2.2.toNat) (G := fun st => some ((s.drop st.2.2.toNat).all dg && s != [], ())) ?_
    rintro self st ⟨i, rfl, hi⟩ ih
    simp only [Int.toNat_natCast] at ih ⊢
    unfold q60_
    cases hd : s.drop i with
    | nil =>
      have := drop_nil hd
      rw [if_neg (by rw [q19_, q4_]; omega)]
      unfold q4o_ q88_
      rfl
    | cons c r =>
      obtain ⟨h1, h2, h3⟩ := drop_succ hd
      rw [if_pos (by rw [q19_, q4_]; omega), at_drop hd]
      simp only [Option.bind_some]
      have hgo : dg c = true -> q2p_ (fun a b c => self (a, b, c)) s (Int.ofNat s.length) (i : Int) false = some ((c :: r).all dg && s != [], ()) := fun hc => by
        unfold q2p_ q6a_
        rw [if_neg (by decide), succ64 (by omega)]
        have := ih (s, Int.ofNat s.length, ((i + 1 : Nat) : Int)) ⟨i + 1, rfl, by omega⟩ (by simp; omega)
        refine this.trans ?_
        simp [h1, hc]
      have hno : dg c = false -> q2p_ (fun a b c => self (a, b, c)) s (Int.ofNat s.length) (i : Int) true = some ((c :: r).all dg && s != [], ()) := fun hc => by
        unfold q2p_ q6a_
        rw [if_pos rfl]
        simp [hc]
      by_cases hc : dg c = true
      · have := dg_iff.1 hc
        rw [if_neg (by rw [q19_, q4_]; omega)]
        have e : gt (Int.ofNat c.toNat) 57 = false := by simp [gt]; omega
        rw [e]
        exact hgo hc
      · have hc' : dg c = false := by simpa using hc
        have h4 : ¬ (48 ≤ c.toNat ∧ c.toNat ≤ 57) := fun h => hc (dg_iff.2 h)
        by_cases h5 : c.toNat < 48
        · rw [if_pos (by rw [q19_, q4_]; omega)]
          exact hno hc'
        · rw [if_neg (by rw [q19_, q4_]; omega)]
          have e : gt (Int.ofNat c.toNat) 57 = true := by simp [gt]; omega
          rw [e]
          exact hno hc'
  have := key 18446744073709551616 (s, Int.ofNat s.length, 0) ⟨0, rfl, by omega⟩ (by simp; omega)
  refine this.trans ?_
  simp [digs]
def q7_ : List UInt8 -> List UInt8
  | [] => []
  | c :: q => match q7_ q with
    | [] => if c = 48 then [] else [c]
    | r => c :: r
theorem stripz_snoc0 (q : List UInt8) : q7_ (q ++ [48]) = q7_ q := by
  induction q with
  | nil => rfl
  | cons c q ih => show (match q7_ (q ++ [48]) with | [] => _ | r => _) = _; rw [ih]; rfl
theorem stripz_snoc {c : UInt8} (q : List UInt8) (h : c ≠ 48) : q7_ (q ++ [c]) = q ++ [c] := by
  induction q with
  | nil => show (if c = 48 then [] else [c]) = _; rw [if_neg h]; rfl
  | cons a q ih =>
    show (match q7_ (q ++ [c]) with | [] => _ | r => _) = _
    rw [ih]
    cases q <;> rfl
theorem snoc_cases {α : Type} (q : List α) : q = [] ∨ ∃ p c, q = p ++ [c] := by
  rcases List.eq_nil_or_concat q with h | ⟨p, c, h⟩
  · exact .inl h
  · exact .inr ⟨p, c, by simpa using h⟩
theorem trimRight_eq {s : List UInt8} (h : s.length < 1000000) : q3z_ (s, 48, ()) = some (q7_ s, ()) := by
  have key : ∀ (n : Nat) (st : List UInt8 × Int), (st.2 = 48 ∧ st.1.length < 1000000) -> st.1.length < n ->
      loopF (fun (self : (List UInt8) × Int -> Option (As [.str])) (s : (List UInt8) × Int) => q47_ (q3f_ (fun a b => self (a, b))) (fun a b => self (a, b)) s.1 s.2) n st = some (q7_ st.1, ()) := by
    refine loopF_eq (σ := List UInt8 × Int) (μ := fun st => st.1.length) (G := fun st => some (q7_ st.1, ())) ?_
    rintro self ⟨s, c⟩ ⟨rfl, hl⟩ ih
    unfold q47_
    rcases snoc_cases s with rfl | ⟨p, c, rfl⟩
    · rfl
    · simp at hl
      have hn : Int.ofNat (p ++ [c]).length = ((p.length + 1 : Nat) : Int) := by simp
      rw [if_pos (by rw [gt_iff, hn]; omega)]
      have h1 : sub .i64 (Int.ofNat (p ++ [c]).length) 1 = (p.length : Int) := by rw [hn, sub64 (by omega) (by omega)]; omega
      simp only [h1, at_app, Option.bind_some]
      unfold q3f_ q5k_
      by_cases hc : c = 48
      · subst hc
        rw [if_pos (show eqi (Int.ofNat (UInt8.toNat 48)) 48 = true from rfl), h1, cut_app0]
        have := ih (p, 48) ⟨rfl, by show p.length < _; omega⟩ (by simp)
        refine Eq.trans this ?_
        simp [stripz_snoc0]
      · have : eqi (Int.ofNat c.toNat) 48 = false := by
          simp [eqi]
          intro e
          apply hc
          apply UInt8.toNat_inj.1
          have : (48 : UInt8).toNat = 48 := rfl
          omega
        rw [this, if_neg (by decide)]
        simp [stripz_snoc p hc]
  exact key 18446744073709551616 (s, 48) ⟨rfl, h⟩ (by show s.length < _; omega)
abbrev PR := (Int × Int) × Bool
def q2n_ (neg : Bool) (w r : List UInt8) (pt : Bool) : PR :=
  if digs w = false ∨ (1 < w.length ∧ w[0]? = some 48) then ((0, 0), false)
  else if pt = true ∧ (digs r = false ∨ 6 < r.length) then ((0, 0), false)
  else if 1000000000000 < dvn (dvn 0 w) (q7_ r) then ((0, 0), false)
  else ((if neg then -(dvn (dvn 0 w) (q7_ r)) else dvn (dvn 0 w) (q7_ r), ((q7_ r).length : Int)), true)
theorem byte_val {c : UInt8} (h : dg c = true) : cvt .i64 (sub .u8 (Int.ofNat c.toNat) 48) = (c.toNat : Int) - 48 := by
  have := dg_iff.1 h
  have e : sub .u8 (Int.ofNat c.toNat) 48 = (c.toNat : Int) - 48 := by unfold sub; rw [q4_, wu8 (by omega) (by omega)]
  rw [e, cvt64 (by omega) (by omega)]
abbrev P4 := Bool × List UInt8 × Int × List UInt8 × List UInt8 × List UInt8 × Int × Int × Int × Int × Int
theorem parse_K4 (u3 : Bool -> List UInt8 -> Int -> List UInt8 -> List UInt8 -> Int -> Int -> Int -> Option (As [.pr (.int .i64) (.int .u8), .bool])) (neg : Bool) (rest part a b : List UInt8) (n t : Int) (hd : ∀ c ∈ part, dg c = true) (hl : part.length < 1000000) (hn0 : 0 ≤ n) (hn1 : n ≤ 1000000000000) :
    q3i_ u3 neg rest n part a b t (Int.ofNat part.length) 0 0 0 = if 1000000000000 < dvn n part then some ((0, 0), false, ()) else u3 neg rest (dvn n part) a b (add .i64 t 1) 0 0 := by
  have key : ∀ (n : Nat) (st : P4), (∃ (i : Nat) (m : Int), st = (neg, rest, m, part, a, b, t, Int.ofNat part.length, (i : Int), 0, 0) ∧ i ≤ part.length ∧ 0 ≤ m ∧ m ≤ 1000000000000) -> part.length - st.2.2.2.2.2.2.2.2.1.toNat < n ->
      loopF (fun (self : P4 -> Option (As [.pr (.int .i64) (.int .u8), .bool])) (s : P4) => q8u_ u3 (fun negative rest n part t54 t54_2 t55 t59 t60 t2 t2_2 => self (negative, rest, n, part, t54, t54_2, t55, t59, t60, t2, t2_2)) s.1 s.2.1 s.2.2.1 s.2.2.2.1 s.2.2.2.2.1 s.2.2.2.2.2.1 s.2.2.2.2.2.2.1 s.2.2.2.2.2.2.2.1 s.2.2.2.2.2.2.2.2.1 s.2.2.2.2.2.2.2.2.2.1 s.2.2.2.2.2.2.2.2.2.2) n st =
        if 1000000000000 < dvn st.2.2.1 (part.drop st.2.2.2.2.2.2.2.2.1.toNat) then some ((0, 0), false, ()) else u3 neg rest (dvn st.2.2.1 (part.drop st.2.2.2.2.2.2.2.2.1.toNat)) a b (add .i64 t 1) 0 0 := by
    refine loopF_eq (σ := P4) (μ := fun st => part.length - st.2.2.2.2.2.2.2.2.1.toNat) (G := fun st => if 1000000000000 < dvn st.2.2.1 (part.drop st.2.2.2.2.2.2.2.2.1.toNat) then some ((0, 0), false, ()) else u3 neg rest (dvn st.2.2.1 (part.drop st.2.2.2.2.2.2.2.2.1.toNat)) a b (add .i64 t 1) 0 0) ?_
    rintro self st ⟨i, m, rfl, hi, hm0, hm1⟩ ih
    simp only [Int.toNat_natCast] at ih ⊢
    unfold q8u_
    cases hdr : part.drop i with
    | nil =>
      have := drop_nil hdr
      rw [if_neg (by rw [q19_, q4_]; omega), dvn_nil, if_neg (by omega)]
    | cons c r =>
      obtain ⟨h1, h2, h3⟩ := drop_succ hdr
      have hc : dg c = true := hd c (List.mem_of_mem_drop (by rw [hdr]; exact List.mem_cons_self ..))
      have hcv := dg_iff.1 hc
      rw [if_pos (by rw [q19_, q4_]; omega), at_drop hdr, Option.bind_some, byte_val hc, mul64 (by omega) (by omega), add64 (by omega) (by omega), dvn_cons, succ64 (by omega)]
      have hr : ∀ x ∈ r, dg x = true := fun x hx => hd x (List.mem_of_mem_drop (by rw [hdr]; exact List.mem_cons_of_mem _ hx))
      have hge := dvn_ge (q := r) (n := 10 * m + ((c.toNat : Int) - 48)) hr (by omega)
      by_cases hgt : 1000000000000 < 10 * m + ((c.toNat : Int) - 48)
      · rw [if_pos (by rw [gt_iff]; omega), if_pos (by omega)]
      · rw [if_neg (by rw [gt_iff]; omega)]
        have := ih (neg, rest, 10 * m + ((c.toNat : Int) - 48), part, a, b, t, Int.ofNat part.length, ((i + 1 : Nat) : Int), 0, 0) ⟨i + 1, _, rfl, by omega, by omega, by omega⟩ (by simp; omega)
        refine this.trans ?_
        simp only [Int.toNat_natCast, h1]
  have := key 18446744073709551616 (neg, rest, n, part, a, b, t, Int.ofNat part.length, 0, 0, 0) ⟨0, n, rfl, by omega, hn0, hn1⟩ (by simp; omega)
  refine this.trans ?_
  simp
theorem K3_step (n : Nat) (neg : Bool) (rest : List UInt8) (m : Int) (a b : List UInt8) (t : Int) : 
    loopF (fun (self : (Bool) × (List UInt8) × (Int) × (List UInt8) × (List UInt8) × (Int) × (Int) × (Int) -> Option (As [.pr (.int .i64) (.int .u8), .bool])) (s : (Bool) × (List UInt8) × (Int) × (List UInt8) × (List UInt8) × (Int) × (Int) × (Int)) => q70_ (q3i_ (fun negative rest n t54 t54_2 t55 t2 t2_2 => self (negative, rest, n, t54, t54_2, t55, t2, t2_2))) (q3v_) (fun negative rest n t54 t54_2 t55 t2 t2_2 => self (negative, rest, n, t54, t54_2, t55, t2, t2_2)) s.1 s.2.1 s.2.2.1 s.2.2.2.1 s.2.2.2.2.1 s.2.2.2.2.2.1 s.2.2.2.2.2.2.1 s.2.2.2.2.2.2.2) (n + 1) (neg, rest, m, a, b, t, 0, 0) =
    if lt t 2 = true then if eqi t 1 = true then q3i_ (fun neg rest m a b t x y => loopF (fun (self : (Bool) × (List UInt8) × (Int) × (List UInt8) × (List UInt8) × (Int) × (Int) × (Int) -> Option (As [.pr (.int .i64) (.int .u8), .bool])) (s : (Bool) × (List UInt8) × (Int) × (List UInt8) × (List UInt8) × (Int) × (Int) × (Int)) => q70_ (q3i_ (fun negative rest n t54 t54_2 t55 t2 t2_2 => self (negative, rest, n, t54, t54_2, t55, t2, t2_2))) (q3v_) (fun negative rest n t54 t54_2 t55 t2 t2_2 => self (negative, rest, n, t54, t54_2, t55, t2, t2_2)) s.1 s.2.1 s.2.2.1 s.2.2.2.1 s.2.2.2.2.1 s.2.2.2.2.2.1 s.2.2.2.2.2.2.1 s.2.2.2.2.2.2.2) n (neg, rest, m, a, b, t, x, y)) neg rest m b a b t (Int.ofNat b.length) 0 0 0 else if eqi t 0 = true then q3i_ (fun neg rest m a b t x y => loopF (fun (self : (Bool) × (List UInt8) × (Int) × (List UInt8) × (List UInt8) × (Int) × (Int) × (Int) -> Option (As [.pr (.int .i64) (.int .u8), .bool])) (s : (Bool) × (List UInt8) × (Int) × (List UInt8) × (List UInt8) × (Int) × (Int) × (Int)) => q70_ (q3i_ (fun negative rest n t54 t54_2 t55 t2 t2_2 => self (negative, rest, n, t54, t54_2, t55, t2, t2_2))) (q3v_) (fun negative rest n t54 t54_2 t55 t2 t2_2 => self (negative, rest, n, t54, t54_2, t55, t2, t2_2)) s.1 s.2.1 s.2.2.1 s.2.2.2.1 s.2.2.2.2.1 s.2.2.2.2.2.1 s.2.2.2.2.2.2.1 s.2.2.2.2.2.2.2) n (neg, rest, m, a, b, t, x, y)) neg rest m a a b t (Int.ofNat a.length) 0 0 0 else none else q3v_ neg rest m 0 0 := rfl
theorem parse_K3 (neg : Bool) (w r : List UInt8) (hw : ∀ c ∈ w, dg c = true) (hr : ∀ c ∈ r, dg c = true) (hwl : w.length < 1000000) (hrl : r.length < 256) :
    q6t_ neg r 0 w r 0 0 0 = if 1000000000000 < dvn (dvn 0 w) r then some ((0, 0), false, ()) else some ((if neg then -(dvn (dvn 0 w) r) else dvn (dvn 0 w) r, (r.length : Int)), true, ()) := by
  have h0 : (0 : Int) ≤ dvn 0 w := dvn_ge hw (Int.le_refl _)
  have h1 : dvn 0 w ≤ dvn (dvn 0 w) r := dvn_ge hr h0
  refine (K3_step 18446744073709551615 neg r 0 w r 0).trans ?_
  rw [if_pos (by decide), if_neg (by decide), if_pos (by decide), parse_K4 _ _ _ _ _ _ _ _ hw hwl (by decide) (by decide)]
  by_cases hb : 1000000000000 < dvn 0 w
  · rw [if_pos hb, if_pos (by omega)]
  · rw [if_neg hb, show add .i64 0 1 = 1 from rfl]
    refine (K3_step 18446744073709551614 neg r _ w r 1).trans ?_
    rw [if_pos (by decide), if_pos (by decide), parse_K4 _ _ _ _ _ _ _ _ hr (by omega) h0 (by omega)]
    by_cases hb2 : 1000000000000 < dvn (dvn 0 w) r
    · rw [if_pos hb2, if_pos hb2]
    · rw [if_neg hb2, if_neg hb2, show add .i64 1 1 = 2 from rfl]
      refine (K3_step 18446744073709551613 neg r _ w r 2).trans ?_
      rw [if_neg (by decide)]
      unfold q3v_ qai_ q8q_ qab_
      have e : cvt .u8 (Int.ofNat r.length) = (r.length : Int) := wu8 (by rw [q4_]; omega) (by rw [q4_]; omega)
      rw [e]
      cases neg
      · rfl
      · rw [if_pos rfl, neg64 (by omega) (by omega)]
        rfl
theorem stripz_len : ∀ r : List UInt8, (q7_ r).length ≤ r.length
  | [] => Nat.le_refl _
  | c :: q => by
    have ih := stripz_len q
    show (match q7_ q with | [] => _ | r => _ : List UInt8).length ≤ _
    cases h : q7_ q with
    | nil => dsimp only; split <;> simp
    | cons a b => rw [h] at ih; simp at ih ⊢; omega
theorem stripz_mem : ∀ {r : List UInt8} {c : UInt8}, c ∈ q7_ r -> c ∈ r
  | a :: q, c, h => by
    have ih := @stripz_mem q c
    change c ∈ (match q7_ q with | [] => _ | r => _ : List UInt8) at h
    cases hq : q7_ q with
    | nil =>
      rw [hq] at h
      dsimp only at h
      split at h
      · cases h
      · simp at h; simp [h]
    | cons x y =>
      rw [hq] at h ih
      rcases List.mem_cons.1 h with h | h
      · simp [h]
      · exact List.mem_cons_of_mem _ (ih h)
theorem digs_iff {s : List UInt8} : digs s = true ↔ (∀ c ∈ s, dg c = true) ∧ s ≠ [] := by simp [digs, List.all_eq_true]
theorem parse_K1 (neg : Bool) (w r : List UInt8) (pt bad : Bool) (hwl : w.length < 1000000) (hrl : r.length < 1000000) (hpt : pt = false -> r = [])
    (hbad : bad = true ↔ (digs w = false ∨ (1 < w.length ∧ w[0]? = some 48))) : qr_ neg w r pt bad 0 0 = some ((q2n_ neg w r pt).1, (q2n_ neg w r pt).2, ()) := by
  unfold qr_ qal_ q2n_
  by_cases hb : bad = true
  · rw [if_pos hb, if_pos (hbad.1 hb)]
  · rw [if_neg hb, if_neg (fun h => hb (hbad.2 h))]
    have hw : digs w = true := by
      cases h : digs w
      · exact absurd (hbad.2 (.inl h)) hb
      · rfl
    have hwd := digs_iff.1 hw
    have fin : (∀ c ∈ r, dg c = true) -> r.length ≤ 6 -> q6q_ neg w r false 0 0 = some ((if 1000000000000 < dvn (dvn 0 w) (q7_ r) then ((0, 0), false) else ((if neg then -(dvn (dvn 0 w) (q7_ r)) else dvn (dvn 0 w) (q7_ r), ((q7_ r).length : Int)), true) : PR).1, (if 1000000000000 < dvn (dvn 0 w) (q7_ r) then ((0, 0), false) else ((if neg then -(dvn (dvn 0 w) (q7_ r)) else dvn (dvn 0 w) (q7_ r), ((q7_ r).length : Int)), true) : PR).2, ()) := fun hr h6 => by
      unfold q6q_ qaf_
      rw [if_neg (by decide)]
      have go : q6t_ neg (q7_ r) 0 w (q7_ r) 0 0 0 = some ((if 1000000000000 < dvn (dvn 0 w) (q7_ r) then ((0, 0), false) else ((if neg then -(dvn (dvn 0 w) (q7_ r)) else dvn (dvn 0 w) (q7_ r), ((q7_ r).length : Int)), true) : PR).1, (if 1000000000000 < dvn (dvn 0 w) (q7_ r) then ((0, 0), false) else ((if neg then -(dvn (dvn 0 w) (q7_ r)) else dvn (dvn 0 w) (q7_ r), ((q7_ r).length : Int)), true) : PR).2, ()) := by
        rw [parse_K3 neg w (q7_ r) hwd.1 (fun c hc => hr c (stripz_mem hc)) hwl (by have := stripz_len r; omega)]
        split <;> rfl
      by_cases hre : r = []
      · subst hre
        rw [if_pos (by decide)]
        exact go
      · rw [if_neg (by rw [eqs_iff]; exact hre), trimRight_eq hrl, Option.bind_some]
        exact go
    cases pt
    · rw [if_neg (by decide), if_neg (by simp)]
      rw [hpt rfl] at fin ⊢
      exact fin (fun c h => by cases h) (by simp)
    · rw [if_pos rfl, allDigits_eq hrl, Option.bind_some]
      by_cases hr : digs r = true
      · rw [if_neg (by simp [hr])]
        by_cases h6 : 6 < r.length
        · have e : gt (Int.ofNat r.length) 6 = true := by rw [gt_iff, q4_]; omega
          rw [e, if_pos ⟨rfl, .inr h6⟩]
          rfl
        · have e : gt (Int.ofNat r.length) 6 = false := by simp [gt]; omega
          rw [e, if_neg (by simp [hr]; omega)]
          exact fin (digs_iff.1 hr).1 (by omega)
      · have hr' : digs r = false := by simpa using hr
        rw [if_pos (by simp [hr']), if_pos ⟨rfl, .inl hr'⟩]
        rfl
def parseT (neg : Bool) (t : List UInt8) : PR := q2n_ neg (t.takeWhile (· != 46)) ((t.dropWhile (· != 46)).drop 1) (t.contains 46)
def parseS (s : List UInt8) : PR := if s.head? = some 45 then parseT true (s.drop 1) else parseT false s
theorem tw_no {c : UInt8} {s : List UInt8} (h : c ∉ s) : s.takeWhile (· != c) = s ∧ s.dropWhile (· != c) = [] ∧ s.contains c = false := by
  induction s with
  | nil => exact ⟨rfl, rfl, rfl⟩
  | cons b q ih =>
    have hb : b ≠ c := fun e => h (by simp [e])
    obtain ⟨h1, h2, h3⟩ := ih (fun hm => h (List.mem_cons_of_mem _ hm))
    have hb' : (b != c) = true := by simp [hb]
    refine ⟨by simp [hb', h1], by simp [hb', h2], ?_⟩
    simp only [List.contains_cons, h3, Bool.or_false]
    simp
    exact fun e => hb e.symm
theorem tw_yes {c : UInt8} {p q : List UInt8} (h : c ∉ p) : (p ++ c :: q).takeWhile (· != c) = p ∧ (p ++ c :: q).dropWhile (· != c) = c :: q ∧ (p ++ c :: q).contains c = true := by
  induction p with
  | nil => simp
  | cons b r ih =>
    have hb : b ≠ c := fun e => h (by simp [e])
    obtain ⟨h1, h2, h3⟩ := ih (fun hm => h (List.mem_cons_of_mem _ hm))
    have hb' : (b != c) = true := by simp [hb]
    refine ⟨by simp [hb', h1], by simp [hb', h2], ?_⟩
    simp
theorem parseT_no {neg : Bool} {t : List UInt8} (h : (46 : UInt8) ∉ t) : parseT neg t = q2n_ neg t [] false := by
  obtain ⟨h1, h2, h3⟩ := tw_no h
  unfold parseT
  rw [h1, h2, h3]
  rfl
theorem parseT_yes {neg : Bool} {p q : List UInt8} (h : (46 : UInt8) ∉ p) : parseT neg (p ++ 46 :: q) = q2n_ neg p q true := by
  obtain ⟨h1, h2, h3⟩ := tw_yes (q := q) h
  simp only [parseT, h1, h2, h3]
  simp
theorem bad_iff {w : List UInt8} (c : UInt8) (q : List UInt8) (e : w = c :: q) (h : digs w = true) (hl : 1 < w.length) : eqi (Int.ofNat c.toNat) 48 = true ↔ (digs w = false ∨ (1 < w.length ∧ w[0]? = some 48)) := by
  subst e
  simp [h, eqi] at hl ⊢
  constructor
  · intro h2
    refine ⟨hl, UInt8.toNat_inj.1 ?_⟩
    have : (48 : UInt8).toNat = 48 := rfl
    omega
  · rintro ⟨_, rfl⟩; rfl
theorem hasPrefix_eq {s p : List UInt8} : q3r_ (s, p, ()) = some (decide (p <+: s), ()) := by
  show (if ge (Int.ofNat s.length) (Int.ofNat p.length) = true then _ else _) = _
  by_cases h : p.length ≤ s.length
  · rw [if_pos (by rw [ge_iff, q4_, q4_]; omega), q4_, cut_to h, Option.bind_some]
    congr 2
    rw [Bool.eq_iff_iff, eqs_iff, decide_eq_true_iff, List.prefix_iff_eq_take]
    exact ⟨fun h => h.symm, fun h => h.symm⟩
  · rw [if_neg (by rw [ge_iff, q4_, q4_]; omega)]
    congr 2
    symm
    rw [decide_eq_false_iff_not]
    intro hp
    exact h hp.length_le
theorem cutPrefix_eq {s p : List UInt8} : q6g_ (s, p, ()) = some (if p <+: s then (s.drop p.length, true, ()) else (s, false, ())) := by
  show (q4n_ (s, p, ())).bind _ = _
  have : q4n_ (s, p, ()) = some (if p <+: s then (s.drop p.length, true, ()) else (s, false, ())) := by
    show (q3r_ (s, p, ())).bind _ = _
    rw [hasPrefix_eq, Option.bind_some]
    by_cases h : p <+: s
    · rw [if_neg (by simp [h]), if_pos h, q4_, cut_from h.length_le, Option.bind_some]
    · rw [if_pos (by simp [h]), if_neg h]
  rw [this, Option.bind_some]
theorem parse_eq {s : List UInt8} (hl : s.length < 1000000) : qan_ (s, ()) = some ((parseS s).1, (parseS s).2, ()) := by
  show q8d_ qr_ s = _
  have go : ∀ (neg : Bool) (t : List UInt8), t.length < 1000000 ->
      (if eqs [46] t = true then (cut t 1 (Int.ofNat t.length)).bind fun y_1 => (q20_ ([], ())).bind fun y_2 => if (!y_2.1) = true then qr_ neg [] y_1 true true 0 0 else qr_ neg [] y_1 true false 0 0
       else if ge (Go.Lib.indexByte t 46) 0 = true then (cut t 0 (Go.Lib.indexByte t 46)).bind fun y_1 => (cut t (add .i64 (Go.Lib.indexByte t 46) 1) (Int.ofNat t.length)).bind fun y_2 => (q20_ (y_1, ())).bind fun y_3 => if (!y_3.1) = true then qr_ neg y_1 y_2 true true 0 0 else if gt (Int.ofNat y_1.length) 1 = true then (at? y_1 0).bind fun c => qr_ neg y_1 y_2 true (eqi (Int.ofNat c.toNat) 48) 0 0 else qr_ neg y_1 y_2 true false 0 0
       else (q20_ (t, ())).bind fun y_1 => if (!y_1.1) = true then qr_ neg t [] false true 0 0 else if gt (Int.ofNat t.length) 1 = true then (at? t 0).bind fun c => qr_ neg t [] false (eqi (Int.ofNat c.toNat) 48) 0 0 else qr_ neg t [] false false 0 0) = some ((parseT neg t).1, (parseT neg t).2, ()) := by
    intro neg t ht
    have side : ∀ (w r : List UInt8) (pt : Bool), w.length < 1000000 -> r.length < 1000000 -> (pt = false -> r = []) -> ((q20_ (w, ())).bind fun y_1 => if (!y_1.1) = true then qr_ neg w r pt true 0 0 else if gt (Int.ofNat w.length) 1 = true then (at? w 0).bind fun c => qr_ neg w r pt (eqi (Int.ofNat c.toNat) 48) 0 0 else qr_ neg w r pt false 0 0) = some ((q2n_ neg w r pt).1, (q2n_ neg w r pt).2, ()) := by
      intro w r pt hw hr hp
      rw [allDigits_eq hw, Option.bind_some]
      by_cases hd : digs w = true
      · rw [if_neg (by simp [hd])]
        by_cases h1 : 1 < w.length
        · rw [if_pos (by rw [gt_iff, q4_]; omega)]
          cases w with
          | nil => simp at h1
          | cons c q => exact parse_K1 neg (c :: q) r pt _ hw hr hp (bad_iff c q rfl hd h1)
        · rw [if_neg (by rw [gt_iff, q4_]; omega)]
          exact parse_K1 neg w r pt false hw hr hp (by simp [hd]; omega)
      · have hd' : digs w = false := by simpa using hd
        rw [if_pos (by simp [hd'])]
        exact parse_K1 neg w r pt true hw hr hp (by simp [hd'])
    by_cases he : t = [46]
    · subst he
      rw [if_pos (by decide), show cut ([46] : List UInt8) 1 (Int.ofNat [(46 : UInt8)].length) = some [] from rfl, Option.bind_some, allDigits_eq (by simp), Option.bind_some, if_pos (by decide)]
      exact parse_K1 neg [] [] true true (by simp) (by simp) (by simp) (by simp [digs])
    · rw [if_neg (by rw [eqs_iff]; exact fun h => he h.symm)]
      rcases split_at 46 t with h46 | ⟨p, q, rfl, h46⟩
      · rw [index_no 46 t h46, if_neg (by decide), parseT_no h46]
        exact side t [] false ht (by simp) (fun _ => rfl)
      · simp at ht
        rw [index_yes 46 p q h46, if_pos (by rw [ge_iff]; omega), cut_app0, Option.bind_some, succ64 (by omega), cut_from (by simp), Option.bind_some, parseT_yes h46]
        have : (p ++ 46 :: q).drop (p.length + 1) = q := by simp
        rw [this]
        exact side p q true (by omega) (by omega) (by simp)
  unfold q8d_
  rw [cutPrefix_eq]
  cases s with
  | nil =>
    rw [if_neg (by simp), Option.bind_some]
    exact go false [] (by simp)
  | cons a q =>
    by_cases ha : a = 45
    · subst ha
      have : parseS (45 :: q) = parseT true q := by simp [parseS]
      rw [this, if_pos (by simp), Option.bind_some]
      exact go true q (by simp at hl; omega)
    · have : parseS (a :: q) = parseT false (a :: q) := by simp [parseS, ha]
      rw [this, if_neg (by simp; intro e; exact ha e.symm), Option.bind_some]
      exact go false (a :: q) hl
end Go.Proofs.Lx
end
section
namespace Go.Proofs.Lx
open Go Ev Sx Pl
set_option maxRecDepth 10000
end Go.Proofs.Lx
end
section
namespace Go.Proofs.Lx
open Go Ev Sx Pl
set_option maxRecDepth 10000
end Go.Proofs.Lx
end
section
namespace Go.Proofs.Lx
open Go Ev Sx Pl
set_option maxRecDepth 10000
abbrev Tk1 := Int × List UInt8 × (Int × Int) × Int
def kd (c : UInt8) : Int := if w1 c.toNat then 1 else if n1 c.toNat then 2 else if e1 c.toNat then 3 else 0
theorem excl3 (c : UInt8) : (w1 c.toNat = true -> n1 c.toNat = false ∧ e1 c.toNat = false) ∧ (n1 c.toNat = true -> e1 c.toNat = false) := by
  have := all8 (p := fun n => (!(w1 n) || (!(n1 n) && !(e1 n))) && (!(n1 n) || !(e1 n))) (by kernel_rfl) c
  constructor
  · intro h; simp [h] at this; exact this.1
  · intro h; simp [h] at this; exact this.2
theorem amb_kind (j2 : Int -> TL -> Option RL) (j3 : Int -> List UInt8 -> TL -> Int -> List UInt8 -> Int -> Int -> Int -> Option RL) (self1 : Int -> List UInt8 -> TL -> Option RL) (a : Int) (t : List UInt8) (c : UInt8) (q : List UInt8) (l : TL)
    (ht : strings_TrimLeft (t, [9, 13, 32], ()) = some (c :: q, ())) : q6e_ j2 j3 self1 a t l = j3 a (c :: q) l (kd c) [] 0 0 a := by
  have e4 : eqs (c :: q) [] = false := rfl
  have hr : ∀ x, eqAs qx_.rs x x = true := eqAs_refl _
  obtain ⟨x1, x2⟩ := excl3 c
  unfold q6e_ kd
  rw [ht, Option.bind_some]
  have e1 : qj_ (Int.ofNat c.toNat, ()) = some (w1 c.toNat, ()) := qdw_ c
  have e2 : ql_ (Int.ofNat c.toNat, ()) = some (n1 c.toNat, ()) := qdv_ c
  have e3 : qm_ (Int.ofNat c.toNat, ()) = some (Lx.e1 c.toNat, ()) := qdp_ c
  simp only [e4, Bool.false_eq_true, if_false, at_zero, Option.bind_some]
  rw [e1, e2, e3]
  simp only [Option.bind_some]
  cases hw : w1 c.toNat
  · cases hn : n1 c.toNat
    · cases he : Lx.e1 c.toNat
      · simp only [Bool.false_eq_true, if_false, if_true]
        rw [amb2 hr]
        exact amb3 hr _
      · simp only [Bool.false_eq_true, if_false, if_true]
        rw [amb2 hr]
        exact amb3 hr _
    · have he := x2 hn
      rw [he]
      simp only [Bool.false_eq_true, if_false, if_true]
      rw [amb2 hr]
      exact amb3 hr _
  · obtain ⟨hn, he⟩ := x1 hw
    rw [hn, he]
    simp only [Bool.false_eq_true, if_false, if_true]
    rw [amb2 hr]
    exact amb3 hr _
theorem c1n_step (g : Int -> List UInt8 -> Option (As [.str, .str])) (n : Int) (t : List UInt8) : q79_ (q5j_ g) g n t = if lt n (Int.ofNat t.length) = true then (at? t n).bind fun c => (q32_ (Int.ofNat c.toNat, ())).bind fun y => if y.1 = true then g (add .i64 n 1) t else q4k_ n t else q4k_ n t := rfl
theorem c1n_app (p q : List UInt8) : q4k_ (p.length : Int) (p ++ q) = some (p, q, ()) := by
  unfold q4k_
  rw [cut_app0, Option.bind_some, cut_app1, Option.bind_some]
theorem c1n_loop : ∀ (q p : List UInt8) (n : Nat), q.length < n -> p.length + q.length < 1000000 ->
    loopF (fun (self : Int × List UInt8 -> Option (As [.str, .str])) (s : Int × List UInt8) => q79_ (q5j_ (fun n t1 => self (n, t1))) (fun n t1 => self (n, t1)) s.1 s.2) n ((p.length : Int), p ++ q) =
      some (p ++ q.takeWhile (fun c => nm c.toNat), q.dropWhile (fun c => nm c.toNat), ())
  | q, p, 0, h, _ => by omega
  | [], p, n + 1, h, hl => by
    have h1 : lt (p.length : Int) (Int.ofNat (p ++ []).length) = false := by simp [lt]
    refine (c1n_step _ _ _).trans ?_
    rw [if_neg (by rw [h1]; decide), c1n_app]
    simp
  | c :: q, p, n + 1, h, hl => by
    have h1 : lt (p.length : Int) (Int.ofNat (p ++ c :: q).length) = true := by simp [lt]; omega
    have ih := c1n_loop q (p ++ [c]) n (by simp at h; omega) (by simp at hl ⊢; omega)
    refine (c1n_step _ _ _).trans ?_
    rw [if_pos h1, at_app, Option.bind_some, qdn_, Option.bind_some]
    cases hb : nm c.toNat
    · simp only [Bool.false_eq_true, if_false, c1n_app, List.takeWhile_cons, List.dropWhile_cons, hb, List.append_nil]
    · have ha : add .i64 (p.length : Int) 1 = ((p ++ [c]).length : Int) := by
        unfold add
        rw [w64 (by omega) (by simp at hl; omega)]
        simp
      have e : p ++ c :: q = (p ++ [c]) ++ q := by simp
      simp only [if_true, ha, List.takeWhile_cons, List.dropWhile_cons, hb]
      rw [e, ih]
      simp
theorem c1n_eq (c : UInt8) (q : List UInt8) (h : q.length < 100000) : q7j_ (c :: q, ()) = some (c :: q.takeWhile (fun c => nm c.toNat), q.dropWhile (fun c => nm c.toNat), ()) :=
  c1n_loop q [c] 18446744073709551616 (by omega) (by simp; omega)
theorem c1e_eq (c : UInt8) (q : List UInt8) : q7l_ (c :: q, ()) = some ([c], q, ()) := by
  have hm3 : q7c_ 1 (c :: q) = some ([c], q, ()) := by
    unfold q7c_
    have h1 : cut (c :: q) 0 1 = some [c] := cut_app0 [c] q
    rw [h1, Option.bind_some, cut_one, Option.bind_some]
  have step : ∀ (g : Int -> List UInt8 -> Option (As [.str, .str])), q74_ (q4g_ g) g 1 (c :: q) = some ([c], q, ()) := fun g => by
    unfold q74_
    have hK : q4g_ g 1 false (c :: q) = some ([c], q, ()) := by
      unfold q4g_ q9e_
      rw [if_neg (by decide)]
      exact hm3
    have hf : ∀ x, q3x_ (x, ()) = some (false, ()) := fun x => rfl
    cases q with
    | nil => rw [if_neg (by simp [lt])]; exact hK
    | cons d r =>
      rw [if_pos (by rw [q19_, q4_]; simp; omega), show at? (c :: d :: r) 1 = some d from rfl, Option.bind_some, hf, Option.bind_some]
      exact hK
  exact step _
def tokS (a : Int) (c : UInt8) (q : List UInt8) : Int ⊕ (Tk1 × List UInt8) :=
  if w1 c.toNat then (if 20 < (c :: q.takeWhile (fun c => wm c.toNat)).length then .inl 133 else .inr ((1, c :: q.takeWhile (fun c => wm c.toNat), (0, 0), a), q.dropWhile (fun c => wm c.toNat)))
  else if n1 c.toNat then (if (parseS (c :: q.takeWhile (fun c => nm c.toNat))).2 = true then .inr ((2, c :: q.takeWhile (fun c => nm c.toNat), (parseS (c :: q.takeWhile (fun c => nm c.toNat))).1, a), q.dropWhile (fun c => nm c.toNat)) else .inl 132)
  else if e1 c.toNat then .inr ((3, [c], (0, 0), a), q)
  else .inl 131
theorem tokS_len {a : Int} {c : UInt8} {q : List UInt8} {t : Tk1} {r : List UInt8} (h : tokS a c q = .inr (t, r)) : r.length ≤ q.length := by
  have hd : ∀ p : UInt8 -> Bool, (q.dropWhile p).length ≤ q.length := fun p => (List.dropWhile_suffix p).length_le
  unfold tokS at h
  split at h
  · split at h
    · cases h
    · cases h; exact hd _
  · split at h
    · split at h
      · cases h; exact hd _
      · cases h
    · split at h
      · cases h; exact Nat.le_refl _
      · cases h
theorem line_tok (self : Int × List UInt8 × TL -> Option RL) (a : Int) (t : List UInt8) (c : UInt8) (q : List UInt8) (l : TL) (ht : strings_TrimLeft (t, [9, 13, 32], ()) = some (c :: q, ())) (hq : q.length < 100000) (hl : l.length < 1000000) :
    lineB self (a, t, l) = match tokS a c q with
      | .inl e => some ([], e, ())
      | .inr (tk, r) => self (a, r, l ++ [tk]) := by
  refine (amb_kind _ _ _ a t c q l ht).trans ?_
  have hs : small (l.length + 1) = true := small_iff.2 (by omega)
  unfold q8z_ qbx_ kd tokS
  cases hw : w1 c.toNat
  · cases hn : n1 c.toNat
    · cases he : Lx.e1 c.toNat
      · rfl
      · simp only [Bool.false_eq_true, if_false, if_true]
        rw [if_neg (by decide), if_neg (by decide), if_pos (by decide), c1e_eq, Option.bind_some]
        unfold q6v_ qb6_
        simp only [Option.bind_some]
        rw [if_neg (by decide), need_t hs]
    · simp only [Bool.false_eq_true, if_false, if_true]
      rw [if_neg (by decide), if_pos (by decide), c1n_eq c q hq, Option.bind_some]
      have hlen : (c :: q.takeWhile (fun c => nm c.toNat)).length < 1000000 := by
        have := (List.takeWhile_prefix (l := q) (fun c => nm c.toNat)).length_le
        simp; omega
      generalize c :: q.takeWhile (fun c => nm c.toNat) = u at hlen ⊢
      unfold q9t_ qcs_
      simp only
      rw [parse_eq hlen, Option.bind_some]
      cases hp : (parseS u).2
      · simp only [Bool.not_false, if_true, Option.bind_some, Bool.false_eq_true, if_false]
        rw [if_pos (by decide)]
      · simp only [Bool.not_true, if_true, Option.bind_some, Bool.false_eq_true, if_false]
        rw [if_neg (by decide), need_t hs]
  · simp only [if_true]
    rw [if_pos (by decide), qhj_ c q hq, Option.bind_some]
    generalize c :: q.takeWhile (fun c => wm c.toNat) = u
    unfold qbi_ qe0_
    by_cases h : 20 < u.length
    · have h2 : gt (Int.ofNat u.length) 20 = true := by simp [gt]; omega
      simp only [h2, if_true, Option.bind_some, if_pos h]
      rw [if_pos (by decide)]
    · have h2 : gt (Int.ofNat u.length) 20 = false := by simp [gt]; omega
      simp only [h2, Bool.false_eq_true, if_false, Option.bind_some, if_neg h]
      rw [if_neg (by decide), need_t hs]
def lineT (a : Int) (s : List UInt8) (l : TL) : TL × Int :=
  match h : s.dropWhile (fun c => isB c.toNat) with
  | [] => (if l = [] then [] else l ++ [(4, [], (0, 0), a)], 0)
  | c :: q => match h2 : tokS a c q with
    | .inl e => ([], e)
    | .inr (t, r) => lineT a r (l ++ [t])
termination_by s.length
decreasing_by
  have h1 := tokS_len h2
  have h3 := (List.dropWhile_suffix (l := s) (fun c => isB c.toNat)).length_le
  rw [h] at h3
  simp at h3
  omega
theorem lineT_nil {a : Int} {s : List UInt8} {l : TL} (h : s.dropWhile (fun c => isB c.toNat) = []) : lineT a s l = (if l = [] then [] else l ++ [(4, [], (0, 0), a)], 0) := by
  rw [lineT]
  split
  · rfl
  · rename_i h2; rw [h] at h2; cases h2
theorem lineT_err {a : Int} {s : List UInt8} {l : TL} {c : UInt8} {q : List UInt8} {e : Int} (h : s.dropWhile (fun c => isB c.toNat) = c :: q) (h2 : tokS a c q = .inl e) : lineT a s l = ([], e) := by
  rw [lineT]
  split
  · rename_i h3; rw [h] at h3; cases h3
  · rename_i c' q' h3
    rw [h] at h3
    cases h3
    split
    · rename_i e' h4; rw [h2] at h4; cases h4; rfl
    · rename_i h4; rw [h2] at h4; cases h4
theorem lineT_tok {a : Int} {s : List UInt8} {l : TL} {c : UInt8} {q : List UInt8} {t : Tk1} {r : List UInt8} (h : s.dropWhile (fun c => isB c.toNat) = c :: q) (h2 : tokS a c q = .inr (t, r)) : lineT a s l = lineT a r (l ++ [t]) := by
  rw [lineT]
  split
  · rename_i h3; rw [h] at h3; cases h3
  · rename_i c' q' h3
    rw [h] at h3
    cases h3
    split
    · rename_i e' h4; rw [h2] at h4; cases h4
    · rename_i t' r' h4; rw [h2] at h4; cases h4; rfl
theorem line_loop : ∀ (n : Nat) (st : Int × List UInt8 × TL), (st.2.1.length < 90000 ∧ st.2.2.length + st.2.1.length < 100000) -> st.2.1.length < n -> loopF lineB n st = some ((lineT st.1 st.2.1 st.2.2).1, (lineT st.1 st.2.1 st.2.2).2, ()) := by
  refine loopF_eq (σ := Int × List UInt8 × TL) (μ := fun st => st.2.1.length) (G := fun st => some ((lineT st.1 st.2.1 st.2.2).1, (lineT st.1 st.2.1 st.2.2).2, ())) ?_
  rintro self ⟨a, s, l⟩ ⟨h1, h2⟩ ih
  simp only at h1 h2 ih ⊢
  have h3 := (List.dropWhile_suffix (l := s) (fun c => isB c.toNat)).length_le
  have ht := strings_TrimLeft_eq (s := s) (by omega)
  cases hd : s.dropWhile (fun c => isB c.toNat) with
  | nil =>
    rw [lineT_nil hd]
    rw [hd] at ht
    show q6e_ _ _ _ a s l = _
    unfold q6e_
    rw [ht, Option.bind_some, if_pos (by decide)]
    unfold q8y_ qc0_
    cases l with
    | nil => rfl
    | cons x y =>
      rw [if_pos (by rw [gt_iff, q4_]; simp), q1b_ (by simp at h2 ⊢; omega)]
      rfl
  | cons c q =>
    rw [hd] at ht h3
    simp at h3
    rw [line_tok self a s c q l ht (by omega) (by omega)]
    cases h4 : tokS a c q with
    | inl e => rw [lineT_err hd h4]
    | inr p =>
      obtain ⟨t, r⟩ := p
      rw [lineT_tok hd h4]
      have h5 := tokS_len h4
      exact ih (a, r, l ++ [t]) ⟨by show r.length < _; omega, by show (l ++ [t]).length + r.length < _; simp; omega⟩ (by show r.length < _; omega)
def uncom (s : List UInt8) : List UInt8 := s.takeWhile (· != 35)
theorem line_eq (s : List UInt8) (n : Int) (h : s.length < 80000) : q89_ (s, n, ()) = some ((lineT n (uncom s) []).1, (lineT n (uncom s) []).2, ()) := by
  show qaq_ q8x_ s n = _
  unfold qaq_
  have go : ∀ t : List UInt8, t.length < 80000 -> q8x_ n t [] = some ((lineT n t []).1, (lineT n t []).2, ()) := fun t ht => line_loop 18446744073709551616 (n, t, []) ⟨by show t.length < _; omega, by show ([] : TL).length + t.length < _; simp; omega⟩ (by show t.length < _; omega)
  by_cases he : s = [35]
  · subst he
    rw [if_pos (by decide), show cut ([35] : List UInt8) 1 (Int.ofNat [(35 : UInt8)].length) = some [] from rfl, Option.bind_some]
    exact go [] (by simp)
  · rw [if_neg (by rw [eqs_iff]; exact fun h => he h.symm)]
    rcases split_at 35 s with h35 | ⟨p, q, rfl, h35⟩
    · rw [index_no 35 s h35, if_neg (by decide)]
      have : uncom s = s := (tw_no h35).1
      rw [this]
      exact go s h
    · simp at h
      rw [index_yes 35 p q h35, if_pos (by rw [ge_iff]; omega), cut_app0, Option.bind_some, succ64 (by omega), cut_from (by simp), Option.bind_some]
      have : uncom (p ++ 35 :: q) = p := (tw_yes h35).1
      rw [this]
      exact go p (by omega)
end Go.Proofs.Lx
end
section
namespace Go.Proofs.Lx
open Go Ev Sx Pl
set_option maxRecDepth 10000
abbrev LR := As [.sl (.pr (.int .u8) (.pr .str (.pr (.pr (.int .i64) (.int .u8)) (.int .i64)))), .pr (.int .i64) (.int .i64)]
abbrev lexB (self : (List UInt8) × Int × Int × Int × TL -> Option LR) (s : (List UInt8) × Int × Int × Int × TL) : Option LR :=
  q9q_ (qbb_) (fun text n t3 t3_2 l => self (text, n, t3, t3_2, l)) s.1 s.2.1 s.2.2.1 s.2.2.2.1 s.2.2.2.2
end Go.Proofs.Lx
end
section
namespace Go.Proofs.Lx
open Go Ev Sx Pl
set_option maxRecDepth 10000
def q1m_ (s : List UInt8) : List UInt8 := s.takeWhile (· != 10)
def lrest (s : List UInt8) : List UInt8 := (s.dropWhile (· != 10)).drop 1
theorem lrest_len {s : List UInt8} (h : s ≠ []) : (lrest s).length < s.length := by
  have h3 := (List.dropWhile_suffix (l := s) (· != 10)).length_le
  have hp := List.length_pos_iff.2 h
  unfold lrest
  simp
  omega
def lexS (n : Int) (s : List UInt8) (l : TL) : TL × (Int × Int) :=
  if h : s = [] then (l, (0, 0)) else if (lineT n (uncom (q1m_ s)) []).2 ≠ 0 then ([], ((lineT n (uncom (q1m_ s)) []).2, n)) else lexS (n + 1) (lrest s) (l ++ (lineT n (uncom (q1m_ s)) []).1)
termination_by s.length
decreasing_by exact lrest_len h
def tkEnd (n : Int) : Tk1 := (4, [], (0, 0), n)
theorem tokS_err {a : Int} {c : UInt8} {q : List UInt8} {e : Int} (h : tokS a c q = .inl e) : e ≠ 0 := by
  unfold tokS at h
  split at h
  · split at h
    · cases h; decide
    · cases h
  · split at h
    · split at h
      · cases h
      · cases h; decide
    · split at h
      · cases h
      · cases h; decide
theorem not_blank_head {c : UInt8} {s : List UInt8} (h : isB c.toNat = false) : (c :: s).dropWhile (fun c => isB c.toNat) = c :: s := by simp [h]
end Go.Proofs.Lx
end
section
namespace Go.Proofs.Lx
open Go Ev Sx Pl
set_option maxRecDepth 10000
theorem lineT_len (a : Int) : ∀ (k : Nat) (s : List UInt8) (l : TL), s.length ≤ k -> (lineT a s l).1.length ≤ l.length + s.length + 1 := by
  intro k
  induction k with
  | zero =>
    intro s l hs
    have : s = [] := List.eq_nil_of_length_eq_zero (by omega)
    subst this
    rw [lineT_nil rfl]
    dsimp only
    split <;> simp
  | succ k ih =>
    intro s l hs
    have h3 := (List.dropWhile_suffix (l := s) (fun c => isB c.toNat)).length_le
    cases hd : s.dropWhile (fun c => isB c.toNat) with
    | nil =>
      rw [lineT_nil hd]
      dsimp only
      split
      · simp
      · simp
    | cons c q =>
      rw [hd] at h3
      simp at h3
      cases ht : tokS a c q with
      | inl e => rw [lineT_err hd ht]; simp
      | inr p =>
        obtain ⟨t, r⟩ := p
        rw [lineT_tok hd ht]
        have h4 := tokS_len ht
        have := ih r (l ++ [t]) (by omega)
        simp at this
        omega
theorem uncom_len (s : List UInt8) : (uncom s).length ≤ s.length := (List.takeWhile_prefix _).length_le
theorem lexS_step {n : Int} {s : List UInt8} {l : TL} (h : s ≠ []) : lexS n s l = if (lineT n (uncom (q1m_ s)) []).2 ≠ 0 then ([], ((lineT n (uncom (q1m_ s)) []).2, n)) else lexS (n + 1) (lrest s) (l ++ (lineT n (uncom (q1m_ s)) []).1) := by
  rw [lexS, dif_neg h]
theorem qmb_ : ∀ (k : Nat) (st : List UInt8 × Int × Int × Int × TL), (st.1.length ≤ 20000 ∧ 0 ≤ st.2.1 ∧ st.2.1 + st.1.length ≤ 100000 ∧ st.2.2.1 = 0 ∧ st.2.2.2.1 = 0 ∧ st.2.2.2.2.length + 2 * st.1.length ≤ 100000) -> st.1.length < k ->
    loopF lexB k st = some ((lexS st.2.1 st.1 st.2.2.2.2).1, (lexS st.2.1 st.1 st.2.2.2.2).2, ()) := by
  refine loopF_eq (σ := List UInt8 × Int × Int × Int × TL) (μ := fun st => st.1.length) (G := fun st => some ((lexS st.2.1 st.1 st.2.2.2.2).1, (lexS st.2.1 st.1 st.2.2.2.2).2, ())) ?_
  rintro self ⟨s, n, x, y, l⟩ ⟨h1, h2, h3, rfl, rfl, h4⟩ ih
  simp only at h1 h2 h3 h4 ih ⊢
  show q9q_ _ _ s n 0 0 l = _
  by_cases hne : s = []
  · subst hne
    rw [lexS, dif_pos rfl]
    rfl
  · have hlen := lrest_len hne
    have hpos := List.length_pos_iff.2 hne
    unfold q9q_
    rw [if_pos (by rw [nes_iff]; exact hne), lexS_step hne]
    have hadd : add .i64 n 1 = n + 1 := add64 (by omega) (by omega)
    have go : ∀ (f r : List UInt8), q1m_ s = f -> lrest s = r -> f.length ≤ s.length -> f.length + r.length ≤ s.length -> ((q89_ (f, n, ())).bind fun y => if nei y.2.1 0 = true then some ([], (y.2.1, n), ()) else need (small (l.length + y.1.length)) (self (r, add .i64 n 1, 0, 0, l ++ y.1))) =
        some ((if (lineT n (uncom (q1m_ s)) []).2 ≠ 0 then (([] : TL), ((lineT n (uncom (q1m_ s)) []).2, n)) else lexS (n + 1) (lrest s) (l ++ (lineT n (uncom (q1m_ s)) []).1)).1, (if (lineT n (uncom (q1m_ s)) []).2 ≠ 0 then (([] : TL), ((lineT n (uncom (q1m_ s)) []).2, n)) else lexS (n + 1) (lrest s) (l ++ (lineT n (uncom (q1m_ s)) []).1)).2, ()) := by
      intro f r ef er hf hfr
      rw [ef, er, line_eq f n (by omega), Option.bind_some]
      rw [er] at hlen
      have hb := lineT_len n _ (uncom f) [] (Nat.le_refl _)
      have hu := uncom_len f
      simp at hb
      by_cases he : (lineT n (uncom f) []).2 = 0
      · rw [if_neg (by rw [qq_]; simpa using he), if_neg (by simpa using he), q1b_ (by simp; omega), hadd]
        exact ih (r, n + 1, 0, 0, l ++ (lineT n (uncom f) []).1) ⟨by show r.length ≤ _; omega, by show 0 ≤ n + 1; omega, by show n + 1 + (r.length : Int) ≤ _; omega, rfl, rfl, by show (l ++ _).length + 2 * r.length ≤ _; simp; omega⟩ (by show r.length < _; omega)
      · rw [if_pos (by rw [qq_]; exact he), if_pos he]
    by_cases he : s = [10]
    · subst he
      rw [if_pos (by decide), show cut ([10] : List UInt8) 1 (Int.ofNat [(10 : UInt8)].length) = some [] from rfl, Option.bind_some]
      exact go [] [] rfl rfl (by simp) (by simp)
    · rw [if_neg (by rw [eqs_iff]; exact fun h => he h.symm)]
      rcases split_at 10 s with h10 | ⟨p, q, rfl, h10⟩
      · rw [index_no 10 s h10, if_neg (by decide)]
        exact go s [] (tw_no h10).1 (by unfold lrest; rw [(tw_no h10).2.1]; rfl) (Nat.le_refl _) (by simp)
      · simp at h1 h3 h4
        rw [index_yes 10 p q h10, if_pos (by rw [ge_iff]; omega), cut_app0, Option.bind_some, succ64 (by omega), cut_from (by simp), Option.bind_some]
        have : (p ++ 10 :: q).drop (p.length + 1) = q := by simp
        rw [this]
        exact go p q (tw_yes h10).1 (by unfold lrest; rw [(tw_yes h10).2.1]; rfl) (by simp) (by simp)
def lexR (s : List UInt8) : TL × (Int × Int) := if 8192 < s.length then ([], (130, 0)) else lexS 1 s []
theorem lex_eq (s : List UInt8) : qc6_ (s, ()) = some ((lexR s).1, (lexR s).2, ()) := by
  show qbe_ qbd_ s = _
  unfold qbe_ lexR
  by_cases h : 8192 < s.length
  · rw [if_pos (by rw [gt_iff, q4_]; omega), if_pos h]
  · rw [if_neg (by rw [gt_iff, q4_]; omega), if_neg h]
    exact qmb_ 18446744073709551616 (s, 1, 0, 0, []) ⟨by show s.length ≤ _; omega, by show (0 : Int) ≤ 1; decide, by show (1 : Int) + s.length ≤ _; omega, rfl, rfl, by show ([] : TL).length + 2 * s.length ≤ _; simp; omega⟩ (by show s.length < _; omega)
abbrev RLx := As [.sl (.pr (.int .u8) (.pr .str (.pr (.pr (.int .i64) (.int .u8)) (.int .i64)))), .pr (.int .i64) (.int .i64)]
def pkR (x : TL × (Int × Int)) : Option RLx := some (x.1, x.2, ())
end Go.Proofs.Lx
end
section
namespace Go.Proofs.Lx
open Go Ev Sx Pl
set_option maxRecDepth 100000
abbrev dd (n : Nat) : List UInt8 := Lib.decDigits n
theorem dd_small {n : Nat} (h : n < 10) : dd n = [UInt8.ofNat (48 + n)] := by rw [dd, Lib.decDigits, dif_pos h]
theorem dd_big {n : Nat} (h : ¬ n < 10) : dd n = dd (n / 10) ++ [UInt8.ofNat (48 + n % 10)] := by
  conv => lhs; rw [dd, Lib.decDigits, dif_neg h]
theorem dig8 {k : Nat} (h : k < 10) : (UInt8.ofNat (48 + k)).toNat = 48 + k := by
  rw [UInt8.toNat_ofNat']
  omega
theorem dd_dig (n : Nat) : ∀ c ∈ dd n, dg c = true := by
  induction n using Nat.strongRecOn with
  | ind n ih =>
    intro c hc
    by_cases h : n < 10
    · rw [dd_small h] at hc
      cases List.mem_singleton.1 hc
      rw [dg_iff, dig8 h]
      omega
    · rw [dd_big h] at hc
      rcases List.mem_append.1 hc with hc | hc
      · exact ih (n / 10) (by omega) c hc
      · cases List.mem_singleton.1 hc
        rw [dg_iff, dig8 (by omega)]
        omega
theorem dd_ne (n : Nat) : dd n ≠ [] := by
  by_cases h : n < 10
  · rw [dd_small h]; simp
  · rw [dd_big h]; simp
theorem dvn_dig {a : Int} {k : Nat} (h : k < 10) : dvn a [UInt8.ofNat (48 + k)] = 10 * a + k := by
  show 10 * a + (((UInt8.ofNat (48 + k)).toNat : Int) - 48) = _
  rw [dig8 h]
  omega
theorem dvn_dd (n : Nat) : dvn 0 (dd n) = n := by
  induction n using Nat.strongRecOn with
  | ind n ih =>
    by_cases h : n < 10
    · rw [dd_small h, dvn_dig h]
      omega
    · rw [dd_big h, dvn_app, ih (n / 10) (by omega), dvn_dig (by omega)]
      omega
theorem dd_head {n : Nat} (h : 1 ≤ n) : (dd n)[0]? ≠ some 48 := by
  induction n using Nat.strongRecOn with
  | ind n ih =>
    by_cases h1 : n < 10
    · rw [dd_small h1]
      intro e
      have e : UInt8.ofNat (48 + n) = 48 := Option.some.inj e
      have := congrArg UInt8.toNat e
      rw [dig8 h1] at this
      have e48 : (48 : UInt8).toNat = 48 := rfl
      omega
    · rw [dd_big h1, List.getElem?_append_left (by have := dd_ne (n / 10); exact List.length_pos_iff.2 this)]
      exact ih (n / 10) (by omega) (by omega)
theorem dd_one {n : Nat} (h : 1 < (dd n).length) : (dd n)[0]? ≠ some 48 := by
  refine dd_head ?_
  rcases Nat.eq_zero_or_pos n with h0 | h0
  · subst h0
    rw [dd_small (by omega)] at h
    simp at h
  · exact h0
theorem dd_len {n k : Nat} (hk : 1 ≤ k) (h : n < 10 ^ k) : (dd n).length ≤ k := by
  induction n using Nat.strongRecOn generalizing k with
  | ind n ih =>
    by_cases h1 : n < 10
    · rw [dd_small h1]
      exact hk
    · rw [dd_big h1]
      obtain ⟨j, rfl⟩ : ∃ j, k = j + 2 := ⟨k - 2, by
        have : k ≠ 1 := fun e => by subst e; omega
        omega⟩
      have := ih (n / 10) (by omega) (k := j + 1) (by omega) (by rw [Nat.pow_succ] at h; omega)
      simp
      omega
def fx : Nat -> Nat -> List UInt8
  | 0, _ => []
  | k + 1, m => fx k (m / 10) ++ [UInt8.ofNat (48 + m % 10)]
theorem fx_len : ∀ k m, (fx k m).length = k
  | 0, _ => rfl
  | k + 1, m => by rw [fx, List.length_append, fx_len k]; rfl
theorem fx_zero : ∀ k, fx k 0 = List.replicate k 48
  | 0 => rfl
  | k + 1 => by
    rw [fx, Nat.zero_div, fx_zero k, List.replicate_succ']
    rfl
theorem fx_dig : ∀ k m, ∀ c ∈ fx k m, dg c = true
  | 0, _, c, h => by cases h
  | k + 1, m, c, h => by
    rw [fx] at h
    rcases List.mem_append.1 h with h | h
    · exact fx_dig k _ c h
    · cases List.mem_singleton.1 h
      rw [dg_iff, dig8 (by omega)]
      omega
theorem dvn_fx : ∀ (k m : Nat) (a : Int), m < 10 ^ k -> dvn a (fx k m) = a * ((10 ^ k : Nat) : Int) + m
  | 0, m, a, h => by
    have h : m < 1 := by simpa using h
    have : m = 0 := by omega
    subst this
    show a = a * 1 + 0
    omega
  | k + 1, m, a, h => by
    rw [fx, dvn_app, dvn_fx k (m / 10) a (by rw [Nat.pow_succ] at h; omega), dvn_dig (by omega), Nat.pow_succ]
    push_cast
    have : (m : Int) = 10 * ((m / 10 : Nat) : Int) + ((m % 10 : Nat) : Int) := by omega
    rw [Int.mul_add, <- Int.mul_assoc, Int.mul_comm 10 a, Int.mul_assoc, Int.mul_comm 10]
    omega
theorem pad_fx : ∀ (k m : Nat), 1 ≤ k -> m < 10 ^ k -> List.replicate (k - (dd m).length) 48 ++ dd m = fx k m
  | 0, _, h, _ => by omega
  | k + 1, m, _, h => by
    by_cases h1 : m < 10
    · rw [dd_small h1, fx, Nat.div_eq_of_lt h1, fx_zero, Nat.mod_eq_of_lt h1]
      rfl
    · have hk : 1 ≤ k := by
        rcases Nat.eq_zero_or_pos k with e | e
        · subst e; simp at h; omega
        · exact e
      have ih := pad_fx k (m / 10) hk (by rw [Nat.pow_succ] at h; omega)
      rw [dd_big h1, fx, <- ih, List.length_append, List.append_assoc]
      congr 2
      show k + 1 - ((dd (m / 10)).length + 1) = _
      omega
theorem snoc_dig {c : UInt8} (h : dg c = true) : UInt8.ofNat (48 + (c.toNat - 48)) = c := by
  have := dg_iff.1 h
  rw [show 48 + (c.toNat - 48) = c.toNat by omega, UInt8.ofNat_toNat]
theorem dvn_nat : ∀ (r : List UInt8), (∀ c ∈ r, dg c = true) -> ∃ m : Nat, dvn 0 r = m ∧ m < 10 ^ r.length ∧ fx r.length m = r := by
  have : ∀ (k : Nat) (r : List UInt8), r.length = k -> (∀ c ∈ r, dg c = true) -> ∃ m : Nat, dvn 0 r = m ∧ m < 10 ^ r.length ∧ fx r.length m = r := by
    intro k
    induction k with
    | zero =>
      intro r h _
      have := List.eq_nil_of_length_eq_zero h
      subst this
      exact ⟨0, rfl, by decide, rfl⟩
    | succ k ih =>
      intro r h hd
      rcases snoc_cases r with rfl | ⟨q, c, rfl⟩
      · simp at h
      · have hq : q.length = k := by simpa using h
        obtain ⟨m, h1, h2, h3⟩ := ih q hq (fun x hx => hd x (List.mem_append_left _ hx))
        have hc := hd c (by simp)
        have hc' := dg_iff.1 hc
        refine ⟨10 * m + (c.toNat - 48), ?_, ?_, ?_⟩
        · rw [dvn_app, h1]
          show 10 * (m : Int) + ((c.toNat : Int) - 48) = _
          omega
        · rw [List.length_append]
          show _ < 10 ^ (q.length + 1)
          rw [Nat.pow_succ]
          omega
        · rw [List.length_append]
          show fx (q.length + 1) _ = _
          rw [fx, show (10 * m + (c.toNat - 48)) / 10 = m by omega, h3, show (10 * m + (c.toNat - 48)) % 10 = c.toNat - 48 by omega, snoc_dig hc]
  exact fun r => this r.length r rfl
theorem canon : ∀ (k : Nat) (w : List UInt8), w.length = k -> (∀ c ∈ w, dg c = true) -> w ≠ [] -> ¬ (1 < w.length ∧ w[0]? = some 48) -> ∃ n : Nat, dvn 0 w = n ∧ dd n = w := by
  intro k
  induction k with
  | zero => intro w h _ hne _; exact absurd (List.eq_nil_of_length_eq_zero h) hne
  | succ k ih =>
    intro w h hd hne hz
    rcases snoc_cases w with rfl | ⟨q, c, rfl⟩
    · exact absurd rfl hne
    · have hq : q.length = k := by simpa using h
      have hc := hd c (by simp)
      have hc' := dg_iff.1 hc
      by_cases hqn : q = []
      · subst hqn
        refine ⟨c.toNat - 48, ?_, ?_⟩
        · show 10 * (0 : Int) + ((c.toNat : Int) - 48) = _
          omega
        · rw [dd_small (by omega), snoc_dig hc]
          rfl
      · have hpos := List.length_pos_iff.2 hqn
        have hz0 : q[0]? ≠ some 48 := fun e => hz ⟨by simp; omega, by rw [List.getElem?_append_left hpos]; exact e⟩
        obtain ⟨n, h1, h2⟩ := ih q hq (fun x hx => hd x (List.mem_append_left _ hx)) hqn (fun e => hz0 e.2)
        have hn : n ≠ 0 := fun e => by
          subst e
          rw [<- h2, dd_small (by omega)] at hz0
          exact hz0 rfl
        refine ⟨10 * n + (c.toNat - 48), ?_, ?_⟩
        · rw [dvn_app, h1]
          show 10 * (n : Int) + ((c.toNat : Int) - 48) = _
          omega
        · rw [dd_big (by omega), show (10 * n + (c.toNat - 48)) / 10 = n by omega, h2, show (10 * n + (c.toNat - 48)) % 10 = c.toNat - 48 by omega, snoc_dig hc]
theorem stripz_fx {k m : Nat} (hk : 1 ≤ k) (hm : m % 10 ≠ 0) : q7_ (fx k m) = fx k m := by
  obtain ⟨j, rfl⟩ : ∃ j, k = j + 1 := ⟨k - 1, by omega⟩
  rw [fx]
  refine stripz_snoc _ fun e => ?_
  have := congrArg UInt8.toNat e
  rw [dig8 (by omega)] at this
  have e48 : (48 : UInt8).toNat = 48 := rfl
  omega
theorem stripz_rep (q : List UInt8) : ∀ k, q7_ (q ++ List.replicate k 48) = q7_ q
  | 0 => by simp
  | k + 1 => by rw [List.replicate_succ', <- List.append_assoc, stripz_snoc0, stripz_rep q k]
theorem stripz_dot (a : List UInt8) : ∀ q : List UInt8, q7_ (a ++ 46 :: q) = a ++ 46 :: q7_ q := by
  have : ∀ (k : Nat) (q : List UInt8), q.length = k -> q7_ (a ++ 46 :: q) = a ++ 46 :: q7_ q := by
    intro k
    induction k with
    | zero =>
      intro q h
      have := List.eq_nil_of_length_eq_zero h
      subst this
      exact stripz_snoc a (by decide)
    | succ k ih =>
      intro q h
      rcases snoc_cases q with rfl | ⟨p, c, rfl⟩
      · simp at h
      · have hp : p.length = k := by simpa using h
        have e : a ++ 46 :: (p ++ [c]) = (a ++ 46 :: p) ++ [c] := by simp
        rw [e]
        by_cases hc : c = 48
        · subst hc
          rw [stripz_snoc0, stripz_snoc0, ih p hp]
        · rw [stripz_snoc _ hc, stripz_snoc _ hc]
          simp
  exact fun q => this q.length q rfl
theorem stripz_last : ∀ (q : List UInt8), q7_ q = [] ∨ ∃ p c, q7_ q = p ++ [c] ∧ c ≠ 48 := by
  have : ∀ (k : Nat) (q : List UInt8), q.length = k -> q7_ q = [] ∨ ∃ p c, q7_ q = p ++ [c] ∧ c ≠ 48 := by
    intro k
    induction k with
    | zero =>
      intro q h
      have := List.eq_nil_of_length_eq_zero h
      subst this
      exact .inl rfl
    | succ k ih =>
      intro q h
      rcases snoc_cases q with rfl | ⟨p, c, rfl⟩
      · exact .inl rfl
      · by_cases hc : c = 48
        · subst hc
          rw [stripz_snoc0]
          exact ih p (by simpa using h)
        · rw [stripz_snoc _ hc]
          exact .inr ⟨p, c, rfl, hc⟩
  exact fun q => this q.length q rfl
end Go.Proofs.Lx
end
section
namespace Go.Proofs.Lx
open Go Ev Sx Pl
set_option maxRecDepth 100000
structure RtD (d : Int × Int) (sg : Bool) (n D : Nat) : Prop where
  e1 : d.1 = if sg then -(n : Int) else (n : Int)
  e2 : d.2 = (D : Int)
  nz : sg = true -> n ≠ 0
  le : n ≤ 1000000000000
  d6 : D ≤ 6
  tz : D ≠ 0 -> n % 10 ≠ 0
def shw (sg : Bool) (n D : Nat) : List UInt8 := (if sg then [45] else []) ++ dd (n / 10 ^ D) ++ (if D = 0 then [] else 46 :: fx D (n % 10 ^ D))
theorem dot_no {w : List UInt8} (h : ∀ c ∈ w, dg c = true) : (46 : UInt8) ∉ w := fun hm => by
  have := dg_iff.1 (h 46 hm)
  have e : (46 : UInt8).toNat = 46 := rfl
  omega
theorem digs_of {w : List UInt8} (h : ∀ c ∈ w, dg c = true) (hne : w ≠ []) : digs w = true := digs_iff.2 ⟨h, hne⟩
theorem dd_ok (n : Nat) : ¬ (digs (dd n) = false ∨ (1 < (dd n).length ∧ (dd n)[0]? = some 48)) := by
  rintro (h | ⟨h1, h2⟩)
  · rw [digs_of (dd_dig n) (dd_ne n)] at h
    cases h
  · exact dd_one h1 h2
theorem pieces_no {sg : Bool} {n : Nat} (h : n ≤ 1000000000000) : q2n_ sg (dd n) [] false = ((if sg then -(n : Int) else (n : Int), 0), true) := by
  unfold q2n_
  have e : dvn (dvn 0 (dd n)) (q7_ []) = (n : Int) := by rw [dvn_dd]; rfl
  rw [if_neg (dd_ok n), if_neg (fun h => by cases h.1), e, if_neg (by omega)]
  rfl
theorem pieces_yes {sg : Bool} {q D m k : Nat} (hm : m < 10 ^ D) (hle : q * 10 ^ D + m ≤ 1000000000000) (hz : D ≠ 0 -> m % 10 ≠ 0) (hne : D + k ≠ 0) :
    q2n_ sg (dd q) (fx D m ++ List.replicate k 48) true = if D + k ≤ 6 then ((if sg then -((q * 10 ^ D + m : Nat) : Int) else ((q * 10 ^ D + m : Nat) : Int), (D : Int)), true) else ((0, 0), false) := by
  have hd : digs (fx D m ++ List.replicate k 48) = true := by
    refine digs_of (fun c hc => ?_) ?_
    · rcases List.mem_append.1 hc with hc | hc
      · exact fx_dig D m c hc
      · rw [List.eq_of_mem_replicate hc]
        rfl
    · intro e
      have := congrArg List.length e
      rw [List.length_append, fx_len, List.length_replicate] at this
      exact hne this
  have hl : (fx D m ++ List.replicate k 48).length = D + k := by rw [List.length_append, fx_len, List.length_replicate]
  have hs : q7_ (fx D m ++ List.replicate k 48) = fx D m := by
    rw [stripz_rep]
    by_cases h0 : D = 0
    · subst h0; rfl
    · exact stripz_fx (by omega) (hz h0)
  have hv : dvn (dvn 0 (dd q)) (fx D m) = ((q * 10 ^ D + m : Nat) : Int) := by
    rw [dvn_dd, dvn_fx D m _ hm]
    push_cast
    rfl
  unfold q2n_
  rw [if_neg (dd_ok q), hd, hl, hs, hv, fx_len]
  by_cases h6 : D + k ≤ 6
  · rw [if_neg (by rintro ⟨_, h | h⟩; cases h; omega), if_neg (by omega), if_pos h6]
  · rw [if_pos ⟨rfl, .inr (by omega)⟩, if_neg h6]
theorem parseS_sg {sg : Bool} {w t : List UInt8} (hw : ∀ c ∈ w, dg c = true) (hne : w ≠ []) : parseS ((if sg then [45] else []) ++ (w ++ t)) = parseT sg (w ++ t) := by
  unfold parseS
  cases sg with
  | true => rw [if_pos rfl]; rfl
  | false =>
    rcases w with _ | ⟨c, w⟩
    · exact absurd rfl hne
    · have hc := dg_iff.1 (hw c List.mem_cons_self)
      rw [if_neg]
      · rfl
      · intro e
        have e : c = 45 := Option.some.inj e
        subst e
        have e : (45 : UInt8).toNat = 45 := rfl
        omega
theorem div_mod (n D : Nat) : n / 10 ^ D * 10 ^ D + n % 10 ^ D = n := by
  rw [Nat.mul_comm]
  exact Nat.div_add_mod n (10 ^ D)
theorem mod_tz {n D : Nat} (hD : D ≠ 0) (h : n % 10 ≠ 0) : n % 10 ^ D % 10 ≠ 0 := by
  obtain ⟨k, rfl⟩ : ∃ k, D = k + 1 := ⟨D - 1, by omega⟩
  rw [Nat.mod_mod_of_dvd _ ⟨10 ^ k, by rw [Nat.pow_succ, Nat.mul_comm]⟩]
  exact h
theorem shw_said {sg : Bool} {n D : Nat} (hle : n ≤ 1000000000000) (h6 : D ≤ 6) (hz : D ≠ 0 -> n % 10 ≠ 0) : parseS (shw sg n D) = ((if sg then -(n : Int) else (n : Int), (D : Int)), true) := by
  unfold shw
  rw [List.append_assoc, parseS_sg (dd_dig _) (dd_ne _)]
  by_cases h0 : D = 0
  · subst h0
    rw [if_pos rfl, List.append_nil, Nat.pow_zero, Nat.div_one, parseT_no (dot_no (dd_dig n)), pieces_no hle]
    rfl
  · rw [if_neg h0, parseT_yes (dot_no (dd_dig _))]
    have h := pieces_yes (sg := sg) (q := n / 10 ^ D) (D := D) (m := n % 10 ^ D) (k := 0) (Nat.mod_lt _ (Nat.pow_pos (by omega))) (by rw [div_mod]; exact hle) (fun hD => mod_tz hD (hz hD)) (by omega)
    rw [div_mod, if_pos (by omega), List.replicate_zero, List.append_nil] at h
    exact h
def noDot (s : List UInt8) : List UInt8 := if s.getLast? = some 46 then s.dropLast else s
theorem noDot_snoc (p : List UInt8) (c : UInt8) : noDot (p ++ [c]) = if c = 46 then p else p ++ [c] := by
  unfold noDot
  rw [List.getLast?_concat, List.dropLast_concat]
  by_cases h : c = 46
  · rw [if_pos (by rw [h]), if_pos h]
  · rw [if_neg (fun e => h (Option.some.inj e)), if_neg h]
def shortS (s : List UInt8) : List UInt8 := if (46 : UInt8) ∈ s then noDot (q7_ s) else s
theorem split_dot : ∀ (t : List UInt8), (46 : UInt8) ∈ t -> ∃ p q, t = p ++ 46 :: q ∧ (46 : UInt8) ∉ p
  | [], h => by cases h
  | c :: t, h => by
    by_cases hc : c = 46
    · subst hc
      exact ⟨[], t, rfl, by simp⟩
    · rcases List.mem_cons.1 h with e | h
      · exact absurd e.symm hc
      · obtain ⟨p, q, rfl, hp⟩ := split_dot t h
        refine ⟨c :: p, q, rfl, fun hm => ?_⟩
        rcases List.mem_cons.1 hm with e | hm
        · exact hc e.symm
        · exact hp hm
theorem said_T {sg : Bool} {t : List UInt8} {g : Int × Int} (h : parseT sg t = (g, true)) :
    ∃ (n D : Nat), RtD g (sg && decide (n ≠ 0)) n D ∧ (shw (sg && decide (n ≠ 0)) n D = (if sg then [45] else []) ++ (if (46 : UInt8) ∈ t then noDot (q7_ t) else t) ∨ ((if sg then [45] else []) ++ (if (46 : UInt8) ∈ t then noDot (q7_ t) else t) = [45, 48] ∧ shw (sg && decide (n ≠ 0)) n D = [48])) := by
  have fin : ∀ (n D : Nat) (body : List UInt8), dd (n / 10 ^ D) ++ (if D = 0 then [] else 46 :: fx D (n % 10 ^ D)) = body -> (n = 0 -> D = 0) ->
      (shw (sg && decide (n ≠ 0)) n D = (if sg then [45] else []) ++ body ∨ ((if sg then [45] else []) ++ body = [45, 48] ∧ shw (sg && decide (n ≠ 0)) n D = [48])) := by
    intro n D body hb h0
    unfold shw
    cases sg with
    | false =>
      rw [Bool.false_and]
      left
      rw [<- hb]
      simp
    | true =>
      rw [Bool.true_and]
      by_cases hn : n = 0
      · have := h0 hn
        subst hn
        subst this
        right
        rw [<- hb, dd_small (by decide)]
        exact ⟨rfl, rfl⟩
      · left
        rw [decide_eq_true hn, <- hb]
        simp
  have sgn : ∀ n : Nat, (if sg then -(n : Int) else (n : Int)) = if (sg && decide (n ≠ 0)) = true then -(n : Int) else (n : Int) := by
    intro n
    cases sg with
    | false => rfl
    | true =>
      by_cases hn : n = 0
      · subst hn; rfl
      · rw [decide_eq_true hn]; rfl
  by_cases hm : (46 : UInt8) ∈ t
  · obtain ⟨p, q, rfl, hp⟩ := split_dot t hm
    rw [parseT_yes hp] at h
    unfold q2n_ at h
    by_cases h1 : digs p = false ∨ (1 < p.length ∧ p[0]? = some 48)
    · rw [if_pos h1] at h; cases h
    rw [if_neg h1] at h
    by_cases h2 : true = true ∧ (digs q = false ∨ 6 < q.length)
    · rw [if_pos h2] at h; cases h
    rw [if_neg h2] at h
    by_cases h3 : 1000000000000 < dvn (dvn 0 p) (q7_ q)
    · rw [if_pos h3] at h; cases h
    rw [if_neg h3] at h
    have hdp : digs p = true := by
      cases e : digs p with
      | true => rfl
      | false => exact absurd (.inl e) h1
    have hdq : digs q = true := by
      cases e : digs q with
      | true => rfl
      | false => exact absurd ⟨rfl, .inl e⟩ h2
    obtain ⟨dp, np⟩ := digs_iff.1 hdp
    obtain ⟨dq, nq⟩ := digs_iff.1 hdq
    obtain ⟨a, ha1, ha2⟩ := canon p.length p rfl dp np (fun e => h1 (.inr e))
    have dz : ∀ c ∈ q7_ q, dg c = true := fun c hc => dq c (stripz_mem hc)
    obtain ⟨m, hm1, hm2, hm3⟩ := dvn_nat (q7_ q) dz
    have hl6 : (q7_ q).length ≤ 6 := by
      have := stripz_len q
      have : ¬ 6 < q.length := fun e => h2 ⟨rfl, .inr e⟩
      omega
    generalize hD : (q7_ q).length = D at *
    have hval : dvn (dvn 0 p) (q7_ q) = ((a * 10 ^ D + m : Nat) : Int) := by
      rw [ha1, <- hm3, dvn_fx D m _ hm2]
      push_cast
      rfl
    have hlast : D ≠ 0 -> m % 10 ≠ 0 := by
      intro hD0 hm10
      rcases stripz_last q with e | ⟨x, c, e, hc⟩
      · rw [e] at hD; exact hD0 hD.symm
      · obtain ⟨k, rfl⟩ : ∃ k, D = k + 1 := ⟨D - 1, by omega⟩
        rw [e, fx, hm10] at hm3
        have hm3 := List.append_inj_right' hm3 (by simp)
        exact hc (List.cons.inj hm3).1.symm
    have hn10 : D ≠ 0 -> (a * 10 ^ D + m) % 10 ≠ 0 := by
      intro hD0
      obtain ⟨k, rfl⟩ : ∃ k, D = k + 1 := ⟨D - 1, by omega⟩
      have := hlast hD0
      rw [Nat.pow_succ, <- Nat.mul_assoc]
      omega
    have hdiv : (a * 10 ^ D + m) / 10 ^ D = a := by
      rw [Nat.mul_comm, Nat.mul_add_div (Nat.pow_pos (by omega)), Nat.div_eq_of_lt hm2, Nat.add_zero]
    have hmod : (a * 10 ^ D + m) % 10 ^ D = m := by
      rw [Nat.mul_comm, Nat.mul_add_mod, Nat.mod_eq_of_lt hm2]
    rw [hval] at h h3
    cases h
    refine ⟨a * 10 ^ D + m, D, ⟨sgn _, rfl, fun e => ?_, by omega, hl6, hn10⟩, ?_⟩
    · rw [Bool.and_eq_true, decide_eq_true_iff] at e
      exact e.2
    · rw [if_pos hm, stripz_dot]
      have hb : noDot (p ++ 46 :: q7_ q) = p ++ (if D = 0 then [] else 46 :: q7_ q) := by
        by_cases hD0 : D = 0
        · have e : q7_ q = [] := List.eq_nil_of_length_eq_zero (by omega)
          rw [e, if_pos hD0, List.append_nil, noDot_snoc, if_pos rfl]
        · rw [if_neg hD0]
          rcases stripz_last q with e | ⟨x, c, e, hc⟩
          · rw [e] at hD; exact absurd hD.symm hD0
          · have hc46 : c ≠ 46 := fun e2 => by
              subst e2
              exact dot_no dz (by rw [e]; simp)
            rw [e, show p ++ 46 :: (x ++ [c]) = (p ++ 46 :: x) ++ [c] by simp, noDot_snoc, if_neg hc46]
      rw [hb]
      refine fin _ D _ (by rw [hdiv, hmod, ha2, hm3]) (fun e => ?_)
      by_cases hD0 : D = 0
      · exact hD0
      · exact absurd (by rw [e]) (hn10 hD0)
  · rw [parseT_no hm] at h
    unfold q2n_ at h
    by_cases h1 : digs t = false ∨ (1 < t.length ∧ t[0]? = some 48)
    · rw [if_pos h1] at h; cases h
    rw [if_neg h1, if_neg (fun e => by cases e.1)] at h
    have hdp : digs t = true := by
      cases e : digs t with
      | true => rfl
      | false => exact absurd (.inl e) h1
    obtain ⟨dp, np⟩ := digs_iff.1 hdp
    obtain ⟨a, ha1, ha2⟩ := canon t.length t rfl dp np (fun e => h1 (.inr e))
    have hval : dvn (dvn 0 t) (q7_ []) = (a : Int) := ha1
    rw [hval] at h
    by_cases h3 : 1000000000000 < (a : Int)
    · rw [if_pos h3] at h; cases h
    rw [if_neg h3] at h
    cases h
    refine ⟨a, 0, ⟨sgn _, rfl, fun e => ?_, by omega, by omega, fun e => absurd rfl e⟩, ?_⟩
    · rw [Bool.and_eq_true, decide_eq_true_iff] at e
      exact e.2
    · rw [if_neg hm]
      refine fin a 0 t ?_ (fun _ => rfl)
      rw [if_pos rfl, List.append_nil, Nat.pow_zero, Nat.div_one, ha2]
theorem said_S {s : List UInt8} {g : Int × Int} (h : parseS s = (g, true)) :
    ∃ (sg : Bool) (n D : Nat), RtD g sg n D ∧ (shw sg n D = shortS s ∨ (shortS s = [45, 48] ∧ shw sg n D = [48])) := by
  unfold parseS at h
  by_cases h1 : s.head? = some 45
  · rw [if_pos h1] at h
    rcases s with _ | ⟨c, t⟩
    · cases h1
    · have hc : c = 45 := Option.some.inj h1
      subst hc
      obtain ⟨n, D, h2, h3⟩ := said_T (sg := true) (t := t) h
      have e : shortS (45 :: t) = (if true = true then [45] else []) ++ (if (46 : UInt8) ∈ t then noDot (q7_ t) else t) := by
        unfold shortS
        by_cases hm : (46 : UInt8) ∈ t
        · rw [if_pos (List.mem_cons_of_mem _ hm), if_pos hm, if_pos rfl]
          obtain ⟨p, q, rfl, hp⟩ := split_dot t hm
          have e1 := stripz_dot (45 :: p) q
          have e2 := stripz_dot p q
          rw [show (45 : UInt8) :: (p ++ 46 :: q) = (45 :: p) ++ 46 :: q from rfl, e1, e2]
          rcases snoc_cases (q7_ q) with e | ⟨x, c, e⟩
          · rw [e, noDot_snoc, noDot_snoc, if_pos rfl, if_pos rfl]
            rfl
          · rw [e, show (45 :: p) ++ 46 :: (x ++ [c]) = ((45 :: p) ++ 46 :: x) ++ [c] by simp, show p ++ 46 :: (x ++ [c]) = (p ++ 46 :: x) ++ [c] by simp, noDot_snoc, noDot_snoc]
            split <;> simp
        · rw [if_neg (fun e => by
            rcases List.mem_cons.1 e with e | e
            · exact absurd e (by decide)
            · exact hm e), if_neg hm, if_pos rfl]
          rfl
      rw [<- e] at h3
      exact ⟨_, n, D, h2, h3⟩
  · rw [if_neg h1] at h
    obtain ⟨n, D, h2, h3⟩ := said_T (sg := false) h
    exact ⟨_, n, D, h2, h3⟩
end Go.Proofs.Lx
end
section
namespace Go.Proofs.Lx
open Go Ev Sx Pl
set_option maxRecDepth 10000
def lowN (n : Nat) : Bool := decide (97 ≤ n) && decide (n ≤ 122)
def namN (n : Nat) : Bool := lowN n || isD n || n == 95
theorem lower_eq (c : UInt8) : q4p_ (Int.ofNat c.toNat, ()) = some (lowN c.toNat, ()) := tab (f := q4p_) (g := lowN) (by kernel_rfl) c
theorem rdigit_eq (c : UInt8) : q5g_ (Int.ofNat c.toNat, ()) = some (isD c.toNat, ()) := tab (f := q5g_) (g := isD) (by kernel_rfl) c
abbrev sRec : List UInt8 := [114, 101, 99, 105, 112, 101]
abbrev sSlv : List UInt8 := [115, 108, 97, 118, 101]
abbrev sEnd : List UInt8 := [101, 110, 100]
def nameB (s : List UInt8) : Bool := s != [] && decide (s.length ≤ 20) && lowN (s.headD 0).toNat && s.all (fun c => namN c.toNat) && s != sRec && s != sSlv && s != sEnd
theorem goL_all {α R : Type} {p : α -> Bool} {r0 : Option R} {fin : Unit -> Option R} : ∀ xs : List α, goL (fun a c k => if p c = true then k a else r0) fin xs () = if xs.all p = true then fin () else r0
  | [] => rfl
  | x :: q => by
    show (if p x = true then goL _ fin q () else r0) = _
    rw [goL_all q, List.all_cons]
    cases p x <;> simp
theorem nes_iff {a b : List UInt8} : nes a b = true ↔ a ≠ b := by simp [nes]
theorem nes_val (a b : List UInt8) : nes a b = (a != b) := by
  by_cases h : a = b
  · subst h
    simp [nes]
  · rw [nes_iff.2 h]
    simp [h]
theorem at_head {α : Type} {s : List α} (h : s ≠ []) (z : α) : at? s 0 = some (s.headD z) := by
  cases s with
  | nil => exact absurd rfl h
  | cons a q => rfl
theorem name_eq {s : List UInt8} : q1q_ (s, ()) = some (nameB s, ()) := by
  show q8m_ q6r_ s = _
  unfold q8m_
  have K1t : q6r_ s true = some (false, ()) := rfl
  by_cases h0 : s = []
  · rw [if_pos (eqs_iff.2 h0), K1t, h0]
    rfl
  · rw [if_neg (fun e => h0 (eqs_iff.1 e))]
    by_cases h1 : 20 < s.length
    · rw [if_pos (gt_iff.2 (by rw [q4_]; omega)), K1t]
      have : nameB s = false := by unfold nameB; rw [decide_eq_false (show ¬ s.length ≤ 20 by omega)]; simp
      rw [this]
    · rw [if_neg (fun e => h1 (by have := gt_iff.1 e; rw [q4_] at this; omega)), at_head h0 0, Option.bind_some, lower_eq, Option.bind_some]
      cases h2 : lowN (s.headD 0).toNat with
      | false =>
        rw [show (!(false, ()).1) = true from rfl, K1t]
        have : nameB s = false := by unfold nameB; rw [h2]; simp
        rw [this]
      | true =>
        show q6u_ s (Int.ofNat s.length) 0 = _
        unfold q6u_
        refine (loop_go (xs := s) (mk := fun i (_ : Unit) => (s, Int.ofNat s.length, (i : Int))) (body := fun a c k => if namN c.toNat = true then k a else some (false, ())) (fin := fun _ => q5a_ s) ?_ ?_ s.length 0 () _ (by omega) (by omega)).trans ?_
        · intro self i acc c hc
          have hi := (List.getElem?_eq_some_iff.1 hc).1
          show q58_ (q5c_ fun s t18 t19 => self (s, t18, t19)) q5a_ _ s (Int.ofNat s.length) (i : Int) = _
          unfold q58_
          have K3f : q5c_ (fun s t18 t19 => self (s, t18, t19)) s (Int.ofNat s.length) (i : Int) false = self (s, Int.ofNat s.length, ((i + 1 : Nat) : Int)) := by
            show q8v_ _ s (Int.ofNat s.length) (i : Int) false = _
            unfold q8v_
            rw [if_neg Bool.false_ne_true, succ64 (by omega)]
          rw [if_pos (by rw [q19_, q4_]; omega), at_get hc, Option.bind_some, lower_eq, Option.bind_some]
          unfold namN
          cases e1 : lowN c.toNat with
          | true => rw [if_neg (by decide), K3f]; rfl
          | false =>
            rw [if_pos (by rfl), Option.bind_some, rdigit_eq, Option.bind_some]
            cases e2 : isD c.toNat with
            | true => rw [if_neg (by decide), K3f]; rfl
            | false =>
              rw [if_pos (by rfl), Option.bind_some]
              by_cases e3 : c.toNat = 95
              · have : nei (Int.ofNat c.toNat) 95 = false := by rw [Bool.eq_false_iff]; exact fun e => qq_.1 e (by rw [e3]; rfl)
                rw [this, K3f, if_pos (by simp [e3])]
              · have : nei (Int.ofNat c.toNat) 95 = true := qq_.2 (fun e => e3 (by have e : (c.toNat : Int) = 95 := e; omega))
                rw [this, if_neg (by simp [e3])]
                rfl
        · intro self acc
          show q58_ (q5c_ fun s t18 t19 => self (s, t18, t19)) q5a_ _ s (Int.ofNat s.length) (s.length : Int) = _
          unfold q58_
          rw [if_neg (by rw [q19_, q4_]; omega)]
        · rw [List.drop_zero, goL_all]
          show (if (s.all fun c => namN c.toNat) = true then q8r_ s else some (false, ())) = _
          unfold q8r_ nameB
          rw [h2, decide_eq_true (show s.length ≤ 20 by omega), nes_val, nes_val, nes_val]
          have e0 : (s != []) = true := by simpa using h0
          rw [e0]
          cases (s.all fun c => namN c.toNat) <;> cases (s != sRec) <;> cases (s != sSlv) <;> rfl
end Go.Proofs.Lx
end
section
namespace Go.Proofs.Lx
open Go Ev Sx Pl
set_option maxRecDepth 10000
def toksL (a : Int) (s : List UInt8) : TL × Int :=
  match h : s.dropWhile (fun c => isB c.toNat) with
  | [] => ([], 0)
  | c :: q => match h2 : tokS a c q with
    | .inl e => ([], e)
    | .inr (t, r) => (t :: (toksL a r).1, (toksL a r).2)
termination_by s.length
decreasing_by
  all_goals
    have h1 := tokS_len h2
    have h3 := (List.dropWhile_suffix (l := s) (fun c => isB c.toNat)).length_le
    rw [h] at h3
    simp at h3
    omega
theorem toksL_nil {a : Int} {s : List UInt8} (h : s.dropWhile (fun c => isB c.toNat) = []) : toksL a s = ([], 0) := by
  rw [toksL]
  split
  · rfl
  · rename_i h2; rw [h] at h2; cases h2
theorem toksL_err {a : Int} {s : List UInt8} {c : UInt8} {q : List UInt8} {e : Int} (h : s.dropWhile (fun c => isB c.toNat) = c :: q) (h2 : tokS a c q = .inl e) : toksL a s = ([], e) := by
  rw [toksL]
  split
  · rename_i h3; rw [h] at h3; cases h3
  · rename_i c' q' h3
    rw [h] at h3
    cases h3
    split
    · rename_i e' h4; rw [h2] at h4; cases h4; rfl
    · rename_i h4; rw [h2] at h4; cases h4
theorem toksL_tok {a : Int} {s : List UInt8} {c : UInt8} {q : List UInt8} {t : Tk1} {r : List UInt8} (h : s.dropWhile (fun c => isB c.toNat) = c :: q) (h2 : tokS a c q = .inr (t, r)) : toksL a s = (t :: (toksL a r).1, (toksL a r).2) := by
  rw [toksL]
  split
  · rename_i h3; rw [h] at h3; cases h3
  · rename_i c' q' h3
    rw [h] at h3
    cases h3
    split
    · rename_i e' h4; rw [h2] at h4; cases h4
    · rename_i t' r' h4; rw [h2] at h4; cases h4; rfl
theorem lineT_toks (a : Int) : ∀ (k : Nat) (s : List UInt8) (l : TL), s.length ≤ k ->
    lineT a s l = if (toksL a s).2 ≠ 0 then ([], (toksL a s).2) else (if l ++ (toksL a s).1 = [] then [] else l ++ (toksL a s).1 ++ [tkEnd a], 0) := by
  intro k
  have base : ∀ (s : List UInt8) (l : TL), s.dropWhile (fun c => isB c.toNat) = [] -> lineT a s l = if (toksL a s).2 ≠ 0 then ([], (toksL a s).2) else (if l ++ (toksL a s).1 = [] then [] else l ++ (toksL a s).1 ++ [tkEnd a], 0) := fun s l h => by
    rw [lineT_nil h, toksL_nil h]
    simp [tkEnd]
  induction k with
  | zero =>
    intro s l hs
    have : s = [] := List.eq_nil_of_length_eq_zero (by omega)
    subst this
    exact base [] l rfl
  | succ k ih =>
    intro s l hs
    have h3 := (List.dropWhile_suffix (l := s) (fun c => isB c.toNat)).length_le
    cases hd : s.dropWhile (fun c => isB c.toNat) with
    | nil => exact base s l hd
    | cons c q =>
      rw [hd] at h3
      simp at h3
      cases ht : tokS a c q with
      | inl e =>
        rw [lineT_err hd ht, toksL_err hd ht, if_pos (tokS_err ht)]
      | inr p =>
        obtain ⟨t, r⟩ := p
        have h4 := tokS_len ht
        rw [lineT_tok hd ht, toksL_tok hd ht, ih r (l ++ [t]) (by omega)]
        simp only [List.append_assoc, List.singleton_append]
theorem tokS_text {a : Int} {c : UInt8} {q : List UInt8} {t : Tk1} {r : List UInt8} (h : tokS a c q = .inr (t, r)) : t.2.1 ++ r = c :: q ∧ t.2.1 ≠ [] ∧ t.2.2.2 = a ∧ t.1 ≠ 4 := by
  unfold tokS at h
  split at h
  · split at h
    · cases h
    · cases h
      exact ⟨by simp, by simp, rfl, by simp⟩
  · split at h
    · split at h
      · cases h
        exact ⟨by simp, by simp, rfl, by simp⟩
      · cases h
    · split at h
      · cases h
        exact ⟨rfl, by simp, rfl, by simp⟩
      · cases h
end Go.Proofs.Lx
end
section
namespace Go.Proofs.Lx
open Go Ev Sx Pl
set_option maxRecDepth 10000
theorem lexS_acc : ∀ (k : Nat) (s : List UInt8) (n : Int) (l : TL), s.length ≤ k -> lexS n s l = (if (lexS n s []).2.1 ≠ 0 then [] else l ++ (lexS n s []).1, (lexS n s []).2) := by
  intro k
  induction k with
  | zero =>
    intro s n l hs
    have : s = [] := List.eq_nil_of_length_eq_zero (by omega)
    subst this
    rw [lexS, dif_pos rfl, lexS, dif_pos rfl]
    simp
  | succ k ih =>
    intro s n l hs
    by_cases hne : s = []
    · subst hne
      rw [lexS, dif_pos rfl, lexS, dif_pos rfl]
      simp
    · have hlen := lrest_len hne
      rw [lexS_step hne, lexS_step (l := []) hne]
      by_cases he : (lineT n (uncom (q1m_ s)) []).2 = 0
      · have e : ¬ (lineT n (uncom (q1m_ s)) []).2 ≠ 0 := by simpa using he
        rw [if_neg e, if_neg e, ih (lrest s) (n + 1) (l ++ _) (by omega), ih (lrest s) (n + 1) ([] ++ _) (by omega)]
        by_cases h2 : (lexS (n + 1) (lrest s) []).2.1 = 0
        · simp [h2]
        · simp [h2]
      · have e : (lineT n (uncom (q1m_ s)) []).2 ≠ 0 := he
        rw [if_pos e, if_pos e]
        simp [e]
theorem lexS_one {s : List UInt8} {n : Int} (hne : s ≠ []) (he : (lineT n (uncom (q1m_ s)) []).2 = 0) : lexS n s [] = (if (lexS (n + 1) (lrest s) []).2.1 ≠ 0 then [] else (lineT n (uncom (q1m_ s)) []).1 ++ (lexS (n + 1) (lrest s) []).1, (lexS (n + 1) (lrest s) []).2) := by
  rw [lexS_step hne, if_neg (by simpa using he), lexS_acc _ (lrest s) (n + 1) _ (Nat.le_refl _), List.nil_append]
end Go.Proofs.Lx
end
section
namespace Go.Proofs.Lx
open Go Ev Sx Pl
set_option maxRecDepth 10000
def unitB (s : List UInt8) : Bool := decide (s.length ≤ 20) && match s with
  | [] => true
  | c :: q => w1 c.toNat && q.all (fun c => wm c.toNat)
structure GoodT (a : Int) (t : Tk1) : Prop where
  k : t.1 ≠ 4
  l : t.2.2.2 = a
  w : t.1 = 1 -> unitB t.2.1 = true ∧ t.2.1 ≠ []
  n : t.1 = 2 -> parseS t.2.1 = (t.2.2.1, true)
theorem tw_mem {p : UInt8 -> Bool} : ∀ (q : List UInt8), (q.takeWhile p).all p = true
  | [] => rfl
  | c :: q => by
    rw [List.takeWhile_cons]
    split
    · rename_i h
      rw [List.all_cons, h, tw_mem q]
      rfl
    · rfl
theorem tokS_good {a : Int} {c : UInt8} {q : List UInt8} {t : Tk1} {r : List UInt8} (h : tokS a c q = .inr (t, r)) : GoodT a t := by
  unfold tokS at h
  split at h
  · rename_i h1
    split at h
    · cases h
    · rename_i h2
      cases h
      refine ⟨(by decide : (1 : Int) ≠ 4), rfl, fun _ => ⟨?_, List.cons_ne_nil _ _⟩, fun e => absurd e (by decide : (1 : Int) ≠ 2)⟩
      show (decide ((c :: q.takeWhile (fun c => wm c.toNat)).length ≤ 20) && (w1 c.toNat && (q.takeWhile (fun c => wm c.toNat)).all (fun c => wm c.toNat))) = true
      rw [h1, tw_mem, decide_eq_true (by omega)]
      rfl
  · split at h
    · split at h
      · rename_i h2
        cases h
        exact ⟨(by decide : (2 : Int) ≠ 4), rfl, fun e => absurd e (by decide : (2 : Int) ≠ 1), fun _ => Prod.ext rfl h2⟩
      · cases h
    · split at h
      · cases h
        exact ⟨(by decide : (3 : Int) ≠ 4), rfl, fun e => absurd e (by decide : (3 : Int) ≠ 1), fun e => absurd e (by decide : (3 : Int) ≠ 2)⟩
      · cases h
theorem toks_good (a : Int) : ∀ (k : Nat) (s : List UInt8), s.length ≤ k -> ∀ t ∈ (toksL a s).1, GoodT a t
  | 0, s, h, t, ht => by
    have : s = [] := List.eq_nil_of_length_eq_zero (by omega)
    subst this
    rw [toksL_nil rfl] at ht
    cases ht
  | k + 1, s, h, t, ht => by
    match hd : s.dropWhile (fun c => isB c.toNat) with
    | [] => rw [toksL_nil hd] at ht; cases ht
    | c :: q =>
      have h3 := (List.dropWhile_suffix (l := s) (fun c => isB c.toNat)).length_le
      rw [hd] at h3
      simp at h3
      match h2 : tokS a c q with
      | .inl e => rw [toksL_err hd h2] at ht; cases ht
      | .inr (t', r) =>
        have h1 := tokS_len h2
        rw [toksL_tok hd h2] at ht
        rcases List.mem_cons.1 ht with ht | ht
        · subst ht; exact tokS_good h2
        · exact toks_good a k r (by omega) t ht
structure RowsT (l : TL) (rs : List (TL × Int)) : Prop where
  e : l = rs.flatMap fun p => p.1 ++ [tkEnd p.2]
  g : ∀ p ∈ rs, p.1 ≠ [] ∧ ∀ t ∈ p.1, GoodT p.2 t
theorem line_rows (a : Int) (s : List UInt8) (h : (lineT a s []).2 = 0) : ∃ rs, RowsT (lineT a s []).1 rs := by
  have e := lineT_toks a s.length s [] (Nat.le_refl _)
  rw [List.nil_append] at e
  by_cases h1 : (toksL a s).2 ≠ 0
  · rw [if_pos h1] at e
    rw [e] at h
    exact absurd h h1
  · rw [if_neg h1] at e
    by_cases h2 : (toksL a s).1 = []
    · rw [if_pos h2] at e
      rw [e]
      exact ⟨[], ⟨rfl, fun p hp => by cases hp⟩⟩
    · rw [if_neg h2] at e
      rw [e]
      refine ⟨[((toksL a s).1, a)], ⟨by simp, fun p hp => ?_⟩⟩
      rw [List.mem_singleton] at hp
      subst hp
      exact ⟨h2, toks_good a _ s (Nat.le_refl _)⟩
theorem RowsT.app {l l' : TL} {rs rs' : List (TL × Int)} (h : RowsT l rs) (h' : RowsT l' rs') : RowsT (l ++ l') (rs ++ rs') :=
  ⟨by rw [h.e, h'.e, List.flatMap_append], fun p hp => by
    rcases List.mem_append.1 hp with hp | hp
    · exact h.g p hp
    · exact h'.g p hp⟩
theorem lexS_rows : ∀ (k : Nat) (s : List UInt8) (n : Int), s.length ≤ k -> (lexS n s []).2.1 = 0 -> ∃ rs, RowsT (lexS n s []).1 rs
  | 0, s, n, h, _ => by
    have : s = [] := List.eq_nil_of_length_eq_zero (by omega)
    subst this
    rw [lexS, dif_pos rfl]
    exact ⟨[], ⟨rfl, fun p hp => by cases hp⟩⟩
  | k + 1, s, n, h, he => by
    by_cases hs : s = []
    · rw [hs, lexS, dif_pos rfl]
      exact ⟨[], ⟨rfl, fun p hp => by cases hp⟩⟩
    · by_cases h1 : (lineT n (uncom (q1m_ s)) []).2 = 0
      · have e := lexS_one hs h1
        rw [e] at he ⊢
        have he : (lexS (n + 1) (lrest s) []).2.1 = 0 := he
        have hlt := lrest_len hs
        obtain ⟨rs, hr⟩ := lexS_rows k (lrest s) (n + 1) (by omega) he
        obtain ⟨rs0, hr0⟩ := line_rows n _ h1
        rw [he, if_neg (by decide)]
        exact ⟨_, hr0.app hr⟩
      · rw [lexS_step hs, if_pos h1] at he
        exact absurd he h1
theorem lexR_rows {s : List UInt8} (h : (lexR s).2.1 = 0) : ∃ rs, RowsT (lexR s).1 rs := by
  unfold lexR at h ⊢
  split
  · rename_i h1
    rw [if_pos h1] at h
    exact absurd h (by decide : (130 : Int) ≠ 0)
  · rename_i h1
    rw [if_neg h1] at h
    exact lexS_rows _ s 1 (Nat.le_refl _) h
theorem unit_eq {s : List UInt8} : q8w_ (s, ()) = some (unitB s, ()) := by
  show q8h_ q5e_ s = _
  unfold q8h_
  by_cases h1 : 20 < s.length
  · rw [if_pos (gt_iff.2 (by rw [q4_]; omega))]
    have : unitB s = false := by unfold unitB; rw [decide_eq_false (show ¬ s.length ≤ 20 by omega)]; rfl
    rw [this]
  · rw [if_neg (fun e => h1 (by have := gt_iff.1 e; rw [q4_] at this; omega))]
    have stp : ∀ (self : (List UInt8) × (Int) × (Int) -> Option (As [.bool])) (i : Nat) (c : UInt8), s[i]? = some c ->
        q57_ (q59_ fun s t10 t11 => self (s, t10, t11)) (fun s t10 t11 => self (s, t10, t11)) s (Int.ofNat s.length) (i : Int) =
        if (if i = 0 then w1 c.toNat else wm c.toNat) = true then self (s, Int.ofNat s.length, ((i + 1 : Nat) : Int)) else some (false, ()) := fun self i c hc => by
      have hi := (List.getElem?_eq_some_iff.1 hc).1
      unfold q57_
      have K3 : ∀ b, q6s_ (fun s t10 t11 => self (s, t10, t11)) s (Int.ofNat s.length) (i : Int) b = if b = true then some (false, ()) else self (s, Int.ofNat s.length, ((i + 1 : Nat) : Int)) := fun b => by
        show q8t_ _ s (Int.ofNat s.length) (i : Int) b = _
        unfold q8t_
        rw [succ64 (by omega)]
      have K2 : ∀ b, q59_ (fun s t10 t11 => self (s, t10, t11)) s (i : Int) (Int.ofNat c.toNat) b (Int.ofNat s.length) (i : Int) = if (b || (decide (i ≠ 0) && (isD c.toNat || c.toNat == 95))) = true then self (s, Int.ofNat s.length, ((i + 1 : Nat) : Int)) else some (false, ()) := fun b => by
        show q8o_ (q6s_ fun s t10 t11 => self (s, t10, t11)) _ s (i : Int) (Int.ofNat c.toNat) b (Int.ofNat s.length) (i : Int) = _
        unfold q8o_
        simp only [K3]
        cases b with
        | true => rfl
        | false =>
          rw [if_pos (by rfl)]
          by_cases h0 : i = 0
          · rw [if_pos (q2k_.2 (by omega)), decide_eq_false (show ¬ i ≠ 0 by omega)]
            rfl
          · rw [if_neg (fun e => h0 (by have := q2k_.1 e; omega)), decide_eq_true h0, rdigit_eq, Option.bind_some]
            cases e2 : isD c.toNat with
            | true => rfl
            | false =>
              rw [if_pos (by rfl)]
              have g3 : nei (Int.ofNat c.toNat) 95 = !(c.toNat == 95) := by
                apply Bool.eq_iff_iff.2
                rw [qq_]
                simp
                omega
              rw [g3]
              cases (c.toNat == 95) <;> rfl
      rw [if_pos (by rw [q19_, q4_]; omega), at_get hc, Option.bind_some, lower_eq, Option.bind_some]
      simp only [K2]
      have g1 : ge (Int.ofNat c.toNat) 65 = decide (65 ≤ c.toNat) := by
        show decide ((65 : Int) ≤ (c.toNat : Int)) = _
        apply Bool.eq_iff_iff.2; simp; omega
      have g2 : le (Int.ofNat c.toNat) 90 = decide (c.toNat ≤ 90) := by
        show decide ((c.toNat : Int) ≤ 90) = _
        apply Bool.eq_iff_iff.2; simp; omega
      have g3 : eqi (Int.ofNat c.toNat) 37 = (c.toNat == 37) := by
        apply Bool.eq_iff_iff.2
        rw [q2k_]
        simp
        omega
      rw [g1, g2, g3]
      have hw : w1 c.toNat = (lowN c.toNat || (decide (65 ≤ c.toNat) && decide (c.toNat ≤ 90)) || c.toNat == 37) := by unfold w1 isL lowN; rfl
      have hm : wm c.toNat = (w1 c.toNat || isD c.toNat || c.toNat == 95) := by
        unfold wm w1
        cases isL c.toNat <;> cases isD c.toNat <;> cases (c.toNat == 95) <;> cases (c.toNat == 37) <;> rfl
      rw [hm, hw]
      by_cases h0 : i = 0
      · rw [if_pos h0, decide_eq_false (show ¬ i ≠ 0 by omega)]
        cases lowN c.toNat <;> cases decide (65 ≤ c.toNat) <;> cases decide (c.toNat ≤ 90) <;> cases (c.toNat == 37) <;> rfl
      · rw [if_neg h0, decide_eq_true h0]
        cases lowN c.toNat <;> cases decide (65 ≤ c.toNat) <;> cases decide (c.toNat ≤ 90) <;> cases (c.toNat == 37) <;> cases isD c.toNat <;> cases (c.toNat == 95) <;> rfl
    have fin : ∀ (self : (List UInt8) × (Int) × (Int) -> Option (As [.bool])), q57_ (q59_ fun s t10 t11 => self (s, t10, t11)) (fun s t10 t11 => self (s, t10, t11)) s (Int.ofNat s.length) (s.length : Int) = some (true, ()) := fun self => by
      unfold q57_
      rw [if_neg (by rw [q19_, q4_]; omega)]
    show q5e_ s (Int.ofNat s.length) 0 = _
    unfold q5e_
    match s, h1, stp, fin with
    | [], _, stp, fin => rfl
    | c :: q, h1, stp, fin =>
      rw [show (18446744073709551616 : Nat) = 18446744073709551615 + 1 from rfl, q3m_]
      refine (stp _ 0 c rfl).trans ?_
      rw [if_pos rfl]
      have hu : unitB (c :: q) = (w1 c.toNat && q.all (fun c => wm c.toNat)) := by
        unfold unitB
        rw [decide_eq_true (show (c :: q).length ≤ 20 by omega)]
        rfl
      rw [hu]
      cases hc : w1 c.toNat with
      | false => rfl
      | true =>
        rw [if_pos rfl]
        refine (loop_go (xs := q) (mk := fun i (_ : Unit) => (c :: q, Int.ofNat (c :: q).length, ((i + 1 : Nat) : Int))) (body := fun a x k => if wm x.toNat = true then k a else some (false, ())) (fin := fun _ => some (true, ())) ?_ ?_ q.length 0 () _ (by omega) (by rw [List.length_cons] at h1; omega)).trans ?_
        · intro self i acc x hx
          have := stp self (i + 1) x (by simpa using hx)
          rw [if_neg (show ¬ i + 1 = 0 by omega)] at this
          exact this
        · intro self acc
          exact fin self
        · rw [List.drop_zero, goL_all]
          cases (q.all fun c => wm c.toNat) <;> rfl
end Go.Proofs.Lx
end
section
namespace Go.Proofs.Lx
open Go Ev Sx Pl
set_option maxRecDepth 100000
theorem qnat {i d : Nat} (hi : i < 4611686018427387904) : quo .i64 (i : Int) (d : Int) = ((i / d : Nat) : Int) := by
  unfold quo
  have e : ((i : Int)).tdiv (d : Int) = ((i / d : Nat) : Int) := rfl
  have h := Nat.div_le_self i d
  rw [e]
  generalize i / d = q at h ⊢
  exact w64 (by omega) (by omega)
theorem rnat {i d : Nat} : rem (i : Int) (d : Int) = ((i % d : Nat) : Int) := rfl
theorem power_eq : ∀ {D : Nat}, D ≤ 6 -> q90_ ((D : Int), ()) = some (((10 ^ D : Nat) : Int), ())
  | 0, _ => by kernel_rfl
  | 1, _ => by kernel_rfl
  | 2, _ => by kernel_rfl
  | 3, _ => by kernel_rfl
  | 4, _ => by kernel_rfl
  | 5, _ => by kernel_rfl
  | 6, _ => by kernel_rfl
  | _ + 7, h => by omega
theorem repeat_eq : ∀ {k : Nat}, k ≤ 7 -> strings_Repeat ([48], (k : Int), ()) = some (List.replicate k 48, ())
  | 0, _ => by kernel_rfl
  | 1, _ => by kernel_rfl
  | 2, _ => by kernel_rfl
  | 3, _ => by kernel_rfl
  | 4, _ => by kernel_rfl
  | 5, _ => by kernel_rfl
  | 6, _ => by kernel_rfl
  | 7, _ => by kernel_rfl
  | _ + 8, h => by omega
theorem fint_eq {n : Nat} (h : n ≤ 1000000000000) : q54_ ((n : Int), 10, ()) = some (dd n, ()) := by
  have e : q6b_ ((n : Int), 10, ()) = some (dd n, ()) := by
    show (if (-9223372036854775808 ≤ (n : Int) ∧ (n : Int) ≤ 9223372036854775807) ∧ (10 : Int) = 10 then some (itF (n : Int), ()) else none) = _
    rw [if_pos ⟨⟨by omega, by omega⟩, rfl⟩, itF, if_neg (by omega), Int.toNat_natCast, dF_eq 19 n (by omega)]
  show Option.bind (q6b_ ((n : Int), 10, ())) _ = _
  rw [e]
  rfl
theorem RtD.right {d : Int × Int} {sg : Bool} {n D : Nat} (h : RtD d sg n D) : q6f_ (d, ()) = some (true, ()) := by
  obtain ⟨x, y⟩ := d
  have e1 : x = if sg then -(n : Int) else (n : Int) := h.e1
  have e2 : y = (D : Int) := h.e2
  have hle := h.le
  have h6 := h.d6
  show q6p_ (x, y) = _
  unfold q6p_
  dsimp only
  have b1 : -1000000000000 ≤ x ∧ x ≤ 1000000000000 := by
    rw [e1]
    split <;> omega
  rw [if_pos (ge_iff.2 b1.1), if_pos (le_iff.2 b1.2), if_pos (by rw [le_iff]; omega)]
  by_cases h0 : D = 0
  · rw [if_pos (by rw [q2k_]; omega)]
  · rw [if_neg (by rw [q2k_]; omega)]
    have hz := h.tz h0
    have : nei (rem x 10) 0 = true := by
      rw [qq_]
      unfold rem
      rw [e1]
      cases sg with
      | true =>
        rw [if_pos rfl, Int.neg_tmod]
        show -((n % 10 : Nat) : Int) ≠ 0
        omega
      | false =>
        show ((n % 10 : Nat) : Int) ≠ 0
        omega
    rw [this]
theorem show_K1 {sign : List UInt8} {n D : Nat} {d : Int × Int} (he : d.2 = (D : Int)) (hle : n ≤ 1000000000000) (h6 : D ≤ 6) (hs : sign.length ≤ 1) :
    q5z_ (n : Int) sign d = some (sign ++ dd (n / 10 ^ D) ++ (if D = 0 then [] else 46 :: fx D (n % 10 ^ D)), ()) := by
  obtain ⟨x, y⟩ := d
  have he : y = (D : Int) := he
  subst he
  unfold q5z_ qaw_
  dsimp only
  have ec : cvt .i64 (D : Int) = (D : Int) := cvt64 (by omega) (by omega)
  have hp : 0 < 10 ^ D := Nat.pow_pos (by omega)
  have hq : n / 10 ^ D ≤ 1000000000000 := Nat.le_trans (Nat.div_le_self _ _) hle
  have hm : n % 10 ^ D ≤ 1000000000000 := Nat.le_trans (Nat.mod_le _ _) hle
  have hlq : (dd (n / 10 ^ D)).length ≤ 13 := dd_len (by omega) (by omega)
  have hml : n % 10 ^ D < 10 ^ D := Nat.mod_lt _ hp
  rw [ec, power_eq h6, Option.bind_some]
  dsimp only
  rw [need_t (by rw [qq_]; omega), qnat (by omega), fint_eq hq, Option.bind_some]
  dsimp only
  rw [q1b_ (by omega)]
  by_cases h0 : D = 0
  · rw [if_pos (by rw [q2k_]; omega), if_pos h0, List.append_nil]
  · have hl : (dd (n % 10 ^ D)).length ≤ D := dd_len (by omega) hml
    rw [if_neg (by rw [q2k_]; omega), if_neg h0, need_t (by rw [qq_]; omega), rnat, fint_eq hm, Option.bind_some]
    dsimp only
    have es : sub .i64 (D : Int) (Int.ofNat (dd (n % 10 ^ D)).length) = ((D - (dd (n % 10 ^ D)).length : Nat) : Int) := by
      rw [q4_, sub64 (by omega) (by omega)]
      omega
    rw [q1b_ (by simp; omega), es, repeat_eq (by omega), Option.bind_some]
    dsimp only
    rw [q1b_ (by simp; omega), q1b_ (by simp; omega), <- pad_fx D _ (by omega) hml]
    simp
theorem show_eq {d : Int × Int} {sg : Bool} {n D : Nat} (h : RtD d sg n D) : q76_ (d, ()) = some (shw sg n D, ()) := by
  show q98_ q5z_ d = _
  unfold q98_ shw
  have hle := h.le
  rw [h.right, Option.bind_some, if_neg (by decide)]
  cases sg with
  | true =>
    have e1 : d.1 = -(n : Int) := h.e1
    have hn := h.nz rfl
    have en : neg .i64 d.1 = (n : Int) := by rw [e1, neg64 (by omega) (by omega)]; omega
    rw [if_pos (by rw [q19_]; omega), en, show_K1 h.e2 h.le h.d6 (by decide)]
    rfl
  | false =>
    have e1 : d.1 = (n : Int) := h.e1
    rw [if_neg (by rw [q19_]; omega), e1, show_K1 h.e2 h.le h.d6 (by decide)]
    rfl
theorem rtd_of {x : Int} {D : Nat} (hx : -1000000000000 ≤ x ∧ x ≤ 1000000000000) (h6 : D ≤ 6) (hz : D ≠ 0 -> x.tmod 10 ≠ 0) : ∃ sg n, RtD (x, (D : Int)) sg n D := by
  rcases Int.lt_or_le x 0 with h | h
  · obtain ⟨n, rfl⟩ : ∃ n : Nat, x = -(n : Int) := ⟨x.natAbs, by omega⟩
    refine ⟨true, n, rfl, rfl, fun _ => by omega, by omega, h6, fun h0 e => hz h0 ?_⟩
    rw [Int.neg_tmod]
    show -((n % 10 : Nat) : Int) = 0
    omega
  · obtain ⟨n, rfl⟩ := Int.eq_ofNat_of_zero_le h
    refine ⟨false, n, rfl, rfl, fun e => (by cases e), by omega, h6, fun h0 e => hz h0 ?_⟩
    show ((n % 10 : Nat) : Int) = 0
    omega
end Go.Proofs.Lx
end
section
namespace Go.Proofs.Lx
open Go Ev Sx Pl
set_option maxRecDepth 100000
def q9r_  := (fun (self : (List UInt8) × (List UInt8) × (Int × Int) -> Option (As [.str])) (s : (List UInt8) × (List UInt8) × (Int × Int)) => q7m_ (q5y_) (fun sign s d => self (sign, s, d)) s.1 s.2.1 s.2.2)
theorem qbn_  (self : (List UInt8) × (List UInt8) × (Int × Int) -> Option (As [.str])) (sign : List UInt8) (s : List UInt8) (d : Int × Int) : q9r_ self (sign, s, d) = q7m_ (q5y_) (fun sign s d => self (sign, s, d)) sign s d := rfl
theorem qem_  (sign : List UInt8) (s : List UInt8) (d : Int × Int) : qcx_ sign s d = loopF (q9r_) 18446744073709551616 (sign, s, d) := rfl
theorem digits_eq {n : Nat} (h : n ≤ 1000000000000) : qdh_ ((n : Int), ()) = some (dd n, ()) := by
  show (if 0 ≤ (n : Int) ∧ (n : Int) ≤ 9223372036854775807 then some (dF 19 (n : Int).toNat, ()) else none) = _
  rw [if_pos ⟨by omega, by omega⟩, Int.toNat_natCast, dF_eq 19 n (by omega)]
theorem dd_split : ∀ (D n : Nat), 10 ^ D ≤ n -> dd n = dd (n / 10 ^ D) ++ fx D (n % 10 ^ D)
  | 0, n, _ => by simp [fx]
  | D + 1, n, h => by
    rw [Nat.pow_succ] at h
    have hp : 0 < 10 ^ D := Nat.pow_pos (by omega)
    rw [dd_big (by omega), dd_split D (n / 10) (by omega), fx, List.append_assoc]
    have e1 : n / 10 / 10 ^ D = n / 10 ^ (D + 1) := by rw [Nat.div_div_eq_div_mul, Nat.pow_succ, Nat.mul_comm]
    have e2 : n % 10 ^ (D + 1) / 10 = n / 10 % 10 ^ D := by
      rw [Nat.pow_succ, Nat.mul_comm (10 ^ D) 10, Nat.mod_mul_right_div_self]
    have e3 : n % 10 ^ (D + 1) % 10 = n % 10 := by
      rw [Nat.pow_succ, Nat.mul_comm (10 ^ D) 10, Nat.mod_mul_right_mod]
    rw [e1, e2, e3]
theorem dd_pad {D n : Nat} (hD : 1 ≤ D) : List.replicate (D + 1 - (dd n).length) 48 ++ dd n = dd (n / 10 ^ D) ++ fx D (n % 10 ^ D) := by
  by_cases h : 10 ^ D ≤ n
  · have hs := dd_split D n h
    have hl : D + 1 ≤ (dd n).length := by
      have hne := dd_ne (n / 10 ^ D)
      have : 0 < (dd (n / 10 ^ D)).length := List.length_pos_iff.2 hne
      rw [hs, List.length_append, fx_len]
      omega
    rw [show D + 1 - (dd n).length = 0 by omega]
    exact hs
  · have hlt : n < 10 ^ D := by omega
    have hl := dd_len hD hlt
    rw [Nat.div_eq_of_lt hlt, Nat.mod_eq_of_lt hlt, <- pad_fx D n hD hlt, show D + 1 - (dd n).length = (D - (dd n).length) + 1 by omega, List.replicate_succ]
    have : dd 0 = [48] := by rw [dd_small (by decide)]; rfl
    rw [this]
    rfl
theorem show_K3 {sign p q : List UInt8} {d : Int × Int} {D : Nat} (hd : d.2 = (D : Int)) (hq : q.length = D) (h6 : D ≤ 6) (hp : p.length ≤ 1000) (hs : sign.length ≤ 1) :
    q5y_ sign (p ++ q) d = some (sign ++ p ++ 46 :: q, ()) := by
  unfold q5y_ qcy_
  have e1 : Sx.sub .i64 (Int.ofNat (p ++ q).length) (cvt .i64 d.2) = (p.length : Int) := by
    have : Int.ofNat (p ++ q).length = ((p.length + D : Nat) : Int) := by simp [hq]
    rw [this, hd, cvt64 (by omega) (by omega), sub64 (by omega) (by omega)]
    omega
  rw [e1, cut_app0, Option.bind_some, cut_app1]
  have l1 : (sign ++ p).length ≤ 1001 := by simp; omega
  have l2 : (sign ++ p ++ [46]).length ≤ 1002 := by simp; omega
  rw [q1b_ (by omega), q1b_ (by omega), Option.bind_some, q1b_ (by omega)]
  simp
theorem rshow_loop {sign : List UInt8} {d : Int × Int} {D : Nat} (hd : d.2 = (D : Int)) (h6 : D ≤ 6) (hs : sign.length ≤ 1) : ∀ (r N : Nat) (s : List UInt8), s.length + r ≤ 1000 -> (r = 0 ∨ s.length + r = D + 1) -> D < s.length + r ->
    loopF q9r_ (N + r + 1) (sign, s, d) = q5y_ sign (List.replicate r 48 ++ s) d
  | 0, N, s, hl, _, h => by
    rw [q3m_, qbn_]
    unfold q7m_
    have e : Int.ofNat s.length = (s.length : Int) := rfl
    rw [if_neg (by rw [le_iff, hd, cvt64 (by omega) (by omega), e]; omega)]
    rfl
  | r + 1, N, s, hl, hr, h => by
    rw [q3m_, qbn_]
    unfold q7m_
    have e : Int.ofNat s.length = (s.length : Int) := rfl
    rw [if_pos (by rw [le_iff, hd, cvt64 (by omega) (by omega), e]; omega), q1b_ (by omega)]
    have := rshow_loop hd h6 hs r N (48 :: s) (by simp; omega) (by right; simp; omega) (by simp; omega)
    refine Eq.trans this ?_
    rw [List.replicate_succ']
    simp
theorem rshow_eq {d : Int × Int} {sg : Bool} {n D : Nat} (h : RtD d sg n D) : qcb_ (d, ()) = some (shw sg n D, ()) := by
  have hle := h.le
  have h6 := h.d6
  have h2 := h.e2
  have hlen : (dd n).length ≤ 13 := dd_len (by decide) (by omega)
  show q94_ q7h_ d = _
  have e0 : q94_ q7h_ d = q7h_ (n : Int) (if sg then [45] else []) d := by
    unfold q94_
    have e1 := h.e1
    cases sg with
    | true =>
      have := h.nz rfl
      have e : d.1 = -(n : Int) := e1
      rw [if_pos (by rw [q19_]; omega), neg64 (by omega) (by omega)]
      have : -d.1 = (n : Int) := by omega
      rw [this]
      rfl
    | false =>
      have e : d.1 = (n : Int) := e1
      rw [if_neg (by rw [q19_]; omega), e]
      rfl
  rw [e0]
  have hs : (if sg then [45] else [] : List UInt8).length ≤ 1 := by cases sg <;> simp
  unfold shw
  generalize (if sg then [45] else [] : List UInt8) = sign at hs ⊢
  unfold q7h_ qcr_
  rw [digits_eq hle, Option.bind_some]
  dsimp only
  by_cases h0 : D = 0
  · subst h0
    rw [if_pos (by rw [q2k_, h2]; rfl), q1b_ (by omega), if_pos rfl]
    simp
  · rw [if_neg (by rw [q2k_, h2]; omega), qem_, if_neg h0]
    have := rshow_loop (sign := sign) h2 h6 hs (D + 1 - (dd n).length) (18446744073709551615 - (D + 1 - (dd n).length)) (dd n) (by omega) (by omega) (by omega)
    rw [show 18446744073709551615 - (D + 1 - (dd n).length) + (D + 1 - (dd n).length) + 1 = 18446744073709551616 by omega] at this
    refine Eq.trans this ?_
    rw [dd_pad (by omega)]
    have hl2 : (dd (n / 10 ^ D)).length ≤ 13 := dd_len (by decide) (by have := Nat.div_le_self n (10 ^ D); omega)
    exact show_K3 h2 (fx_len _ _) h6 (by omega) hs
def rgt (d : Int × Int) : Bool := decide (-1000000000000 ≤ d.1 ∧ d.1 ≤ 1000000000000 ∧ d.2 ≤ 6 ∧ (d.2 = 0 ∨ d.1.tmod 10 ≠ 0))
theorem right_eq (d : Int × Int) : q6f_ (d, ()) = some (rgt d, ()) := by
  obtain ⟨x, y⟩ := d
  show q6p_ (x, y) = _
  unfold q6p_ rgt
  dsimp only
  by_cases h1 : -1000000000000 ≤ x
  · rw [if_pos (ge_iff.2 h1)]
    by_cases h2 : x ≤ 1000000000000
    · rw [if_pos (le_iff.2 h2)]
      by_cases h3 : y ≤ 6
      · rw [if_pos (le_iff.2 h3)]
        by_cases h4 : y = 0
        · rw [if_pos (q2k_.2 h4), decide_eq_true ⟨h1, h2, h3, Or.inl h4⟩]
        · rw [if_neg (fun e => h4 (q2k_.1 e))]
          by_cases h5 : x.tmod 10 = 0
          · have e : nei (rem x 10) 0 = false := by
              cases q : nei (rem x 10) 0 with
              | true => exact absurd h5 (qq_.1 q)
              | false => rfl
            rw [e, decide_eq_false]
            rintro ⟨_, _, _, h | h⟩
            · exact h4 h
            · exact h h5
          · rw [qq_.2 (show rem x 10 ≠ 0 from h5), decide_eq_true ⟨h1, h2, h3, Or.inr h5⟩]
      · rw [if_neg (fun e => h3 (le_iff.1 e)), decide_eq_false (fun h => h3 h.2.2.1)]
    · rw [if_neg (fun e => h2 (le_iff.1 e)), decide_eq_false (fun h => h2 h.2.1)]
  · rw [if_neg (fun e => h1 (ge_iff.1 e)), decide_eq_false (fun h => h1 h.1)]
theorem rgt_rt {d : Int × Int} (h : rgt d = true) (h0 : 0 ≤ d.2) : ∃ sg n D, RtD d sg n D := by
  obtain ⟨x, y⟩ := d
  obtain ⟨h1, h2, h3, h4⟩ := of_decide_eq_true h
  have h0 : 0 ≤ y := h0
  have h3 : y ≤ 6 := h3
  obtain ⟨sg, n, hr⟩ := rtd_of (D := y.toNat) ⟨h1, h2⟩ (by omega) (fun e => by
    rcases h4 with h4 | h4
    · have h4 : y = 0 := h4
      omega
    · exact h4)
  rw [Int.toNat_of_nonneg h0] at hr
  exact ⟨sg, n, _, hr⟩
end Go.Proofs.Lx
end
section
namespace Go.Proofs.Lx
open Go Ev Sx Pl
set_option maxRecDepth 10000
abbrev TSet := List UInt8 × (Int × Int) × List UInt8 × Int
abbrev TPart := List UInt8 × Int × List TSet
abbrev TRec := List UInt8 × List TPart
def setB (s : TSet) : Bool := nameB s.1 && (rgt s.2.1 && unitB s.2.2.1)
def partB (p : TPart) : Bool := nameB p.1 && (decide (p.2.2.length ≤ 64) && p.2.2.all setB)
def rightB (r : TRec) : Bool := nameB r.1 && (decide (r.2.length ≤ 8) && r.2.all partB)
theorem loop_all {σ R α : Type} {F : (σ -> Option R) -> σ -> Option R} {mk : Nat -> σ} {xs : List α} {p : α -> Bool} {r0 fin : Option R}
    (hs : ∀ self i x, xs[i]? = some x -> F self (mk i) = if p x = true then self (mk (i + 1)) else r0) (he : ∀ self, F self (mk xs.length) = fin) {n : Nat} (h : xs.length < n) :
    loopF F n (mk 0) = if xs.all p = true then fin else r0 := by
  have := loop_go (xs := xs) (mk := fun i (_ : Unit) => mk i) (body := fun a x k => if p x = true then k a else r0) (fin := fun _ => fin) (fun self i acc x hx => hs self i x hx) (fun self _ => he self) xs.length 0 () n (by omega) h
  rw [List.drop_zero, goL_all] at this
  exact this
theorem gtn {n k : Nat} : gt (Int.ofNat n) (k : Int) = !decide (n ≤ k) := by
  apply Bool.eq_iff_iff.2
  rw [gt_iff, q4_]
  simp
theorem right_eq' {r : TRec} (h1 : r.2.length ≤ 1000000) (h2 : ∀ p ∈ r.2, p.2.2.length ≤ 1000000) : q44_ (r, ()) = some (rightB r, ()) := by
  show q81_ q64_ r = _
  unfold q81_
  have K1 : ∀ b, q64_ b r = if b = true then some (false, ()) else q4t_ r.2 (Int.ofNat r.2.length) 0 := fun b => rfl
  rw [name_eq, Option.bind_some]
  have e8 : gt (Int.ofNat r.2.length) 8 = !decide (r.2.length ≤ 8) := gtn (k := 8)
  simp only [K1, e8]
  have K2 : q4t_ r.2 (Int.ofNat r.2.length) 0 = if r.2.all partB = true then some (true, ()) else some (false, ()) := by
    unfold q4t_
    refine loop_all (xs := r.2) (mk := fun i => (r.2, Int.ofNat r.2.length, (i : Int))) (p := partB) ?_ ?_ (by omega)
    · intro self i p hp
      have hi := (List.getElem?_eq_some_iff.1 hp).1
      have hps := h2 p (List.mem_of_getElem? hp)
      show q4r_ (q67_ fun t18 t19 t20 => self (t18, t19, t20)) _ r.2 (Int.ofNat r.2.length) (i : Int) = _
      unfold q4r_
      rw [if_pos (by rw [q19_, q4_]; omega), at_get hp, Option.bind_some, name_eq, Option.bind_some]
      have K4 : q4w_ (fun t18 t19 t20 => self (t18, t19, t20)) r.2 (Int.ofNat r.2.length) (i : Int) p.2.2 (Int.ofNat p.2.2.length) 0 = if p.2.2.all setB = true then self (r.2, Int.ofNat r.2.length, ((i + 1 : Nat) : Int)) else some (false, ()) := by
        unfold q4w_
        refine loop_all (xs := p.2.2) (mk := fun k => (r.2, Int.ofNat r.2.length, (i : Int), p.2.2, Int.ofNat p.2.2.length, (k : Int))) (p := setB) ?_ ?_ (by omega)
        · intro self4 k s hs
          have hk := (List.getElem?_eq_some_iff.1 hs).1
          show q4s_ (q63_ (fun t18 t19 t20 => self (t18, t19, t20)) fun t18 t19 t20 t35 t36 t37 => self4 (t18, t19, t20, t35, t36, t37)) _ _ r.2 (Int.ofNat r.2.length) (i : Int) p.2.2 (Int.ofNat p.2.2.length) (k : Int) = _
          unfold q4s_
          have K5 : ∀ b, q63_ (fun t18 t19 t20 => self (t18, t19, t20)) (fun t18 t19 t20 t35 t36 t37 => self4 (t18, t19, t20, t35, t36, t37)) r.2 (Int.ofNat r.2.length) (i : Int) p.2.2 (Int.ofNat p.2.2.length) (k : Int) b = if b = true then some (false, ()) else self4 (r.2, Int.ofNat r.2.length, (i : Int), p.2.2, Int.ofNat p.2.2.length, ((k + 1 : Nat) : Int)) := fun b => by
            show q7v_ _ _ r.2 (Int.ofNat r.2.length) (i : Int) p.2.2 (Int.ofNat p.2.2.length) (k : Int) b = _
            unfold q7v_
            rw [succ64 (by omega)]
          rw [if_pos (by rw [q19_, q4_]; omega), at_get hs, Option.bind_some, name_eq, Option.bind_some, right_eq, Option.bind_some, unit_eq, Option.bind_some]
          simp only [K5]
          unfold setB
          cases nameB s.1 <;> cases rgt s.2.1 <;> cases unitB s.2.2.1 <;> rfl
        · intro self4
          show q4s_ _ _ _ r.2 (Int.ofNat r.2.length) (i : Int) p.2.2 (Int.ofNat p.2.2.length) (p.2.2.length : Int) = _
          unfold q4s_
          rw [if_neg (by rw [q19_, q4_]; omega), succ64 (by omega)]
      have K3 : ∀ b, q67_ (fun t18 t19 t20 => self (t18, t19, t20)) r.2 (Int.ofNat r.2.length) (i : Int) b p = if b = true then some (false, ()) else if p.2.2.all setB = true then self (r.2, Int.ofNat r.2.length, ((i + 1 : Nat) : Int)) else some (false, ()) := fun b => by
        show q7z_ (q4w_ fun t18 t19 t20 => self (t18, t19, t20)) _ r.2 (Int.ofNat r.2.length) (i : Int) b p = _
        unfold q7z_
        rw [K4]
      have e64 : gt (Int.ofNat p.2.2.length) 64 = !decide (p.2.2.length ≤ 64) := gtn (k := 64)
      simp only [K3, e64]
      unfold partB
      cases nameB p.1 <;> cases decide (p.2.2.length ≤ 64) <;> cases p.2.2.all setB <;> rfl
    · intro self
      show q4r_ _ _ r.2 (Int.ofNat r.2.length) (r.2.length : Int) = _
      unfold q4r_
      rw [if_neg (by rw [q19_, q4_]; omega)]
  rw [K2]
  unfold rightB
  cases nameB r.1 <;> cases decide (r.2.length ≤ 8) <;> cases r.2.all partB <;> rfl
end Go.Proofs.Lx
end
